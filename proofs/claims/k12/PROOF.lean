import PyProof.Rows.All
import Wide.All
import OpenK.AllK
import Wide.FinOn
import HandS.ForSpec
import HandS.ForMost
import HandS.Walk
import HandS.TupAny
import HandS.TupMul
import HandS.Deep
import HandS.Lambda
import HandS.HeadHook4
import HandS.IsInst
import HandS.Style
import HandS.SortInts
import PyProof.P3Statements
import PyProof.EqLayable
import PyProof.ListStr
import PyProof.CallStr
import HandS.SetFor
import HandS.More
import HandS.HeadHook3
import HandS.ExcInit
import KE.GoesEnum
import HandS.Head0
import HandS.Head1
import HandS.Head2
import HandS.HeadEnd
import HandS.HeadHook1
import HandS.HeadHook2
import HandS.Defaults
import HandS.ExcIs
import HandS.ExcField
import HandS.ClsMeth
import HandS.HeadWalk
import HandS.Text
import PySem.Challenge.RW_markscript_k12_papers_and_works_written
section
set_option Elab.async false
set_option linter.all false
set_option maxRecDepth 100000
set_option maxHeartbeats 4000000
/-! Values, cells and their relation with the heap. -/
namespace Ms
open PySem L2

/-- data: what cannot change is written out, what can is a cell -/
inductive D where
  | non | bl (b : Bool) | int (i : Int) | str (s : Str) | tup (xs : List D) | fl (xs : List D) | scr (xs : List D) | ref (n : Nat)
  deriving Inhabited

inductive Cell where
  | lst (xs : List D)
  /-- the table of code objects that belongs to the def at p; q: the name that they bear -/
  | tab (p : Str × Option Str) (q : Str)
  /-- a dict, its keys ints and texts, or tuples of them -/
  | dic (kvs : List (Key × D)) | dit (kvs : List (List Key × D))
  /-- an instance of the own class of that name -/
  | ins (C : Str) (fs : List (Str × D))
  | dead

/-- how a run ends -/
inductive Res (α : Type) where
  | ok (a : α) (η : List Cell)
  | exc (c : Nat) (fs : List (Str × D)) (η : List Cell)
  | bad

abbrev M (α : Type) := List Cell → Res α

def Res.bind {α β : Type} (r : Res α) (k : α → M β) : Res β :=
  match r with
  | .ok a η => k a η
  | .exc c fs η => .exc c fs η
  | .bad => .bad
def ret {α : Type} (a : α) : M α := fun η => .ok a η
def bad {α : Type} : M α := fun _ => .bad
def bnd {α β : Type} (m : M α) (k : α → M β) : M β := fun η => (m η).bind k

section
variable (K : PySem.W.Frag) (G : Hp) (ι : List Addr)
mutual
/-- the value in the heap that a datum stands for -/
inductive Rep : V → D → Prop where
  | non : Rep .non .non
  | bl (b : Bool) : Rep (.bl b) (.bl b)
  | int (i : Int) : Rep (.int i) (.int i)
  | str (s : Str) : Rep (.str s) (.str s)
  | tup {a : Addr} {vs : List V} {ds : List D} : G a = some (.tup vs) → Reps vs ds → Rep (.ref a) (.tup ds)
  | fl {a : Addr} {vs : List V} {ds : List D} : G a = some (.lst vs) → Reps vs ds → Rep (.ref a) (.fl ds)
  | scr {a : Addr} {vs : List V} {ds : List D} : SqL K G a vs → Reps vs ds → Rep (.ref a) (.scr ds)
  | ref {n : Nat} {a : Addr} : ι[n]? = some a → Rep (.ref a) (.ref n)
inductive Reps : List V → List D → Prop where
  | nil : Reps [] []
  | cons {v : V} {vs : List V} {d : D} {ds : List D} : Rep v d → Reps vs ds → Reps (v :: vs) (d :: ds)
end
end

/-- more is known -/
structure Ext (G : Hp) (ι : List Addr) (G' : Hp) (ι' : List Addr) : Prop where
  g : Same G G'
  i : ι <+: ι'
theorem Ext.refl (G : Hp) (ι : List Addr) : Ext G ι G ι := ⟨Same.refl G, List.prefix_refl ι⟩
theorem Ext.trans {G G1 G2 : Hp} {ι ι1 ι2 : List Addr} (a : Ext G ι G1 ι1) (b : Ext G1 ι1 G2 ι2) : Ext G ι G2 ι2 := ⟨a.g.trans b.g, a.i.trans b.i⟩

theorem prefix_get {α : Type} {l l' : List α} (h : l <+: l') {n : Nat} {a : α} (e : l[n]? = some a) : l'[n]? = some a := by
  obtain ⟨t, rfl⟩ := h
  obtain ⟨h1, h2⟩ := List.getElem?_eq_some_iff.mp e
  rw [List.getElem?_append_left h1]
  exact e

theorem sqT_same {K : PySem.W.Frag} {G G' : Hp} {a : Addr} {xs : List V} (e : Same G G') (h : SqT K G a xs) : SqT K G' a xs := by
  rcases h with (h | ⟨o, h⟩) | h
  · exact .inl (.inl (e _ _ h))
  · exact .inl (.inr ⟨o, e _ _ h⟩)
  · exact .inr h

section
variable {K : PySem.W.Frag} {G G' : Hp} {ι ι' : List Addr}
mutual
theorem Rep.mono (x : Ext G ι G' ι') : ∀ {v : V} {d : D}, Rep K G ι v d → Rep K G' ι' v d
  | _, _, .non => .non
  | _, _, .bl b => .bl b
  | _, _, .int i => .int i
  | _, _, .str s => .str s
  | _, _, .tup h t => .tup (x.g _ _ h) (Reps.mono x t)
  | _, _, .fl h t => .fl (x.g _ _ h) (Reps.mono x t)
  | _, _, .scr h t => .scr (x.g.seq h) (Reps.mono x t)
  | _, _, .ref e => .ref (prefix_get x.i e)
theorem Reps.mono (x : Ext G ι G' ι') : ∀ {vs : List V} {ds : List D}, Reps K G ι vs ds → Reps K G' ι' vs ds
  | _, _, .nil => .nil
  | _, _, .cons h t => .cons (Rep.mono x h) (Reps.mono x t)
end
theorem Reps.length : ∀ {vs : List V} {ds : List D}, Reps K G ι vs ds → vs.length = ds.length
  | _, _, .nil => rfl
  | _, _, .cons _ t => congrArg (· + 1) (Reps.length t)
theorem Reps.get : ∀ {vs : List V} {ds : List D} {i : Nat} {d : D}, Reps K G ι vs ds → ds[i]? = some d → ∃ v, vs[i]? = some v ∧ Rep K G ι v d
  | _, _, _, _, .nil, e => by simp at e
  | _, _, 0, _, .cons h _, e => by
    simp at e
    subst e
    exact ⟨_, rfl, h⟩
  | _, _, i + 1, d, .cons _ t, e => by
    obtain ⟨v, h1, h2⟩ := Reps.get (i := i) (d := d) t (by simpa using e)
    exact ⟨v, by simpa using h1, h2⟩
theorem Reps.getV : ∀ {vs : List V} {ds : List D} {i : Nat} {v : V}, Reps K G ι vs ds → vs[i]? = some v → ∃ d, ds[i]? = some d ∧ Rep K G ι v d
  | _, _, _, _, .nil, e => by simp at e
  | _, _, 0, _, .cons h _, e => by
    simp at e
    subst e
    exact ⟨_, rfl, h⟩
  | _, _, i + 1, d, .cons _ t, e => by
    obtain ⟨v, h1, h2⟩ := Reps.getV (i := i) (v := d) t (by simpa using e)
    exact ⟨v, by simpa using h1, h2⟩
theorem Reps.append : ∀ {vs ws : List V} {ds es : List D}, Reps K G ι vs ds → Reps K G ι ws es → Reps K G ι (vs ++ ws) (ds ++ es)
  | _, _, _, _, .nil, s => s
  | _, _, _, _, .cons h t, s => .cons h (Reps.append t s)
theorem Reps.take (n : Nat) : ∀ {vs : List V} {ds : List D}, Reps K G ι vs ds → Reps K G ι (vs.take n) (ds.take n) := by
  induction n with
  | zero => intro vs ds _; simp; exact .nil
  | succ n ih =>
    intro vs ds h
    cases h with
    | nil => exact .nil
    | cons h t => exact .cons h (ih t)
theorem Reps.drop (n : Nat) : ∀ {vs : List V} {ds : List D}, Reps K G ι vs ds → Reps K G ι (vs.drop n) (ds.drop n) := by
  induction n with
  | zero => intro vs ds h; exact h
  | succ n ih =>
    intro vs ds h
    cases h with
    | nil => exact .nil
    | cons h t => exact ih t
theorem Reps.set {v : V} {d : D} (r : Rep K G ι v d) : ∀ {vs : List V} {ds : List D} (i : Nat), Reps K G ι vs ds → Reps K G ι (vs.set i v) (ds.set i d)
  | _, _, _, .nil => .nil
  | _, _, 0, .cons _ t => .cons r t
  | _, _, i + 1, .cons q t => .cons q (Reps.set r i t)
theorem Reps.reverse {vs : List V} {ds : List D} (h : Reps K G ι vs ds) : Reps K G ι vs.reverse ds.reverse := by
  induction vs generalizing ds with
  | nil => cases h; exact .nil
  | cons v vs ih =>
    cases h with
    | cons a t =>
      rw [List.reverse_cons, List.reverse_cons]
      exact (ih t).append (.cons a .nil)
end

/-- pairs by their values -/
structure KReps (K : PySem.W.Frag) (G : Hp) (ι : List Addr) {κ : Type} (vs : List (κ × V)) (ds : List (κ × D)) : Prop where
  ks : vs.map (·.1) = ds.map (·.1)
  rs : Reps K G ι (vs.map (·.2)) (ds.map (·.2))
theorem KReps.mono {K : PySem.W.Frag} {G G' : Hp} {ι ι' : List Addr} {κ : Type} {vs : List (κ × V)} {ds : List (κ × D)} (x : Ext G ι G' ι') (h : KReps K G ι vs ds) : KReps K G' ι' vs ds := ⟨h.ks, h.rs.mono x⟩
/-- what a cell is in the heap -/
def CellOk (K : PySem.W.Frag) (G : Hp) (ι : List Addr) (H : Hp) (a : Addr) : Cell → Prop
  | .lst ds => ∃ vs, H a = some (.lst vs) ∧ Reps K G ι vs ds
  | .tab p q => a = (He.cT K p).2 ∧ ∃ ps : Array Value, H a = some (.tbl ps) ∧ TriplesOk ps.toList ∧ ∀ (pos : Pos) (cv : Value), codeAmong pos ps.toList = some cv → ∃ c, cv = .ref c ∧ G c = some (LamX.CodeO c q)
  | .dic kvs => ∃ vs, H a = some (.dK vs) ∧ KReps K G ι vs kvs
  | .dit kvs => ∃ vs, H a = some (.dT vs) ∧ KReps K G ι vs kvs
  | .ins C fs => ∃ dx vs, H a = some (.ins (He.ga K C) dx vs) ∧ KReps K G ι vs fs
  | .dead => G a ≠ none
theorem CellOk.mono {K : PySem.W.Frag} {G G' : Hp} {ι ι' : List Addr} {H H' : Hp} {a : Addr} {c : Cell} (x : Ext G ι G' ι') (e : H' a = H a) (h : CellOk K G ι H a c) : CellOk K G' ι' H' a c := by
  cases c with
  | lst ds =>
    obtain ⟨vs, h1, h2⟩ := h
    exact ⟨vs, e.trans h1, h2.mono x⟩
  | tab p q =>
    obtain ⟨ha, ps, h1, h2, h3⟩ := h
    exact ⟨ha, ps, e.trans h1, h2, fun pos cv z => let ⟨c, z1, z2⟩ := h3 pos cv z; ⟨c, z1, x.g _ _ z2⟩⟩
  | dic kvs =>
    obtain ⟨vs, h1, h2⟩ := h
    exact ⟨vs, e.trans h1, h2.mono x⟩
  | dit kvs =>
    obtain ⟨vs, h1, h2⟩ := h
    exact ⟨vs, e.trans h1, h2.mono x⟩
  | ins C fs =>
    obtain ⟨dx, vs, h1, h2⟩ := h
    exact ⟨dx, vs, e.trans h1, h2.mono x⟩
  | dead =>
    cases q : G a with
    | none => exact absurd q h
    | some o =>
      show G' a ≠ none
      rw [x.g _ _ q]
      exact fun z => nomatch z

/-- the heap holds what is known: G what never changes, ι the places of the cells -/
structure RS (K : PySem.W.Frag) (G H : Hp) (ι : List Addr) (η : List Cell) : Prop where
  sub : Same G H
  len : ι.length = η.length
  nd : ι.Nodup
  out : ∀ (n : Nat) (a : Addr) (c : Cell), ι[n]? = some a → η[n]? = some c → c ≠ Cell.dead → G a = none
  cells : ∀ (n : Nat) (a : Addr) (c : Cell), ι[n]? = some a → η[n]? = some c → CellOk K G ι H a c
  there : ∀ (n : Nat) (a : Addr), ι[n]? = some a → H a ≠ none
  ntb : ∀ (b : Addr) (ps : Array Value), G b ≠ some (.tbl ps)

/-- the slots -/
structure Slots (K : PySem.W.Frag) (G : Hp) (ι : List Addr) (σ : L2.St) (ρ : List (Option D)) : Prop where
  len : σ.length = ρ.length
  at_ : ∀ (i : Nat) (d : D), ρ[i]? = some (some d) → ∃ v, σ[i]? = some (some v) ∧ Rep K G ι v d
theorem Slots.mono {K : PySem.W.Frag} {G G' : Hp} {ι ι' : List Addr} {σ : L2.St} {ρ : List (Option D)} (x : Ext G ι G' ι') (h : Slots K G ι σ ρ) : Slots K G' ι' σ ρ :=
  ⟨h.len, fun i d e => let ⟨v, a, b⟩ := h.at_ i d e; ⟨v, a, b.mono x⟩⟩
theorem Slots.set {K : PySem.W.Frag} {G : Hp} {ι : List Addr} {σ : L2.St} {ρ : List (Option D)} {v : V} {d : D} (h : Slots K G ι σ ρ) (i : Nat) (r : Rep K G ι v d) : Slots K G ι (σ.set i (some v)) (ρ.set i (some d)) := by
  refine ⟨by simp [h.len], fun j e q => ?_⟩
  by_cases hj : i = j
  · subst hj
    by_cases hi : i < ρ.length
    · rw [List.getElem?_set_self hi] at q
      cases q
      exact ⟨v, List.getElem?_set_self (by rw [h.len]; exact hi), r⟩
    · rw [List.getElem?_eq_none (by simpa using hi)] at q
      cases q
  · rw [List.getElem?_set_ne hj] at q ⊢
    exact h.at_ j e q

/-- nothing stands there, or a table -/
def Fr1 (H : Hp) (b : Addr) : Prop := ∀ o, H b = some o → ∃ ps, o = HO.tbl ps
theorem Fr1.none {H : Hp} {b : Addr} (e : H b = none) : Fr1 H b := fun o z => by rw [e] at z; cases z
/-- .. and all that was tracked stands but for the cells (and tables); new cells are new -/
structure Stp (G H : Hp) (ι : List Addr) (G' H' : Hp) (ι' : List Addr) : Prop where
  x : Ext G ι G' ι'
  fr : ∀ (b : Addr) (o : HO), H b = some o → (∀ ps, o ≠ .tbl ps) → b ∉ ι → H' b = some o
  nw : ∀ b : Addr, b ∈ ι' → b ∈ ι ∨ Fr1 H b
  gn : ∀ (b : Addr) (o : HO), G' b = some o → G b = some o ∨ Fr1 H b ∨ b ∈ ι ∨ (H b = some o ∧ ∀ xs, o ≠ .lst xs)
theorem Stp.refl (G H : Hp) (ι : List Addr) : Stp G H ι G H ι := ⟨Ext.refl G ι, fun _ _ e _ _ => e, fun _ h => .inl h, fun _ _ h => .inl h⟩
theorem Stp.trans {G H G1 H1 G2 H2 : Hp} {ι ι1 ι2 : List Addr} (a : Stp G H ι G1 H1 ι1) (b : Stp G1 H1 ι1 G2 H2 ι2) : Stp G H ι G2 H2 ι2 := by
  have gone : ∀ c : Addr, Fr1 H1 c → c ∈ ι ∨ Fr1 H c := fun c h => by
    by_cases hc : c ∈ ι
    · exact .inl hc
    · refine .inr fun o q => ?_
      by_cases ho : ∃ ps, o = HO.tbl ps
      · exact ho
      · exact h o (a.fr c o q (fun ps z => ho ⟨ps, z⟩) hc)
  have out : ∀ (c : Addr) (o : HO), H c = some o → (∀ ps, o ≠ .tbl ps) → c ∉ ι → c ∉ ι1 := fun c o e nt n m => by
    rcases a.nw c m with h | h
    · exact n h
    · obtain ⟨ps, z⟩ := h o e
      exact nt ps z
  refine ⟨a.x.trans b.x, fun c o e nt n => b.fr c o (a.fr c o e nt n) nt (out c o e nt n), fun c m => ?_, fun c o e => ?_⟩
  · rcases b.nw c m with h | h
    · exact a.nw c h
    · exact gone c h
  · have or3 : ∀ {p q r : Prop}, p ∨ q → q ∨ p ∨ r := fun h => h.elim (fun h => .inr (.inl h)) .inl
    rcases b.gn c o e with h | h | h | ⟨h, hl⟩
    · exact a.gn c o h
    · exact .inr (or3 (gone c h))
    · exact .inr (or3 (a.nw c h))
    · by_cases hc : c ∈ ι
      · exact .inr (.inr (.inl hc))
      · by_cases hf : Fr1 H c
        · exact .inr (.inl hf)
        · have : ∃ u, H c = some u ∧ ∀ ps, u ≠ HO.tbl ps := by
            cases q : H c with
            | none => exact absurd (Fr1.none q) hf
            | some u => exact ⟨u, rfl, fun ps z => hf fun o' e' => by rw [q] at e'; cases e'; exact ⟨ps, z⟩⟩
          obtain ⟨u, q, nt⟩ := this
          have q2 := a.fr c u q nt hc
          rw [h] at q2
          cases q2
          exact .inr (.inr (.inr ⟨q, hl⟩))

/-- an exception that leaves: its class at C (of the table cls), its own dict -/
def Post {α : Type} (cls : Nat → Addr) (K : PySem.W.Frag) (G H : Hp) (ι : List Addr) (r : Res α) (Q : α → Hp → List Addr → List Cell → Hp → Prop) (W : Value → Option Addr → Hp → Prop) : Prop :=
  match r with
  | .ok a η' => ∀ G' ι' H', Stp G H ι G' H' ι' → RS K G' H' ι' η' → Q a G' ι' η' H'
  | .exc c fs η' => ∀ G' ι' H' dx fvs, Stp G H ι G' H' ι' → RS K G' H' ι' η' → H' dx = some (.xd fvs) → fvs.map (·.1) = fs.map (·.1) → Reps K G' ι' (fvs.map (·.2)) (fs.map (·.2)) → W (.ref (cls c)) (some dx) H'
  | .bad => False

section
variable {α β : Type} {cls : Nat → Addr} {K : PySem.W.Frag} {G H G1 H1 : Hp} {ι ι1 : List Addr}
theorem Post.ext {r : Res α} {Q : α → Hp → List Addr → List Cell → Hp → Prop} {W : Value → Option Addr → Hp → Prop} (x : Stp G H ι G1 H1 ι1) (h : Post cls K G H ι r Q W) : Post cls K G1 H1 ι1 r Q W := by
  cases r with
  | ok a η => exact fun G' ι' H' y => h G' ι' H' (x.trans y)
  | exc c fs η => exact fun G' ι' H' dx fvs y => h G' ι' H' dx fvs (x.trans y)
  | bad => exact h
theorem Post.imp {r : Res α} {Q Q' : α → Hp → List Addr → List Cell → Hp → Prop} {W W' : Value → Option Addr → Hp → Prop} (h : Post cls K G H ι r Q W) (hq : ∀ a G' ι' η' H', Stp G H ι G' H' ι' → RS K G' H' ι' η' → Q a G' ι' η' H' → Q' a G' ι' η' H')
    (hw : ∀ c d H', W c d H' → W' c d H') : Post cls K G H ι r Q' W' := by
  cases r with
  | ok a η => exact fun G' ι' H' y z => hq a G' ι' η H' y z (h G' ι' H' y z)
  | exc c fs η => exact fun G' ι' H' dx fvs y z a b e => hw _ _ _ (h G' ι' H' dx fvs y z a b e)
  | bad => exact h
theorem Post.bind {m : Res α} {k : α → M β} {Q : β → Hp → List Addr → List Cell → Hp → Prop} {W : Value → Option Addr → Hp → Prop} (h : Post cls K G H ι (m.bind k) Q W) :
    Post cls K G H ι m (fun a G1 ι1 η1 H1 => Post cls K G1 H1 ι1 (k a η1) Q W) W := by
  cases m with
  | ok a η => exact fun G' ι' H' y z => Post.ext (r := k a η) y h
  | exc c fs η => exact h
  | bad => exact h
end

/-! ### the heap's steps -/
section
variable {K : PySem.W.Frag} {G H : Hp} {ι : List Addr} {η : List Cell}
theorem ext_new {p : Addr} {o : HO} (e : G p = none) : Ext G ι (upd G p o) ι := ⟨fun b u q => by rw [upd_ne (ne_of_none q e)]; exact q, List.prefix_refl ι⟩
/-- a new thing that never changes -/
theorem RS.frozen {p : Addr} {o : HO} (h : RS K G H ι η) (e : H p = none) (nt : ∀ ps, o ≠ .tbl ps := by intro ps z; cases z) : RS K (upd G p o) (upd H p o) ι η := by
  have eG : G p = none := h.sub.free e
  have ne : ∀ (n : Nat) (a : Addr), ι[n]? = some a → a ≠ p := fun n a q z => h.there n a q (by rw [z]; exact e)
  refine ⟨fun b u q => ?_, h.len, h.nd, fun n a c q q2 q3 => ?_, fun n a c q1 q2 => ?_, fun n a q => ?_, fun b ps => ?_⟩
  · by_cases hb : b = p
    · subst hb; rw [upd_same] at q ⊢; exact q
    · rw [upd_ne hb] at q ⊢; exact h.sub b u q
  · rw [upd_ne (ne n a q)]; exact h.out n a c q q2 q3
  · exact (h.cells n a c q1 q2).mono (ext_new eG) (by rw [upd_ne (ne n a q1)])
  · rw [upd_ne (ne n a q)]; exact h.there n a q
  · by_cases hb : b = p
    · rw [hb, upd_same]; exact fun z => nt ps (Option.some.inj z)
    · rw [upd_ne hb]; exact h.ntb b ps
theorem snoc_get {α : Type} {l : List α} {p a : α} {n : Nat} (q : (l ++ [p])[n]? = some a) : (l[n]? = some a ∧ n < l.length) ∨ (n = l.length ∧ a = p) := by
  by_cases hn : n < l.length
  · rw [List.getElem?_append_left hn] at q; exact .inl ⟨q, hn⟩
  · rw [List.getElem?_append_right (by omega)] at q
    by_cases h0 : n - l.length = 0
    · rw [h0] at q
      simp at q
      exact .inr ⟨by omega, q.symm⟩
    · rw [List.getElem?_eq_none (by simp; omega)] at q; cases q
/-- a new cell -/
theorem RS.cell {p : Addr} {o : HO} {c : Cell} (h : RS K G H ι η) (e : H p = none) (hc : CellOk K G (ι ++ [p]) (upd H p o) p c) : RS K G (upd H p o) (ι ++ [p]) (η ++ [c]) := by
  have eG : G p = none := h.sub.free e
  have ne : ∀ (n : Nat) (a : Addr), ι[n]? = some a → a ≠ p := fun n a q z => h.there n a q (by rw [z]; exact e)
  refine ⟨fun b u q => ?_, by simp [h.len], ?_, fun n a c' q q2 q3 => ?_, fun n a c' q1 q2 => ?_, fun n a q => ?_, h.ntb⟩
  · rw [upd_ne (ne_of_none (h.sub b u q) e)]; exact h.sub b u q
  · rw [List.nodup_append]
    refine ⟨h.nd, by simp, fun a ha b hb => ?_⟩
    obtain ⟨n, hn, rfl⟩ := List.mem_iff_getElem.mp ha
    simp at hb
    subst hb
    exact ne n _ (List.getElem?_eq_getElem hn)
  · rcases snoc_get q with ⟨q, hn⟩ | ⟨_, rfl⟩
    · rw [List.getElem?_append_left (by rw [← h.len]; exact hn)] at q2
      exact h.out n a c' q q2 q3
    · exact eG
  · rcases snoc_get q1 with ⟨q, hn⟩ | ⟨hn, rfl⟩
    · rw [List.getElem?_append_left (by rw [← h.len]; exact hn)] at q2
      exact (h.cells n a c' q q2).mono ⟨Same.refl G, List.prefix_append ι [p]⟩ (by rw [upd_ne (ne n a q)])
    · rw [hn, h.len, List.getElem?_append_right (Nat.le_refl _)] at q2
      simp at q2
      subst q2
      exact hc
  · rcases snoc_get q with ⟨q, _⟩ | ⟨_, rfl⟩
    · rw [upd_ne (ne n a q)]; exact h.there n a q
    · rw [upd_same]; simp
theorem RS.inj (h : RS K G H ι η) {n m : Nat} {a : Addr} (e : ι[n]? = some a) (q : ι[m]? = some a) : m = n := by
  obtain ⟨h1, e1⟩ := List.getElem?_eq_some_iff.mp e
  obtain ⟨h2, e2⟩ := List.getElem?_eq_some_iff.mp q
  exact (List.getElem_inj h.nd).mp (e2.trans e1.symm)
/-- a cell is written -/
theorem RS.write {n : Nat} {a : Addr} {o : HO} {c c0 : Cell} (h : RS K G H ι η) (e : ι[n]? = some a) (e0 : η[n]? = some c0) (l0 : c0 ≠ Cell.dead) (hc : CellOk K G ι (upd H a o) a c) : RS K G (upd H a o) ι (η.set n c) := by
  have eG : G a = none := h.out n a c0 e e0 l0
  have hm : n < η.length := (List.getElem?_eq_some_iff.mp e0).1
  refine ⟨fun b u q => ?_, by simp [h.len], h.nd, fun m b c' q q2 q3 => ?_, fun m b c' q1 q2 => ?_, fun m b q => ?_, h.ntb⟩
  · rw [upd_ne (ne_of_none q eG)]; exact h.sub b u q
  · by_cases hb : b = a
    · rw [hb]; exact eG
    · have hn : n ≠ m := fun z => hb (by
        rw [z, q] at e
        exact Option.some.inj e)
      rw [List.getElem?_set_ne hn] at q2
      exact h.out m b c' q q2 q3
  · by_cases hb : b = a
    · subst hb
      have := h.inj e q1
      subst this
      rw [List.getElem?_set_self hm] at q2
      cases q2
      exact hc
    · have hn : n ≠ m := fun z => hb (by
        rw [z, q1] at e
        exact Option.some.inj e)
      rw [List.getElem?_set_ne hn] at q2
      exact (h.cells m b c' q1 q2).mono (Ext.refl G ι) (by rw [upd_ne hb])
  · by_cases hb : b = a
    · subst hb; rw [upd_same]; simp
    · rw [upd_ne hb]; exact h.there m b q
/-- a cell is no more: its list never changes from now on -/
theorem RS.freeze {n : Nat} {a : Addr} {c0 : Cell} {o : HO} (h : RS K G H ι η) (e : ι[n]? = some a) (e0 : η[n]? = some c0) (l0 : c0 ≠ Cell.dead) (hl : H a = some o) (nt : ∀ ps, o ≠ .tbl ps := by intro ps z; cases z) :
    Stp G H ι (upd G a o) H ι ∧ RS K (upd G a o) H ι (η.set n .dead) := by
  have eG : G a = none := h.out n a c0 e e0 l0
  refine ⟨⟨ext_new eG, fun _ _ q _ _ => q, fun _ q => .inl q, fun b u q => by
    by_cases hb : b = a
    · rw [hb]; exact .inr (.inr (.inl (by
        obtain ⟨h1, h2⟩ := List.getElem?_eq_some_iff.mp e
        rw [← h2]; exact List.getElem_mem h1)))
    · rw [upd_ne hb] at q; exact .inl q⟩, fun b u q => ?_, by simp [h.len], h.nd, fun m b c' q q2 q3 => ?_, fun m b c' q1 q2 => ?_, h.there, fun b ps => by
    by_cases hb : b = a
    · rw [hb, upd_same]; exact fun z => nt ps (Option.some.inj z)
    · rw [upd_ne hb]; exact h.ntb b ps⟩
  · by_cases hb : b = a
    · rw [hb] at q ⊢; rw [upd_same] at q; rw [hl, q]
    · rw [upd_ne hb] at q; exact h.sub b u q
  · by_cases hn : n = m
    · subst hn
      have hm : n < η.length := (List.getElem?_eq_some_iff.mp e0).1
      rw [List.getElem?_set_self hm] at q2
      cases q2
      exact absurd rfl q3
    · rw [List.getElem?_set_ne hn] at q2
      have hb : b ≠ a := fun z => hn ((h.inj e (by rw [← z]; exact q)).symm)
      rw [upd_ne hb]
      exact h.out m b c' q q2 q3
  · by_cases hn : n = m
    · subst hn
      have hm : n < η.length := (List.getElem?_eq_some_iff.mp e0).1
      rw [List.getElem?_set_self hm] at q2
      cases q2
      rw [e] at q1
      cases q1
      show upd G a o a ≠ none
      rw [upd_same]
      exact fun z => nomatch z
    · rw [List.getElem?_set_ne hn] at q2
      exact (h.cells m b c' q1 q2).mono (ext_new eG) rfl
theorem RS.stpNew {p : Addr} {o : HO} (h : RS K G H ι η) (e : H p = none) : Stp G H ι (upd G p o) (upd H p o) ι :=
  ⟨ext_new (h.sub.free e), fun b u q _ _ => by rw [upd_ne (ne_of_none q e)]; exact q, fun _ q => .inl q, fun b u q => by
    by_cases hb : b = p
    · rw [hb]; exact .inr (.inl (Fr1.none e))
    · rw [upd_ne hb] at q; exact .inl q⟩
theorem RS.stpCell {p : Addr} {o : HO} (e : H p = none) : Stp G H ι G (upd H p o) (ι ++ [p]) :=
  ⟨⟨Same.refl G, List.prefix_append ι [p]⟩, fun b u q _ _ => by rw [upd_ne (ne_of_none q e)]; exact q, fun b q => (List.mem_append.mp q).imp id fun z => by simp at z; rw [z]; exact Fr1.none e, fun _ _ q => .inl q⟩
theorem RS.stpWrite {n : Nat} {a : Addr} {o : HO} (e : ι[n]? = some a) : Stp G H ι G (upd H a o) ι :=
  ⟨Ext.refl G ι, fun b u q _ m => by
    rw [upd_ne]
    · exact q
    · intro z
      obtain ⟨h1, h2⟩ := List.getElem?_eq_some_iff.mp e
      exact m (by rw [z, ← h2]; exact List.getElem_mem h1), fun _ q => .inl q, fun _ _ q => .inl q⟩
end
end Ms
end
section
set_option Elab.async false
set_option linter.all false
set_option maxRecDepth 100000
set_option maxHeartbeats 4000000
/-! What operators and built-ins do with data, and that the heap does likewise. -/
namespace Ms
open PySem L2

def LIM : Nat := 1000000
theorem lim_line : LIM ≤ sizeLine := by rw [sizeLine_eq]; decide

/-- the value post -/
def PV (cls : Nat → Addr) (K : PySem.W.Frag) (G H : Hp) (ι : List Addr) (r : Res D) (Q : VK) (W : Value → Option Addr → Hp → Prop) : Prop :=
  Post cls K G H ι r (fun d G' ι' _ H' => ∀ v, Rep K G' ι' v d → Q v H') W
abbrev NoW : Value → Option Addr → Hp → Prop := fun _ _ _ => False

section
variable {cls : Nat → Addr} {K : PySem.W.Frag} {G H : Hp} {ι : List Addr} {η : List Cell} {Q : VK} {W : Value → Option Addr → Hp → Prop}
theorem PV.now {d : D} {v : V} (h : PV cls K G H ι (.ok d η) Q W) (s : RS K G H ι η) (r : Rep K G ι v d) : Q v H := h G ι H (Stp.refl G H ι) s v r
theorem sqT_upd {p : Addr} {vs : List V} : SqT K (upd G p (.tup vs)) p vs := .inl (.inl upd_same)
theorem PV.tup {ds : List D} {vs : List V} (h : PV cls K G H ι (.ok (.tup ds) η) Q W) (s : RS K G H ι η) (r : Reps K G ι vs ds) : ∀ p, H p = none → Q (.ref p) (upd H p (.tup vs)) := fun p e =>
  h _ ι _ (s.stpNew e) (s.frozen e) _ (.tup upd_same (r.mono (ext_new (s.sub.free e))))
theorem PV.fl {ds : List D} {vs : List V} (h : PV cls K G H ι (.ok (.fl ds) η) Q W) (s : RS K G H ι η) (r : Reps K G ι vs ds) : ∀ p, H p = none → Q (.ref p) (upd H p (.lst vs)) := fun p e =>
  h _ ι _ (s.stpNew e) (s.frozen e) _ (.fl upd_same (r.mono (ext_new (s.sub.free e))))
theorem PV.new {ds : List D} {vs : List V} (h : PV cls K G H ι (.ok (.ref η.length) (η ++ [.lst ds])) Q W) (s : RS K G H ι η) (r : Reps K G ι vs ds) : ∀ p, H p = none → Q (.ref p) (upd H p (.lst vs)) := fun p e => by
  have x : Ext G ι G (ι ++ [p]) := ⟨Same.refl G, List.prefix_append ι [p]⟩
  refine h G (ι ++ [p]) _ (RS.stpCell e) (s.cell e ⟨vs, upd_same, r.mono x⟩) _ (.ref ?_)
  rw [← s.len, List.getElem?_append_right (Nat.le_refl _)]
  simp
theorem PV.bad (h : PV cls K G H ι .bad Q W) : False := h
end

/-! ### looking at lists -/
def asL (η : List Cell) : D → Option (List D)
  | .fl xs => some xs
  | .ref n => match η[n]? with
    | some (.lst xs) => some xs
    | _ => none
  | _ => none
/-- lists, tuples, the script -/
def asQ (η : List Cell) : D → Option (List D)
  | .tup xs => some xs
  | .scr xs => some xs
  | d => asL η d
section
variable {K : PySem.W.Frag} {G H : Hp} {ι : List Addr} {η : List Cell}
theorem asL_ok {d : D} {v : V} {ds : List D} (s : RS K G H ι η) (r : Rep K G ι v d) (e : asL η d = some ds) : ∃ a vs, v = .ref a ∧ H a = some (.lst vs) ∧ Reps K G ι vs ds := by
  cases r with
  | fl h t =>
    cases e
    exact ⟨_, _, rfl, s.sub _ _ h, t⟩
  | @ref n a h =>
    unfold asL at e
    simp only at e
    split at e
    · rename_i xs hc
      cases e
      obtain ⟨vs, h1, h2⟩ := s.cells n a _ h hc
      exact ⟨a, vs, rfl, h1, h2⟩
    · cases e
  | _ => cases e
theorem asQ_ok {d : D} {v : V} {ds : List D} (s : RS K G H ι η) (r : Rep K G ι v d) (e : asQ η d = some ds) : ∃ a vs, v = .ref a ∧ (SqL K H a vs ∨ SqT K H a vs) ∧ Reps K G ι vs ds := by
  cases r with
  | tup h t =>
    cases e
    exact ⟨_, _, rfl, .inr (SqT.of (s.sub _ _ h)), t⟩
  | scr h t =>
    cases e
    exact ⟨_, _, rfl, .inl (s.sub.seq h), t⟩
  | @fl a vs ds h t =>
    cases e
    exact ⟨_, _, rfl, .inl (SqL.of (s.sub _ _ h)), t⟩
  | @ref n a h =>
    obtain ⟨b, vs, h1, h2, h3⟩ := asL_ok s (.ref h) (show asL η (.ref n) = some ds from e)
    exact ⟨b, vs, h1, .inl (SqL.of h2), h3⟩
  | _ => cases e
end

/-! ### data as the library's data -/
mutual
def toP : D → Option PyData
  | .non => some .none
  | .bl b => some (.bool b)
  | .int i => some (.int i)
  | .str s => some (.str s)
  | .tup xs => (toPs xs).map .tuple
  | .fl xs => (toPs xs).map .list
  | .scr _ => none
  | .ref _ => none
def toPs : List D → Option (List PyData)
  | [] => some []
  | d :: ds => match toP d, toPs ds with
    | some p, some ps => some (p :: ps)
    | _, _ => none
end
def derP (η : List Cell) : D → Option PyData
  | .ref n => match η[n]? with
    | some (.lst xs) => (toPs xs).map .list
    | _ => none
  | d => toP d
section
variable {K : PySem.W.Frag} {G H : Hp} {ι : List Addr} {η : List Cell}
mutual
theorem toP_ok (s : Same G H) : ∀ {v : V} {d : D} {p : PyData}, Rep K G ι v d → toP d = some p → Dp K H v p
  | _, _, _, .non, e => by cases e; exact .non
  | _, _, _, .bl b, e => by cases e; exact .bl b
  | _, _, _, .int b, e => by cases e; exact .int b
  | _, _, _, .str b, e => by cases e; exact .str b
  | _, _, _, .tup (ds := ds) h t, e => by
    cases q : toPs ds with
    | none => simp [toP, q] at e
    | some ps =>
      simp [toP, q] at e
      subst e
      exact .tup (SqT.of (s _ _ h)) (toPs_ok s t q)
  | _, _, _, .fl (ds := ds) h t, e => by
    cases q : toPs ds with
    | none => simp [toP, q] at e
    | some ps =>
      simp [toP, q] at e
      subst e
      exact .lst (SqL.of (s _ _ h)) (toPs_ok s t q)
  | _, _, _, .scr h t, e => by simp [toP] at e
  | _, _, _, .ref h, e => by simp [toP] at e
theorem toPs_ok (s : Same G H) : ∀ {vs : List V} {ds : List D} {ps : List PyData}, Reps K G ι vs ds → toPs ds = some ps → DpAll K H vs ps
  | _, _, _, .nil, e => by simp [toPs] at e; subst e; exact .nil
  | _, _, _, .cons (d := d) (ds := ds) h t, e => by
    cases q1 : toP d with
    | none => simp [toPs, q1] at e
    | some p =>
      cases q2 : toPs ds with
      | none => simp [toPs, q1, q2] at e
      | some ps =>
        simp [toPs, q1, q2] at e
        subst e
        exact .cons (toP_ok s h q1) (toPs_ok s t q2)
end
theorem derP_ok {d : D} {v : V} {p : PyData} (s : RS K G H ι η) (r : Rep K G ι v d) (e : derP η d = some p) : Dp K H v p := by
  have r0 := r
  cases r with
  | @ref n a h =>
    unfold derP at e
    simp only at e
    split at e
    · rename_i xs hc
      obtain ⟨vs, h1, h2⟩ := s.cells n a _ h hc
      cases q : toPs xs with
      | none => simp [q] at e
      | some ps =>
        simp [q] at e
        subst e
        exact .lst (SqL.of h1) (toPs_ok s.sub h2 q)
    · cases e
  | _ => exact toP_ok s.sub r0 e
end

/-! ### operators -/
section
variable (cls : Nat → Addr) (K : PySem.W.Frag)
/-- a reading of two values by data -/
def rD2 (f : D → D → M D) : R2 := fun x y H Q => ∃ W0 G ι η d e, RS K G H ι η ∧ Rep K G ι x d ∧ Rep K G ι y e ∧ PV cls K G H ι (f d e η) Q W0
def rD1 (f : D → M D) : V → Hp → VK → Prop := fun x H Q => ∃ W0 G ι η d, RS K G H ι η ∧ Rep K G ι x d ∧ PV cls K G H ι (f d η) Q W0
/-- .. of a list of values -/
def rDN (f : List D → M D) : List V → Hp → VK → Prop := fun xs H Q => ∃ W0 G ι η ds, RS K G H ι η ∧ Reps K G ι xs ds ∧ PV cls K G H ι (f ds η) Q W0
/-- .. of a receiver and a list -/
def rDM (f : D → List D → M D) : V → List V → Hp → VK → Prop := fun x xs H Q => ∃ W0 G ι η d ds, RS K G H ι η ∧ Rep K G ι x d ∧ Reps K G ι xs ds ∧ PV cls K G H ι (f d ds η) Q W0
end
section
variable {cls : Nat → Addr} {X : Cx}

def addD : D → D → M D
  | .int i, .int j => ret (.int (i + j))
  | .str s, .str t => if s.length + t.length ≤ LIM then ret (.str (s ++ t)) else bad
  | .tup xs, .tup ys => if xs.length + ys.length ≤ LIM then ret (.tup (xs ++ ys)) else bad
  | x, y => fun η => match asL η x, asL η y with
    | some xs, some ys => if xs.length + ys.length ≤ LIM then .ok (.fl (xs ++ ys)) η else .bad
    | _, _ => .bad
theorem lists_add {K : PySem.W.Frag} {x y : V} {d e : D} {G H : Hp} {ι : List Addr} {η : List Cell} {Q : VK} {W0 : Value → Option Addr → Hp → Prop} {v u : Value} {pins : List (Addr × Obj)} {s : Shared} {σ : L2.St} (I : Inv X pins σ H s) (rv : RelV x v) (ru : RelV y u) (S : RS X.K G H ι η) (r1 : Rep X.K G ι x d) (r2 : Rep X.K G ι y e)
    (h : PV cls X.K G H ι (match asL η d, asL η e with
      | some xs, some ys => if xs.length + ys.length ≤ LIM then .ok (.fl (xs ++ ys)) η else .bad
      | _, _ => .bad) Q W0) : wpAny (model X.prog X.w) X.A (binaryOp .Add v u) (EP X pins σ Q) X.xe s := by
  cases q1 : asL η d with
  | none => rw [q1] at h; exact h.bad.elim
  | some xs =>
    cases q2 : asL η e with
    | none => rw [q1, q2] at h; exact h.bad.elim
    | some ys =>
      rw [q1, q2] at h
      simp only at h
      by_cases hl : xs.length + ys.length ≤ LIM
      · rw [if_pos hl] at h
        obtain ⟨a, vs, rfl, h1, h2⟩ := asL_ok S r1 q1
        obtain ⟨b, ws, rfl, h3, h4⟩ := asL_ok S r2 q2
        exact op_cat pins s σ H _ _ v u Q I rv ru ⟨a, b, vs, ws, rfl, rfl, h1, h3, by rw [h2.length, h4.length]; exact Nat.le_trans hl lim_line, h.fl S (h2.append h4)⟩
      · rw [if_neg hl] at h; exact h.bad.elim
theorem op_addD : OpR X (binaryOp .Add) (rD2 cls X.K addD) := by
  intro pins s σ H x y v u Q I rv ru h
  obtain ⟨W0, G, ι, η, d, e, S, r1, r2, h⟩ := h
  unfold addD at h
  split at h
  · cases r1; cases r2
    exact op_add pins s σ H _ _ v u Q I rv ru ⟨_, _, rfl, rfl, h.now S (.int _)⟩
  · cases r1; cases r2
    split at h
    · rename_i hl
      exact op_add_str pins s σ H _ _ v u Q I rv ru ⟨_, _, rfl, rfl, Nat.le_trans hl lim_line, h.now S (.str _)⟩
    · exact h.bad.elim
  · split at h
    · rename_i hl
      cases r1 with
      | @tup a vs ds h1 t1 =>
      cases r2 with
      | @tup b ws es h2 t2 =>
      refine op_catA pins s σ H _ _ v u Q I rv ru ⟨a, b, vs, ws, rfl, rfl, SqT.of (S.sub _ _ h1), SqT.of (S.sub _ _ h2), by rw [t1.length, t2.length]; exact Nat.le_trans hl lim_line, fun z => ?_, fun _ z => ?_, fun _ _ => h.tup S (t1.append t2)⟩
      · subst z
        cases t1
        exact h.now S (.tup h2 t2)
      · subst z
        cases t2
        refine h.now S ?_
        rw [List.append_nil]
        exact .tup h1 t1
    · exact h.bad.elim
  · exact lists_add (K := X.K) I rv ru S r1 r2 h

def subD : D → D → M D
  | .int i, .int j => ret (.int (i - j))
  | _, _ => bad
theorem op_subD : OpR X (binaryOp .Sub) (rD2 cls X.K subD) := by
  intro pins s σ H x y v u Q I rv ru h
  obtain ⟨W0, G, ι, η, d, e, S, r1, r2, h⟩ := h
  unfold subD at h
  split at h
  · cases r1; cases r2
    exact op_sub pins s σ H _ _ v u Q I rv ru ⟨_, _, rfl, rfl, h.now S (.int _)⟩
  · exact h.bad.elim

def smallI (i : Int) : Bool := decide (-(2 ^ 64) < i) && decide (i < 2 ^ 64)
def repD (k : Int) (xs : List D) : List D := (List.replicate k.toNat xs).flatten
def mulD : D → D → M D
  | .int i, .int j => if smallI i || smallI j then ret (.int (i * j)) else bad
  | .tup xs, .int k => if xs ≠ [] ∧ 2 ≤ k ∧ k ≤ 1000 ∧ xs.length ≤ 1000 then ret (.tup (repD k xs)) else bad
  | x, .int k => fun η => match asL η x with
    | some xs => if -1000 ≤ k ∧ k ≤ 1000 ∧ xs.length ≤ 1000 then .ok (.fl (repD k xs)) η else .bad
    | none => .bad
  | _, _ => bad
theorem reps_rep {K : PySem.W.Frag} {G : Hp} {ι : List Addr} {vs : List V} {ds : List D} (h : Reps K G ι vs ds) : ∀ n : Nat, Reps K G ι (List.replicate n vs).flatten (List.replicate n ds).flatten
  | 0 => .nil
  | n + 1 => by
    rw [List.replicate_succ, List.replicate_succ, List.flatten_cons, List.flatten_cons]
    exact h.append (reps_rep h n)
theorem op_mulD : OpR X (binaryOp .Mult) (rD2 cls X.K mulD) := by
  intro pins s σ H x y v u Q I rv ru h
  obtain ⟨W0, G, ι, η, d, e, S, r1, r2, h⟩ := h
  unfold mulD at h
  split at h
  · cases r1; cases r2
    split at h
    · rename_i hs
      refine op_mul pins s σ H _ _ v u Q I rv ru ⟨_, _, rfl, rfl, ?_, h.now S (.int _)⟩
      simp only [smallI, Bool.or_eq_true, Bool.and_eq_true, decide_eq_true_eq] at hs
      exact hs
    · exact h.bad.elim
  · cases r2
    split at h
    · rename_i hc
      obtain ⟨h1, h2, h3, h4⟩ := hc
      cases r1 with
      | @tup a vs ds q1 t1 =>
      exact op_repT pins s σ H _ _ v u Q I rv ru ⟨a, _, vs, rfl, rfl, SqT.of (S.sub _ _ q1), fun z => h1 (by subst z; cases t1; rfl), h2, h3, by rw [t1.length]; exact h4, h.tup S (reps_rep t1 _)⟩
    · exact h.bad.elim
  · rename_i k _ _
    cases r2
    simp -failIfUnchanged only [] at h
    split at h
    · rename_i xs hx
      split at h
      · rename_i hc
        obtain ⟨h1, h2, h3⟩ := hc
        obtain ⟨a, vs, rfl, q1, q2⟩ := asL_ok S r1 hx
        refine op_rep pins s σ H _ _ v u Q I rv ru ⟨a, _, vs, rfl, rfl, q1, by omega, by omega, ?_, ?_⟩
        · rw [q2.length, sizeLine_eq]
          calc xs.length * k.toNat ≤ 1000 * 1000 := Nat.mul_le_mul h3 (by omega)
            _ ≤ _ := by decide
        · exact h.fl S (reps_rep q2 _)
      · exact h.bad.elim
    · exact h.bad.elim
  · exact h.bad.elim

def fdivD : D → D → M D
  | .int i, .int j => if 0 < j ∧ j < 1073741824 then ret (.int (i / j)) else bad
  | _, _ => bad
theorem op_fdivD : OpR X (binaryOp .FloorDiv) (rD2 cls X.K fdivD) := by
  intro pins s σ H x y v u Q I rv ru h
  obtain ⟨W0, G, ι, η, d, e, S, r1, r2, h⟩ := h
  unfold fdivD at h
  split at h
  · cases r1; cases r2
    split at h
    · rename_i hc
      exact op_fdiv pins s σ H _ _ v u Q I rv ru ⟨_, _, rfl, rfl, hc, h.now S (.int _)⟩
    · exact h.bad.elim
  · exact h.bad.elim
def modD : D → D → M D
  | .int i, .int j => if 0 < j then ret (.int (i % j)) else bad
  | _, _ => bad
theorem op_modD : OpR X (binaryOp .Mod) (rD2 cls X.K modD) := by
  intro pins s σ H x y v u Q I rv ru h
  obtain ⟨W0, G, ι, η, d, e, S, r1, r2, h⟩ := h
  unfold modD at h
  split at h
  · cases r1; cases r2
    split at h
    · rename_i hc
      exact op_mod pins s σ H _ _ v u Q I rv ru ⟨_, _, rfl, rfl, hc, h.now S (.int _)⟩
    · exact h.bad.elim
  · exact h.bad.elim

/-! ### comparisons -/
def eqD (x y : D) : M D := fun η => match derP η x, derP η y with
  | some p, some q => if SeqAt.shaped p = true ∧ SeqAt.shaped q = true then .ok (.bl (PyData.eqv p q)) η else .bad
  | _, _ => .bad
def neD (x y : D) : M D := fun η => match derP η x, derP η y with
  | some p, some q => if SeqAt.shaped p = true ∧ SeqAt.shaped q = true then .ok (.bl (!PyData.eqv p q)) η else .bad
  | _, _ => .bad
theorem op_eqD' (hu : X.A.units + 64 < cLine) : OpR X (compareOp .Eq) (rD2 cls X.K eqD) := by
  intro pins s σ H x y v u Q I rv ru h
  obtain ⟨W0, G, ι, η, d, e, S, r1, r2, h⟩ := h
  unfold eqD at h
  split at h
  · rename_i p q hp hq
    split at h
    · rename_i hc
      exact op_eqD hu pins s σ H _ _ v u Q I rv ru ⟨p, q, derP_ok S r1 hp, derP_ok S r2 hq, hc.1, hc.2, h.now S (.bl _)⟩
    · exact h.bad.elim
  · exact h.bad.elim
theorem op_neD' (hu : X.A.units + 64 < cLine) : OpR X (compareOp .NotEq) (rD2 cls X.K neD) := by
  intro pins s σ H x y v u Q I rv ru h
  obtain ⟨W0, G, ι, η, d, e, S, r1, r2, h⟩ := h
  unfold neD at h
  split at h
  · rename_i p q hp hq
    split at h
    · rename_i hc
      exact op_neD hu pins s σ H _ _ v u Q I rv ru ⟨p, q, derP_ok S r1 hp, derP_ok S r2 hq, hc.1, hc.2, h.now S (.bl _)⟩
    · exact h.bad.elim
  · exact h.bad.elim
def ltD : D → D → M D
  | .int i, .int j => ret (.bl (decide (i < j)))
  | _, _ => bad
def leD : D → D → M D
  | .int i, .int j => ret (.bl (decide (i ≤ j)))
  | _, _ => bad
def gtD : D → D → M D
  | .int i, .int j => ret (.bl (decide (j < i)))
  | _, _ => bad
def geD : D → D → M D
  | .int i, .int j => ret (.bl (decide (j ≤ i)))
  | _, _ => bad
theorem op_ltD : OpR X (compareOp .Lt) (rD2 cls X.K ltD) := by
  intro pins s σ H x y v u Q I rv ru h
  obtain ⟨W0, G, ι, η, d, e, S, r1, r2, h⟩ := h
  unfold ltD at h
  split at h
  · cases r1; cases r2
    exact op_lt pins s σ H _ _ v u Q I rv ru ⟨_, _, rfl, rfl, h.now S (.bl _)⟩
  · exact h.bad.elim
theorem op_leD : OpR X (compareOp .LtE) (rD2 cls X.K leD) := by
  intro pins s σ H x y v u Q I rv ru h
  obtain ⟨W0, G, ι, η, d, e, S, r1, r2, h⟩ := h
  unfold leD at h
  split at h
  · cases r1; cases r2
    exact op_le pins s σ H _ _ v u Q I rv ru ⟨_, _, rfl, rfl, h.now S (.bl _)⟩
  · exact h.bad.elim
theorem op_gtD : OpR X (compareOp .Gt) (rD2 cls X.K gtD) := by
  intro pins s σ H x y v u Q I rv ru h
  obtain ⟨W0, G, ι, η, d, e, S, r1, r2, h⟩ := h
  unfold gtD at h
  split at h
  · cases r1; cases r2
    exact op_gt pins s σ H _ _ v u Q I rv ru ⟨_, _, rfl, rfl, h.now S (.bl _)⟩
  · exact h.bad.elim
theorem op_geD : OpR X (compareOp .GtE) (rD2 cls X.K geD) := by
  intro pins s σ H x y v u Q I rv ru h
  obtain ⟨W0, G, ι, η, d, e, S, r1, r2, h⟩ := h
  unfold geD at h
  split at h
  · cases r1; cases r2
    exact op_ge pins s σ H _ _ v u Q I rv ru ⟨_, _, rfl, rfl, h.now S (.bl _)⟩
  · exact h.bad.elim
def isNone : D → Bool
  | .non => true
  | _ => false
def isND : D → D → M D
  | x, .non => ret (.bl (isNone x))
  | _, _ => bad
def notND : D → D → M D
  | x, .non => ret (.bl (!isNone x))
  | _, _ => bad
theorem rep_none {K : PySem.W.Frag} {G : Hp} {ι : List Addr} {v : V} {d : D} (r : Rep K G ι v d) : decide (v = .non) = isNone d := by
  cases r <;> first | rfl | exact decide_eq_false (fun z => by cases z)
theorem op_isND : OpR X (compareOp .Is) (rD2 cls X.K isND) := by
  intro pins s σ H x y v u Q I rv ru h
  obtain ⟨W0, G, ι, η, d, e, S, r1, r2, h⟩ := h
  unfold isND at h
  split at h
  · cases r2
    refine op_isN pins s σ H _ _ v u Q I rv ru ⟨rfl, ?_⟩
    rw [rep_none r1]
    exact h.now S (.bl _)
  · exact h.bad.elim
theorem op_notND : OpR X (compareOp .IsNot) (rD2 cls X.K notND) := by
  intro pins s σ H x y v u Q I rv ru h
  obtain ⟨W0, G, ι, η, d, e, S, r1, r2, h⟩ := h
  unfold notND at h
  split at h
  · cases r2
    refine op_notN pins s σ H _ _ v u Q I rv ru ⟨rfl, ?_⟩
    rw [rep_none r1]
    exact h.now S (.bl _)
  · exact h.bad.elim
/-! in -/
def flatD : D → Bool
  | .non => true
  | .bl _ => true
  | .int _ => true
  | .str _ => true
  | _ => false
def vOf : D → V
  | .bl b => .bl b
  | .int i => .int i
  | .str s => .str s
  | _ => .non
theorem vOf_ok {K : PySem.W.Frag} {G : Hp} {ι : List Addr} {v : V} {d : D} (r : Rep K G ι v d) (f : flatD d = true) : v = vOf d ∧ flatV v = true := by
  cases r <;> first | exact ⟨rfl, rfl⟩ | cases f
theorem vOfs_ok {K : PySem.W.Frag} {G : Hp} {ι : List Addr} : ∀ {vs : List V} {ds : List D}, Reps K G ι vs ds → ds.all flatD = true → vs = ds.map vOf ∧ vs.all flatV = true
  | _, _, .nil, _ => ⟨rfl, rfl⟩
  | _, _, .cons h t, f => by
    simp only [List.all_cons, Bool.and_eq_true] at f
    obtain ⟨e1, e2⟩ := vOf_ok h f.1
    obtain ⟨e3, e4⟩ := vOfs_ok t f.2
    exact ⟨by rw [e3, List.map_cons, ← e1], by simp only [List.all_cons, Bool.and_eq_true]; exact ⟨e2, e4⟩⟩
/-- x among these -/
def inFlat (x : D) (ys : List D) : Bool := (ys.map vOf).any fun y => eqV y (vOf x)
def inStr (x z : Str) : Bool := !(Builtin.Str.occurrences z x 0 z.length 1).isEmpty
def inD (neg : Bool) : D → D → M D
  | .str x, .str z => ret (.bl (if neg then !inStr x z else inStr x z))
  | x, y => fun η => match asQ η y with
    | some ys => if flatD x = true ∧ ys.all flatD = true then .ok (.bl (if neg then !inFlat x ys else inFlat x ys)) η
      else match toP x, derP η y with
        | some p, some (.list ps) => if SeqAt.shaped p = true ∧ SeqAt.shaped (.list ps) = true then .ok (.bl (if neg then !(ps.any fun z => PyData.eqv z p) else ps.any fun z => PyData.eqv z p)) η else .bad
        | _, _ => .bad
    | none => .bad
theorem op_inD' (hu : X.A.units + 65 < cLine) : OpR X (compareOp .In) (rD2 cls X.K (inD false)) := by
  intro pins s σ H x y v u Q I rv ru h
  obtain ⟨W0, G, ι, η, d, e, S, r1, r2, h⟩ := h
  unfold inD at h
  split at h
  · cases r1; cases r2
    exact op_in_str pins s σ H _ _ v u Q I rv ru ⟨_, _, rfl, rfl, h.now S (.bl _)⟩
  · simp -failIfUnchanged only [] at h
    split at h
    · rename_i ys hy
      obtain ⟨a, vs, rfl, q1, q2⟩ := asQ_ok S r2 hy
      split at h
      · rename_i hc
        obtain ⟨e1, f1⟩ := vOf_ok r1 hc.1
        obtain ⟨e2, f2⟩ := vOfs_ok q2 hc.2
        refine op_in_seq pins s σ H _ _ v u Q I rv ru ⟨a, vs, rfl, q1, f1, f2, ?_⟩
        rw [e2, e1]
        exact h.now S (.bl _)
      · split at h
        · rename_i p ps hp hps
          split at h
          · rename_i hc2
            exact op_inD hu pins s σ H _ _ v u Q I rv ru ⟨p, ps, toP_ok S.sub r1 hp, derP_ok S r2 hps, hc2.1, hc2.2, h.now S (.bl _)⟩
          · exact h.bad.elim
        · exact h.bad.elim
    · exact h.bad.elim
theorem op_notInD' (hu : X.A.units + 65 < cLine) : OpR X (compareOp .NotIn) (rD2 cls X.K (inD true)) := by
  intro pins s σ H x y v u Q I rv ru h
  obtain ⟨W0, G, ι, η, d, e, S, r1, r2, h⟩ := h
  unfold inD at h
  split at h
  · cases r1; cases r2
    exact op_notin_str pins s σ H _ _ v u Q I rv ru ⟨_, _, rfl, rfl, h.now S (.bl _)⟩
  · simp -failIfUnchanged only [] at h
    split at h
    · rename_i ys hy
      obtain ⟨a, vs, rfl, q1, q2⟩ := asQ_ok S r2 hy
      split at h
      · rename_i hc
        obtain ⟨e1, f1⟩ := vOf_ok r1 hc.1
        obtain ⟨e2, f2⟩ := vOfs_ok q2 hc.2
        refine op_notIn_seq pins s σ H _ _ v u Q I rv ru ⟨a, vs, rfl, q1, f1, f2, ?_⟩
        rw [e2, e1]
        exact h.now S (.bl _)
      · split at h
        · rename_i p ps hp hps
          split at h
          · rename_i hc2
            exact op_notInD hu pins s σ H _ _ v u Q I rv ru ⟨p, ps, toP_ok S.sub r1 hp, derP_ok S r2 hps, hc2.1, hc2.2, h.now S (.bl _)⟩
          · exact h.bad.elim
        · exact h.bad.elim
    · exact h.bad.elim
end
end Ms
end
section
set_option Elab.async false
set_option linter.all false
set_option maxRecDepth 100000
set_option maxHeartbeats 4000000
/-! Subscripts, slices, built-ins, methods. -/
namespace Ms
open PySem L2

section
variable {cls : Nat → Addr} {X : Cx}

/-! ### subscripts -/
/-- what may be missing -/
def fromO (o : Option D) : M D := fun η => match o with
  | some d => .ok d η
  | none => .bad
theorem PV.fromO {K : PySem.W.Frag} {G H : Hp} {ι : List Addr} {η : List Cell} {o : Option D} {Q : VK} {W : Value → Option Addr → Hp → Prop} (h : PV cls K G H ι (fromO o η) Q W) : ∃ d, o = some d ∧ PV cls K G H ι (.ok d η) Q W := by
  cases o with
  | none => exact h.bad.elim
  | some d => exact ⟨d, rfl, h⟩
def idxD : D → D → M D
  | .str z, .int i => if z.length ≤ LIM then fromO ((atI z.cps.toList i).map fun c => .str ⟨#[c]⟩) else bad
  | .tup xs, .int i => fromO (atI xs i)
  | x, .int i => fun η => fromO ((asL η x).bind fun xs => atI xs i) η
  | _, _ => bad
theorem atI_rep {K : PySem.W.Frag} {G : Hp} {ι : List Addr} {vs : List V} {ds : List D} {i : Int} {d : D} (r : Reps K G ι vs ds) (e : atI ds i = some d) : ∃ v, atI vs i = some v ∧ Rep K G ι v d := by
  unfold atI at e ⊢
  rw [r.length]
  cases q : ixN ds.length i with
  | none => rw [q] at e; cases e
  | some j =>
    rw [q] at e
    exact r.get (i := j) e
theorem ix_D : IxR X (rD2 cls X.K idxD) := by
  intro value slice pins s σ H x y v u Q I rx ry h hs
  obtain ⟨W0, G, ι, η, d, e, S, r1, r2, h⟩ := h
  unfold idxD at h
  split at h
  · cases r1; cases r2
    split at h
    · rename_i z i hl
      obtain ⟨d', e1, h⟩ := h.fromO
      cases q : atI z.cps.toList i with
      | none => rw [q] at e1; cases e1
      | some c =>
        rw [q] at e1
        cases e1
        exact ix_str value slice pins s σ H _ _ v u Q I rx ry ⟨_, _, c, rfl, rfl, Nat.le_trans hl lim_line, q, h.now S (.str _)⟩ hs
    · exact h.bad.elim
  · cases r2
    obtain ⟨d', hd, h⟩ := h.fromO
    cases r1 with
    | @tup a vs ds h1 t1 =>
    obtain ⟨w, e1, rw1⟩ := atI_rep t1 hd
    exact ix_tup value slice pins s σ H _ _ v u Q I rx ry ⟨a, vs, _, w, rfl, rfl, SqT.of (S.sub _ _ h1), e1, h.now S rw1⟩ hs
  · cases r2
    obtain ⟨d', hd, h⟩ := h.fromO
    cases hx : asL η d with
    | none => rw [hx] at hd; cases hd
    | some xs =>
      rw [hx] at hd
      obtain ⟨a, vs, rfl, h1, h2⟩ := asL_ok S r1 hx
      obtain ⟨w, e1, rw1⟩ := atI_rep h2 (show atI xs _ = some d' from hd)
      exact ix_list value slice pins s σ H _ _ v u Q I rx ry ⟨a, vs, _, w, rfl, rfl, SqL.of h1, e1, h.now S rw1⟩ hs
  · exact h.bad.elim

/-! ### slices -/
def cutD (xs : List D) (lo hi : Option Int) : List D := (xs.drop (HT.sIx xs.length 0 lo)).take (HT.sIx xs.length xs.length hi - HT.sIx xs.length 0 lo)
theorem cutD_rep {K : PySem.W.Frag} {G : Hp} {ι : List Addr} {vs : List V} {ds : List D} (r : Reps K G ι vs ds) (lo hi : Option Int) : Reps K G ι (cutV vs lo hi) (cutD ds lo hi) := by
  unfold cutV cutD
  rw [r.length]
  exact (r.drop _).take _
def sliceD (x : D) (lo hi : Option Int) : M D := match x with
  | .str z => if z.length ≤ LIM then ret (.str (cutS z lo hi)) else bad
  | .tup xs => ret (.tup (cutD xs lo hi))
  | x => fun η => match asL η x with
    | some xs => .ok (.fl (cutD xs lo hi)) η
    | none => .bad
def rSlD (cls : Nat → Addr) (K : PySem.W.Frag) : V → Option Int → Option Int → Hp → VK → Prop := fun x lo hi H Q => ∃ W0 G ι η d, RS K G H ι η ∧ Rep K G ι x d ∧ PV cls K G H ι (sliceD d lo hi η) Q W0
theorem sl_D : SlR X (rSlD cls X.K) := by
  intro pins s σ H x v vl vu lo hi sl Q I rx hs pl pu h
  obtain ⟨W0, G, ι, η, d, S, r1, h⟩ := h
  unfold sliceD at h
  split at h
  · cases r1
    split at h
    · rename_i hl
      exact sl_str pins s σ H _ v vl vu lo hi sl Q I rx hs pl pu ⟨_, rfl, Nat.le_trans hl lim_line, h.now S (.str _)⟩
    · exact h.bad.elim
  · cases r1 with
    | @tup a vs ds h1 t1 =>
    refine sl_tupA pins s σ H _ v vl vu lo hi sl Q I rx hs pl pu ⟨a, vs, rfl, SqT.of (S.sub _ _ h1), fun z => ?_, fun _ => h.tup S (cutD_rep t1 lo hi)⟩
    rename_i ds
    have e : cutD ds lo hi = ds := by
      unfold cutD
      rw [t1.length] at z
      rw [z.1, z.2, List.drop_zero, Nat.sub_zero, List.take_length]
    rw [e] at h
    exact h.now S (.tup h1 t1)
  · simp -failIfUnchanged only [] at h
    split at h
    · rename_i xs hx
      obtain ⟨a, vs, rfl, h1, h2⟩ := asL_ok S r1 hx
      exact sl_list pins s σ H _ v vl vu lo hi sl Q I rx hs pl pu ⟨a, vs, rfl, SqL.of h1, h.fl S (cutD_rep h2 lo hi)⟩
    · exact h.bad.elim

/-! ### built-ins -/
def lenD : List D → M D
  | [.str z] => if z.length ≤ LIM then ret (.int z.length) else bad
  | [d] => fun η => match asQ η d with
    | some xs => .ok (.int xs.length) η
    | none => .bad
  | _ => bad
theorem call_lenD' : CallR X (.builtin "len") (rDN cls X.K lenD) := by
  intro pins s σ H xs us Q I r h
  obtain ⟨W0, G, ι, η, ds, S, r1, h⟩ := h
  unfold lenD at h
  split at h
  · cases r1 with
    | cons a b =>
    cases b; cases a
    split at h
    · rename_i hl
      exact call_len pins s σ H _ us Q I r ⟨_, _, rfl, ⟨Nat.le_trans hl lim_line, rfl⟩, h.now S (.int _)⟩
    · exact h.bad.elim
  · cases r1 with
    | cons a b =>
    cases b
    simp -failIfUnchanged only [] at h
    split at h
    · rename_i ys hy
      obtain ⟨p, vs, rfl, h1, h2⟩ := asQ_ok S a hy
      refine call_len_seq pins s σ H _ us Q I r ⟨p, vs, rfl, h1, ?_⟩
      rw [h2.length]
      exact h.now S (.int _)
    · exact h.bad.elim
  · exact h.bad.elim
def intD : List D → M D
  | [.int i] => ret (.int i)
  | [.bl b] => ret (.int (if b then 1 else 0))
  | [.str z] => fromO (if z.length ≤ 640 then (PySem.intText? z).map .int else none)
  | _ => bad
theorem call_intD : CallR X (.type "int") (rDN cls X.K intD) := by
  intro pins s σ H xs us Q I r h
  obtain ⟨W0, G, ι, η, ds, S, r1, h⟩ := h
  unfold intD at h
  split at h
  · cases r1 with
    | cons a b =>
    cases b; cases a
    exact call_int1 pins s σ H _ us Q I r (.inl ⟨_, rfl, h.now S (.int _)⟩)
  · cases r1 with
    | cons a b =>
    cases b; cases a
    exact call_int1 pins s σ H _ us Q I r (.inr ⟨_, rfl, h.now S (.int _)⟩)
  · cases r1 with
    | cons a b =>
    cases b; cases a
    obtain ⟨d, e, h⟩ := h.fromO
    split at e
    · rename_i hl
      obtain ⟨n, e1, e2⟩ := Option.map_eq_some_iff.mp e
      subst e2
      exact call_int_str pins s σ H _ us Q I r ⟨_, n, rfl, e1, hl, h.now S (.int _)⟩
    · cases e
  · exact h.bad.elim
/-- str(x) of an int, of a text -/
def strD : List D → M D
  | [.int i] => if i.natAbs < 2 ^ 64 then ret (.str (toString i : String)) else bad
  | [.str z] => ret (.str z)
  | _ => bad
theorem log_small {n : Nat} (h : n < 2 ^ 64) : n.log2 < 1920 := by
  by_cases h0 : n = 0
  · rw [h0]
    decide
  · have := (Nat.log2_lt h0).mpr h
    omega
theorem call_strD : CallR X (.type "str") (rDN cls X.K strD) := by
  intro pins s σ H xs us Q I r h
  obtain ⟨W0, G, ι, η, ds, S, r1, h⟩ := h
  unfold strD at h
  split at h
  · cases r1 with
    | cons a b =>
    cases b; cases a
    split at h
    · rename_i hl
      exact call_str_int pins s σ H _ us Q I r ⟨_, rfl, log_small hl, h.now S (.str _)⟩
    · exact h.bad.elim
  · cases r1 with
    | cons a b =>
    cases b; cases a
    rename_i z
    obtain ⟨u, rfl, t, rfl⟩ := vals1 r
    exact PySem.P.str_of_str ⟨.str z, H, I, ⟨t, rfl⟩, h.now S (.str _)⟩
  · exact h.bad.elim
def signs (z : Str) : List D := z.cps.toList.map fun c => .str ⟨#[c]⟩
def listD : List D → M D
  | [.str z] => if z.length ≤ LIM then ret (.fl (signs z)) else bad
  | [d] => fun η => match asQ η d with
    | some xs => .ok (.fl xs) η
    | none => .bad
  | _ => bad
theorem signs_rep {K : PySem.W.Frag} {G : Hp} {ι : List Addr} : ∀ l : List Nat, Reps K G ι (l.map fun c => V.str ⟨#[c]⟩) (l.map fun c => D.str ⟨#[c]⟩)
  | [] => .nil
  | c :: l => .cons (.str _) (signs_rep l)
theorem vals_signs {z : Str} {its : Array Value} (h : ItemsOf (SignAt z) its z.cps.size) : Vals (z.cps.toList.map fun c => V.str ⟨#[c]⟩) its.toList := by
  obtain ⟨h1, h2⟩ := h
  have key : ∀ (l : List Nat) (k : List Value), l.length = k.length → (∀ (j : Nat) (v : Value), k[j]? = some v → ∃ (c : Nat) (u : Tok), l[j]? = some c ∧ v = Value.str ⟨#[c]⟩ u) → Vals (l.map fun c => V.str ⟨#[c]⟩) k := by
    intro l
    induction l with
    | nil =>
      intro k e _
      cases k with
      | nil => exact .nil
      | cons a b => cases e
    | cons c l ih =>
      intro k e f
      cases k with
      | nil => cases e
      | cons a b =>
        obtain ⟨c', u, e1, e2⟩ := f 0 a rfl
        simp at e1
        subst e1 e2
        refine .cons ⟨u, rfl⟩ (ih b (by simpa using e) fun j v q => ?_)
        obtain ⟨c2, u2, e3, e4⟩ := f (j + 1) v (by simpa using q)
        exact ⟨c2, u2, by simpa using e3, e4⟩
  refine key _ _ (by simp [h1]) fun j v q => ?_
  obtain ⟨c, u, e1, e2⟩ := h2 j v (by simpa using q)
  exact ⟨c, u, by simpa using e1, e2⟩
theorem call_listD' (hc : X.calm = true) : CallR X (.type "list") (rDN cls X.K listD) := by
  intro pins s σ H xs us Q I r h
  obtain ⟨W0, G, ι, η, ds, S, r1, h⟩ := h
  unfold listD at h
  split at h
  · cases r1 with
    | cons a b =>
    cases b; cases a
    split at h
    · rename_i z hl
      obtain ⟨u, rfl, t, rfl⟩ := vals1 r
      have hz : z.cps.size ≤ sizeLine := Nat.le_trans hl lim_line
      refine call_list_str (I.ok.hd hc) z t (fun h' tk acc' c' k e it => ?_) (hn := hz)
      have rv := vals_signs it
      have nw : ObjOk X.prog X.w (upd H s.heap.objs.size (.lst (z.cps.toList.map fun c => V.str ⟨#[c]⟩))) h' s.heap.objs.size (.lst (z.cps.toList.map fun c => V.str ⟨#[c]⟩)) :=
        ⟨by simpa using hz, acc'.toList, c', rv, by simpa using e⟩
      exact ⟨.ref s.heap.objs.size, _, I.laid (t' := tk) k (Nat.le_refl _) nw, rfl, h.fl S (signs_rep _) _ (I.hok.fresh (Nat.le_refl _))⟩
    · exact h.bad.elim
  · cases r1 with
    | cons a b =>
    cases b
    simp -failIfUnchanged only [] at h
    split at h
    · rename_i ys hy
      obtain ⟨p, vs, rfl, h1, h2⟩ := asQ_ok S a hy
      exact call_list_of pins s σ H _ us Q I r ⟨p, vs, rfl, h1, h.fl S h2⟩
    · exact h.bad.elim
  · exact h.bad.elim
/-- .. a list that may change -/
def listMD : List D → M D
  | [.str z] => if z.length ≤ LIM then fun η => .ok (.ref η.length) (η ++ [.lst (signs z)]) else bad
  | [d] => fun η => match asQ η d with
    | some xs => .ok (.ref η.length) (η ++ [.lst xs])
    | none => .bad
  | _ => bad
theorem call_listMD' (hc : X.calm = true) : CallR X (.type "list") (rDN cls X.K listMD) := by
  intro pins s σ H xs us Q I r h
  obtain ⟨W0, G, ι, η, ds, S, r1, h⟩ := h
  unfold listMD at h
  split at h
  · cases r1 with
    | cons a b =>
    cases b; cases a
    split at h
    · rename_i z hl
      obtain ⟨u, rfl, t, rfl⟩ := vals1 r
      have hz : z.cps.size ≤ sizeLine := Nat.le_trans hl lim_line
      refine call_list_str (I.ok.hd hc) z t (fun h' tk acc' c' k e it => ?_) (hn := hz)
      have rv := vals_signs it
      have nw : ObjOk X.prog X.w (upd H s.heap.objs.size (.lst (z.cps.toList.map fun c => V.str ⟨#[c]⟩))) h' s.heap.objs.size (.lst (z.cps.toList.map fun c => V.str ⟨#[c]⟩)) :=
        ⟨by simpa using hz, acc'.toList, c', rv, by simpa using e⟩
      exact ⟨.ref s.heap.objs.size, _, I.laid (t' := tk) k (Nat.le_refl _) nw, rfl, PV.new h S (signs_rep _) _ (I.hok.fresh (Nat.le_refl _))⟩
    · exact h.bad.elim
  · cases r1 with
    | cons a b =>
    cases b
    simp -failIfUnchanged only [] at h
    split at h
    · rename_i ys hy
      obtain ⟨p, vs, rfl, h1, h2⟩ := asQ_ok S a hy
      exact call_list_of pins s σ H _ us Q I r ⟨p, vs, rfl, h1, PV.new h S h2⟩
    · exact h.bad.elim
  · exact h.bad.elim
def tupleD : List D → M D
  | [.tup xs] => ret (.tup xs)
  | [d] => fun η => match asL η d with
    | some xs => .ok (.tup xs) η
    | none => .bad
  | _ => bad
theorem call_tupleD : CallR X (.type "tuple") (rDN cls X.K tupleD) := by
  intro pins s σ H xs us Q I r h
  obtain ⟨W0, G, ι, η, ds, S, r1, h⟩ := h
  unfold tupleD at h
  split at h
  · cases r1 with
    | cons a b =>
    cases b
    cases a with
    | @tup p vs ds h1 t1 =>
    exact call_tuple_of pins s σ H _ us Q I r ⟨p, vs, rfl, .inr ⟨SqT.of (S.sub _ _ h1), h.now S (.tup h1 t1)⟩⟩
  · cases r1 with
    | cons a b =>
    cases b
    simp -failIfUnchanged only [] at h
    split at h
    · rename_i ys hy
      obtain ⟨p, vs, rfl, h1, h2⟩ := asL_ok S a hy
      exact call_tuple_of pins s σ H _ us Q I r ⟨p, vs, rfl, .inl ⟨SqL.of h1, h.tup S h2⟩⟩
    · exact h.bad.elim
  · exact h.bad.elim
/-- a list of truths, of ints -/
def asBs : List D → Option (List Bool)
  | [] => some []
  | .bl b :: r => (asBs r).map (b :: ·)
  | _ => none
def asIs : List D → Option (List Int)
  | [] => some []
  | .int b :: r => (asIs r).map (b :: ·)
  | _ => none
theorem asBs_ok {K : PySem.W.Frag} {G : Hp} {ι : List Addr} : ∀ {vs : List V} {ds : List D} {bs : List Bool}, Reps K G ι vs ds → asBs ds = some bs → vs = bs.map V.bl
  | _, _, _, .nil, e => by cases e; rfl
  | _, _, _, .cons (ds := ds) h t, e => by
    cases h with
    | bl b =>
      cases q : asBs ds with
      | none => simp [asBs, q] at e
      | some r =>
        simp [asBs, q] at e
        subst e
        rw [List.map_cons, ← asBs_ok t q]
    | _ => simp [asBs] at e
theorem asIs_ok {K : PySem.W.Frag} {G : Hp} {ι : List Addr} : ∀ {vs : List V} {ds : List D} {bs : List Int}, Reps K G ι vs ds → asIs ds = some bs → vs = bs.map V.int
  | _, _, _, .nil, e => by cases e; rfl
  | _, _, _, .cons (ds := ds) h t, e => by
    cases h with
    | int b =>
      cases q : asIs ds with
      | none => simp [asIs, q] at e
      | some r =>
        simp [asIs, q] at e
        subst e
        rw [List.map_cons, ← asIs_ok t q]
    | _ => simp [asIs] at e
def allD : List D → M D
  | [d] => fun η => match asL η d with
    | some xs => (match asBs xs with
      | some bs => .ok (.bl (bs.all id)) η
      | none => .bad)
    | none => .bad
  | _ => bad
def anyD : List D → M D
  | [d] => fun η => match asL η d with
    | some xs => (match asBs xs with
      | some bs => .ok (.bl (bs.any id)) η
      | none => .bad)
    | none => .bad
  | _ => bad
theorem call_allD (hc : X.calm = true) : CallR X (.builtin "all") (rDN cls X.K allD) := by
  intro pins s σ H xs us Q I r h
  obtain ⟨W0, G, ι, η, ds, S, r1, h⟩ := h
  unfold allD at h
  split at h
  · cases r1 with
    | cons a b =>
    cases b
    simp -failIfUnchanged only [] at h
    split at h
    · rename_i ys hy
      obtain ⟨p, vs, rfl, h1, h2⟩ := asL_ok S a hy
      split at h
      · rename_i bs hb
        exact cr_all hc pins s σ H _ us Q I r ⟨p, bs, rfl, by rw [← asBs_ok h2 hb]; exact SqL.of h1, h.now S (.bl _)⟩
      · exact h.bad.elim
    · exact h.bad.elim
  · exact h.bad.elim
theorem call_anyD (hc : X.calm = true) : CallR X (.builtin "any") (rDN cls X.K anyD) := by
  intro pins s σ H xs us Q I r h
  obtain ⟨W0, G, ι, η, ds, S, r1, h⟩ := h
  unfold anyD at h
  split at h
  · cases r1 with
    | cons a b =>
    cases b
    simp -failIfUnchanged only [] at h
    split at h
    · rename_i ys hy
      obtain ⟨p, vs, rfl, h1, h2⟩ := asL_ok S a hy
      split at h
      · rename_i bs hb
        exact cr_any hc pins s σ H _ us Q I r ⟨p, bs, rfl, by rw [← asBs_ok h2 hb]; exact SqL.of h1, h.now S (.bl _)⟩
      · exact h.bad.elim
    · exact h.bad.elim
  · exact h.bad.elim
def sumD : List D → M D
  | [d] => fun η => match asL η d with
    | some xs => (match asIs xs with
      | some bs => .ok (.int bs.sum) η
      | none => .bad)
    | none => .bad
  | _ => bad
theorem call_sumD (hc : X.calm = true) : CallR X (.builtin "sum") (rDN cls X.K sumD) := by
  intro pins s σ H xs us Q I r h
  obtain ⟨W0, G, ι, η, ds, S, r1, h⟩ := h
  unfold sumD at h
  split at h
  · cases r1 with
    | cons a b =>
    cases b
    simp -failIfUnchanged only [] at h
    split at h
    · rename_i ys hy
      obtain ⟨p, vs, rfl, h1, h2⟩ := asL_ok S a hy
      split at h
      · rename_i bs hb
        exact cr_sum hc pins s σ H _ us Q I r ⟨p, bs, rfl, by rw [← asIs_ok h2 hb]; exact SqL.of h1, h.now S (.int _)⟩
      · exact h.bad.elim
    · exact h.bad.elim
  · exact h.bad.elim
def minD : List D → M D
  | [.int i, .int j] => ret (.int (if j < i then j else i))
  | _ => bad
def maxI : List Int → Option Int
  | [] => none
  | i :: r => match maxI r with
    | none => some i
    | some m => some (if m > i then m else i)
def maxD : List D → M D
  | [.int i, .int j] => ret (.int (if j > i then j else i))
  | [d] => fun η => match asL η d with
    | some xs => (match (asIs xs).bind maxI with
      | some m => .ok (.int m) η
      | none => .bad)
    | none => .bad
  | _ => bad
theorem call_minD (hc : X.calm = true) : CallR X (.builtin "min") (rDN cls X.K minD) := by
  intro pins s σ H xs us Q I r h
  obtain ⟨W0, G, ι, η, ds, S, r1, h⟩ := h
  unfold minD at h
  split at h
  · cases r1 with
    | cons a b =>
    cases b with
    | cons b c =>
    cases c; cases a; cases b
    exact call_min2 hc pins s σ H _ us Q I r ⟨_, _, rfl, h.now S (.int _)⟩
  · exact h.bad.elim
theorem maxI_ok : ∀ {l : List Int} {m : Int}, maxI l = some m → m ∈ l ∧ ∀ y, y ∈ l → y ≤ m
  | [], _, e => by cases e
  | i :: r, m, e => by
    unfold maxI at e
    cases q : maxI r with
    | none =>
      rw [q] at e
      cases e
      cases r with
      | nil => exact ⟨by simp, by simp⟩
      | cons j s =>
        exfalso
        unfold maxI at q
        cases z : maxI s <;> rw [z] at q <;> cases q
    | some k =>
      rw [q] at e
      obtain ⟨h1, h2⟩ := maxI_ok q
      simp only [Option.some.injEq] at e
      by_cases hk : k > i
      · rw [if_pos hk] at e
        subst e
        refine ⟨List.mem_cons_of_mem _ h1, fun y hy => ?_⟩
        rcases List.mem_cons.mp hy with rfl | hy
        · omega
        · exact h2 y hy
      · rw [if_neg hk] at e
        subst e
        refine ⟨List.mem_cons_self, fun y hy => ?_⟩
        rcases List.mem_cons.mp hy with rfl | hy
        · omega
        · have := h2 y hy
          omega
theorem call_maxD (hc : X.calm = true) : CallR X (.builtin "max") (rDN cls X.K maxD) := by
  intro pins s σ H xs us Q I r h
  obtain ⟨W0, G, ι, η, ds, S, r1, h⟩ := h
  unfold maxD at h
  split at h
  · cases r1 with
    | cons a b =>
    cases b with
    | cons b c =>
    cases c; cases a; cases b
    exact call_max2 hc pins s σ H _ us Q I r ⟨_, _, rfl, h.now S (.int _)⟩
  · cases r1 with
    | cons a b =>
    cases b
    simp -failIfUnchanged only [] at h
    split at h
    · rename_i ys hy
      obtain ⟨p, vs, rfl, h1, h2⟩ := asL_ok S a hy
      split at h
      · rename_i m hm
        cases hb : asIs ys with
        | none => rw [hb] at hm; cases hm
        | some bs =>
          rw [hb] at hm
          obtain ⟨m1, m2⟩ := maxI_ok (show maxI bs = some m from hm)
          refine cr_max hc pins s σ H _ us Q I r ⟨p, bs, rfl, by rw [← asIs_ok h2 hb]; exact SqL.of h1, List.length_pos_of_mem m1, fun k k1 k2 => ?_⟩
          have : k = m := Int.le_antisymm (m2 k k1) (k2 m m1)
          rw [this]
          exact h.now S (.int _)
      · exact h.bad.elim
    · exact h.bad.elim
  · exact h.bad.elim
end
end Ms
end
section
set_option Elab.async false
set_option linter.all false
set_option maxRecDepth 100000
set_option maxHeartbeats 4000000
/-! Methods, stores, isinstance. -/
namespace Ms
open PySem L2

section
variable {cls : Nat → Addr} {K : PySem.W.Frag} {G H : Hp} {ι : List Addr} {η : List Cell} {Q : VK} {W : Value → Option Addr → Hp → Prop}
theorem RS.live (s : RS K G H ι η) {n : Nat} {v : V} {xs : List D} (r : Rep K G ι v (.ref n)) (e : η[n]? = some (.lst xs)) : ∃ a vs, v = .ref a ∧ ι[n]? = some a ∧ H a = some (.lst vs) ∧ Reps K G ι vs xs := by
  cases r with
  | ref h =>
    obtain ⟨vs, h1, h2⟩ := s.cells n _ _ h e
    exact ⟨_, vs, rfl, h, h1, h2⟩
theorem PV.write {n : Nat} {a : Addr} {xs ds : List D} {vs : List V} {d : D} {v : V} (h : PV cls K G H ι (.ok d (η.set n (.lst ds))) Q W) (s : RS K G H ι η) (e : ι[n]? = some a) (e0 : η[n]? = some (.lst xs)) (r : Reps K G ι vs ds) (rv : Rep K G ι v d) :
    Q v (upd H a (.lst vs)) :=
  h G ι _ (RS.stpWrite e) (s.write e e0 (by intro z; cases z) ⟨vs, upd_same, r⟩) v rv
end

/-- the methods of built-in types -/
inductive Mt where
  | append | pop | popAt | clear | join | split
  deriving DecidableEq

def Mt.name : Mt → Str
  | .append => "append"
  | .pop => "pop"
  | .popAt => "pop"
  | .clear => "clear"
  | .join => "join"
  | .split => "split"
def Mt.id : Mt → String
  | .append => "list.append"
  | .pop => "list.pop"
  | .popAt => "list.pop"
  | .clear => "list.clear"
  | .join => "str.join"
  | .split => "str.split"
def Mt.ty : Mt → String
  | .append => "list"
  | .pop => "list"
  | .popAt => "list"
  | .clear => "list"
  | .join => "str"
  | .split => "str"
/-- no argument -/
def Mt.nul : Mt → Bool
  | .pop => true
  | .clear => true
  | _ => false
def isStr : D → Bool
  | .str _ => true
  | _ => false
/-- the receiver is of the type -/
def recvOk (m : Mt) (d : D) (η : List Cell) : Bool := match m.ty with
  | "list" => (asL η d).isSome
  | _ => isStr d

def asSs : List D → Option (List Str)
  | [] => some []
  | .str b :: r => (asSs r).map (b :: ·)
  | _ => none
theorem asSs_ok {K : PySem.W.Frag} {G : Hp} {ι : List Addr} : ∀ {vs : List V} {ds : List D} {bs : List Str}, Reps K G ι vs ds → asSs ds = some bs → vs = bs.map V.str
  | _, _, _, .nil, e => by cases e; rfl
  | _, _, _, .cons (ds := ds) h t, e => by
    cases h with
    | str b =>
      cases q : asSs ds with
      | none => simp [asSs, q] at e
      | some r =>
        simp [asSs, q] at e
        subst e
        rw [List.map_cons, ← asSs_ok t q]
    | _ => simp [asSs] at e
def txts (ys : List Str) : List D := ys.map D.str
theorem txts_rep {K : PySem.W.Frag} {G : Hp} {ι : List Addr} : ∀ l : List Str, Reps K G ι (l.map V.str) (txts l)
  | [] => .nil
  | c :: l => .cons (.str _) (txts_rep l)

def mtD (m : Mt) (d : D) (ds : List D) : M D := fun η => match m with
  | .append => (match d, ds with
    | .ref n, [y] => (match η[n]? with
      | some (.lst xs) => if xs.length < LIM then .ok .non (η.set n (.lst (xs ++ [y]))) else .bad
      | _ => .bad)
    | _, _ => .bad)
  | .pop => (match d, ds with
    | .ref n, [] => (match η[n]? with
      | some (.lst xs) => (match xs[xs.length - 1]? with
        | some y => .ok y (η.set n (.lst xs.dropLast))
        | none => .bad)
      | _ => .bad)
    | _, _ => .bad)
  | .popAt => (match d, ds with
    | .ref n, [.int i] => (match η[n]? with
      | some (.lst xs) => (match ixN xs.length i with
        | some k => (match xs[k]? with
          | some y => if xs.length ≤ LIM then .ok y (η.set n (.lst (xs.eraseIdx k))) else .bad
          | none => .bad)
        | none => .bad)
      | _ => .bad)
    | _, _ => .bad)
  | .clear => (match d, ds with
    | .ref n, [] => (match η[n]? with
      | some (.lst xs) => .ok .non (η.set n (.lst []))
      | _ => .bad)
    | _, _ => .bad)
  | .join => (match d, ds with
    | .str z, [l] => (match (asQ η l).bind asSs with
      | some ys => if (ys.map (·.length)).sum + ys.length * z.length ≤ LIM then .ok (.str (Txt.join z ys)) η else .bad
      | none => .bad)
    | _, _ => .bad)
  | .split => (match d, ds with
    | .str z, [.str y] => if (y.length == 0) = false ∧ z.length ≤ LIM then .ok (.fl (txts (Txt.split z y))) η else .bad
    | _, _ => .bad)

section
variable {cls : Nat → Addr} {X : Cx}
theorem mt_D (m : Mt) : MtR X m.id (rDM cls X.K (mtD m)) := by
  intro pins s σ H x xs v us Q I rx rs h
  obtain ⟨W0, G, ι, η, d, ds, S, r1, r2, h⟩ := h
  cases m with
  | append =>
    simp only [mtD] at h
    split at h
    · split at h
      · split at h
        · rename_i n y xs hn hl
          obtain ⟨a, vs, rfl, e1, e2, e3⟩ := S.live r1 hn
          cases r2 with
          | cons p q =>
          cases q
          exact mt_append pins s σ H _ _ v us Q I rx rs ⟨a, vs, _, rfl, rfl, e2, by rw [e3.length]; exact Nat.lt_of_lt_of_le hl lim_line, h.write S e1 hn (e3.append (.cons p .nil)) .non⟩
        · exact h.bad.elim
      · exact h.bad.elim
    · exact h.bad.elim
  | pop =>
    simp only [mtD] at h
    split at h
    · split at h
      · split at h
        · rename_i xs hn _ y hy
          obtain ⟨a, vs, rfl, e1, e2, e3⟩ := S.live r1 hn
          cases r2
          obtain ⟨w, f1, f2⟩ := e3.get hy
          refine mt_pop pins s σ H _ _ v us Q I rx rs ⟨a, vs, w, rfl, rfl, e2, by rw [e3.length]; exact f1, h.write S e1 hn ?_ f2⟩
          rw [List.dropLast_eq_take, List.dropLast_eq_take, e3.length]
          exact e3.take _
        · exact h.bad.elim
      · exact h.bad.elim
    · exact h.bad.elim
  | popAt =>
    simp only [mtD] at h
    split at h
    · split at h
      · split at h
        · split at h
          · split at h
            · rename_i xs hn _ k hk _ y hy hl
              obtain ⟨a, vs, rfl, e1, e2, e3⟩ := S.live r1 hn
              cases r2 with
              | cons p q =>
              cases q
              cases p
              obtain ⟨w, f1, f2⟩ := e3.get hy
              obtain ⟨g1, g2, g3, g4⟩ := ixN_seq hk
              have hL : LIM = 1000000 := rfl
              refine mt_popAt pins s σ H _ _ v us Q I rx rs ⟨a, vs, _, k, w, rfl, rfl, e2, by omega, by omega, by rw [e3.length]; exact g1, f1, h.write S e1 hn ?_ f2⟩
              rw [List.eraseIdx_eq_take_drop_succ, List.eraseIdx_eq_take_drop_succ]
              exact (e3.take _).append (e3.drop _)
            · exact h.bad.elim
          · exact h.bad.elim
        · exact h.bad.elim
      · exact h.bad.elim
    · exact h.bad.elim
  | clear =>
    simp only [mtD] at h
    split at h
    · split at h
      · rename_i n xs hn
        obtain ⟨a, vs, rfl, e1, e2, e3⟩ := S.live r1 hn
        cases r2
        exact mt_clear pins s σ H _ _ v us Q I rx rs ⟨a, vs, rfl, rfl, e2, h.write S e1 hn .nil .non⟩
      · exact h.bad.elim
    · exact h.bad.elim
  | join =>
    simp only [mtD] at h
    split at h
    · split at h
      · split at h
        · rename_i z l _ ys hy hl
          cases r1
          cases r2 with
          | cons p q =>
          cases q
          cases hq : asQ η l with
          | none => rw [hq] at hy; cases hy
          | some ls =>
            rw [hq] at hy
            obtain ⟨b, ws, rfl, g1, g2⟩ := asQ_ok S p hq
            have e := asSs_ok g2 (show asSs ls = some ys from hy)
            subst e
            exact mt_join pins s σ H _ _ v us Q I rx rs ⟨z, b, ys, rfl, rfl, g1, Nat.le_trans hl (by decide), h.now S (.str _)⟩
        · exact h.bad.elim
      · exact h.bad.elim
    · exact h.bad.elim
  | split =>
    simp only [mtD] at h
    split at h
    · split at h
      · rename_i z y hc
        cases r1
        cases r2 with
        | cons p q =>
        cases q
        cases p
        exact mt_split pins s σ H _ _ v us Q I rx rs ⟨z, y, rfl, rfl, hc.1, Nat.le_trans (Nat.add_le_add_right hc.2 2) (by rw [sizeLine_eq]; decide), h.fl S (txts_rep _)⟩
      · exact h.bad.elim
    · exact h.bad.elim
theorem recv_ok {K : PySem.W.Frag} {G H : Hp} {ι : List Addr} {η : List Cell} {m : Mt} {d : D} {x : V} (S : RS K G H ι η) (r : Rep K G ι x d) (h : recvOk m d η = true) : tyV K m.ty x H := by
  have hl : m.ty = "list" → (asL η d).isSome = true → tyV K m.ty x H := fun e q => by
    obtain ⟨xs, hx⟩ := Option.isSome_iff_exists.mp q
    obtain ⟨a, vs, rfl, h1, _⟩ := asL_ok S r hx
    exact .inl ⟨e, _, SqL.of h1⟩
  have hs : m.ty = "str" → isStr d = true → tyV K m.ty x H := fun e q => by
    cases r <;> first | exact e | cases q
  cases m
  case append => exact hl rfl h
  case pop => exact hl rfl h
  case popAt => exact hl rfl h
  case clear => exact hl rfl h
  case join => exact hs rfl h
  case split => exact hs rfl h

/-! ### stores -/
def setD (d i y : D) : M Unit := fun η => match d, i with
  | .ref n, .int k => (match η[n]? with
    | some (.lst xs) => (match ixN xs.length k with
      | some j => .ok () (η.set n (.lst (xs.set j y)))
      | none => .bad)
    | _ => .bad)
  | _, _ => .bad
def rSetD (cls : Nat → Addr) (K : PySem.W.Frag) : TSet := fun o i v H Q => ∃ W0 G ι η d e y, RS K G H ι η ∧ Rep K G ι o d ∧ Rep K G ι i e ∧ Rep K G ι v y ∧ Post cls K G H ι (setD d e y η) (fun _ _ _ _ H' => Q H') W0
theorem set_D : PSet X (rSetD cls X.K) := by
  intro pins s σ H o i v ov iv u Q I ro ri rv h
  obtain ⟨W0, G, ι, η, d, e, y, S, r1, r2, r3, h⟩ := h
  unfold setD at h
  split at h
  · split at h
    · split at h
      · rename_i xs hn _ j hj
        obtain ⟨a, vs, rfl, e1, e2, e3⟩ := S.live r1 hn
        cases r2
        refine set_list pins s σ H _ _ v ov iv u Q I ro ri rv ⟨a, vs, _, j, rfl, rfl, e2, by rw [e3.length]; exact hj, ?_⟩
        exact h G ι _ (RS.stpWrite e1) (S.write e1 hn (by intro z; cases z) ⟨_, upd_same, e3.set r3 j⟩)
      · exact h.elim
    · exact h.elim
  · exact h.elim

/-! ### isinstance -/
def tyOf (η : List Cell) : D → Option String
  | .non => some "NoneType"
  | .bl _ => some "bool"
  | .int _ => some "int"
  | .str _ => some "str"
  | .tup _ => some "tuple"
  | .fl _ => some "list"
  | .scr _ => some "list"
  | .ref n => match η[n]? with
    | some (.lst _) => some "list"
    | _ => none
def tyNames : List String := ["NoneType", "bool", "int", "str", "tuple", "list"]
def isSub (a b : String) : Bool := a == b || (a == "bool" && b == "int")
theorem kit_all : tyNames.all (fun a => ["bool", "int", "str", "tuple", "list"].all fun b => decide (kitB a b = some (isSub a b))) = true := by decide +kernel
def isiD (T : String) (d : D) : M D := fun η => match tyOf η d with
  | some t => if ["bool", "int", "str", "tuple", "list"].contains T then .ok (.bl (isSub t T)) η else .bad
  | none => .bad
theorem tyOf_ok {K : PySem.W.Frag} {G H : Hp} {ι : List Addr} {η : List Cell} {d : D} {x : V} {t : String} (S : RS K G H ι η) (r : Rep K G ι x d) (h : tyOf η d = some t) : t ∈ tyNames ∧ TyX K H x (.type t) := by
  cases r with
  | non => cases h; exact ⟨by decide, .base .non⟩
  | bl b => cases h; exact ⟨by decide, .base (.bl b)⟩
  | int b => cases h; exact ⟨by decide, .base (.int b)⟩
  | str b => cases h; exact ⟨by decide, .base (.str b)⟩
  | tup q _ =>
    cases h
    exact ⟨by decide, .base (.tup (S.sub _ _ q))⟩
  | fl q _ => cases h; exact ⟨by decide, .base (.lst (S.sub _ _ q))⟩
  | scr q _ =>
    cases h
    refine ⟨by decide, ?_⟩
    rcases S.sub.seq q with (q | ⟨o, q⟩) | ⟨o, its, n, h1, h2, _⟩
    · exact .base (.lst q)
    · exact .base (.frz q)
    · exact .kList h1 h2
  | @ref n a q =>
    simp only [tyOf] at h
    split at h
    · rename_i xs hx
      cases h
      obtain ⟨vs, h1, _⟩ := S.cells n a _ q hx
      exact ⟨by decide, .base (.lst h1)⟩
    · cases h
def rIsD (cls : Nat → Addr) (K : PySem.W.Frag) (T : String) : List V → Hp → VK → Prop := fun xs H Q => ∃ W0 x G ι η d, xs = [x, .ty T] ∧ RS K G H ι η ∧ Rep K G ι x d ∧ PV cls K G H ι (isiD T d η) Q W0
theorem call_isD (T : String) : CallR X (.builtin "isinstance") (rIsD cls X.K T) := by
  intro pins s σ H xs us Q I r h
  obtain ⟨W0, x, G, ι, η, d, rfl, S, r1, h⟩ := h
  unfold isiD at h
  split at h
  · rename_i t ht
    split at h
    · rename_i hT
      obtain ⟨m, ty⟩ := tyOf_ok S r1 ht
      have hk := List.all_eq_true.mp (List.all_eq_true.mp kit_all t m) T (by simpa using hT)
      exact call_isi pins s σ H _ us Q I r ⟨x, _, _, _, _, rfl, .ty T, ty, kit_ty (of_decide_eq_true hk), h.now S (.bl _)⟩
    · exact h.bad.elim
  · exact h.bad.elim
end
end Ms
end
section
set_option Elab.async false
set_option linter.all false
set_option maxRecDepth 100000
set_option maxHeartbeats 4000000
/-! Fields, methods, instances, dicts by data. -/
namespace Ms
open PySem L2

/-! ### pairs -/
def valG {κ α : Type} [DecidableEq κ] (kvs : List (κ × α)) (k : κ) : Option α := (kvs.find? fun p => decide (p.1 = k)).map (·.2)
def putG {κ α : Type} [DecidableEq κ] (kvs : List (κ × α)) (k : κ) (v : α) : List (κ × α) :=
  if (kvs.any fun p => decide (p.1 = k)) = true then kvs.map (fun p => if p.1 = k then (p.1, v) else p) else kvs ++ [(k, v)]
section
variable {K : PySem.W.Frag} {G : Hp} {ι : List Addr} {κ : Type}
theorem KReps.nil : KReps K G ι ([] : List (κ × V)) [] := ⟨rfl, .nil⟩
theorem KReps.cases {p : κ × V} {vs : List (κ × V)} {q : κ × D} {ds : List (κ × D)} (h : KReps K G ι (p :: vs) (q :: ds)) : p.1 = q.1 ∧ Rep K G ι p.2 q.2 ∧ KReps K G ι vs ds := by
  obtain ⟨h1, h2⟩ := h
  simp only [List.map_cons, List.cons.injEq] at h1 h2
  cases h2 with
  | cons a b => exact ⟨h1.1, a, h1.2, b⟩
theorem KReps.cons {p : κ × V} {vs : List (κ × V)} {q : κ × D} {ds : List (κ × D)} (e : p.1 = q.1) (r : Rep K G ι p.2 q.2) (h : KReps K G ι vs ds) : KReps K G ι (p :: vs) (q :: ds) :=
  ⟨by rw [List.map_cons, List.map_cons, e, h.ks], .cons r h.rs⟩
theorem KReps.length {vs : List (κ × V)} {ds : List (κ × D)} (h : KReps K G ι vs ds) : vs.length = ds.length := by
  have q := congrArg List.length h.ks
  simpa using q
theorem KReps.snoc {vs : List (κ × V)} {ds : List (κ × D)} {k : κ} {v : V} {d : D} (h : KReps K G ι vs ds) (r : Rep K G ι v d) : KReps K G ι (vs ++ [(k, v)]) (ds ++ [(k, d)]) := by
  refine ⟨?_, ?_⟩
  · rw [List.map_append, List.map_append, h.ks]
    rfl
  · rw [List.map_append, List.map_append]
    exact h.rs.append (.cons r .nil)
theorem KReps.ind {P : List (κ × V) → List (κ × D) → Prop} (h0 : P [] []) (h1 : ∀ p vs q ds, p.1 = q.1 → Rep K G ι p.2 q.2 → KReps K G ι vs ds → P vs ds → P (p :: vs) (q :: ds)) : ∀ {vs : List (κ × V)} {ds : List (κ × D)}, KReps K G ι vs ds → P vs ds
  | [], [], _ => h0
  | p :: vs, q :: ds, h => by
    obtain ⟨a, b, c⟩ := h.cases
    exact h1 p vs q ds a b c (KReps.ind h0 h1 c)
  | [], _ :: _, h => by
    have := h.ks
    cases this
  | _ :: _, [], h => by
    have := h.ks
    cases this
variable [DecidableEq κ]
theorem KReps.val {vs : List (κ × V)} {ds : List (κ × D)} (h : KReps K G ι vs ds) (k : κ) : (∀ d, valG ds k = some d → ∃ v, valV vs k = some v ∧ Rep K G ι v d) ∧ (valG ds k = none → valV vs k = none) := by
  refine KReps.ind (P := fun vs ds => (∀ d, valG ds k = some d → ∃ v, valV vs k = some v ∧ Rep K G ι v d) ∧ (valG ds k = none → valV vs k = none)) ?_ ?_ h
  · exact ⟨fun d e => by simp [valG] at e, fun _ => rfl⟩
  · intro p vs q ds e r _ ih
    by_cases hk : q.1 = k
    · have e1 : valG (q :: ds) k = some q.2 := by simp [valG, hk]
      have e2 : valV (p :: vs) k = some p.2 := valV_pos (e.trans hk)
      rw [e1, e2]
      exact ⟨fun d z => by cases z; exact ⟨_, rfl, r⟩, fun z => by cases z⟩
    · have e1 : valG (q :: ds) k = valG ds k := by simp [valG, hk]
      have e2 : valV (p :: vs) k = valV vs k := valV_neg fun z => hk (e.symm.trans z)
      rw [e1, e2]
      exact ih
theorem KReps.isS {vs : List (κ × V)} {ds : List (κ × D)} (h : KReps K G ι vs ds) (k : κ) : (valV vs k).isSome = (valG ds k).isSome := by
  obtain ⟨h1, h2⟩ := h.val k
  cases q : valG ds k with
  | none =>
    rw [h2 q]
    rfl
  | some d =>
    obtain ⟨v, e, _⟩ := h1 d q
    rw [e]
    rfl
theorem KReps.put {vs : List (κ × V)} {ds : List (κ × D)} {v : V} {d : D} (h : KReps K G ι vs ds) (k : κ) (r : Rep K G ι v d) : KReps K G ι (putK vs k v) (putG ds k d) := by
  have ea : (vs.any fun p => decide (p.1 = k)) = ds.any fun p => decide (p.1 = k) := by
    have a : (vs.any fun p => decide (p.1 = k)) = (vs.map (·.1)).any fun x => decide (x = k) := by rw [List.any_map]; rfl
    have b : (ds.any fun p => decide (p.1 = k)) = (ds.map (·.1)).any fun x => decide (x = k) := by rw [List.any_map]; rfl
    rw [a, b, h.ks]
  unfold putK putG
  rw [ea]
  split
  · refine KReps.ind (P := fun vs ds => KReps K G ι (vs.map fun p => if p.1 = k then (p.1, v) else p) (ds.map fun p => if p.1 = k then (p.1, d) else p)) .nil ?_ h
    intro p vs q ds e r2 _ ih
    refine KReps.cons ?_ ?_ ih
    · dsimp only
      by_cases hk : q.1 = k
      · rw [if_pos hk, if_pos (e.trans hk)]
        exact e
      · rw [if_neg hk, if_neg fun z => hk (e.symm.trans z)]
        exact e
    · dsimp only
      by_cases hk : q.1 = k
      · rw [if_pos hk, if_pos (e.trans hk)]
        exact r
      · rw [if_neg hk, if_neg fun z => hk (e.symm.trans z)]
        exact r2
  · exact h.snoc r
end
theorem KReps.look {K : PySem.W.Frag} {G : Hp} {ι : List Addr} {vs : List (Str × V)} {ds : List (Str × D)} (h : KReps K G ι vs ds) (f : Str) : (∀ d, ds.lookup f = some d → ∃ v, vs.lookup f = some v ∧ Rep K G ι v d) ∧ (ds.lookup f = none → vs.lookup f = none) := by
  refine KReps.ind (P := fun vs ds => (∀ d, ds.lookup f = some d → ∃ v, vs.lookup f = some v ∧ Rep K G ι v d) ∧ (ds.lookup f = none → vs.lookup f = none)) ⟨fun d e => by simp at e, fun _ => rfl⟩ ?_ h
  rintro ⟨a, x⟩ vs ⟨b, y⟩ ds e r _ ih
  simp only at e r
  subst e
  rw [List.lookup_cons, List.lookup_cons]
  cases f == a with
  | true => exact ⟨fun d z => by cases z; exact ⟨_, rfl, r⟩, fun z => by cases z⟩
  | false => exact ih
def putFG (f : Str) (v : D) : List (Str × D) → List (Str × D)
  | [] => [(f, v)]
  | p :: r => if p.1 = f then (p.1, v) :: r else p :: putFG f v r
section
variable {K : PySem.W.Frag} {G : Hp} {ι : List Addr}
theorem KReps.putF {vs : List (Str × V)} {ds : List (Str × D)} {f : Str} {v : V} {d : D} (h : KReps K G ι vs ds) (r : Rep K G ι v d) : KReps K G ι (L2.putF f v vs) (putFG f d ds) := by
  refine KReps.ind (P := fun vs ds => KReps K G ι (L2.putF f v vs) (putFG f d ds)) (KReps.cons rfl r .nil) ?_ h
  rintro ⟨a, x⟩ vs ⟨b, y⟩ ds e r2 t ih
  simp only at e r2
  subst e
  unfold L2.putF putFG
  by_cases ha : a = f
  · rw [if_pos ha, if_pos ha]
    exact KReps.cons rfl r t
  · rw [if_neg ha, if_neg ha]
    exact KReps.cons rfl r2 ih
end
/-! ### keys -/
def keyD : D → Option Key
  | .int i => some (.inl i)
  | .str s => some (.inr s)
  | _ => none
def keysD : List D → Option (List Key)
  | [] => some []
  | d :: r => match keyD d, keysD r with
    | some k, some ks => some (k :: ks)
    | _, _ => none
section
variable {K : PySem.W.Frag} {G H : Hp} {ι : List Addr} {η : List Cell}
theorem keyD_ok {v : V} {d : D} {k : Key} (r : Rep K G ι v d) (e : keyD d = some k) : v = kV k := by
  cases r <;> first | (cases e; rfl) | cases e
theorem keysD_ok : ∀ {vs : List V} {ds : List D} {ks : List Key}, Reps K G ι vs ds → keysD ds = some ks → vs = ks.map kV
  | _, _, _, .nil, e => by
    cases e
    rfl
  | _, _, _, .cons (d := d) (ds := ds) h t, e => by
    unfold keysD at e
    cases q1 : keyD d with
    | none => rw [q1] at e; cases e
    | some k =>
      cases q2 : keysD ds with
      | none => rw [q1, q2] at e; cases e
      | some ks =>
        rw [q1, q2] at e
        cases e
        rw [List.map_cons, ← keyD_ok h q1, ← keysD_ok t q2]
/-- what the dict d holds at k -/
def lookD (η : List Cell) (d k : D) : Option (Option D) := match d with
  | .ref n => (match η[n]? with
    | some (.dic kvs) => (keyD k).map fun key => valG kvs key
    | some (.dit kvs) => (match k with
      | .tup ds => (keysD ds).map fun key => valG kvs key
      | _ => none)
    | _ => none)
  | _ => none
def isDic (η : List Cell) (d : D) : Bool := match d with
  | .ref n => (match η[n]? with
    | some (.dic _) => true
    | some (.dit _) => true
    | _ => false)
  | _ => false
theorem isDic_ok {d : D} {x : V} (S : RS K G H ι η) (r : Rep K G ι x d) (h : isDic η d = true) : ∃ a, x = .ref a ∧ IsD H a := by
  unfold isDic at h
  cases r with
  | @ref n a q =>
    dsimp only at h
    split at h
    · rename_i kvs e
      obtain ⟨vs, h1, _⟩ := S.cells n a _ q e
      exact ⟨a, rfl, .inl ⟨vs, .inl h1⟩⟩
    · rename_i kvs e
      obtain ⟨vs, h1, _⟩ := S.cells n a _ q e
      exact ⟨a, rfl, .inr ⟨vs, .inl h1⟩⟩
    · cases h
  | _ => cases h
theorem lookD_ok {d k : D} {x y : V} {o : Option D} (S : RS K G H ι η) (r : Rep K G ι x d) (r2 : Rep K G ι y k) (h : lookD η d k = some o) : ∃ a w, x = .ref a ∧ DGet H a y w ∧ w.isSome = o.isSome ∧ (∀ z, o = some z → ∃ u, w = some u ∧ Rep K G ι u z) ∧ (o = none → w = none) := by
  unfold lookD at h
  cases r with
  | @ref n a q =>
    dsimp only at h
    split at h
    · rename_i kvs e
      obtain ⟨vs, h1, h2⟩ := S.cells n a _ q e
      obtain ⟨key, e1, e2⟩ := Option.map_eq_some_iff.mp h
      obtain ⟨v1, v2⟩ := h2.val key
      have ey := keyD_ok r2 e1
      subst ey
      subst e2
      exact ⟨a, _, rfl, DGet.k h1, h2.isS key, v1, v2⟩
    · rename_i kvs e
      obtain ⟨vs, h1, h2⟩ := S.cells n a _ q e
      split at h
      · rename_i ds
        obtain ⟨key, e1, e2⟩ := Option.map_eq_some_iff.mp h
        obtain ⟨v1, v2⟩ := h2.val key
        cases r2 with
        | @tup b ws _ g t =>
          have ey := keysD_ok t e1
          subst ey
          subst e2
          exact ⟨a, _, rfl, DGet.t h1 (S.sub _ _ g), h2.isS key, v1, v2⟩
      · cases h
    · cases h
  | _ => cases h
end
def dgetD (d k : D) : M D := fun η => match lookD η d k with
  | some (some z) => .ok z η
  | _ => .bad
def dget2D (d k x : D) : M D := fun η => match lookD η d k with
  | some o => .ok (o.getD x) η
  | none => .bad
def dinD (neg : Bool) (k d : D) : M D := fun η => match lookD η d k with
  | some o => .ok (.bl (if neg then !o.isSome else o.isSome)) η
  | none => .bad
def dsetD (d k y : D) : M Unit := fun η => match d with
  | .ref n => (match η[n]? with
    | some (.dic kvs) => (match keyD k with
      | some key => if kvs.length < LIM then .ok () (η.set n (.dic (putG kvs key y))) else .bad
      | none => .bad)
    | some (.dit kvs) => (match k with
      | .tup ds => (match keysD ds with
        | some key => if kvs.length < LIM then .ok () (η.set n (.dit (putG kvs key y))) else .bad
        | none => .bad)
      | _ => .bad)
    | _ => .bad)
  | _ => .bad
def dnewD (t : Bool) : M D := fun η => .ok (.ref η.length) (η ++ [if t then .dit [] else .dic []])
/-- a written table of texts -/
def shpD (tb : List (Str × Str)) : D → M D
  | .str z => fromO ((tb.lookup z).map .str)
  | _ => bad
def shpG (tb : List (Str × Str)) : D → M D
  | .str z => ret (match tb.lookup z with
    | some y => .str y
    | none => .non)
  | _ => bad
def shpIn (tb : List (Str × Str)) (neg : Bool) : D → M D
  | .str z => ret (.bl (if neg then !(tb.lookup z).isSome else (tb.lookup z).isSome))
  | _ => bad
/-- the fields of an instance of C -/
def fldsOf (η : List Cell) (C : Str) (d : D) : Option (List (Str × D)) := match d with
  | .ref n => (match η[n]? with
    | some (.ins C' fs) => if C' = C then some fs else none
    | _ => none)
  | _ => none
def fldD (C f : Str) (d : D) : M D := fun η => match (fldsOf η C d).bind fun fs => fs.lookup f with
  | some z => .ok z η
  | none => .bad
/-- it has a method of that name -/
def methD (C m : Str) (d : D) : M Unit := fun η => match fldsOf η C d with
  | some fs => if (fs.lookup m).isNone then .ok () η else .bad
  | none => .bad
def fsetD (C f : Str) (d y : D) : M Unit := fun η => match d with
  | .ref n => (match η[n]? with
    | some (.ins C' fs) => if C' = C ∧ fs.length < 1000 then .ok () (η.set n (.ins C (putFG f y fs))) else .bad
    | _ => .bad)
  | _ => .bad
/-- C(..): the instance, then __init__ -/
def makeD (C : Str) (init : List D → M D) (ds : List D) : M D := fun η => (init (.ref η.length :: ds) (η ++ [.ins C []])).bind fun d => match d with
  | .non => ret (.ref η.length)
  | _ => bad
section
variable {K : PySem.W.Frag} {G H : Hp} {ι : List Addr} {η : List Cell}
theorem fldsOf_ok {C : Str} {d : D} {x : V} {fs : List (Str × D)} (S : RS K G H ι η) (r : Rep K G ι x d) (h : fldsOf η C d = some fs) : ∃ n a dx vs, d = .ref n ∧ x = .ref a ∧ ι[n]? = some a ∧ η[n]? = some (.ins C fs) ∧ H a = some (.ins (He.ga K C) dx vs) ∧ KReps K G ι vs fs := by
  unfold fldsOf at h
  cases r with
  | @ref n a q =>
    dsimp only at h
    split at h
    · rename_i C' fs' e
      split at h
      · rename_i hC
        subst hC
        cases h
        obtain ⟨dx, vs, h1, h2⟩ := S.cells n a _ q e
        exact ⟨n, a, dx, vs, rfl, rfl, q, e, h1, h2⟩
      · cases h
    · cases h
  | _ => cases h
end
end Ms
end
section
set_option Elab.async false
set_option linter.all false
set_option maxRecDepth 100000
set_option maxHeartbeats 4000000
/-! The language: its code, what the code does with data. -/
namespace Ms
open PySem L2

inductive Bop where
  | add | sub | mul | fdiv | mod
  deriving DecidableEq
inductive Cop where
  | eq | ne | lt | le | gt | ge | is_ | isnt | in_ | notin
  deriving DecidableEq
/-- built-ins by name -/
inductive Bi where
  | len | int | list | listM | tuple | all | any | sum | min | max | str
  deriving DecidableEq
inductive Tn where
  | name (i : Nat) | tup (is : List Nat)
  deriving DecidableEq

mutual
inductive E where
  | loc (i : Nat)
  | cst (c : Const)
  | glob (x : Str) (c : Const)
  | bin (op : Bop) (a b : E)
  | cmp (op : Cop) (a b : E)
  | chain (o1 o2 : Cop) (a b c : E)
  | and_ (es : Es)
  | or_ (es : Es)
  | not_ (a : E)
  | neg (a : E)
  | ite (c a b : E)
  | tup (es : Es)
  | lst (m : Bool) (es : Es)
  | sub (a i : E)
  | slice (a : E) (lo hi : Eo)
  | rev (a : E)
  | call (f : Nat) (es : Es)
  | bi (b : Bi) (es : Es)
  | mt (m : Mt) (a : E) (es : Es)
  | isi (a : E) (T : String)
  | lc (m : Bool) (ws : List Nat) (tg : Tn) (it : It) (cond : Eo) (elt : E)
  | frz (a : E)
  /-- o.f, o an instance of C -/
  | fld (C : Str) (o : E) (f : Str)
  /-- o.m(..), C.m the def f -/
  | meth (f : Nat) (C m : Str) (o : E) (es : Es)
  /-- C(..), C.__init__ the def f -/
  | make (f : Nat) (C : Str) (es : Es)
  | dnew (t : Bool)
  | dget (d k : E)
  | dget2 (d k x : E)
  | din (neg : Bool) (k d : E)
  /-- a table of texts that the module has: x[k], x.get(k, None), k in x -/
  | shp (x : Str) (tb : List (Str × Str)) (k : E)
  | shpg (x : Str) (tb : List (Str × Str)) (k : E)
  | shpin (neg : Bool) (x : Str) (tb : List (Str × Str)) (k : E)
  /-- told(lambda: e), the table of code objects in cell i -/
  | told (i : Nat) (p : Str × Option Str) (q : Str) (e : E)
inductive Es where
  | nil | cons (e : E) (r : Es)
inductive Eo where
  | none | some (e : E)
inductive It where
  | val (e : E) | rng1 (a : E) | rng2 (a b : E) | rng3 (a b c : E) | enum (e : E) | zip (a b : E)
end
mutual
inductive S where
  | asg (tg : Tn) (e : E)
  | par (i j : Nat) (a b : E)
  | seti (o i e : E)
  | aug (i : Nat) (op : Bop) (e : E)
  | fset (C : Str) (o : E) (f : Str) (e : E)
  | faug (C : Str) (o : E) (f : Str) (op : Bop) (e : E)
  | dset (d k e : E)
  | sti2 (o1 i1 o2 i2 a b : E)
  | ex (e : E)
  | if_ (c : E) (a b : Ss)
  | for_ (tg : Tn) (it : It) (body : Ss)
  | while_ (c : E) (body : Ss)
  | ret (e : E)
  | retN
  | pass
  | never
  /-- raise C(..) -/
  | rais (c : Nat) (fs : List Str) (es : Es)
inductive Ss where
  | nil | cons (s : S) (r : Ss)
end

abbrev Env := List (Option D)
inductive Fl where
  | nx (ρ : Env) | rt (d : D)

def constD : Const → Option D
  | .none => some .non
  | .bool b => some (.bl b)
  | .int i => some (.int i)
  | .str s => some (.str s)
  | _ => none

def binD : Bop → D → D → M D
  | .add => addD
  | .sub => subD
  | .mul => mulD
  | .fdiv => fdivD
  | .mod => modD
def cmpD : Cop → D → D → M D
  | .eq => eqD
  | .ne => neD
  | .lt => ltD
  | .le => leD
  | .gt => gtD
  | .ge => geD
  | .is_ => isND
  | .isnt => notND
  | .in_ => inD false
  | .notin => inD true
def biD : Bi → List D → M D
  | .len => lenD
  | .int => intD
  | .list => listD
  | .listM => listMD
  | .tuple => tupleD
  | .all => allD
  | .any => anyD
  | .sum => sumD
  | .min => minD
  | .max => maxD
  | .str => strD
/-- op= on a name: a list's cell grows -/
def augD (op : Bop) (x y : D) : M D := fun η => match op, x with
  | .add, .ref n => (match η[n]?, asL η y with
    | some (.lst xs), some ys => if xs.length + ys.length ≤ LIM then .ok (.ref n) (η.set n (.lst (xs ++ ys))) else .bad
    | _, _ => .bad)
  | .add, .int i => (match y with
    | .int j => .ok (.int (i + j)) η
    | _ => .bad)
  | .sub, .int i => (match y with
    | .int j => .ok (.int (i - j)) η
    | _ => .bad)
  | _, _ => .bad
/-- op= on a field, by ints -/
def augI (op : Bop) (x y : D) : M D := match op, x, y with
  | .add, .int i, .int j => ret (.int (i + j))
  | .sub, .int i, .int j => ret (.int (i - j))
  | _, _, _ => bad
def asB (m : M D) : M Bool := bnd m fun d => match d with
  | .bl b => ret b
  | _ => bad
def asI (d : D) : M (Option Int) := match d with
  | .int i => ret (some i)
  | _ => bad
def frzD (d : D) : M D := match d with
  | .ref n => fun η => (match η[n]? with
    | some (.lst xs) => .ok (.fl xs) (η.set n .dead)
    | _ => .bad)
  | d => ret d
def newL (m : Bool) (ds : List D) : M D := fun η => if ds.length ≤ LIM then (if m then .ok (.ref η.length) (η ++ [.lst ds]) else .ok (.fl ds) η) else .bad
def negD : D → M D
  | .int i => ret (.int (-i))
  | _ => bad
def revD (d : D) : M D := fun η => match asL η d with
  | some xs => .ok (.fl xs.reverse) η
  | none => .bad

/-- what is walked -/
def itemsOf : D → Option (List D)
  | .str z => if z.length ≤ LIM then some (signs z) else none
  | .tup xs => some xs
  | .fl xs => some xs
  | .scr xs => some xs
  | _ => none
/-- lists that must stay as they are while they are walked -/
abbrev Gd := List (Nat × List D)
def gdOk (g : Gd) (η : List Cell) : Prop := ∀ p ∈ g, η[p.1]? = some (.lst p.2)
mutual
def dBeq : D → D → Bool
  | .non, .non => true
  | .bl a, .bl b => a == b
  | .int a, .int b => decide (a = b)
  | .str a, .str b => decide (a = b)
  | .tup a, .tup b => dsBeq a b
  | .fl a, .fl b => dsBeq a b
  | .scr a, .scr b => dsBeq a b
  | .ref a, .ref b => decide (a = b)
  | _, _ => false
def dsBeq : List D → List D → Bool
  | [], [] => true
  | a :: r, b :: s => dBeq a b && dsBeq r s
  | _, _ => false
end
mutual
theorem dBeq_eq : ∀ {a b : D}, dBeq a b = true → a = b
  | .non, .non, _ => rfl
  | .bl a, .bl b, h => congrArg D.bl (eq_of_beq h)
  | .int a, .int b, h => congrArg D.int (of_decide_eq_true h)
  | .str a, .str b, h => congrArg D.str (of_decide_eq_true h)
  | .tup a, .tup b, h => congrArg D.tup (dsBeq_eq (by simpa [dBeq] using h))
  | .fl a, .fl b, h => congrArg D.fl (dsBeq_eq (by simpa [dBeq] using h))
  | .scr a, .scr b, h => congrArg D.scr (dsBeq_eq (by simpa [dBeq] using h))
  | .ref a, .ref b, h => congrArg D.ref (of_decide_eq_true h)
theorem dsBeq_eq : ∀ {a b : List D}, dsBeq a b = true → a = b
  | [], [], _ => rfl
  | a :: r, b :: s, h => by
    simp only [dsBeq, Bool.and_eq_true] at h
    rw [dBeq_eq h.1, dsBeq_eq h.2]
end
mutual
theorem dBeq_refl : ∀ a : D, dBeq a a = true
  | .non => rfl
  | .bl a => by simp [dBeq]
  | .int a => by simp [dBeq]
  | .str a => by simp [dBeq]
  | .tup a => by rw [dBeq]; exact dsBeq_refl a
  | .fl a => by rw [dBeq]; exact dsBeq_refl a
  | .scr a => by rw [dBeq]; exact dsBeq_refl a
  | .ref a => by simp [dBeq]
theorem dsBeq_refl : ∀ a : List D, dsBeq a a = true
  | [] => rfl
  | a :: r => by rw [dsBeq, dBeq_refl a, dsBeq_refl r]; rfl
end
def gdB (g : Gd) (η : List Cell) : Bool := g.all fun p => match η[p.1]? with
  | some (.lst ys) => dsBeq ys p.2
  | _ => false
theorem gdB_ok {g : Gd} {η : List Cell} : gdB g η = true ↔ gdOk g η := by
  unfold gdB gdOk
  rw [List.all_eq_true]
  refine ⟨fun h p hp => ?_, fun h p hp => ?_⟩
  · have q := h p hp
    split at q
    · rename_i ys e
      rw [e, dsBeq_eq q]
    · cases q
  · rw [h p hp]
    exact dsBeq_refl _
def chkG (g : Gd) : M Unit := fun η => if gdB g η = true then .ok () η else .bad
/-- what is walked; a list that may change is guarded -/
def itemsG (d : D) (η : List Cell) : Option (List D × Gd) := match d with
  | .ref n => (match η[n]? with
    | some (.lst xs) => some (xs, [(n, xs)])
    | _ => none)
  | d => (itemsOf d).map fun xs => (xs, [])
def itVal (d : D) : M (List D × Gd) := fun η => match itemsG d η with
  | some r => .ok r η
  | none => .bad
def enumL : Nat → List D → List D
  | _, [] => []
  | n, d :: r => .tup [.int n, d] :: enumL (n + 1) r
def isScr : D → Bool
  | .scr _ => true
  | _ => false
def zItems (d : D) (η : List Cell) : Option (List D × Gd) := if isScr d then none else itemsG d η
def itEnum (d : D) : M (List D × Gd) := fun η => match zItems d η with
  | some (xs, g) => .ok (enumL 0 xs, g) η
  | none => .bad
def itZip (a b : D) : M (List D × Gd) := fun η => match zItems a η, zItems b η with
  | some (xs, g), some (ys, g2) => .ok (List.zipWith (fun x y => .tup [x, y]) xs ys, g ++ g2) η
  | _, _ => .bad
def itR1 : D → M (List D × Gd)
  | .int j => if -1000000 ≤ j ∧ j ≤ 1000000 then ret ((List.range j.toNat).map fun k => .int ((k : Nat) : Int), []) else bad
  | _ => bad
def itR2 : D → D → M (List D × Gd)
  | .int i, .int j => if -1000000 ≤ i ∧ i ≤ 1000000 ∧ -1000000 ≤ j ∧ j ≤ 1000000 then ret ((List.range (j - i).toNat).map fun k => .int (i + (k : Nat)), []) else bad
  | _, _ => bad
def itR3 : D → D → D → M (List D × Gd)
  | .int i, .int j, .int c => if c = -1 ∧ -1000000 ≤ i ∧ i ≤ 1000000 ∧ -1000000 ≤ j ∧ j ≤ 1000000 then ret ((List.range (i - j).toNat).map fun k => .int (i + (k : Nat) * -1), []) else bad
  | _, _, _ => bad

/-- names get what is handed -/
def setAll : List Nat → List D → Env → Option Env
  | [], [], ρ => some ρ
  | i :: is, d :: ds, ρ => setAll is ds (ρ.set i (some d))
  | _, _, _ => none
def bindT (tg : Tn) (d : D) (ρ : Env) : Option Env := match tg with
  | .name i => some (ρ.set i (some d))
  | .tup is => match d with
    | .tup ds => setAll is ds ρ
    | _ => none
def wipeD (ρ : Env) : List Nat → Env
  | [] => ρ
  | v :: vs => (wipeD ρ vs).set v none

/-- what is told of an error -/
def excNames : List Str := ["BadPaper", "BadWork", "BadStep", "BadCount", "NoWork", "BadText"]
def wordsOf {α : Type} (st : Str → α) (it : Int → α) (c : Nat) (fs : List (Str × α)) : Option (List α) := match c with
  | 0 => (match fs.lookup ("scheme" : Str), fs.lookup ("place" : Str) with
    | some a, some b => some [st "BadPaper", a, b]
    | _, _ => none)
  | 1 => (fs.lookup ("number" : Str)).map fun a => [st "BadWork", a]
  | 2 => some [st "BadStep", it 0]
  | 3 => some [st "BadCount", it 0]
  | 4 => some [st "NoWork", it 0]
  | 5 => (fs.lookup ("place" : Str)).map fun a => [st "BadText", a]
  | _ => none
def toldD (p : Str × Option Str) (q : Str) (i : Nat) (m : M D) : M D := fun η => match η[i]? with
  | some (.tab p' q') => if p' = p ∧ q' = q then (match m η with
    | .ok d η' => .ok d η'
    | .exc c fs η' => (match wordsOf D.str D.int c fs with
      | some ds => .ok (.tup ds) η'
      | none => .bad)
    | .bad => .bad) else .bad
  | _ => .bad
/-- an error with its fields -/
def raisD (c : Nat) (fs : List Str) (ds : List D) : M Fl := fun η => if ds.length = fs.length then .exc c (fs.zip ds).reverse η else .bad
/-- nothing is raised in here -/
def noX {α : Type} (m : M α) : M α := fun η => match m η with
  | .ok a η' => .ok a η'
  | _ => .bad
/-- a comprehension's turns -/
def lcL (g : Gd) (bind : D → Option Env) (cond : Env → M Bool) (elt : Env → M D) : List D → List D → M (List D)
  | [], acc => bnd (chkG g) fun _ => ret acc
  | d :: r, acc => bnd (chkG g) fun _ => match bind d with
    | none => bad
    | some ρ => bnd (noX (cond ρ)) fun b => if b then bnd (noX (elt ρ)) fun y => if acc.length < LIM then lcL g bind cond elt r (acc ++ [y]) else bad
      else lcL g bind cond elt r acc
def forL (g : Gd) (bind : D → Env → Option Env) (body : Env → M Fl) : List D → Env → M Fl
  | [], ρ => bnd (chkG g) fun _ => ret (.nx ρ)
  | d :: r, ρ => bnd (chkG g) fun _ => match bind d ρ with
    | none => bad
    | some ρ2 => bnd (body ρ2) fun fl => match fl with
      | .nx ρ3 => forL g bind body r ρ3
      | .rt v => ret (.rt v)
def whileL (test : Env → M Bool) (body : Env → M Fl) : Nat → Env → M Fl
  | 0, _ => bad
  | n + 1, ρ => bnd (test ρ) fun b => if b then bnd (body ρ) fun fl => (match fl with
      | .nx ρ3 => whileL test body n ρ3
      | .rt v => ret (.rt v))
    else ret (.nx ρ)
def WF : Nat := 1000000

section
variable (cf : Nat → List D → M D)
mutual
def evE : E → Env → M D
  | .loc i, ρ => fromO (ρ[i]?.join)
  | .cst c, _ => fromO (constD c)
  | .glob _ c, _ => fromO (constD c)
  | .bin op a b, ρ => bnd (evE a ρ) fun x => bnd (evE b ρ) fun y => binD op x y
  | .cmp op a b, ρ => bnd (evE a ρ) fun x => bnd (evE b ρ) fun y => cmpD op x y
  | .chain o1 o2 a b c, ρ => bnd (evE a ρ) fun x => bnd (evE b ρ) fun y => bnd (asB (cmpD o1 x y)) fun k => if k then bnd (evE c ρ) fun z => cmpD o2 y z else ret (.bl false)
  | .and_ es, ρ => evAnd es ρ
  | .or_ es, ρ => evOr es ρ
  | .not_ a, ρ => bnd (asB (evE a ρ)) fun b => ret (.bl (!b))
  | .neg a, ρ => bnd (evE a ρ) negD
  | .ite c a b, ρ => bnd (asB (evE c ρ)) fun k => if k then evE a ρ else evE b ρ
  | .tup es, ρ => bnd (evEs es ρ) fun ds => if ds.length ≤ LIM then ret (.tup ds) else bad
  | .lst m es, ρ => bnd (evEs es ρ) (newL m)
  | .sub a i, ρ => bnd (evE a ρ) fun x => bnd (evE i ρ) fun y => idxD x y
  | .slice a lo hi, ρ => bnd (evE a ρ) fun x => bnd (evO lo ρ) fun l => bnd (evO hi ρ) fun h => sliceD x l h
  | .rev a, ρ => bnd (evE a ρ) revD
  | .call f es, ρ => bnd (evEs es ρ) (cf f)
  | .bi b es, ρ => bnd (evEs es ρ) (biD b)
  | .mt m a es, ρ => bnd (evE a ρ) fun d => bnd (fun η => if recvOk m d η then .ok () η else .bad) fun _ => bnd (evEs es ρ) (mtD m d)
  | .isi a T, ρ => bnd (evE a ρ) (isiD T)
  | .lc m ws tg it cond elt, ρ => bnd (evIt it ρ) fun items => bnd (lcL items.2 (fun d => bindT tg d (wipeD ρ ws)) (evC cond) (evE elt) items.1 []) (newL m)
  | .frz a, ρ => bnd (evE a ρ) frzD
  | .fld C o f, ρ => bnd (evE o ρ) (fldD C f)
  | .meth f C m o es, ρ => bnd (evE o ρ) fun d => bnd (methD C m d) fun _ => bnd (evEs es ρ) fun ds => cf f (d :: ds)
  | .make f C es, ρ => bnd (evEs es ρ) (makeD C (cf f))
  | .dnew t, _ => dnewD t
  | .dget d k, ρ => bnd (evE d ρ) fun x => bnd (evE k ρ) fun y => dgetD x y
  | .dget2 d k x, ρ => bnd (evE d ρ) fun v => bnd (fun η => if isDic η v then .ok () η else .bad) fun _ => bnd (evE k ρ) fun y => bnd (evE x ρ) fun z => dget2D v y z
  | .din neg k d, ρ => bnd (evE k ρ) fun y => bnd (evE d ρ) fun x => dinD neg y x
  | .shp _ tb k, ρ => bnd (evE k ρ) (shpD tb)
  | .shpg _ tb k, ρ => bnd (evE k ρ) (shpG tb)
  | .shpin neg _ tb k, ρ => bnd (evE k ρ) (shpIn tb neg)
  | .told i p q e, ρ => toldD p q i (evE e ρ)
def evEs : Es → Env → M (List D)
  | .nil, _ => ret []
  | .cons e r, ρ => bnd (evE e ρ) fun d => bnd (evEs r ρ) fun ds => ret (d :: ds)
def evAnd : Es → Env → M D
  | .nil, _ => bad
  | .cons e .nil, ρ => evE e ρ
  | .cons e r, ρ => bnd (asB (evE e ρ)) fun k => if k then evAnd r ρ else ret (.bl false)
def evOr : Es → Env → M D
  | .nil, _ => bad
  | .cons e .nil, ρ => evE e ρ
  | .cons e r, ρ => bnd (asB (evE e ρ)) fun k => if k then ret (.bl true) else evOr r ρ
def evO : Eo → Env → M (Option Int)
  | .none, _ => ret none
  | .some e, ρ => bnd (evE e ρ) asI
/-- a comprehension's test -/
def evC : Eo → Env → M Bool
  | .none, _ => ret true
  | .some e, ρ => asB (evE e ρ)
def evIt : It → Env → M (List D × Gd)
  | .val e, ρ => bnd (evE e ρ) itVal
  | .rng1 a, ρ => bnd (evE a ρ) itR1
  | .rng2 a b, ρ => bnd (evE a ρ) fun x => bnd (evE b ρ) fun y => itR2 x y
  | .rng3 a b c, ρ => bnd (evE a ρ) fun x => bnd (evE b ρ) fun y => bnd (evE c ρ) fun z => itR3 x y z
  | .enum e, ρ => bnd (evE e ρ) itEnum
  | .zip a b, ρ => bnd (evE a ρ) fun x => bnd (evE b ρ) fun y => itZip x y
end
mutual
def evS : S → Env → M Fl
  | .asg tg e, ρ => bnd (evE cf e ρ) fun d => match bindT tg d ρ with
    | some ρ' => ret (.nx ρ')
    | none => bad
  | .par i j a b, ρ => bnd (evE cf a ρ) fun x => bnd (evE cf b ρ) fun y => ret (.nx ((ρ.set i (some x)).set j (some y)))
  | .seti o i e, ρ => bnd (evE cf e ρ) fun y => bnd (evE cf o ρ) fun d => bnd (evE cf i ρ) fun k => bnd (setD d k y) fun _ => ret (.nx ρ)
  | .aug i op e, ρ => bnd (fromO (ρ[i]?.join)) fun x => bnd (evE cf e ρ) fun y => bnd (augD op x y) fun z => ret (.nx (ρ.set i (some z)))
  | .fset C o f e, ρ => bnd (evE cf e ρ) fun y => bnd (evE cf o ρ) fun d => bnd (fsetD C f d y) fun _ => ret (.nx ρ)
  | .faug C o f op e, ρ => bnd (evE cf o ρ) fun d => bnd (fldD C f d) fun v => bnd (evE cf e ρ) fun y => bnd (augI op v y) fun z => bnd (fsetD C f d z) fun _ => ret (.nx ρ)
  | .dset d k e, ρ => bnd (evE cf e ρ) fun y => bnd (evE cf d ρ) fun v => bnd (evE cf k ρ) fun z => bnd (dsetD v z y) fun _ => ret (.nx ρ)
  | .sti2 o1 i1 o2 i2 a b, ρ => bnd (evE cf a ρ) fun x => bnd (evE cf b ρ) fun y => bnd (evE cf o1 ρ) fun d1 => bnd (evE cf i1 ρ) fun k1 => bnd (setD d1 k1 x) fun _ => bnd (evE cf o2 ρ) fun d2 => bnd (evE cf i2 ρ) fun k2 => bnd (setD d2 k2 y) fun _ => ret (.nx ρ)
  | .ex e, ρ => bnd (evE cf e ρ) fun _ => ret (.nx ρ)
  | .if_ c a b, ρ => bnd (asB (evE cf c ρ)) fun k => if k then evSs a ρ else evSs b ρ
  | .for_ tg it body, ρ => bnd (evIt cf it ρ) fun items => forL items.2 (bindT tg) (evSs body) items.1 ρ
  | .while_ c body, ρ => whileL (fun ρ => asB (evE cf c ρ)) (evSs body) WF ρ
  | .ret e, ρ => bnd (evE cf e ρ) fun d => ret (.rt d)
  | .retN, _ => ret (.rt .non)
  | .pass, ρ => ret (.nx ρ)
  | .never, _ => bad
  | .rais c fs es, ρ => bnd (evEs cf es ρ) (raisD c fs)
def evSs : Ss → Env → M Fl
  | .nil, ρ => ret (.nx ρ)
  | .cons s r, ρ => bnd (evS s ρ) fun fl => match fl with
    | .nx ρ' => evSs r ρ'
    | .rt d => ret (.rt d)
end
end

/-! ### cells that nobody needs -/
mutual
def dUnder (n : Nat) : D → Bool
  | .tup xs => dUnders n xs
  | .fl xs => dUnders n xs
  | .scr xs => dUnders n xs
  | .ref m => decide (m < n)
  | _ => true
def dUnders (n : Nat) : List D → Bool
  | [] => true
  | d :: r => dUnder n d && dUnders n r
end
def cUnder (n : Nat) : Cell → Bool
  | .lst xs => dUnders n xs
  | .dic kvs => dUnders n (kvs.map (·.2))
  | .dit kvs => dUnders n (kvs.map (·.2))
  | .ins _ fs => dUnders n (fs.map (·.2))
  | .tab _ _ => true
  | .dead => true
/-- what was laid since, forgotten, if it is no longer needed -/
def trunc (n : Nat) : Res D → Res D
  | .ok d η => if n ≤ η.length ∧ dUnder n d = true ∧ (η.take n).all (cUnder n) = true then .ok d (η.take n) else .ok d η
  | r => r
def runB : Res Fl → Res D
  | .ok (.nx _) η => .ok .non η
  | .ok (.rt d) η => .ok d η
  | .exc c fs η => .exc c fs η
  | .bad => .bad

/-- where lambdas are made: the table's cell, the def, the lambda's qualified name -/
structure LamI where
  i : Nat
  p : Str × Option Str
  q : Str
  deriving DecidableEq
structure FD where
  name : Str
  ps : List Str
  N : List Str
  code : Ss
  lam : Option LamI := none
  /-- a method: its class, its name there -/
  own : Option (Str × Str) := none
def startD (n : Nat) (ds : List D) : Env := ds.map some ++ List.replicate (n - ds.length) none
def evF (T : List FD) : Nat → Nat → List D → M D
  | 0 => fun _ _ => bad
  | k + 1 => fun f ds η => match T[f]? with
    | some fd => if ds.length = fd.ps.length then trunc η.length (runB (evSs (evF T k) fd.code (startD fd.N.length ds) η)) else .bad
    | none => .bad
end Ms
end
section
set_option Elab.async false
set_option linter.all false
set_option maxRecDepth 100000
set_option maxHeartbeats 4000000
/-! What the code's texts must be like. -/
namespace Ms
open PySem L2

def visB (sc : Scope) (x : Str) : Bool := match sc.names.lookup x with
  | some .local => true
  | some .cell => true
  | some .free => true
  | _ => false
def glB (sc : Scope) (x : Str) : Bool := match sc.names.lookup x with
  | some .globalImplicit => true
  | _ => false
def nameB (x : Str) : Bool := !(x == ("__debug__" : Str)) && !(x == ("__classdict__" : Str))
theorem visB_ok {sc : Scope} {x : Str} (h : visB sc x = true) : Vis sc x := by
  unfold visB at h
  split at h <;> first | exact .inl (by assumption) | exact .inr (.inl (by assumption)) | exact .inr (.inr (by assumption)) | cases h
theorem glB_ok {X : Cx} {x : Str} (h : glB X.env.scope x = true) : Gl X x := by
  unfold glB at h
  split at h
  · assumption
  · cases h
theorem nameB_ok {x : Str} (h : nameB x = true) : (x == ("__debug__" : Str)) = false ∧ (x == ("__classdict__" : Str)) = false := by
  simp only [nameB, Bool.and_eq_true, Bool.not_eq_true'] at h
  exact h
/-- no star ahead of it -/
def noStar : Expr → Bool
  | .Starred _ _ => false
  | _ => true
theorem noStar_ok {e : Expr} {es : List Expr} {env : PySem.Env} (h : noStar e = true) : starEach (e :: es) env = (false, eval e env) :: starEach es env := by
  cases e <;> first | rfl | cases h
/-- a subscript that is no slice -/
def noSlice : Expr → Bool
  | .Slice _ _ _ _ => false
  | _ => true
theorem noSlice_ok {e : Expr} (h : noSlice e = true) : PlainIx e := by
  intro o i
  cases e <;> first | rfl | cases h
def noSet : Expr → Bool
  | .Set _ _ _ => false
  | _ => true
theorem noSet_folded {e : Expr} {env : PySem.Env} (h : noSet e = true) (x : Value) : foldedSetIterable e env x = pure x := by
  cases e <;> first | rfl | cases h
theorem noSet_behind {e : Expr} {op : CmpOp} (h : noSet e = true) : behindInMarks op e = false := by
  cases e <;> first | rfl | cases h
/-- a receiver that is not super() -/
def noSuper : Expr → Bool
  | .Call (.Name x _) [] [] _ => !(x == ("super" : Str))
  | _ => true
theorem noSuper_ok {e : Expr} {f : Str} {env : PySem.Env} (h : noSuper e = true) : attributeBase e f env (eval e env) = eval e env := by
  unfold noSuper at h
  unfold attributeBase
  split at h
  · simp only [Bool.not_eq_true'] at h
    have h2 : (bne ‹Str› ("super" : Str)) = true := by
      simp only [bne, h, Bool.not_false]
    simp only [h2, Bool.true_or, if_true]
  · rename_i hne
    split
    · rename_i x p1 p2
      exact absurd rfl (hne _ _ _)
    · rfl
def noComp : Expr → Bool
  | .ListComp _ _ _ _ => false
  | .SetComp _ _ _ _ => false
  | .DictComp _ _ _ _ _ => false
  | _ => true
theorem noComp_ok {e : Expr} {t : Option Expr} {l : Nat} {env : PySem.Env} (h : noComp e = true) : swapsWith e t l env = pure false := by
  cases e <;> first | rfl | cases h
/-- tests that are read by their truth -/
def plainT : Expr → Bool
  | .UnaryOp .Not _ _ => false
  | .BoolOp _ _ _ => false
  | .IfExp _ _ _ _ => false
  | .Compare _ _ _ _ => false
  | _ => true
theorem plainT_ok {e : Expr} {env : PySem.Env} (h : plainT e = true) (w : Sem Value) : isTrue e env w = (do let v ← w; standAt e.pos; holding [v] (truthy v)) := by
  cases e <;> first | rfl | cases h | (rename_i op a p; cases op <;> first | rfl | cases h)

/-- ops by name -/
def Bop.op : Bop → Operator
  | .add => .Add
  | .sub => .Sub
  | .mul => .Mult
  | .fdiv => .FloorDiv
  | .mod => .Mod
def Cop.op : Cop → CmpOp
  | .eq => .Eq
  | .ne => .NotEq
  | .lt => .Lt
  | .le => .LtE
  | .gt => .Gt
  | .ge => .GtE
  | .is_ => .Is
  | .isnt => .IsNot
  | .in_ => .In
  | .notin => .NotIn
def Bi.name : Bi → Str
  | .len => "len"
  | .int => "int"
  | .list => "list"
  | .listM => "list"
  | .tuple => "tuple"
  | .all => "all"
  | .any => "any"
  | .sum => "sum"
  | .min => "min"
  | .max => "max"
  | .str => "str"
/-- a built-in class -/
def Bi.ty : Bi → Bool
  | .int => true
  | .list => true
  | .listM => true
  | .tuple => true
  | .str => true
  | _ => false
def isTys : List String := ["bool", "int", "str", "tuple", "list"]
def builtinNames : List Str := ["len", "int", "list", "tuple", "all", "any", "sum", "min", "max", "isinstance", "range", "enumerate", "zip", "bool", "str", "set", "sorted"]

/-- no parameters -/
def noArgs (a : Arguments) : Bool := a.posonlyargs.isEmpty && a.args.isEmpty && a.vararg.isNone && a.kwonlyargs.isEmpty && a.kw_defaults.isEmpty && a.kwarg.isNone && a.defaults.isEmpty
/-- what the module has: defs and constants -/
structure Tab where
  fns : List FD
  cs : List (Str × Const)
  /-- errors: their names, their fields -/
  xs : List (Nat × Str × List Str) := []
  /-- the def that tells of errors -/
  told : Str := "told"
  lam : Option LamI := none
  /-- own classes: their names, the names of their instances' fields -/
  cls : List (Str × List Str) := []
  /-- written dicts of texts -/
  shs : List (Str × List (Str × Str)) := []

/-- slots by name -/
def ownOf (N : List Str) (ws : List Nat) : List (Str × Nat) := ws.map fun i => (N.getD i Str.empty, i)
theorem ownOf_slots (N : List Str) (ws : List Nat) : (ownOf N ws).map (·.2) = ws := by
  unfold ownOf
  rw [List.map_map]
  exact List.map_id _
section
variable (T : Tab) (N : List Str)
/-- the def f is C.m -/
def isMeth (f : Nat) (C m : Str) : Bool := match T.fns[f]? with
  | some fd => decide (fd.own = some (C, m))
  | none => false
def hasCls (C : Str) : Bool := T.cls.any fun q => decide (q.1 = C)
def hasFld (C f : Str) : Bool := T.cls.any fun q => decide (q.1 = C) && q.2.contains f
/-- targets -/
def chkN (sc : Scope) (i : Nat) : Expr → Bool
  | .Name x _ => decide (N[i]? = some x) && (match sc.names.lookup x with
    | some .local => true
    | some .cell => true
    | _ => false)
  | _ => false
def chkNs (sc : Scope) : List Nat → List Expr → Bool
  | [], [] => true
  | i :: is, e :: es => chkN N sc i e && chkNs sc is es
  | _, _ => false
def chkTn (sc : Scope) : Tn → Expr → Bool
  | .name i, e => chkN N sc i e
  | .tup is, .Tuple es _ _ => chkNs N sc is es
  | _, _ => false
def isTuple : Expr → Bool
  | .Tuple _ _ _ => true
  | _ => false
end
mutual
def chkE (T : Tab) (N : List Str) (sc : Scope) : E → Expr → Bool
  | .loc i, .Name x _ => decide (N[i]? = some x) && visB sc x && nameB x
  | .cst c, .Constant c' _ _ => decide (c = c') && (constD c).isSome
  | .glob x c, .Name y _ => decide (x = y) && glB sc y && nameB y && decide ((x, c) ∈ T.cs)
  | .bin op a b, .BinOp l o r _ => decide (o = op.op) && chkE T N sc a l && chkE T N sc b r
  | .cmp op a b, .Compare l [o] [r] _ => decide (o = op.op) && chkE T N sc a l && chkE T N sc b r && noSet r
  | .chain o1 o2 a b c, .Compare l [p1, p2] [r, z] _ => decide (p1 = o1.op) && decide (p2 = o2.op) && chkE T N sc a l && chkE T N sc b r && chkE T N sc c z && noSet z
  | .and_ es, .BoolOp .And vs _ => chkB T N sc es vs
  | .or_ es, .BoolOp .Or vs _ => chkB T N sc es vs
  | .not_ a, .UnaryOp .Not x _ => chkE T N sc a x
  | .neg a, .UnaryOp .USub x _ => chkE T N sc a x
  | .ite c a b, .IfExp t x y _ => chkT T N sc c t && chkE T N sc a x && chkE T N sc b y
  | .tup es, .Tuple xs _ _ => chkEs T N sc es xs
  | .lst _ es, .List xs _ => chkEs T N sc es xs
  | .sub a i, .Subscript v s _ => chkE T N sc a v && chkE T N sc i s && noSlice s
  | .slice a lo hi, .Subscript v (.Slice l h none _) _ => chkE T N sc a v && chkO T N sc lo l && chkO T N sc hi h
  | .rev a, .Subscript v (.Slice none none (some (.UnaryOp .USub (.Constant (.int 1) _ _) _)) _) _ => chkE T N sc a v
  | .call f es, .Call (.Name x _) xs [] _ => (match T.fns[f]? with
    | some fd => decide (fd.own = none) && decide (fd.name = x) && glB sc x && nameB x && chkEs T N sc es xs && !xs.isEmpty
    | none => false)
  | .bi b es, .Call (.Name x _) xs [] _ => decide (b.name = x) && glB sc x && chkEs T N sc es xs && !xs.isEmpty
  | .mt m a es, .Call (.Attribute o n ap) xs [] p => decide (m.name = n) && chkE T N sc a o && noSuper o && chkEs T N sc es xs && (ap.endLine == p.line) && (if m.nul then xs.isEmpty else (xs.length == 1))
  | .isi a ty, .Call (.Name x _) [v, .Name y _] [] _ => decide (x = ("isinstance" : Str)) && glB sc x && chkE T N sc a v && noStar v && decide (y = PySem.Str.ofString ty) && glB sc y && decide (ty ∈ isTys)
  | .lc _ ws tg it cond elt, .ListComp e [⟨t, i, ifs, 0⟩] scope _ => blkC N sc scope (ownOf N ws) && chkTn N (relS scope sc) tg t && chkTn N scope tg t && (match tg with
      | .name j => decide (j ∈ ws)
      | .tup js => js.all fun j => decide (j ∈ ws)) && chkIt T N sc it t i && chkC T N (relS scope sc) cond ifs && chkE T N (relS scope sc) elt e && noSet i
  | .fld C a f, .Attribute v n _ => decide (f = n) && chkE T N sc a v && noSuper v && hasFld T C f
  | .meth f C m a es, .Call (.Attribute o n ap) xs [] p => isMeth T f C m && decide (m = n) && chkE T N sc a o && noSuper o && chkEs T N sc es xs && (ap.endLine == p.line) && decide (xs.length < 29) && hasCls T C
  | .make f C es, .Call (.Name x _) xs [] _ => isMeth T f C "__init__" && decide (C = x) && glB sc x && nameB x && chkEs T N sc es xs && !xs.isEmpty && hasCls T C
  | .dnew _, .Dict [] [] _ => true
  | .dget d k, .Subscript v s _ => chkE T N sc d v && chkE T N sc k s && noSlice s
  | .dget2 d k x, .Call (.Attribute o n ap) [u, w] [] p => decide (n = ("get" : Str)) && chkE T N sc d o && noSuper o && chkE T N sc k u && noStar u && chkE T N sc x w && noStar w && (ap.endLine == p.line)
  | .din neg k d, .Compare l [o] [r] _ => decide (o = if neg then .NotIn else .In) && chkE T N sc k l && chkE T N sc d r && noSet r
  | .shp x tb k, .Subscript (.Name y _) s _ => decide (x = y) && glB sc y && nameB y && decide ((x, tb) ∈ T.shs) && chkE T N sc k s && noSlice s
  | .shpg x tb k, .Call (.Attribute (.Name y _) n ap) [u, .Constant c _ _] [] p => decide (x = y) && glB sc y && nameB y && decide ((x, tb) ∈ T.shs) && decide (n = ("get" : Str)) && chkE T N sc k u && noStar u && decide (c = .none) && (ap.endLine == p.line)
  | .shpin neg x tb k, .Compare l [o] [.Name y _] _ => decide (o = if neg then .NotIn else .In) && chkE T N sc k l && decide (x = y) && glB sc y && nameB y && decide ((x, tb) ∈ T.shs)
  | .frz a, e => chkE T N sc a e
  | .told i p q a, .Call (.Name x _) [.Lambda pr b scope _] [] _ => decide (T.lam = some ⟨i, p, q⟩) && decide (x = T.told) && glB sc x && nameB x && noArgs pr && LamX.lamSB sc scope && chkE { T with lam := none } N scope a b
  | _, _ => false
/-- as a test -/
def chkT (T : Tab) (N : List Str) (sc : Scope) : E → Expr → Bool
  | .cmp op a b, .Compare l [o] [r] _ => decide (o = op.op) && chkE T N sc a l && chkE T N sc b r && noSet r
  | .chain o1 o2 a b c, .Compare l [p1, p2] [r, z] _ => decide (p1 = o1.op) && decide (p2 = o2.op) && chkE T N sc a l && chkE T N sc b r && chkE T N sc c z && noSet z
  | .and_ es, .BoolOp .And vs _ => chkTB T N sc es vs
  | .or_ es, .BoolOp .Or vs _ => chkTB T N sc es vs
  | .not_ a, .UnaryOp .Not x _ => chkT T N sc a x
  | .loc i, .Name x _ => decide (N[i]? = some x) && visB sc x && nameB x
  | .sub a i, .Subscript v s _ => chkE T N sc a v && chkE T N sc i s && noSlice s
  | .meth f C m a es, .Call (.Attribute o n ap) xs [] p => isMeth T f C m && decide (m = n) && chkE T N sc a o && noSuper o && chkEs T N sc es xs && (ap.endLine == p.line) && decide (xs.length < 29) && hasCls T C
  | .din neg k d, .Compare l [o] [r] _ => decide (o = if neg then .NotIn else .In) && chkE T N sc k l && chkE T N sc d r && noSet r
  | .shpin neg x tb k, .Compare l [o] [.Name y _] _ => decide (o = if neg then .NotIn else .In) && chkE T N sc k l && decide (x = y) && glB sc y && nameB y && decide ((x, tb) ∈ T.shs)
  | .call f es, .Call (.Name x _) xs [] _ => (match T.fns[f]? with
    | some fd => decide (fd.own = none) && decide (fd.name = x) && glB sc x && nameB x && chkEs T N sc es xs && !xs.isEmpty
    | none => false)
  | .bi b es, .Call (.Name x _) xs [] _ => decide (b.name = x) && glB sc x && chkEs T N sc es xs && !xs.isEmpty
  | .isi a ty, .Call (.Name x _) [v, .Name y _] [] _ => decide (x = ("isinstance" : Str)) && glB sc x && chkE T N sc a v && noStar v && decide (y = PySem.Str.ofString ty) && glB sc y && decide (ty ∈ isTys)
  | _, _ => false
def chkEs (T : Tab) (N : List Str) (sc : Scope) : Es → List Expr → Bool
  | .nil, [] => true
  | .cons e r, x :: xs => chkE T N sc e x && noStar x && chkEs T N sc r xs
  | _, _ => false
/-- and, or as values: all but the last one tests by value -/
def chkB (T : Tab) (N : List Str) (sc : Scope) : Es → List Expr → Bool
  | .cons e .nil, [x] => chkE T N sc e x
  | .cons e r, x :: xs => chkE T N sc e x && chkB T N sc r xs
  | _, _ => false
def chkTB (T : Tab) (N : List Str) (sc : Scope) : Es → List Expr → Bool
  | .cons e .nil, [x] => chkT T N sc e x
  | .cons e r, x :: xs => chkT T N sc e x && chkTB T N sc r xs
  | _, _ => false
def chkO (T : Tab) (N : List Str) (sc : Scope) : Eo → Option Expr → Bool
  | .none, none => true
  | .some e, some x => chkE T N sc e x
  | _, _ => false
def chkC (T : Tab) (N : List Str) (sc : Scope) : Eo → List Expr → Bool
  | .none, [] => true
  | .some e, [x] => chkT T N sc e x
  | _, _ => false
def chkIt (T : Tab) (N : List Str) (sc : Scope) : It → Expr → Expr → Bool
  | .val e, _, x => chkE T N sc e x
  | .rng1 a, _, .Call (.Name x _) [u] [] _ => decide (x = ("range" : Str)) && glB sc x && chkE T N sc a u && noStar u
  | .rng2 a b, _, .Call (.Name x _) [u, v] [] _ => decide (x = ("range" : Str)) && glB sc x && chkE T N sc a u && noStar u && chkE T N sc b v && noStar v
  | .rng3 a b c, _, .Call (.Name x _) [u, v, w] [] _ => decide (x = ("range" : Str)) && glB sc x && chkE T N sc a u && noStar u && chkE T N sc b v && noStar v && chkE T N sc c w && noStar w
  | .enum e, t, .Call (.Name x _) [v] [] _ => decide (x = ("enumerate" : Str)) && glB sc x && chkE T N sc e v && noStar v && isTuple t
  | .zip a b, t, .Call (.Name x _) [v, u] [] _ => decide (x = ("zip" : Str)) && glB sc x && chkE T N sc a v && noStar v && chkE T N sc b u && noStar u && isTuple t
  | _, _, _ => false
end
section
variable (T : Tab) (N : List Str)
/-- name = [..] on one line -/
def lcAsg (sc : Scope) (e : E) (tg v : Expr) : Bool := match e, tg, v with
  | .lc _ _ _ _ _ _, .Name y p, .ListComp _ _ scope pos => decide (sc.names.lookup y = some .local) && (p.line == pos.line) && !(scope.names.any fun (n, k) => n == y && (k == .local || k == .cell))
  | _, _, _ => false
/-- no stores by turns -/
def cellNm (sc : Scope) : Expr → Bool
  | .Name x _ => decide (sc.names.lookup x = some .cell)
  | _ => false
def plainAsg (sc : Scope) (tg v : Expr) : Bool := match tg, v with
  | .Tuple ts _ _, .Tuple _ _ _ => ts.any (cellNm sc)
  | .List _ _, _ => false
  | _, _ => true
def chkPar (sc : Scope) (i j : Nat) (a b : E) : List Expr → Expr → Bool
  | [.Tuple [.Name x p1, .Name y p2] _ _], .Tuple [u, v] _ _ => decide (N[i]? = some x) && decide (N[j]? = some y) && decide (i ≠ j) && decide (sc.names.lookup x = some .local) && decide (sc.names.lookup y = some .local) &&
      chkE T N sc a u && chkE T N sc b v && noStar u && noStar v && decide (x ≠ y) && (p1.line == p2.line) && !([u, v].all (foldedForSure 8)) && !([u, v].all (constantsAlone 8))
  | _, _ => false
def chkSeti (sc : Scope) (o i e : E) : List Expr → Expr → Bool
  | [.Subscript x y _], v => chkE T N sc o x && chkE T N sc i y && noSlice y && chkE T N sc e v
  | _, _ => false
def chkFset (sc : Scope) (C : Str) (o : E) (f : Str) (e : E) : List Expr → Expr → Bool
  | [.Attribute x n _], v => decide (f = n) && chkE T N sc o x && hasFld T C f && chkE T N sc e v && noComp v
  | _, _ => false
def chkSti2 (sc : Scope) (o1 i1 o2 i2 a b : E) : List Expr → Expr → Bool
  | [.Tuple [.Subscript x1 y1 _, .Subscript x2 y2 _] _ _], .Tuple [u, v] _ _ => chkE T N sc o1 x1 && chkE T N sc i1 y1 && noSlice y1 && chkE T N sc o2 x2 && chkE T N sc i2 y2 && noSlice y2 && chkE T N sc a u && chkE T N sc b v && noStar u && noStar v
  | _, _ => false
mutual
def chkS (sc : Scope) : S → Stmt → Bool
  | .asg tg e, .Assign [t] v _ => chkTn N sc tg t && chkE T N sc e v && plainAsg sc t v && (noComp v || lcAsg sc e t v)
  | .par i j a b, .Assign ts v _ => chkPar T N sc i j a b ts v
  | .seti o i e, .Assign ts v _ => chkSeti T N sc o i e ts v
  | .aug i op e, .AugAssign (.Name x _) o v _ => chkN N sc i (.Name x ⟨0, 0, 0, 0⟩) && decide (o = op.op) && (match op with
      | .add => true
      | .sub => true
      | _ => false) && chkE T N sc e v
  | .fset C o f e, .Assign ts v _ => chkFset T N sc C o f e ts v
  | .faug C o f op e, .AugAssign (.Attribute x n _) q v _ => decide (f = n) && decide (q = op.op) && chkE T N sc o x && hasFld T C f && chkE T N sc e v && (match op with
      | .add => true
      | .sub => true
      | _ => false)
  | .dset d k e, .Assign ts v _ => chkSeti T N sc d k e ts v && noComp v
  | .sti2 o1 i1 o2 i2 a b, .Assign ts v _ => chkSti2 T N sc o1 i1 o2 i2 a b ts v
  | .ex e, .Expr v _ => chkE T N sc e v && noComp v
  | .if_ c a b, .If t x y _ => chkT T N sc c t && chkSs sc a x && chkSs sc b y
  | .for_ tg it body, .For t i b [] _ => chkTn N sc tg t && chkIt T N sc it t i && chkSs sc body b && noSet i
  | .while_ c body, .While t b [] _ => chkT T N sc c t && chkSs sc body b
  | .ret e, .Return (some v) _ => chkE T N sc e v
  | .retN, .Return none _ => true
  | .pass, .Pass _ => true
  | .never, _ => true
  | .rais c fs es, .Raise (some (.Call (.Name x _) xs [] _)) none _ => decide ((c, x, fs) ∈ T.xs) && glB sc x && nameB x && chkEs T N sc es xs && !xs.isEmpty && decide (fs.length ≤ 1000)
  | _, _ => false
def chkSs (sc : Scope) : Ss → List Stmt → Bool
  | .nil, [] => true
  | .cons s r, x :: xs => chkS sc s x && chkSs sc r xs
  | _, _ => false
end
end
end Ms
end
section
set_option Elab.async false
set_option linter.all false
set_option maxRecDepth 100000
set_option maxHeartbeats 4000000
/-! The readings of expressions by data. -/
namespace Ms
open PySem L2

theorem PE.imp {X : Cx} {e : Expr} {t t' : TE} (h : PE X e t) (hi : ∀ σ H Q, t' σ H Q → t σ H Q) : PE X e t' := ⟨fun pins s σ H Q I q => h.run pins s σ H Q I (hi _ _ _ q)⟩
theorem PT.imp {X : Cx} {e : Expr} {t t' : TT} (h : PT X e t) (hi : ∀ σ H Q, t' σ H Q → t σ H Q) : PT X e t' := ⟨fun pins s σ H Q I q => h.run pins s σ H Q I (hi _ _ _ q)⟩
theorem PW.imp {X : Cx} {e : Expr} {t t' : TT} (h : PW X e t) (hi : ∀ σ H Q, t' σ H Q → t σ H Q) : PW X e t' := ⟨fun w pins s σ H Q I q => h.run w pins s σ H Q I (hi _ _ _ q)⟩
theorem PA.imp {X : Cx} {e : List Expr} {t t' : TA} (h : PA X e t) (hi : ∀ σ H Q, t' σ H Q → t σ H Q) : PA X e t' := ⟨fun p pins s σ H Q I q => h.run p pins s σ H Q I (hi _ _ _ q)⟩
theorem PO.imp {X : Cx} {e : Option Expr} {t t' : TO} (h : PO X e t) (hi : ∀ σ H Q, t' σ H Q → t σ H Q) : PO X e t' := ⟨fun pins s σ H Q I q => h.run pins s σ H Q I (hi _ _ _ q)⟩
theorem PTs.imp {X : Cx} {e : List Expr} {t t' : TT} (h : PTs X e t) (hi : ∀ σ H Q, t' σ H Q → t σ H Q) : PTs X e t' := ⟨fun pins s σ H Q I q => h.run pins s σ H Q I (hi _ _ _ q)⟩
theorem PI.imp {X : Cx} {tg e : Expr} {t t' : TI} (h : PI X tg e t) (hi : ∀ σ H R, t' σ H R → t σ H R) : PI X tg e t' := ⟨fun pins s σ H Q I q => h.run pins s σ H Q I (hi _ _ _ q)⟩

/-- a walk over data -/
def ItOk (K : PySem.W.Frag) (G : Hp) (ι : List Addr) (J : L2.It) (ds : List D) (g : Gd) : Prop :=
  Walk J ds.length (fun H2 => ∃ G2 ι2 η2, Ext G ι G2 ι2 ∧ RS K G2 H2 ι2 η2 ∧ gdOk g η2)
    (fun i H2 x H3 => ∀ G2 ι2 η2 d, Ext G ι G2 ι2 → RS K G2 H2 ι2 η2 → gdOk g η2 → ds[i]? = some d → ∃ G3, Stp G2 H2 ι2 G3 H3 ι2 ∧ RS K G3 H3 ι2 η2 ∧ Rep K G3 ι2 x d)

section
variable (cls : Nat → Addr) (K : PySem.W.Frag) (W : WX)
def tE (f : Env → M D) : TE := fun σ H Q => ∃ G ι η ρ, RS K G H ι η ∧ Slots K G ι σ ρ ∧ PV cls K G H ι (f ρ η) Q (fun c d H' => W c d σ H')
def tA (f : Env → M (List D)) : TA := fun σ H Q => ∃ G ι η ρ, RS K G H ι η ∧ Slots K G ι σ ρ ∧ Post cls K G H ι (f ρ η) (fun ds G' ι' _ H' => ∀ vs, Reps K G' ι' vs ds → Q vs H') (fun c d H' => W c d σ H')
def tT (f : Env → M Bool) : TT := fun σ H Q => ∃ G ι η ρ, RS K G H ι η ∧ Slots K G ι σ ρ ∧ Post cls K G H ι (f ρ η) (fun b _ _ _ H' => Q b H') (fun c d H' => W c d σ H')
def tO (f : Env → M (Option Int)) : TO := fun σ H Q => ∃ G ι η ρ, RS K G H ι η ∧ Slots K G ι σ ρ ∧ Post cls K G H ι (f ρ η) (fun o _ _ _ H' => Q o H') (fun c d H' => W c d σ H')
def tI (f : Env → M (List D × Gd)) : TI := fun σ H R => ∃ G ι η ρ, RS K G H ι η ∧ Slots K G ι σ ρ ∧ Post cls K G H ι (f ρ η) (fun ds G' ι' _ H' => ∀ J, ItOk K G' ι' J ds.1 ds.2 → R J H') (fun c d H' => W c d σ H')
end

/-- a def's promise: its data are reckoned by m -/
def spF (cls : Nat → Addr) (K : PySem.W.Frag) (np : Nat) (m : List D → M D) : Sp := fun vs H Q E => vs.length = np ∧ ∃ G ι η ds, RS K G H ι η ∧ Reps K G ι vs ds ∧ PV cls K G H ι (m ds η) Q (fun c d H' => E c d H')

/-- what C.__init__ does: the fields are put -/
def spX (K : PySem.W.Frag) (C : Addr) (fs : List Str) : Sp := fun vs H Q _ => ∃ (a : Addr) (ws : List V), vs = .ref a :: ws ∧ ws.length = fs.length ∧ H a = some (exo a C none) ∧
  ∀ d, H d = none → d ≠ a → Q .non (upd (upd H d (exd d (fs.zip ws).reverse)) a (exo a C (some d)))
/-- an error's class, ready to be made -/
def ExcF (P : Program) (w : World) (K : PySem.W.Frag) (mg : Str → Option Value) (base : Heap) (C : Addr) (fs : List Str) : Prop :=
  OexC K C ∧ ∃ (fI : Addr) (dt : FuncData) (ps : List Str), PySem.W.findIn K (.ref C) "__init__" = some (some (.ref fI)) ∧ PySem.W.typeIn K (.ref fI) = some (.type "function") ∧ Binds K dt ps [] ∧ FnOk P w K mg base (L2.CX P w) 1 fI dt ps (spX K C fs)
/-- what an error comes to when it is told -/
def TTD (K : PySem.W.Frag) (cls : Nat → Addr) : (XK → Hp → VK → Prop) → Hp → VK → Prop := fun tl H Q =>
  tl (fun cl d H' => ∃ (c : Nat) (dx : Addr) (fvs : List (Str × V)) (ws : List V), cl = .ref (cls c) ∧ d = some dx ∧ H' dx = some (.xd fvs) ∧ wordsOf V.str V.int c fvs = some ws ∧ ∀ (H2 : Hp) (p : Addr), Same H' H2 → H' p = none → H2 p = some (.tup ws) → Q (.ref p) H2) H Q
/-- the def that tells -/
def ToldF (cls : Nat → Addr) (x : Str) (X : Cx) : Prop := ∃ (g : Addr) (pg : Arguments) (bg : List Stmt) (sg : Scope) (dV kV doc pm cdv ct oc : Value) (an od : Option Addr) (osl : Array (Option Value)) (Ng : List Str) (a : Str),
  X.mg x = some (.ref g) ∧ PySem.W.keepIn X.K (.ref g) = true ∧ X.K.lookup g = some ⟨oc, od, .func (PySem.W.fnOf x x pg bg sg dV kV doc pm an cdv ct), osl⟩ ∧ PySem.W.codeIn X.K cdv x = true ∧ L2.Binds X.K (PySem.W.fnOf x x pg bg sg dV kV doc pm an cdv ct) [a] [] ∧ FnScope Ng [a] sg ∧
    Ng[0]? = some a ∧ Vis sg a ∧ (a == ("__debug__" : Str)) = false ∧ (a == ("__classdict__" : Str)) = false ∧ ∀ q, LamX.GivesTo X Ng x sg g cdv bg a q (TTD X.K cls)

/-- where a def is found -/
structure FnAt (K : PySem.W.Frag) (mg : Str → Option Value) (fd : FD) (a : Addr) : Prop where
  gl : fd.own = none → mg fd.name = some (.ref a) ∧ PySem.W.keepIn K (.ref a) = true
  me : ∀ C m, fd.own = some (C, m) → Meth K (He.ga K C) m a
  made : ∀ C, fd.own = some (C, ("__init__" : Str)) → Mk K (He.ga K C) a
/-- what an own class is like -/
structure ClsAt (K : PySem.W.Frag) (mg : Str → Option Value) (C : Str) (fs : List Str) : Prop where
  gl : mg C = some (.ref (He.ga K C))
  cl : Cls K (He.ga K C)
  no : ∀ f ∈ fs, NoAttr K (He.ga K C) f
/-- a written dict of texts -/
def ShAt (K : PySem.W.Frag) (w : World) (mg : Str → Option Value) (x : Str) (tb : List (Str × Str)) : Prop := ∃ d es n, mg x = some (.ref d) ∧ KDict K w d es n ∧
  ∀ z, ∃ r, PySem.W.nsIn K d z = some r ∧ (∀ y, tb.lookup z = some y → ∃ t, r = some (.str y t)) ∧ (tb.lookup z = none → r = none)
/-- where code stands -/
structure CtxD (T : Tab) (cls : Nat → Addr) (k : Nat) (X : Cx) (N : List Str) (sc : Scope) (W : WX) : Prop where
  nEq : X.N = N
  nd : N.Nodup
  scEq : X.env.scope = sc
  kind : sc.kind = .function
  calm : X.calm = true
  room : Room (4 * k + 3) X.A
  tk : Takes X W
  glo : ∀ x c, (x, c) ∈ T.cs → ∃ u d, X.mg x = some u ∧ constD c = some d ∧ RelV (vOf d) u ∧ flatD d = true
  bl : ∀ x ∈ builtinNames, X.mg x = none
  fn : ∀ f fd, T.fns[f]? = some fd → ∃ a dt, FnAt X.K X.mg fd a ∧ Binds X.K dt fd.ps [] ∧ FnOk X.prog X.w X.K X.mg X.base (L2.CX X.prog X.w) (4 * k + 2) a dt fd.ps (spF cls X.K fd.ps.length (evF T.fns k f))
  cl : ∀ C fs, (C, fs) ∈ T.cls → ClsAt X.K X.mg C fs
  sh : ∀ x tb, (x, tb) ∈ T.shs → ShAt X.K X.w X.mg x tb
  xs : ∀ c x fs, (c, x, fs) ∈ T.xs → X.mg x = some (.ref (cls c)) ∧ (∀ f ∈ fs, PySem.W.findIn X.K (.ref (cls c)) f = some none) ∧ ExcF X.prog X.w X.K X.mg X.base (cls c) fs
  lam : ∀ L, T.lam = some L → X.env.code = .ref (He.cT X.K L.p).1 ∧ X.env.qual ++ "<lambda>" = L.q ∧ LamX.TabB X.base X.mg (He.cT X.K L.p).1 (He.cT X.K L.p).2 ∧ Room (4 * k + 5) X.A ∧ ToldF cls T.told X

theorem flat_rep {K : PySem.W.Frag} {G : Hp} {ι : List Addr} {d : D} (f : flatD d = true) : Rep K G ι (vOf d) d := by
  cases d <;> first | constructor | cases f
theorem const_flat {c : Const} {d : D} (h : constD c = some d) : flatD d = true := by
  cases c <;> first | (cases h; rfl) | cases h

section
variable {T : Tab} {cls : Nat → Addr} {k : Nat} {X : Cx} {N : List Str} {sc : Scope} {W : WX}
theorem se_loc {i : Nat} {x : Str} {pos : Pos} (C : CtxD T cls k X N sc W) (h1 : N[i]? = some x) (h2 : visB sc x = true) (h3 : nameB x = true) : PE X (.Name x pos) (tE cls X.K W fun ρ => fromO (ρ[i]?.join)) := by
  refine PE.imp (pe_var (i := i) (by rw [C.nEq]; exact h1) (by rw [C.scEq]; exact visB_ok h2) (nameB_ok h3).1 (nameB_ok h3).2) ?_
  rintro σ H Q ⟨G, ι, η, ρ, S, sl, h⟩
  obtain ⟨d, e, h⟩ := h.fromO
  have e' : ρ[i]? = some (some d) := by
    cases q : ρ[i]? with
    | none => rw [q] at e; cases e
    | some o => rw [q] at e; cases o <;> first | (cases e; done) | (cases e; rfl)
  obtain ⟨v, q1, q2⟩ := sl.at_ i d e'
  exact ⟨v, q1, h.now S q2⟩
theorem pe_const {c : Const} {d : D} {j : Nat} {pos : Pos} (h : constD c = some d) : PE X (.Constant c j pos) (tC (vOf d)) := by
  cases c <;> first | (cases h; first | exact pe_non | exact pe_bl | exact pe_int | exact pe_str) | cases h
theorem se_cst {c : Const} {j : Nat} {pos : Pos} (h : (constD c).isSome = true) : PE X (.Constant c j pos) (tE cls X.K W fun _ => fromO (constD c)) := by
  obtain ⟨d, hd⟩ := Option.isSome_iff_exists.mp h
  refine PE.imp (pe_const hd) ?_
  rintro σ H Q ⟨G, ι, η, ρ, S, sl, h⟩
  obtain ⟨d', e, h⟩ := h.fromO
  rw [hd] at e
  cases e
  exact h.now S (flat_rep (const_flat hd))
theorem se_glob {x : Str} {c : Const} {pos : Pos} (C : CtxD T cls k X N sc W) (h1 : glB sc x = true) (h2 : nameB x = true) (h3 : (x, c) ∈ T.cs) : PE X (.Name x pos) (tE cls X.K W fun _ => fromO (constD c)) := by
  obtain ⟨u, d, e1, e2, r, f⟩ := C.glo x c h3
  refine PE.imp (pe_glob (v := vOf d) (glB_ok (by rw [C.scEq]; exact h1)) e1 r (nameB_ok h2).1) ?_
  rintro σ H Q ⟨G, ι, η, ρ, S, sl, h⟩
  obtain ⟨d', e, h⟩ := h.fromO
  rw [e2] at e
  cases e
  exact h.now S (flat_rep f)

/-- two expressions, then something by values -/
theorem two_imp {fa fb : Env → M D} {f : D → D → M D} {σ : L2.St} {H : Hp} {Q : VK} (h : tE cls X.K W (fun ρ => bnd (fa ρ) fun x => bnd (fb ρ) fun y => f x y) σ H Q) :
    tE cls X.K W fa σ H fun x H1 => tE cls X.K W fb σ H1 fun y H2 => rD2 cls X.K f x y H2 Q := by
  obtain ⟨G, ι, η, ρ, S, sl, h⟩ := h
  refine ⟨G, ι, η, ρ, S, sl, (Post.bind h).imp (fun d G1 ι1 η1 H1 st1 S1 h1 v r => ?_) fun _ _ _ z => z⟩
  refine ⟨G1, ι1, η1, ρ, S1, sl.mono st1.x, (Post.bind h1).imp (fun e G2 ι2 η2 H2 st2 S2 h2 u r2 => ?_) fun _ _ _ z => z⟩
  exact ⟨_, G2, ι2, η2, d, e, S2, r.mono st2.x, r2, h2⟩
theorem binop_D (op : Bop) : OpR X (binaryOp op.op) (rD2 cls X.K (binD op)) := by
  cases op
  · exact op_addD
  · exact op_subD
  · exact op_mulD
  · exact op_fdivD
  · exact op_modD
theorem se_bin {op : Bop} {a b : Expr} {fa fb : Env → M D} {pos : Pos} (ha : PE X a (tE cls X.K W fa)) (hb : PE X b (tE cls X.K W fb)) : PE X (.BinOp a op.op b pos) (tE cls X.K W fun ρ => bnd (fa ρ) fun x => bnd (fb ρ) fun y => binD op x y) :=
  PE.imp (pe_op (binop_D op) ha hb) fun _ _ _ h => two_imp h
theorem cmp_D (C : CtxD T cls k X N sc W) (op : Cop) : OpR X (compareOp op.op) (rD2 cls X.K (cmpD op)) := by
  have h1 := C.room.units
  have h2 : X.A.units + 65 < cLine := by have := C.room.un; omega
  cases op
  · exact op_eqD' h1
  · exact op_neD' h1
  · exact op_ltD
  · exact op_leD
  · exact op_gtD
  · exact op_geD
  · exact op_isND
  · exact op_notND
  · exact op_inD' h2
  · exact op_notInD' h2
theorem se_cmp {op : Cop} {a b : Expr} {fa fb : Env → M D} {pos : Pos} (C : CtxD T cls k X N sc W) (ha : PE X a (tE cls X.K W fa)) (hb : PE X b (tE cls X.K W fb)) (hs : noSet b = true) : PE X (.Compare a [op.op] [b] pos) (tE cls X.K W fun ρ => bnd (fa ρ) fun x => bnd (fb ρ) fun y => cmpD op x y) :=
  PE.imp (pe_cmpR (cmp_D C op) ha hb (noSet_behind hs)) fun _ _ _ h => two_imp h
/-- a value's truth -/
theorem post_asB {G H : Hp} {ι : List Addr} {m : Res D} {Q : Bool → Hp → Prop} {W' : Value → Option Addr → Hp → Prop} (h : Post cls X.K G H ι (m.bind fun d => match d with | .bl b => ret b | _ => bad) (fun b _ _ _ H' => Q b H') W') :
    PV cls X.K G H ι m (fun v H' => ∃ b, v = .bl b ∧ Q b H') W' := by
  refine (Post.bind h).imp (fun d G1 ι1 η1 H1 st S1 h1 v r => ?_) fun _ _ _ z => z
  cases r with
  | bl b => exact ⟨b, rfl, h1 G1 ι1 H1 (Stp.refl _ _ _) S1⟩
  | _ => exact h1.elim
theorem test_imp {f : Env → M D} {σ : L2.St} {H : Hp} {Q : Bool → Hp → Prop} (h : tT cls X.K W (fun ρ => asB (f ρ)) σ H Q) : tE cls X.K W f σ H fun x H1 => ∃ c, x = .bl c ∧ Q c H1 := by
  obtain ⟨G, ι, η, ρ, S, sl, h⟩ := h
  exact ⟨G, ι, η, ρ, S, sl, post_asB h⟩
theorem st_val {e : Expr} {f : Env → M D} (he : PE X e (tE cls X.K W f)) (hp : plainT e = true) : PT X e (tT cls X.K W fun ρ => asB (f ρ)) :=
  PT.imp (pt_val he (plainT_ok hp)) fun _ _ _ h => test_imp h
theorem st_cmp {op : Cop} {a b : Expr} {fa fb : Env → M D} {pos : Pos} (C : CtxD T cls k X N sc W) (ha : PE X a (tE cls X.K W fa)) (hb : PE X b (tE cls X.K W fb)) (hs : noSet b = true) :
    PT X (.Compare a [op.op] [b] pos) (tT cls X.K W fun ρ => asB (bnd (fa ρ) fun x => bnd (fb ρ) fun y => cmpD op x y)) :=
  PT.imp (pt_cmpR (cmp_D C op) ha hb (noSet_behind hs)) fun _ _ _ h => two_imp (test_imp h)
/-- a op b op c -/
theorem chain_imp {o1 o2 : Cop} {fa fb fc : Env → M D} {σ : L2.St} {H : Hp} {Q : VK}
    (h : tE cls X.K W (fun ρ => bnd (fa ρ) fun x => bnd (fb ρ) fun y => bnd (asB (cmpD o1 x y)) fun k => if k then bnd (fc ρ) fun z => cmpD o2 y z else ret (.bl false)) σ H Q) :
    tChain (rD2 cls X.K (cmpD o1)) (rD2 cls X.K (cmpD o2)) (tE cls X.K W fa) (tE cls X.K W fb) (tE cls X.K W fc) σ H Q := by
  obtain ⟨G, ι, η, ρ, S, sl, h⟩ := h
  refine ⟨G, ι, η, ρ, S, sl, (Post.bind h).imp (fun d G1 ι1 η1 H1 st1 S1 h1 v r => ?_) fun _ _ _ z => z⟩
  refine ⟨G1, ι1, η1, ρ, S1, sl.mono st1.x, (Post.bind h1).imp (fun e G2 ι2 η2 H2 st2 S2 h2 u r2 => ?_) fun _ _ _ z => z⟩
  refine ⟨fun c d H' => W c d σ H', G2, ι2, η2, d, e, S2, r.mono st2.x, r2, ?_⟩
  have h3 : Post cls X.K G2 H2 ι2 ((cmpD o1 d e η2).bind fun q => ((match q with | .bl b => ret b | _ => bad : M Bool) : M Bool)) (fun b G3 ι3 η3 H3 => PV cls X.K G3 H3 ι3 ((if b = true then bnd (fc ρ) fun z => cmpD o2 e z else ret (.bl false)) η3) Q fun c d H' => W c d σ H') _ := Post.bind h2
  refine (Post.bind h3).imp (fun q G3 ι3 η3 H3 st3 S3 h4 w r3 => ?_) fun _ _ _ z => z
  cases r3 with
  | bl b =>
    refine ⟨b, rfl, ?_⟩
    have h5 := h4 G3 ι3 H3 (Stp.refl _ _ _) S3
    cases b with
    | true =>
      rw [if_pos rfl] at h5 ⊢
      refine ⟨G3, ι3, η3, ρ, S3, (sl.mono (st1.x.trans st2.x)).mono st3.x, (Post.bind h5).imp (fun z G4 ι4 η4 H4 st4 S4 h6 w2 r4 => ?_) fun _ _ _ z => z⟩
      exact ⟨_, G4, ι4, η4, e, z, S4, (r2.mono st3.x).mono st4.x, r4, h6⟩
    | false =>
      rw [if_neg Bool.false_ne_true] at h5 ⊢
      exact PV.now h5 S3 (.bl false)
  | _ => exact h4.elim
theorem lastM {o1 o2 : CmpOp} {b c : Expr} (h : noSet c = true) : lastMarks [o1, o2] [b, c] = false := by
  show behindInMarks o2 c = false
  exact noSet_behind h
theorem se_chain {o1 o2 : Cop} {a b c : Expr} {fa fb fc : Env → M D} {pos : Pos} (C : CtxD T cls k X N sc W) (ha : PE X a (tE cls X.K W fa)) (hb : PE X b (tE cls X.K W fb)) (hc : PE X c (tE cls X.K W fc)) (hs : noSet c = true) :
    PE X (.Compare a [o1.op, o2.op] [b, c] pos) (tE cls X.K W fun ρ => bnd (fa ρ) fun x => bnd (fb ρ) fun y => bnd (asB (cmpD o1 x y)) fun k => if k then bnd (fc ρ) fun z => cmpD o2 y z else ret (.bl false)) :=
  PE.imp (pe_chain (cmp_D C o1) (cmp_D C o2) ha hb hc (lastM hs)) fun _ _ _ h => chain_imp h
theorem st_chain {o1 o2 : Cop} {a b c : Expr} {fa fb fc : Env → M D} {pos : Pos} (C : CtxD T cls k X N sc W) (ha : PE X a (tE cls X.K W fa)) (hb : PE X b (tE cls X.K W fb)) (hc : PE X c (tE cls X.K W fc)) (hs : noSet c = true) :
    PT X (.Compare a [o1.op, o2.op] [b, c] pos) (tT cls X.K W fun ρ => asB (bnd (fa ρ) fun x => bnd (fb ρ) fun y => bnd (asB (cmpD o1 x y)) fun k => if k then bnd (fc ρ) fun z => cmpD o2 y z else ret (.bl false))) :=
  PT.imp (pt_chain (cmp_D C o1) (cmp_D C o2) ha hb hc (lastM hs)) fun _ _ _ h => chain_imp (test_imp h)
/-- and, or: values -/
theorem se_and {a b : Expr} {rest : List Expr} {fa fb : Env → M D} {pos : Pos} (ha : PE X a (tE cls X.K W fa)) (hb : PE X (.BoolOp .And (b :: rest) pos) (tE cls X.K W fb)) : PE X (.BoolOp .And (a :: b :: rest) pos) (tE cls X.K W fun ρ => bnd (asB (fa ρ)) fun k => if k then fb ρ else ret (.bl false)) := by
  refine PE.imp (pe_and ha hb) ?_
  rintro σ H Q ⟨G, ι, η, ρ, S, sl, h⟩
  have h' : Post cls X.K G H ι ((fa ρ η).bind fun q => ((match q with | .bl b => ret b | _ => bad : M Bool) : M Bool)) (fun b G3 ι3 η3 H3 => PV cls X.K G3 H3 ι3 ((if b = true then fb ρ else ret (.bl false)) η3) Q fun c d H' => W c d σ H') _ := Post.bind h
  refine ⟨G, ι, η, ρ, S, sl, (Post.bind h').imp (fun q G1 ι1 η1 H1 st1 S1 h1 v r => ?_) fun _ _ _ z => z⟩
  cases r with
  | bl b =>
    refine ⟨b, rfl, ?_⟩
    have h5 := h1 G1 ι1 H1 (Stp.refl _ _ _) S1
    cases b with
    | true =>
      rw [if_pos rfl] at h5 ⊢
      exact ⟨G1, ι1, η1, ρ, S1, sl.mono st1.x, h5⟩
    | false =>
      rw [if_neg Bool.false_ne_true] at h5 ⊢
      exact PV.now h5 S1 (.bl false)
  | _ => exact h1.elim
theorem se_or {a b : Expr} {rest : List Expr} {fa fb : Env → M D} {pos : Pos} (ha : PE X a (tE cls X.K W fa)) (hb : PE X (.BoolOp .Or (b :: rest) pos) (tE cls X.K W fb)) : PE X (.BoolOp .Or (a :: b :: rest) pos) (tE cls X.K W fun ρ => bnd (asB (fa ρ)) fun k => if k then ret (.bl true) else fb ρ) := by
  refine PE.imp (pe_or ha hb) ?_
  rintro σ H Q ⟨G, ι, η, ρ, S, sl, h⟩
  have h' : Post cls X.K G H ι ((fa ρ η).bind fun q => ((match q with | .bl b => ret b | _ => bad : M Bool) : M Bool)) (fun b G3 ι3 η3 H3 => PV cls X.K G3 H3 ι3 ((if b = true then ret (.bl true) else fb ρ) η3) Q fun c d H' => W c d σ H') _ := Post.bind h
  refine ⟨G, ι, η, ρ, S, sl, (Post.bind h').imp (fun q G1 ι1 η1 H1 st1 S1 h1 v r => ?_) fun _ _ _ z => z⟩
  cases r with
  | bl b =>
    refine ⟨b, rfl, ?_⟩
    have h5 := h1 G1 ι1 H1 (Stp.refl _ _ _) S1
    cases b with
    | true =>
      rw [if_pos rfl] at h5 ⊢
      exact PV.now h5 S1 (.bl true)
    | false =>
      rw [if_neg Bool.false_ne_true] at h5 ⊢
      exact ⟨G1, ι1, η1, ρ, S1, sl.mono st1.x, h5⟩
  | _ => exact h1.elim
/-! as tests -/
theorem asB_bind (m : M Bool) (f : Bool → M D) (η : List Cell) : asB (bnd m f) η = (m η).bind fun b => asB (f b) := by
  unfold asB bnd
  cases m η <;> rfl
theorem st_and {a b : Expr} {rest : List Expr} {fa : Env → M Bool} {fb : Env → M D} {pos : Pos} (ha : PT X a (tT cls X.K W fa)) (hb : PW X (.BoolOp .And (b :: rest) pos) (tT cls X.K W fun ρ => asB (fb ρ))) :
    PW X (.BoolOp .And (a :: b :: rest) pos) (tT cls X.K W fun ρ => asB (bnd (fa ρ) fun k => if k then fb ρ else ret (.bl false))) := by
  refine PW.imp (pw_and ha hb) ?_
  rintro σ H Q ⟨G, ι, η, ρ, S, sl, h⟩
  dsimp only at h
  rw [asB_bind] at h
  refine ⟨G, ι, η, ρ, S, sl, (Post.bind h).imp (fun q G1 ι1 η1 H1 st1 S1 h1 => ?_) fun _ _ _ z => z⟩
  cases q with
  | true =>
    rw [if_pos rfl] at h1 ⊢
    exact ⟨G1, ι1, η1, ρ, S1, sl.mono st1.x, h1⟩
  | false =>
    rw [if_neg Bool.false_ne_true] at h1 ⊢
    exact h1 G1 ι1 H1 (Stp.refl _ _ _) S1
theorem st_or {a b : Expr} {rest : List Expr} {fa : Env → M Bool} {fb : Env → M D} {pos : Pos} (ha : PT X a (tT cls X.K W fa)) (hb : PW X (.BoolOp .Or (b :: rest) pos) (tT cls X.K W fun ρ => asB (fb ρ))) :
    PW X (.BoolOp .Or (a :: b :: rest) pos) (tT cls X.K W fun ρ => asB (bnd (fa ρ) fun k => if k then ret (.bl true) else fb ρ)) := by
  refine PW.imp (pw_or ha hb) ?_
  rintro σ H Q ⟨G, ι, η, ρ, S, sl, h⟩
  dsimp only at h
  rw [asB_bind] at h
  refine ⟨G, ι, η, ρ, S, sl, (Post.bind h).imp (fun q G1 ι1 η1 H1 st1 S1 h1 => ?_) fun _ _ _ z => z⟩
  cases q with
  | true =>
    rw [if_pos rfl] at h1 ⊢
    exact h1 G1 ι1 H1 (Stp.refl _ _ _) S1
  | false =>
    rw [if_neg Bool.false_ne_true] at h1 ⊢
    exact ⟨G1, ι1, η1, ρ, S1, sl.mono st1.x, h1⟩
theorem st_not {a : Expr} {fa : Env → M Bool} {pos : Pos} (ha : PT X a (tT cls X.K W fa)) : PT X (.UnaryOp .Not a pos) (tT cls X.K W fun ρ => asB (bnd (fa ρ) fun b => ret (.bl (!b)))) := by
  refine PT.imp (pt_not ha) ?_
  rintro σ H Q ⟨G, ι, η, ρ, S, sl, h⟩
  dsimp only at h
  rw [asB_bind] at h
  refine ⟨G, ι, η, ρ, S, sl, (Post.bind h).imp (fun q G1 ι1 η1 H1 st1 S1 h1 => ?_) fun _ _ _ z => z⟩
  exact h1 G1 ι1 H1 (Stp.refl _ _ _) S1
/-- not as a value, by the test -/
theorem se_not {a : Expr} {fa : Env → M D} {pos : Pos} (ha : PE X a (tE cls X.K W fa)) : PE X (.UnaryOp .Not a pos) (tE cls X.K W fun ρ => bnd (asB (fa ρ)) fun b => ret (.bl (!b))) := by
  refine PE.imp (pe_not ha) ?_
  rintro σ H Q ⟨G, ι, η, ρ, S, sl, h⟩
  have h' : Post cls X.K G H ι ((fa ρ η).bind fun q => ((match q with | .bl b => ret b | _ => bad : M Bool) : M Bool)) (fun b G3 ι3 η3 H3 => PV cls X.K G3 H3 ι3 (ret (.bl (!b)) η3) Q fun c d H' => W c d σ H') _ := Post.bind h
  refine ⟨G, ι, η, ρ, S, sl, (Post.bind h').imp (fun q G1 ι1 η1 H1 st1 S1 h1 v r => ?_) fun _ _ _ z => z⟩
  cases r with
  | bl b => exact ⟨b, rfl, PV.now (h1 G1 ι1 H1 (Stp.refl _ _ _) S1) S1 (.bl _)⟩
  | _ => exact h1.elim
theorem se_neg {a : Expr} {fa : Env → M D} {pos : Pos} (ha : PE X a (tE cls X.K W fa)) : PE X (.UnaryOp .USub a pos) (tE cls X.K W fun ρ => bnd (fa ρ) negD) := by
  refine PE.imp (pe_un un_neg ha) ?_
  rintro σ H Q ⟨G, ι, η, ρ, S, sl, h⟩
  refine ⟨G, ι, η, ρ, S, sl, (Post.bind h).imp (fun q G1 ι1 η1 H1 st1 S1 h1 v r => ?_) fun _ _ _ z => z⟩
  cases r with
  | int i => exact ⟨i, rfl, PV.now h1 S1 (.int _)⟩
  | _ => exact h1.elim
theorem se_ite {c a b : Expr} {fc : Env → M Bool} {fa fb : Env → M D} {pos : Pos} (hc : PT X c (tT cls X.K W fc)) (ha : PE X a (tE cls X.K W fa)) (hb : PE X b (tE cls X.K W fb)) :
    PE X (.IfExp c a b pos) (tE cls X.K W fun ρ => bnd (fc ρ) fun k => if k then fa ρ else fb ρ) := by
  refine PE.imp (pe_ifExp hc ha hb) ?_
  rintro σ H Q ⟨G, ι, η, ρ, S, sl, h⟩
  refine ⟨G, ι, η, ρ, S, sl, (Post.bind h).imp (fun q G1 ι1 η1 H1 st1 S1 h1 => ?_) fun _ _ _ z => z⟩
  cases q with
  | true =>
    rw [if_pos rfl] at h1 ⊢
    exact ⟨G1, ι1, η1, ρ, S1, sl.mono st1.x, h1⟩
  | false =>
    rw [if_neg Bool.false_ne_true] at h1 ⊢
    exact ⟨G1, ι1, η1, ρ, S1, sl.mono st1.x, h1⟩
/-! argument lists -/
theorem sa_nil : PA X [] (tA cls X.K W fun _ => ret []) := by
  refine PA.imp pa_nil ?_
  rintro σ H Q ⟨G, ι, η, ρ, S, sl, h⟩
  exact h G ι H (Stp.refl _ _ _) S [] .nil
theorem sa_cons {e : Expr} {es : List Expr} {f : Env → M D} {g : Env → M (List D)} (he : PE X e (tE cls X.K W f)) (hs : PA X es (tA cls X.K W g)) (hn : noStar e = true) : PA X (e :: es) (tA cls X.K W fun ρ => bnd (f ρ) fun d => bnd (g ρ) fun ds => ret (d :: ds)) := by
  refine PA.imp (pa_cons he hs (noStar_ok hn)) ?_
  rintro σ H Q ⟨G, ι, η, ρ, S, sl, h⟩
  refine ⟨G, ι, η, ρ, S, sl, (Post.bind h).imp (fun d G1 ι1 η1 H1 st1 S1 h1 v r => ?_) fun _ _ _ z => z⟩
  refine ⟨G1, ι1, η1, ρ, S1, sl.mono st1.x, (Post.bind h1).imp (fun ds G2 ι2 η2 H2 st2 S2 h2 vs r2 => ?_) fun _ _ _ z => z⟩
  exact h2 G2 ι2 H2 (Stp.refl _ _ _) S2 _ (.cons (r.mono st2.x) r2)
theorem se_tup {es : List Expr} {g : Env → M (List D)} {x1 : Nat} {pos : Pos} (hs : PA X es (tA cls X.K W g)) : PE X (.Tuple es x1 pos) (tE cls X.K W fun ρ => bnd (g ρ) fun ds => if ds.length ≤ LIM then ret (.tup ds) else bad) := by
  refine PE.imp (pe_tup hs) ?_
  rintro σ H Q ⟨G, ι, η, ρ, S, sl, h⟩
  refine ⟨G, ι, η, ρ, S, sl, (Post.bind h).imp (fun ds G1 ι1 η1 H1 st1 S1 h1 vs r => ?_) fun _ _ _ z => z⟩
  by_cases hl : ds.length ≤ LIM
  · rw [if_pos hl] at h1
    exact ⟨by rw [r.length]; exact Nat.le_trans hl lim_line, PV.tup h1 S1 r⟩
  · rw [if_neg hl] at h1
    exact h1.elim
theorem newL_ok {G H : Hp} {ι : List Addr} {η : List Cell} {m : Bool} {ds : List D} {vs : List V} {Q : VK} {W' : Value → Option Addr → Hp → Prop} (S : RS X.K G H ι η) (r : Reps X.K G ι vs ds) (h : PV cls X.K G H ι (newL m ds η) Q W') :
    vs.length ≤ sizeLine ∧ ∀ p, H p = none → Q (.ref p) (upd H p (.lst vs)) := by
  unfold newL at h
  by_cases hl : ds.length ≤ LIM
  · rw [if_pos hl] at h
    refine ⟨by rw [r.length]; exact Nat.le_trans hl lim_line, ?_⟩
    cases m with
    | true => exact PV.new h S r
    | false => exact PV.fl h S r
  · rw [if_neg hl] at h
    exact h.elim
theorem se_lst {es : List Expr} {g : Env → M (List D)} {m : Bool} {pos : Pos} (hs : PA X es (tA cls X.K W g)) : PE X (.List es pos) (tE cls X.K W fun ρ => bnd (g ρ) (newL m)) := by
  refine PE.imp (pe_lst hs) ?_
  rintro σ H Q ⟨G, ι, η, ρ, S, sl, h⟩
  refine ⟨G, ι, η, ρ, S, sl, (Post.bind h).imp (fun ds G1 ι1 η1 H1 st1 S1 h1 vs r => ?_) fun _ _ _ z => z⟩
  exact newL_ok S1 r h1
theorem se_sub {a b : Expr} {fa fb : Env → M D} {pos : Pos} (ha : PE X a (tE cls X.K W fa)) (hb : PE X b (tE cls X.K W fb)) (hs : noSlice b = true) : PE X (.Subscript a b pos) (tE cls X.K W fun ρ => bnd (fa ρ) fun x => bnd (fb ρ) fun y => idxD x y) :=
  PE.imp (pe_ix ix_D ha hb (noSlice_ok hs)) fun _ _ _ h => two_imp h
theorem so_none : PO X none (tO cls X.K W fun _ => ret none) := by
  refine PO.imp po_none ?_
  rintro σ H Q ⟨G, ι, η, ρ, S, sl, h⟩
  exact h G ι H (Stp.refl _ _ _) S
theorem so_some {e : Expr} {f : Env → M D} (he : PE X e (tE cls X.K W f)) : PO X (some e) (tO cls X.K W fun ρ => bnd (f ρ) asI) := by
  refine PO.imp (po_some he) ?_
  rintro σ H Q ⟨G, ι, η, ρ, S, sl, h⟩
  refine ⟨G, ι, η, ρ, S, sl, (Post.bind h).imp (fun d G1 ι1 η1 H1 st1 S1 h1 v r => ?_) fun _ _ _ z => z⟩
  cases r with
  | int i => exact ⟨i, rfl, h1 G1 ι1 H1 (Stp.refl _ _ _) S1⟩
  | _ => exact h1.elim
theorem se_slice {a : Expr} {lo hi : Option Expr} {fa : Env → M D} {fl fh : Env → M (Option Int)} {p2 pos : Pos} (ha : PE X a (tE cls X.K W fa)) (hl : PO X lo (tO cls X.K W fl)) (hh : PO X hi (tO cls X.K W fh)) :
    PE X (.Subscript a (.Slice lo hi none p2) pos) (tE cls X.K W fun ρ => bnd (fa ρ) fun x => bnd (fl ρ) fun l => bnd (fh ρ) fun h => sliceD x l h) := by
  refine PE.imp (pe_slice (r := rSlD cls X.K) sl_D ha hl hh) ?_
  rintro σ H Q ⟨G, ι, η, ρ, S, sl, h⟩
  refine ⟨G, ι, η, ρ, S, sl, (Post.bind h).imp (fun d G1 ι1 η1 H1 st1 S1 h1 v r => ?_) fun _ _ _ z => z⟩
  refine ⟨G1, ι1, η1, ρ, S1, sl.mono st1.x, (Post.bind h1).imp (fun l G2 ι2 η2 H2 st2 S2 h2 => ?_) fun _ _ _ z => z⟩
  refine ⟨G2, ι2, η2, ρ, S2, sl.mono (st1.x.trans st2.x), (Post.bind h2).imp (fun l G3 ι3 η3 H3 st3 S3 h3 => ?_) fun _ _ _ z => z⟩
  exact ⟨_, G3, ι3, η3, d, S3, (r.mono st2.x).mono st3.x, h3⟩
theorem se_rev {a : Expr} {fa : Env → M D} {j : Nat} {p1 p2 p3 pos : Pos} (ha : PE X a (tE cls X.K W fa)) : PE X (.Subscript a (.Slice none none (some (.UnaryOp .USub (.Constant (.int 1) j p1) p2)) p3) pos) (tE cls X.K W fun ρ => bnd (fa ρ) revD) := by
  refine PE.imp (pe_revL ha) ?_
  rintro σ H Q ⟨G, ι, η, ρ, S, sl, h⟩
  refine ⟨G, ι, η, ρ, S, sl, (Post.bind h).imp (fun d G1 ι1 η1 H1 st1 S1 h1 v r => ?_) fun _ _ _ z => z⟩
  unfold revD at h1
  cases q : asL η1 d with
  | none => rw [q] at h1; exact h1.elim
  | some xs =>
    rw [q] at h1
    obtain ⟨a, vs, rfl, e1, e2⟩ := asL_ok S1 r q
    exact ⟨a, vs, rfl, SqL.of e1, PV.fl h1 S1 e2.reverse⟩
end
end Ms
end
section
set_option Elab.async false
set_option linter.all false
set_option maxRecDepth 100000
set_option maxHeartbeats 4000000
/-! What is walked. -/
namespace Ms
open PySem L2 PySem.Spec PyProof.Rows

/-- new pairs of what px and py tell -/
def ItP (S : Hp → Prop) (n : Nat) (px py : Nat → Hp → V → Prop) : L2.It :=
  ⟨fun i H => S H ∧ i < n, fun i H v H' => ∃ T x y, v = .ref T ∧ H T = none ∧ H' = upd H T (.tup [x, y]) ∧ px i H x ∧ py i H y, fun i H => S H ∧ i = n⟩
theorem turn_walk {P : Program} {w : World} {K : PySem.W.Frag} {elts : List Expr} {kk : Nat} {tpos : Pos} (own : List Addr) (I0 : Addr) (n : Nat) (px py : Nat → Hp → V → Prop) (StO : Nat → Heap → Prop) (SrcOk : Hp → Prop)
    (hmem : I0 ∈ own) (hobj : ∀ i h, StO i h → ∀ b ∈ own, ∃ o, h.get? b = some o ∧ ∀ v, o.data ≠ .cell v)
    (hkeep : ∀ i h h', StO i h → (∀ b ∈ own, ∀ o, h.get? b = some o → h'.get? b = some o) → StO i h')
    (hW : ∀ (X : Cx) (pins : List (Addr × Obj)) (σ : L2.St) (H : Hp) (s : Shared) (i0 : Nat), X.prog = P → X.w = w → X.K = K → X.calm = true → Inv X pins σ H s → SrcOk H → (∀ b ∈ own, FpOk X pins H b) → StO i0 s.heap →
      ∃ fp wr Pt St Mid, WalksT P w X.A I0 fp wr n Pt St Mid ∧ (∀ b ∈ wr, b ∈ own) ∧ (St i0 s.heap) ∧ (∀ i h, St i h → StO i h) ∧
        ∀ i vals, Pt i vals → ∃ u1 u2 x y, vals = #[u1, u2] ∧ RelV x u1 ∧ RelV y u2 ∧ px i H x ∧ py i H y)
    (hself : ∀ (A : Around) (i : Nat) (s : Shared) (Q : Value → Shared → Prop) (E : Value → Shared → Prop), StO i s.heap → Q (.ref I0) s → wpAny (model P w) A (pyIter (.ref I0)) Q E s) :
    Turn P w K (.Tuple elts kk tpos) (ItP SrcOk n px py) own I0 StO where
  mem := hmem
  obj := hobj
  keep := hkeep
  item := by
    intro X hP hw hK hc i pins s σ H E I hf st hg
    obtain ⟨fp, wr, Pt, St, Mid, Wk, h1, h2, h3, h4⟩ := hW X pins σ H s i hP hw hK hc I hg.1 hf st
    subst hP hw hK
    refine Wk.item i s _ _ hg.2 h2 fun T vals h' tk hp hT ht hm hk => ?_
    obtain ⟨u1, u2, x, y, rfl, r1, r2, p1, p2⟩ := h4 i vals hp
    refine ⟨.ref T, rfl, Wk.go elts kk tpos i T _ _ _ hm fun h'' hs hk2 => ?_⟩
    have hk3 : ∀ b o, b ∉ wr → s.heap.get? b = some o → h''.get? b = some o := fun b o hb e => hk2 b o hb (hk b o hb e)
    have nT : T ∉ wr := Wk.apart i T _ hm
    obtain ⟨oT, e1, e2⟩ := ht
    have new : ObjOk X.prog X.w (upd H T (.tup [x, y])) h'' T (.tup [x, y]) := ⟨by show 2 ≤ sizeLine; decide, [u1, u2], .cons r1 (.cons r2 .nil), oT, hk2 T oT nT e1, e2⟩
    have I1 : Inv X pins σ (upd H T (.tup [x, y])) { s with heap := h'', toks := tk } := I.turnedNew (ch := wr) hk3 (fun b hb => hf b (h1 b hb)) hT new
    refine ⟨.ref T, _, I1, rfl, ⟨T, x, y, rfl, I.hok.fresh hT, rfl, p1, p2⟩, h3 _ _ hs, fun b hb => ?_⟩
    obtain ⟨o, ho, _⟩ := hobj i s.heap st b hb
    rw [upd_ne (Nat.ne_of_lt (Nat.lt_of_lt_of_le (Heap.lt_size ho) hT))]
    exact (hf b hb).1
  done := by
    intro X hP hw hK hc i pins s σ H E I hf st hg
    obtain ⟨fp, wr, Pt, St, Mid, Wk, h1, h2, h3, h4⟩ := hW X pins σ H s i hP hw hK hc I hg.1 hf st
    subst hP hw hK
    obtain ⟨_, hn⟩ := hg
    subst hn
    exact Wk.done s _ _ h2 fun h' tk hk => ⟨rfl, I.turnedL (ch := wr) (t' := tk) hk fun b hb => hf b (h1 b hb)⟩
  self := hself

/-! ### sources -/
inductive Src where
  | lst (a : Addr) (vs : List V) | tup (a : Addr) (vs : List V) | str (z : Str) | dyn (a : Addr) (n : Nat)
def Src.ok (H : Hp) : Src → Prop
  | .lst a vs => H a = some (.lst vs)
  | .tup a vs => H a = some (.tup vs)
  | .str z => z.length ≤ sizeLine
  | .dyn a n => ∃ vs, H a = some (.lst vs) ∧ vs.length = n
def Src.n : Src → Nat
  | .lst _ vs => vs.length
  | .tup _ vs => vs.length
  | .str z => z.cps.size
  | .dyn _ n => n
def Src.at_ (i : Nat) (H : Hp) (y : V) : Src → Prop
  | .lst _ vs => vs[i]? = some y
  | .tup _ vs => vs[i]? = some y
  | .str z => (z.cps.toList.map fun c => V.str ⟨#[c]⟩)[i]? = some y
  | .dyn a _ => ∃ vs, H a = some (.lst vs) ∧ vs[i]? = some y
def Src.own (it : Addr) : Src → Nat → Heap → Prop
  | .lst a _, i, h => h.IsListIter it a i
  | .tup a _, i, h => h.IsTupleIter it a i
  | .str z, i, h => ∃ t, h.IsStrIter it (strIterType z) z t i
  | .dyn a _, i, h => h.IsListIter it a i
def Src.val : Src → V
  | .lst a _ => .ref a
  | .tup a _ => .ref a
  | .str z => .str z
  | .dyn a _ => .ref a
theorem Src.obj {r : Src} {it : Addr} {i : Nat} {h : Heap} (q : r.own it i h) : ∃ o, h.get? it = some o ∧ ∀ v, o.data ≠ .cell v := by
  cases r with
  | lst a vs => obtain ⟨o, e, _, d⟩ := q; exact ⟨o, e, fun v z => by rw [d] at z; cases z⟩
  | tup a vs => obtain ⟨o, e, _, d⟩ := q; exact ⟨o, e, fun v z => by rw [d] at z; cases z⟩
  | str z => obtain ⟨t, o, e, _, d⟩ := q; exact ⟨o, e, fun v z => by rw [d] at z; cases z⟩
  | dyn a n => obtain ⟨o, e, _, d⟩ := q; exact ⟨o, e, fun v z => by rw [d] at z; cases z⟩
theorem Src.keep {r : Src} {it : Addr} {i : Nat} {h h' : Heap} (q : r.own it i h) (k : ∀ o, h.get? it = some o → h'.get? it = some o) : r.own it i h' := by
  cases r with
  | lst a vs => obtain ⟨o, e, d⟩ := q; exact ⟨o, k o e, d⟩
  | tup a vs => obtain ⟨o, e, d⟩ := q; exact ⟨o, k o e, d⟩
  | str z => obtain ⟨t, o, e, d⟩ := q; exact ⟨t, o, k o e, d⟩
  | dyn a n => obtain ⟨o, e, d⟩ := q; exact ⟨o, k o e, d⟩
/-- drawing from a source -/
theorem Src.draws {r : Src} {X : Cx} {pins : List (Addr × Obj)} {σ : L2.St} {H : Hp} {s : Shared} {it : Addr} {i0 : Nat} {A : Around} (I : Inv X pins σ H s) (hh : A.handled = none) (ok : r.ok H) (hit : H it = none) (q : r.own it i0 s.heap) :
    ∃ fp St, Draws X.prog X.w A it (it :: fp) r.n (fun i v => ∃ x, r.at_ i H x ∧ RelV x v) St ∧ St i0 s.heap ∧ (∀ i h, St i h → r.own it i h) ∧ ∀ b ∈ fp, ∃ o, H b = some o := by
  cases r with
  | lst a vs =>
    obtain ⟨its, rv, pl, hz⟩ := I.list (SqL.of ok)
    have hn : a ≠ it := ne_of_none ok hit
    have D := Draws.list (prog := X.prog) (w := X.w) hh it a hn its.toArray
    refine ⟨[a], _, ⟨D.live, D.frame, fun i s Q E hi st hQ => D.item i s Q E (by simpa [Src.n, rv.length] using hi) st fun x h' tk hx => hQ x h' tk ?_, fun s Q E st => D.done s Q E (by simpa [Src.n, rv.length] using st)⟩, ⟨q, pl.isList⟩, fun i h z => z.1, fun b hb => ?_⟩
    · have hx' : its[i]? = some x := by simpa using hx
      obtain ⟨hl, e⟩ := List.getElem?_eq_some_iff.mp hx'
      have hv : i < vs.length := by rw [rv.length]; exact hl
      obtain ⟨u, h1, h2⟩ := rv.get (List.getElem?_eq_getElem hv)
      rw [hx'] at h1
      cases h1
      exact ⟨vs[i], List.getElem?_eq_getElem hv, h2⟩
    · simp at hb
      subst hb
      exact ⟨_, ok⟩
  | tup a vs =>
    obtain ⟨its, rv, pl, hz⟩ := I.tuple (SqT.of ok)
    have hn : a ≠ it := ne_of_none ok hit
    have D := Draws.tuple (prog := X.prog) (w := X.w) hh it a hn its.toArray
    refine ⟨[a], _, ⟨D.live, D.frame, fun i s Q E hi st hQ => D.item i s Q E (by simpa [Src.n, rv.length] using hi) st fun x h' tk hx => hQ x h' tk ?_, fun s Q E st => D.done s Q E (by simpa [Src.n, rv.length] using st)⟩, ⟨q, pl⟩, fun i h z => z.1, fun b hb => ?_⟩
    · have hx' : its[i]? = some x := by simpa using hx
      obtain ⟨hl, e⟩ := List.getElem?_eq_some_iff.mp hx'
      have hv : i < vs.length := by rw [rv.length]; exact hl
      obtain ⟨u, h1, h2⟩ := rv.get (List.getElem?_eq_getElem hv)
      rw [hx'] at h1
      cases h1
      exact ⟨vs[i], List.getElem?_eq_getElem hv, h2⟩
    · simp at hb
      subst hb
      exact ⟨_, ok⟩
  | dyn a n =>
    obtain ⟨vs, ok, hn0⟩ := ok
    obtain ⟨its, rv, pl, hz⟩ := I.list (SqL.of ok)
    have hn : a ≠ it := ne_of_none ok hit
    have D := Draws.list (prog := X.prog) (w := X.w) hh it a hn its.toArray
    refine ⟨[a], _, ⟨D.live, D.frame, fun i s Q E hi st hQ => D.item i s Q E (by simpa [Src.n, rv.length, ← hn0] using hi) st fun x h' tk hx => hQ x h' tk ?_, fun s Q E st => D.done s Q E (by simpa [Src.n, rv.length, ← hn0] using st)⟩, ⟨q, pl.isList⟩, fun i h z => z.1, fun b hb => ?_⟩
    · have hx' : its[i]? = some x := by simpa using hx
      obtain ⟨hl, e⟩ := List.getElem?_eq_some_iff.mp hx'
      have hv : i < vs.length := by rw [rv.length]; exact hl
      obtain ⟨u, h1, h2⟩ := rv.get (List.getElem?_eq_getElem hv)
      rw [hx'] at h1
      cases h1
      exact ⟨vs[i], ⟨vs, ok, List.getElem?_eq_getElem hv⟩, h2⟩
    · simp at hb
      subst hb
      exact ⟨_, ok⟩
  | str z =>
    obtain ⟨t, q⟩ := q
    have D := Draws.text (prog := X.prog) (w := X.w) hh it z t
    refine ⟨[], _, ⟨D.live, D.frame, fun i s Q E hi st hQ => D.item i s Q E (by simpa [Src.n] using hi) st fun x h' tk hx => hQ x h' tk ?_, fun s Q E st => D.done s Q E (by simpa [Src.n] using st)⟩, q, fun i h z => ⟨t, z⟩, fun b hb => by simp at hb⟩
    obtain ⟨c, u, e1, e2⟩ := hx
    subst e2
    refine ⟨.str ⟨#[c]⟩, ?_, ⟨u, rfl⟩⟩
    simp [Src.at_, e1]
/-- how it begins -/
theorem Src.begins {r : Src} {X : Cx} {pins : List (Addr × Obj)} {σ : L2.St} {H : Hp} {s : Shared} {v : Value} (I : Inv X pins σ H s) (ok : r.ok H) (rv : RelV r.val v) :
    ∃ o Hs, Begins v o Hs ∧ Hs s.heap ∧ ∀ (h : Heap) (it : Addr), h.get? it = some o → r.own it 0 h := by
  cases r with
  | lst a vs =>
    cases (show v = Value.ref a from rv)
    obtain ⟨its, _, pl, hz⟩ := I.list (SqL.of ok)
    exact ⟨_, _, begins_list a its.toArray, pl.isList, fun h it e => ⟨_, e, rfl, rfl⟩⟩
  | tup a vs =>
    cases (show v = Value.ref a from rv)
    obtain ⟨its, _, pl, hz⟩ := I.tuple (SqT.of ok)
    exact ⟨_, _, begins_tuple a its.toArray, pl, fun h it e => ⟨_, e, rfl, rfl⟩⟩
  | dyn a n =>
    obtain ⟨vs, ok, _⟩ := ok
    cases (show v = Value.ref a from rv)
    obtain ⟨its, _, pl, hz⟩ := I.list (SqL.of ok)
    exact ⟨_, _, begins_list a its.toArray, pl.isList, fun h it e => ⟨_, e, rfl, rfl⟩⟩
  | str z =>
    obtain ⟨t, rfl⟩ := (show ∃ t, v = Value.str z t from rv)
    exact ⟨_, _, begins_text z t, trivial, fun h it e => ⟨t, _, e, rfl, rfl⟩⟩

/-! ### enumerate -/
def enumSt (r : Src) (e it : Addr) (i : Nat) (h : Heap) : Prop := (∃ old, IsEnum h e it ((0 : Int) + (i : Int)) old) ∧ r.own it i h ∧ e ≠ it
theorem turn_enumS {P : Program} {w : World} {K : PySem.W.Frag} {elts : List Expr} {kk : Nat} {tpos : Pos} (r : Src) (e it : Addr) :
    Turn P w K (.Tuple elts kk tpos) (ItP r.ok r.n (fun i _ x => x = .int (i : Nat)) (fun i H y => r.at_ i H y)) [e, it] e (enumSt r e it) := by
  refine turn_walk [e, it] e r.n _ _ (enumSt r e it) r.ok (by simp) ?_ ?_ ?_ ?_
  · rintro i h ⟨⟨old, he⟩, ho, _⟩ b hb
    have e' : b = e ∨ b = it := by simpa using hb
    rcases e' with rfl | rfl
    · exact ⟨_, he, fun v q => nomatch q⟩
    · exact Src.obj ho
  · rintro i h h' ⟨⟨old, he⟩, ho, hne⟩ k
    exact ⟨⟨old, k e (by simp) _ he⟩, Src.keep ho (fun o q => k it (by simp) o q), hne⟩
  · rintro X pins σ H s i0 rfl rfl rfl hc I ok hf ⟨⟨old, he⟩, ho, hne⟩
    have hit : H it = none := (hf it (by simp)).1
    have hE : H e = none := (hf e (by simp)).1
    obtain ⟨fp, St, Dr, s0, so, hfp⟩ := Src.draws (A := X.A.in1) I (I.ok.hd hc) ok hit ho
    have hef : e ∉ it :: fp := fun m => by
      rcases List.mem_cons.mp m with z | z
      · exact hne z
      · obtain ⟨o, q⟩ := hfp e z
        rw [hE] at q
        cases q
    refine ⟨_, _, _, _, _, WalksT.enumFrom 0 Dr e hne hef List.mem_cons_self, fun b hb => hb, ⟨⟨old, he⟩, s0⟩, fun i h z => ⟨z.1, so i h z.2, hne⟩, fun i vals hp => ?_⟩
    obtain ⟨t, x, ⟨y, e1, e2⟩, rfl⟩ := hp
    refine ⟨_, _, .int (i : Nat), y, rfl, ⟨t, ?_⟩, e2, rfl, e1⟩
    rw [Int.zero_add]
  · rintro A i s Q E ⟨⟨old, he⟩, _⟩ h
    exact wpAny_pyIter_enum he h
def iEnumS (ta : TA) : TI := fun σ H R => ta σ H fun vs H1 => ∃ r : Src, vs = [r.val] ∧ r.ok H1 ∧ R (ItP r.ok r.n (fun i _ x => x = .int (i : Nat)) (fun i H y => r.at_ i H y)) H1
abbrev enumO (a : Addr) : Obj := { cls := .type "enumerate", data := .fields #[.none, .bool false, .ref a, rawInt 0, .none, .none] }
set_option maxHeartbeats 1000000 in
theorem meets_enum1 {v : Value} {o : Obj} {Hs : Heap → Prop} (B : Begins v o Hs) :
    Meets (Builtin.«enumerate.__new__» ⟨[.type "enumerate", v], []⟩)
      (fun _ R s => Hs s.heap ∧ R (.ok (.ret (.ref (s.heap.push o).objs.size))) { s with heap := (s.heap.push o).push (enumO s.heap.objs.size) }) :=
  Meets.of_wp fun prog w A R st hst => by
    obtain ⟨hp, gg, dd, tk, oss⟩ := st
    obtain ⟨ha, hb⟩ := hst
    have hsub := sub_enumerate
    have it1 : ∀ {A' : Around} {E : Value → Shared → Prop} {Q : Value → Shared → Prop}, Q (.ref hp.objs.size) ⟨hp.push o, gg, dd, tk, oss⟩ →
        wpAny (model prog w) A' (pyIter v) Q E ⟨hp, gg, dd, tk, oss⟩ := fun q =>
      B.iter prog w _ _ ⟨hp, gg, dd, tk, oss⟩ _ ha q
    wp_walk using it1
    refine wpAny_stack_any (fun sk => wpAny_pure ?_)
    split
    · rename_i c _ _ _ _ _
      cases (c == Value.type "enumerate") <;> (wp_walk using it1; exact ⟨_, rfl, hb⟩)
    · wp_walk using it1
      exact ⟨_, rfl, hb⟩
theorem call_enum1 {prog : Program} {w : World} {A : Around} {E : Value → Shared → Prop} {s : Shared} {v : Value} {o : Obj} {Hs : Heap → Prop} {Q : Value → Shared → Prop} (B : Begins v o Hs) (h1 : Hs s.heap)
    (h : ∀ h', IsEnum h' (s.heap.objs.size + 1) s.heap.objs.size 0 .none → h'.get? s.heap.objs.size = some o → (∀ b o', s.heap.get? b = some o' → h'.get? b = some o') → Q (.ref (s.heap.objs.size + 1)) { s with heap := h' }) :
    wpAny (model prog w) A (call (.type "enumerate") [v]) Q E s := by
  refine callType_new F.called_enumerate (by decide) (F.typeCall_enumerate_1 _) (F.newCall_enumerate_1 _)
    (fun obj => F.args_object_init_2 obj _) F.entry_enumerate_new (meets_enum1 B) ⟨h1, ?_⟩
  have z : (s.heap.push o).objs.size = s.heap.objs.size + 1 := by rw [Heap.size_push]
  have e : IsEnum ((s.heap.push o).push (enumO s.heap.objs.size)) (s.heap.objs.size + 1) s.heap.objs.size 0 .none := by
    rw [← z]
    exact Heap.get?_push_size _ rfl
  show _ ∧ _
  rw [z]
  exact ⟨⟨_, e, rfl⟩, h _ e (Heap.get?_push_of_some _ (Heap.get?_push_size _ B.free)) fun b o' q => Heap.get?_push_of_some _ (Heap.get?_push_of_some _ q)⟩
theorem pi_enumS {X : Cx} {e : Expr} {ta : TA} {p pos tpos : Pos} {elts : List Expr} {kk : Nat} (hg : Gl X "enumerate") (hm : X.mg "enumerate" = none) (ha : PA X [e] ta) (hn : noStar e = true) :
    PI X (.Tuple elts kk tpos) (.Call (.Name "enumerate" p) [e] [] pos) (iEnumS ta) := by
  refine ⟨fun pins s σ H R I h => ?_⟩
  refine Call_ (ld_blt I hg hm boot_enumerate (PyProof.Rows.callWith_type1 (thn (ha.run pos pins s σ H _ I h) fun us s1 ⟨vs, H1, I1, r1, r, ex, ok, q⟩ => ?_) (noStar_ok hn) rfl))
  subst ex
  obtain ⟨u, rfl, rx⟩ := vals1 r1
  obtain ⟨o, Hs, B, b1, b2⟩ := Src.begins I1 ok rx
  refine call_enum1 B b1 fun h' he' ho hk => wpAny_pyIter_enum he' ?_
  have I2 : Inv X pins σ H1 { s1 with heap := h' } := I1.kept (t' := s1.toks) hk
  refine ⟨s1.heap.objs.size + 1, [s1.heap.objs.size + 1, s1.heap.objs.size], _, _, H1, rfl, I2, turn_enumS r (s1.heap.objs.size + 1) s1.heap.objs.size, ⟨⟨.none, he'⟩, b2 _ _ ho, Nat.succ_ne_self _⟩, fun b hb => ?_, q⟩
  have hle : s1.heap.objs.size ≤ b := by
    have e' : b = s1.heap.objs.size + 1 ∨ b = s1.heap.objs.size := by simpa using hb
    rcases e' with z | z <;> rw [z]
    · exact Nat.le_succ _
    · exact Nat.le_refl _
  exact I1.fpOk hle (I1.hok.fresh hle)

/-! ### zip of two -/
def zipSt (r1 r2 : Src) (z TI TO i1 i2 : Addr) (i : Nat) (h : Heap) : Prop :=
  IsZip h z TI TO .none ∧ IsTupOf2 h TI (.ref i1) (.ref i2) ∧ (∃ a1 a2, IsTupOf2 h TO a1 a2) ∧ r1.own i1 i h ∧ r2.own i2 i h
theorem turn_zipS {P : Program} {w : World} {K : PySem.W.Frag} {elts : List Expr} {kk : Nat} {tpos : Pos} (r1 r2 : Src) (N : Nat) :
    Turn P w K (.Tuple elts kk tpos) (ItP (fun H => r1.ok H ∧ r2.ok H) (min r1.n r2.n) (fun i H x => r1.at_ i H x) (fun i H y => r2.at_ i H y)) [N + 4, N + 2, N + 3, N, N + 1] (N + 4)
      (zipSt r1 r2 (N + 4) (N + 2) (N + 3) N (N + 1)) := by
  refine turn_walk [N + 4, N + 2, N + 3, N, N + 1] (N + 4) _ _ _ (zipSt r1 r2 (N + 4) (N + 2) (N + 3) N (N + 1)) (fun H => r1.ok H ∧ r2.ok H) (by simp) ?_ ?_ ?_ ?_
  · rintro i h ⟨h1, h2, ⟨a1, a2, h3⟩, h4, h5⟩ b hb
    have e' : b = N + 4 ∨ b = N + 2 ∨ b = N + 3 ∨ b = N ∨ b = N + 1 := by simpa using hb
    rcases e' with rfl | rfl | rfl | rfl | rfl
    · exact ⟨_, h1, fun v q => nomatch q⟩
    · exact ⟨_, h2, fun v q => nomatch q⟩
    · exact ⟨_, h3, fun v q => nomatch q⟩
    · exact Src.obj h4
    · exact Src.obj h5
  · rintro i h h' ⟨h1, h2, ⟨a1, a2, h3⟩, h4, h5⟩ k
    exact ⟨k _ (by simp) _ h1, k _ (by simp) _ h2, ⟨a1, a2, k _ (by simp) _ h3⟩, Src.keep h4 fun o q => k _ (by simp) o q, Src.keep h5 fun o q => k _ (by simp) o q⟩
  · rintro X pins σ H s i0 rfl rfl rfl hc I ⟨ok1, ok2⟩ hf ⟨h1, h2, h3, h4, h5⟩
    obtain ⟨fp1, St1, D1, s1, so1, hf1⟩ := Src.draws (A := X.A.in1) I (I.ok.hd hc) ok1 (hf N (by simp)).1 h4
    obtain ⟨fp2, St2, D2, s2, so2, hf2⟩ := Src.draws (A := X.A.in1) I (I.ok.hd hc) ok2 (hf (N + 1) (by simp)).1 h5
    have out : ∀ (b c : Addr) (o : HO), c ∈ [N + 4, N + 2, N + 3, N, N + 1] → H b = some o → c ≠ b := fun b c o hc' hb z => by
      have q := (hf c hc').1
      rw [z, hb] at q
      cases q
    have S : ZipSep2 (N + 4) (N + 2) (N + 3) N (N + 1) (N :: fp1) ((N + 1) :: fp2) :=
      { TIz := show (N + 2 : Nat) ≠ N + 4 by omega, TOz := show (N + 3 : Nat) ≠ N + 4 by omega, TITO := show (N + 2 : Nat) ≠ N + 3 by omega
        TIi1 := show (N + 2 : Nat) ≠ N by omega, mem1 := List.mem_cons_self
        zf1 := fun m => by
          rcases List.mem_cons.mp m with q | q
          · exact absurd q (show (N + 4 : Nat) ≠ N by omega)
          · obtain ⟨o, e⟩ := hf1 _ q
            exact out _ (N + 4) o (by simp) e rfl
        Tf1 := fun m => by
          rcases List.mem_cons.mp m with q | q
          · exact absurd q (show (N + 3 : Nat) ≠ N by omega)
          · obtain ⟨o, e⟩ := hf1 _ q
            exact out _ (N + 3) o (by simp) e rfl
        TIi2 := show (N + 2 : Nat) ≠ N + 1 by omega, mem2 := List.mem_cons_self
        zf2 := fun m => by
          rcases List.mem_cons.mp m with q | q
          · exact absurd q (show (N + 4 : Nat) ≠ N + 1 by omega)
          · obtain ⟨o, e⟩ := hf2 _ q
            exact out _ (N + 4) o (by simp) e rfl
        Tf2 := fun m => by
          rcases List.mem_cons.mp m with q | q
          · exact absurd q (show (N + 3 : Nat) ≠ N + 1 by omega)
          · obtain ⟨o, e⟩ := hf2 _ q
            exact out _ (N + 3) o (by simp) e rfl
        sep1_2 := fun m => by
          rcases List.mem_cons.mp m with q | q
          · exact absurd q (show (N : Nat) ≠ N + 1 by omega)
          · obtain ⟨o, e⟩ := hf2 _ q
            exact out _ N o (by simp) e rfl
        sep2_1 := fun m => by
          rcases List.mem_cons.mp m with q | q
          · exact absurd q (show (N + 1 : Nat) ≠ N by omega)
          · obtain ⟨o, e⟩ := hf1 _ q
            exact out _ (N + 1) o (by simp) e rfl }
    refine ⟨_, _, _, _, _, WalksT.zipD2 S D1 D2, fun b hb => ?_, ⟨h1, h2, h3, s1, s2⟩, fun i h q => ⟨q.1, q.2.1, q.2.2.1, so1 i h q.2.2.2.1, so2 i h q.2.2.2.2⟩, fun i vals hp => ?_⟩
    · have e' : b = N + 4 ∨ b = N + 3 ∨ b = N ∨ b = N + 1 := by simpa using hb
      rcases e' with rfl | rfl | rfl | rfl <;> simp
    · obtain ⟨x1, x2, ⟨y1, e1, e2⟩, ⟨y2, e3, e4⟩, rfl⟩ := hp
      exact ⟨x1, x2, y1, y2, rfl, e2, e4, e1, e3⟩
  · rintro A i s Q E ⟨h1, _⟩ h
    exact wpAny_pyIter_zip h1 h
def iZipS (ta : TA) : TI := fun σ H R => ta σ H fun vs H1 => ∃ r1 r2 : Src, vs = [r1.val, r2.val] ∧ r1.ok H1 ∧ r2.ok H1 ∧
  R (ItP (fun H => r1.ok H ∧ r2.ok H) (min r1.n r2.n) (fun i H x => r1.at_ i H x) (fun i H y => r2.at_ i H y)) H1
theorem pi_zipS {X : Cx} {e e2 : Expr} {ta : TA} {p pos tpos : Pos} {elts : List Expr} {kk : Nat} (hg : Gl X "zip") (hm : X.mg "zip" = none) (ha : PA X [e, e2] ta) (hn : noStar e = true) (hn2 : noStar e2 = true) :
    PI X (.Tuple elts kk tpos) (.Call (.Name "zip" p) [e, e2] [] pos) (iZipS ta) := by
  refine ⟨fun pins s σ H R I h => ?_⟩
  refine Call_ (ld_blt I hg hm boot_zip (PyProof.Rows.callWith_type1 (thn (ha.run pos pins s σ H _ I h) fun us s1 ⟨vs, H1, I1, q1, r1, r2, ex, ok1, ok2, q⟩ => ?_) (noStar_ok hn) (by rw [noStar_ok hn2]; rfl)))
  subst ex
  obtain ⟨u1, u2, rfl, rx1, rx2⟩ := vals2 q1
  obtain ⟨o1, Hs1, B1, b1, c1⟩ := Src.begins I1 ok1 rx1
  obtain ⟨o2, Hs2, B2, b2, c2⟩ := Src.begins I1 ok2 rx2
  refine zip_begins2 B1 B2 b1 b2 fun h' hz hT hO g1 g2 hsz hk => wpAny_pyIter_zip hz ?_
  have I2 : Inv X pins σ H1 { s1 with heap := h' } := I1.kept (t' := s1.toks) hk
  refine ⟨s1.heap.objs.size + 4, _, _, _, H1, rfl, I2, turn_zipS r1 r2 s1.heap.objs.size, ⟨hz, hT, ⟨_, _, hO⟩, c1 _ _ g1, c2 _ _ g2⟩, fun b hb => ?_, q⟩
  have hle : s1.heap.objs.size ≤ b := by
    have e' : b = s1.heap.objs.size + 4 ∨ b = s1.heap.objs.size + 2 ∨ b = s1.heap.objs.size + 3 ∨ b = s1.heap.objs.size ∨ b = s1.heap.objs.size + 1 := by simpa using hb
    rcases e' with z | z | z | z | z <;> rw [z]
    · exact Nat.le_add_right _ _
    · exact Nat.le_add_right _ _
    · exact Nat.le_add_right _ _
    · exact Nat.le_refl _
    · exact Nat.le_add_right _ _
  exact I1.fpOk hle (I1.hok.fresh hle)

/-! ### whatever it is -/
def iDyn (K : PySem.W.Frag) (te : TE) : TI := fun σ H R => te σ H fun x H1 => (∃ a vs, x = .ref a ∧ SqL K H1 a vs ∧ R (Itl K a) H1) ∨ (∃ a vs, x = .ref a ∧ SqT K H1 a vs ∧ R (Itt K a) H1) ∨ ∃ z, x = .str z ∧ R (Its z) H1
theorem pi_dyn {X : Cx} {tg e : Expr} {te : TE} (he : PE X e te) : PI X tg e (iDyn X.K te) := by
  refine ⟨fun pins s σ H R I h => ?_⟩
  refine thn (he.run pins s σ H _ I h) fun v s1 ⟨x, H1, I1, r1, q⟩ => ?_
  rcases q with ⟨a, vs, ex, hq, q⟩ | ⟨a, vs, ex, hq, q⟩ | ⟨z, ex, q⟩
  · subst ex
    cases r1
    obtain ⟨its, _, pl, _⟩ := I1.list hq
    exact wpAny_pyIter_list pl.isList (pi_one (tk := s1.toks) I1 _ (turn_list a _) ⟨_, Heap.get?_push_size _ rfl, rfl, rfl⟩ q)
  · subst ex
    cases r1
    obtain ⟨its, _, pl, _⟩ := I1.tuple hq
    exact wpAny_pyIter_tuple (show s1.heap.IsTuple a its.toArray from pl) (pi_one (tk := s1.toks) I1 _ (turn_tuple a _) ⟨_, Heap.get?_push_size _ rfl, rfl, rfl⟩ q)
  · subst ex
    obtain ⟨t, rfl⟩ := r1
    cases ha : z.cps.all (· < 128) with
    | false => exact wpAny_pyIter_wide ha (pi_one (tk := s1.toks) I1 _ (turn_str _ z t "str_iterator" (.inr rfl)) ⟨_, Heap.get?_push_size _ rfl, rfl, rfl⟩ q)
    | true => exact wpAny_pyIter_ascii ha (pi_one (tk := s1.toks) I1 _ (turn_str _ z t "str_ascii_iterator" (.inl rfl)) ⟨_, Heap.get?_push_size _ rfl, rfl, rfl⟩ q)
end Ms
end
section
set_option Elab.async false
set_option linter.all false
set_option maxRecDepth 100000
set_option maxHeartbeats 4000000
/-! Walks over data; comprehensions. -/
namespace Ms
open PySem L2

theorem itOk_at {K : PySem.W.Frag} {G : Hp} {ι : List Addr} {J : L2.It} {vs : List V} {ds : List D} {Gd : Hp → Prop} (w : Walk J vs.length Gd (YAt vs)) (hG : ∀ H2 G2 ι2 η2, Ext G ι G2 ι2 → RS K G2 H2 ι2 η2 → Gd H2) (r : Reps K G ι vs ds) : ItOk K G ι J ds [] := by
  unfold ItOk
  rw [← r.length]
  refine w.mono (fun H2 ⟨G2, ι2, η2, x, S, _⟩ => hG H2 G2 ι2 η2 x S) fun i H2 x H3 hi _ y G2 ι2 η2 d e S _ q => ?_
  obtain ⟨rfl, y⟩ := y
  obtain ⟨v, q1, q2⟩ := r.get q
  rw [y] at q1
  cases q1
  exact ⟨G2, Stp.refl _ _ _, S, q2.mono e⟩
/-- a list that may change, but does not -/
theorem itOk_ref {K : PySem.W.Frag} {G : Hp} {ι : List Addr} {n : Nat} {a : Addr} {ds : List D} (q : ι[n]? = some a) : ItOk K G ι (Itl K a) ds [(n, ds)] := by
  have now : ∀ {H2 G2 : Hp} {ι2 : List Addr} {η2 : List Cell}, Ext G ι G2 ι2 → RS K G2 H2 ι2 η2 → gdOk [(n, ds)] η2 → ∃ vs, H2 a = some (.lst vs) ∧ Reps K G2 ι2 vs ds := fun x S g => by
    obtain ⟨vs, h1, h2⟩ := S.cells n a _ (prefix_get x.i q) (g (n, ds) List.mem_cons_self)
    exact ⟨vs, h1, h2⟩
  refine ⟨fun i H2 hi ⟨G2, ι2, η2, x, S, g⟩ => ?_, fun H2 ⟨G2, ι2, η2, x, S, g⟩ => ?_, fun i H2 x H3 hi _ y G2 ι2 η2 d e S g hd => ?_⟩
  · obtain ⟨vs, h1, h2⟩ := now x S g
    exact ⟨vs, vs[i]'(by rw [h2.length]; exact hi), SqL.of h1, List.getElem?_eq_getElem _⟩
  · obtain ⟨vs, h1, h2⟩ := now x S g
    exact ⟨vs, SqL.of h1, by rw [h2.length]; exact Nat.le_refl _⟩
  · obtain ⟨vs, h1, h2⟩ := now e S g
    obtain ⟨rfl, y⟩ := y
    obtain ⟨v, q1, q2⟩ := h2.get hd
    have := y vs (SqL.of h1)
    rw [q1] at this
    cases this
    exact ⟨G2, Stp.refl _ _ _, S, q2⟩
theorem itOk_fn {K : PySem.W.Frag} {G : Hp} {ι : List Addr} {J : L2.It} {n : Nat} {f : Nat → Int} (w : Walk J n (fun _ => True) (YFn fun i => .int (f i))) : ItOk K G ι J ((List.range n).map fun i => D.int (f i)) [] := by
  unfold ItOk
  rw [List.length_map, List.length_range]
  refine w.mono (fun _ _ => trivial) fun i H2 x H3 hi _ y G2 ι2 η2 d e S _ q => ?_
  obtain ⟨rfl, rfl⟩ := y
  rw [List.getElem?_map, List.getElem?_range hi] at q
  cases q
  exact ⟨G2, Stp.refl _ _ _, S, .int _⟩
theorem itOk_pair {K : PySem.W.Frag} {G : Hp} {ι : List Addr} {Sd : Hp → Prop} {n : Nat} {px py : Nat → Hp → V → Prop} {ds : List D} {g : Gd} (hn : ds.length = n) (hS : ∀ H2 G2 ι2 η2, Ext G ι G2 ι2 → RS K G2 H2 ι2 η2 → gdOk g η2 → Sd H2)
    (hp : ∀ H2 G2 ι2 η2, Ext G ι G2 ι2 → RS K G2 H2 ι2 η2 → gdOk g η2 → ∀ i d x y, ds[i]? = some d → px i H2 x → py i H2 y → ∃ a b, d = .tup [a, b] ∧ Rep K G2 ι2 x a ∧ Rep K G2 ι2 y b) : ItOk K G ι (ItP Sd n px py) ds g := by
  unfold ItOk
  rw [hn]
  refine ⟨fun i H hi ⟨G2, ι2, η2, x, S, g⟩ => ⟨hS _ _ _ _ x S g, hi⟩, fun H ⟨G2, ι2, η2, x, S, g⟩ => ⟨hS _ _ _ _ x S g, rfl⟩, fun i H v H' hi _ y G2 ι2 η2 d e S g q => ?_⟩
  obtain ⟨T, x, z, rfl, hT, rfl, p1, p2⟩ := y
  obtain ⟨a, b, rfl, r1, r2⟩ := hp _ _ _ _ e S g i d x z q p1 p2
  have st := S.stpNew (o := .tup [x, z]) hT
  exact ⟨_, st, S.frozen hT, .tup upd_same (.cons (r1.mono st.x) (.cons (r2.mono st.x) .nil))⟩

section
variable {T : Tab} {cls : Nat → Addr} {k : Nat} {X : Cx} {N : List Str} {sc : Scope} {W : WX}
theorem sqL_str {z : Str} {K : PySem.W.Frag} {G : Hp} {ι : List Addr} : ItOk K G ι (Its z) (signs z) [] := by
  have w : Walk (Its z) (z.cps.toList.map fun c => V.str ⟨#[c]⟩).length (fun _ => True) (YAt (z.cps.toList.map fun c => V.str ⟨#[c]⟩)) := by
    have w0 := walk_str (z := z)
    rw [List.length_map, Array.length_toList]
    refine w0.mono (fun _ h => h) fun i H x H' _ _ y => ?_
    obtain ⟨rfl, c, e, rfl⟩ := y
    exact ⟨rfl, by simp [e]⟩
  exact itOk_at w (fun _ _ _ _ _ _ => trivial) (signs_rep _)
theorem si_val {tg e : Expr} {f : Env → M D} (he : PE X e (tE cls X.K W f)) : PI X tg e (tI cls X.K W fun ρ => bnd (f ρ) itVal) := by
  refine PI.imp (pi_dyn he) ?_
  rintro σ H R ⟨G, ι, η, ρ, S, sl, h⟩
  refine ⟨G, ι, η, ρ, S, sl, (Post.bind h).imp (fun d G1 ι1 η1 H1 st1 S1 h1 v r => ?_) fun _ _ _ z => z⟩
  unfold itVal itemsG itemsOf at h1
  cases r with
  | str z =>
    refine .inr (.inr ⟨z, rfl, ?_⟩)
    by_cases hl : z.length ≤ LIM
    · simp only [hl, if_true] at h1
      exact h1 G1 ι1 H1 (Stp.refl _ _ _) S1 _ sqL_str
    · simp only [hl, if_false] at h1
      exact h1.elim
  | @tup a vs ds q t =>
    refine .inr (.inl ⟨a, vs, rfl, SqT.of (S1.sub _ _ q), ?_⟩)
    exact h1 G1 ι1 H1 (Stp.refl _ _ _) S1 _ (itOk_at walk_tup (fun H2 G2 ι2 η2 x S2 => SqT.of (S2.sub _ _ (x.g _ _ q))) t)
  | @fl a vs ds q t =>
    refine .inl ⟨a, vs, rfl, SqL.of (S1.sub _ _ q), ?_⟩
    exact h1 G1 ι1 H1 (Stp.refl _ _ _) S1 _ (itOk_at walk_list (fun H2 G2 ι2 η2 x S2 => SqL.of (S2.sub _ _ (x.g _ _ q))) t)
  | @scr a vs ds q t =>
    refine .inl ⟨a, vs, rfl, S1.sub.seq q, ?_⟩
    exact h1 G1 ι1 H1 (Stp.refl _ _ _) S1 _ (itOk_at walk_list (fun H2 G2 ι2 η2 x S2 => S2.sub.seq (x.g.seq q)) t)
  | @ref n a q =>
    cases e : η1[n]? with
    | none => simp only [e] at h1; exact h1.elim
    | some c =>
      cases c with
      | dead => simp only [e] at h1; exact h1.elim
      | tab p' q' => simp only [e] at h1; exact h1.elim
      | dic kvs => simp only [e] at h1; exact h1.elim
      | dit kvs => simp only [e] at h1; exact h1.elim
      | ins C fs => simp only [e] at h1; exact h1.elim
      | lst xs =>
        simp only [e] at h1
        obtain ⟨vs, g1, _⟩ := S1.cells n a _ q e
        exact .inl ⟨a, vs, rfl, SqL.of g1, h1 G1 ι1 H1 (Stp.refl _ _ _) S1 _ (itOk_ref q)⟩
  | _ => exact h1.elim
theorem enumL_length : ∀ (n : Nat) (l : List D), (enumL n l).length = l.length
  | _, [] => rfl
  | n, d :: r => congrArg (· + 1) (enumL_length (n + 1) r)
theorem enumL_get : ∀ (n : Nat) (l : List D) (i : Nat) (d : D), (enumL n l)[i]? = some d → ∃ e, l[i]? = some e ∧ d = .tup [.int ((n + i : Nat) : Int), e]
  | _, [], i, d, h => by simp [enumL] at h
  | n, a :: r, 0, d, h => by
    simp [enumL] at h
    exact ⟨a, rfl, by rw [← h]; simp⟩
  | n, a :: r, i + 1, d, h => by
    obtain ⟨e, h1, h2⟩ := enumL_get (n + 1) r i d (by simpa [enumL] using h)
    exact ⟨e, by simpa using h1, by rw [h2, show n + 1 + i = n + (i + 1) by omega]⟩
/-- a source that a datum is -/
theorem src_of {K : PySem.W.Frag} {G H : Hp} {ι : List Addr} {η : List Cell} {d : D} {v : V} {xs : List D} {g : Gd} (S : RS K G H ι η) (r : Rep K G ι v d) (h : zItems d η = some (xs, g)) :
    ∃ s : Src, s.val = v ∧ s.ok H ∧ s.n = xs.length ∧ ∀ H2 G2 ι2 η2, Ext G ι G2 ι2 → RS K G2 H2 ι2 η2 → gdOk g η2 → s.ok H2 ∧ ∀ i y e, s.at_ i H2 y → xs[i]? = some e → Rep K G2 ι2 y e := by
  have stat : ∀ {vs : List V} {ds : List D}, Reps K G ι vs ds → ∀ {G2 : Hp} {ι2 : List Addr}, Ext G ι G2 ι2 → ∀ i y e, vs[i]? = some y → ds[i]? = some e → Rep K G2 ι2 y e := fun r G2 ι2 x i y e h1 h2 => by
    obtain ⟨v, q1, q2⟩ := r.get h2
    rw [h1] at q1
    cases q1
    exact q2.mono x
  unfold zItems itemsG itemsOf at h
  cases r with
  | str z =>
    by_cases hl : z.length ≤ LIM
    · simp only [isScr, Bool.false_eq_true, hl, if_true, if_false, Option.map_some, Option.some.injEq, Prod.mk.injEq] at h
      obtain ⟨rfl, rfl⟩ := h
      exact ⟨.str z, rfl, Nat.le_trans hl lim_line, by simp [Src.n, signs], fun H2 G2 ι2 η2 x S2 _ => ⟨Nat.le_trans hl lim_line, stat (signs_rep _) x⟩⟩
    · simp [isScr, hl] at h
  | @tup a vs ds q t =>
    simp only [isScr, Bool.false_eq_true, if_false, Option.map_some, Option.some.injEq, Prod.mk.injEq] at h
    obtain ⟨rfl, rfl⟩ := h
    exact ⟨.tup a vs, rfl, S.sub _ _ q, t.length, fun H2 G2 ι2 η2 x S2 _ => ⟨S2.sub _ _ (x.g _ _ q), stat t x⟩⟩
  | @fl a vs ds q t =>
    simp only [isScr, Bool.false_eq_true, if_false, Option.map_some, Option.some.injEq, Prod.mk.injEq] at h
    obtain ⟨rfl, rfl⟩ := h
    exact ⟨.lst a vs, rfl, S.sub _ _ q, t.length, fun H2 G2 ι2 η2 x S2 _ => ⟨S2.sub _ _ (x.g _ _ q), stat t x⟩⟩
  | @ref n a q =>
    cases e : η[n]? with
    | none => simp [isScr, e] at h
    | some c =>
      cases c with
      | dead => simp [isScr, e] at h
      | tab p' q' => simp [isScr, e] at h
      | dic kvs => simp [isScr, e] at h
      | dit kvs => simp [isScr, e] at h
      | ins C fs => simp [isScr, e] at h
      | lst ys =>
        simp only [isScr, Bool.false_eq_true, if_false, e, Option.some.injEq, Prod.mk.injEq] at h
        obtain ⟨rfl, rfl⟩ := h
        obtain ⟨vs, g1, g2⟩ := S.cells n a _ q e
        refine ⟨.dyn a ys.length, rfl, ⟨vs, g1, g2.length⟩, rfl, fun H2 G2 ι2 η2 x S2 g => ?_⟩
        obtain ⟨ws, k1, k2⟩ := S2.cells n a _ (prefix_get x.i q) (g (n, ys) List.mem_cons_self)
        refine ⟨⟨ws, k1, k2.length⟩, fun i y d ⟨us, j1, j2⟩ hd => ?_⟩
        rw [k1] at j1
        cases j1
        obtain ⟨v, q1, q2⟩ := k2.get hd
        rw [j2] at q1
        cases q1
        exact q2
  | _ => simp [isScr] at h
theorem si_enum {t e : Expr} {f : Env → M D} {p pos : Pos} (C : CtxD T cls k X N sc W) (hg : glB sc "enumerate" = true) (he : PE X e (tE cls X.K W f)) (hn : noStar e = true) (ht : isTuple t = true) :
    PI X t (.Call (.Name "enumerate" p) [e] [] pos) (tI cls X.K W fun ρ => bnd (f ρ) itEnum) := by
  cases t <;> first | cases ht | skip
  rename_i elts kk tpos
  have ha : PA X [e] (tCons (tE cls X.K W f) tNil) := pa_cons he pa_nil (noStar_ok hn)
  refine PI.imp (pi_enumS (glB_ok (by rw [C.scEq]; exact hg)) (C.bl _ (by decide)) ha hn) ?_
  rintro σ H R ⟨G, ι, η, ρ, S, sl, h⟩
  refine ⟨G, ι, η, ρ, S, sl, (Post.bind h).imp (fun d G1 ι1 η1 H1 st1 S1 h1 v r => ?_) fun _ _ _ z => z⟩
  unfold itEnum at h1
  cases q1 : zItems d η1 with
  | none => rw [q1] at h1; exact h1.elim
  | some r1 =>
    obtain ⟨xs, g⟩ := r1
    obtain ⟨s, e1, o1, p1, k1⟩ := src_of S1 r q1
    subst e1
    rw [q1] at h1
    refine ⟨s, rfl, o1, h1 G1 ι1 H1 (Stp.refl _ _ _) S1 _ (itOk_pair (by rw [enumL_length, p1]) (fun H2 G2 ι2 η2 x S2 g2 => (k1 H2 G2 ι2 η2 x S2 g2).1) fun H2 G2 ι2 η2 x S2 g2 i d x' y q e1 e2 => ?_)⟩
    obtain ⟨e, j1, rfl⟩ := enumL_get 0 xs i d q
    refine ⟨_, _, rfl, ?_, (k1 H2 G2 ι2 η2 x S2 g2).2 i y e e2 j1⟩
    rw [e1, Nat.zero_add]
    exact .int _
theorem si_zip {t e e2 : Expr} {f f2 : Env → M D} {p pos : Pos} (C : CtxD T cls k X N sc W) (hg : glB sc "zip" = true) (he : PE X e (tE cls X.K W f)) (he2 : PE X e2 (tE cls X.K W f2)) (hn : noStar e = true) (hn2 : noStar e2 = true) (ht : isTuple t = true) :
    PI X t (.Call (.Name "zip" p) [e, e2] [] pos) (tI cls X.K W fun ρ => bnd (f ρ) fun x => bnd (f2 ρ) fun y => itZip x y) := by
  cases t <;> first | cases ht | skip
  rename_i elts kk tpos
  have ha : PA X [e, e2] (tCons (tE cls X.K W f) (tCons (tE cls X.K W f2) tNil)) := pa_cons he (pa_cons he2 pa_nil (noStar_ok hn2)) (noStar_ok hn)
  refine PI.imp (pi_zipS (glB_ok (by rw [C.scEq]; exact hg)) (C.bl _ (by decide)) ha hn hn2) ?_
  rintro σ H R ⟨G, ι, η, ρ, S, sl, h⟩
  refine ⟨G, ι, η, ρ, S, sl, (Post.bind h).imp (fun d G1 ι1 η1 H1 st1 S1 h1 v r => ?_) fun _ _ _ z => z⟩
  refine ⟨G1, ι1, η1, ρ, S1, sl.mono st1.x, (Post.bind h1).imp (fun d2 G2 ι2 η2 H2 st2 S2 h2 v2 r2 => ?_) fun _ _ _ z => z⟩
  unfold itZip at h2
  cases q1 : zItems d η2 with
  | none => rw [q1] at h2; exact h2.elim
  | some w1 =>
    obtain ⟨xs, g⟩ := w1
    cases q2 : zItems d2 η2 with
    | none => rw [q1, q2] at h2; exact h2.elim
    | some w2 =>
      obtain ⟨ys, g'⟩ := w2
      obtain ⟨s1, e1, o1, p1, k1⟩ := src_of S2 (r.mono st2.x) q1
      obtain ⟨s2, e2, o2, p2, k2⟩ := src_of S2 r2 q2
      subst e1 e2
      rw [q1, q2] at h2
      have gl : ∀ {η3 : List Cell}, gdOk (g ++ g') η3 → gdOk g η3 ∧ gdOk g' η3 := fun h => ⟨fun p hp => h p (List.mem_append_left _ hp), fun p hp => h p (List.mem_append_right _ hp)⟩
      refine ⟨s1, s2, rfl, o1, o2, h2 G2 ι2 H2 (Stp.refl _ _ _) S2 _ (itOk_pair ?_ (fun H3 G3 ι3 η3 x S3 g3 => ⟨(k1 H3 G3 ι3 η3 x S3 (gl g3).1).1, (k2 H3 G3 ι3 η3 x S3 (gl g3).2).1⟩) fun H3 G3 ι3 η3 x S3 g3 i q x' y' hq e1 e2 => ?_)⟩
      · rw [List.length_zipWith, p1, p2]
      · rw [List.getElem?_zipWith] at hq
        cases j1 : xs[i]? with
        | none => rw [j1] at hq; cases hq
        | some a =>
          cases j2 : ys[i]? with
          | none => rw [j1, j2] at hq; cases hq
          | some b =>
            rw [j1, j2] at hq
            cases hq
            exact ⟨a, b, rfl, (k1 H3 G3 ι3 η3 x S3 (gl g3).1).2 i x' a e1 j1, (k2 H3 G3 ι3 η3 x S3 (gl g3).2).2 i y' b e2 j2⟩
theorem si_r1 {t a : Expr} {f : Env → M D} {p pos : Pos} (C : CtxD T cls k X N sc W) (hg : glB sc "range" = true) (ha : PE X a (tE cls X.K W f)) (na : noStar a = true) :
    PI X t (.Call (.Name "range" p) [a] [] pos) (tI cls X.K W fun ρ => bnd (f ρ) itR1) := by
  refine PI.imp (pi_range1 (glB_ok (by rw [C.scEq]; exact hg)) (C.bl _ (by decide)) (pa_cons ha pa_nil (noStar_ok na)) (noStar_ok na)) ?_
  rintro σ H R ⟨G, ι, η, ρ, S, sl, h⟩
  refine ⟨G, ι, η, ρ, S, sl, (Post.bind h).imp (fun d G1 ι1 η1 H1 st1 S1 h1 v r => ?_) fun _ _ _ z => z⟩
  cases r with
  | int j =>
    simp only [itR1] at h1
    by_cases hj : -1000000 ≤ j ∧ j ≤ 1000000
    · rw [if_pos hj] at h1
      refine ⟨j, rfl, by omega, by omega, ?_⟩
      have w := itOk_fn (K := X.K) (G := G1) (ι := ι1) (f := fun i => (0 : Int) + (i : Nat)) (walk_range (lo := 0) (n := j.toNat))
      simp only [Int.zero_add] at w
      exact h1 G1 ι1 H1 (Stp.refl _ _ _) S1 _ w
    · rw [if_neg hj] at h1
      exact h1.elim
  | _ => exact h1.elim
theorem si_r2 {t a b : Expr} {f f2 : Env → M D} {p pos : Pos} (C : CtxD T cls k X N sc W) (hg : glB sc "range" = true) (ha : PE X a (tE cls X.K W f)) (na : noStar a = true) (hb : PE X b (tE cls X.K W f2)) (nb : noStar b = true) :
    PI X t (.Call (.Name "range" p) [a, b] [] pos) (tI cls X.K W fun ρ => bnd (f ρ) fun x => bnd (f2 ρ) fun y => itR2 x y) := by
  refine PI.imp (pi_range2 (glB_ok (by rw [C.scEq]; exact hg)) (C.bl _ (by decide)) (pa_cons ha (pa_cons hb pa_nil (noStar_ok nb)) (noStar_ok na)) (by rw [noStar_ok na, noStar_ok nb]; rfl) (noStar_ok nb)) ?_
  rintro σ H R ⟨G, ι, η, ρ, S, sl, h⟩
  refine ⟨G, ι, η, ρ, S, sl, (Post.bind h).imp (fun d G1 ι1 η1 H1 st1 S1 h1 v r => ?_) fun _ _ _ z => z⟩
  refine ⟨G1, ι1, η1, ρ, S1, sl.mono st1.x, (Post.bind h1).imp (fun d2 G2 ι2 η2 H2 st2 S2 h2 v2 r2 => ?_) fun _ _ _ z => z⟩
  cases r with
  | int i =>
    cases r2 with
    | int j =>
      simp only [itR2] at h2
      by_cases hj : -1000000 ≤ i ∧ i ≤ 1000000 ∧ -1000000 ≤ j ∧ j ≤ 1000000
      · rw [if_pos hj] at h2
        refine ⟨i, j, rfl, ⟨by omega, by omega, by omega, by omega⟩, ?_⟩
        exact h2 G2 ι2 H2 (Stp.refl _ _ _) S2 _ (itOk_fn (walk_range (lo := i) (n := (j - i).toNat)))
      · rw [if_neg hj] at h2
        exact h2.elim
    | _ => exact h2.elim
  | _ => exact h2.elim
theorem si_r3 {t a b c : Expr} {f f2 f3 : Env → M D} {p pos : Pos} (C : CtxD T cls k X N sc W) (hg : glB sc "range" = true) (ha : PE X a (tE cls X.K W f)) (na : noStar a = true) (hb : PE X b (tE cls X.K W f2)) (nb : noStar b = true)
    (hc : PE X c (tE cls X.K W f3)) (nc : noStar c = true) :
    PI X t (.Call (.Name "range" p) [a, b, c] [] pos) (tI cls X.K W fun ρ => bnd (f ρ) fun x => bnd (f2 ρ) fun y => bnd (f3 ρ) fun z => itR3 x y z) := by
  refine PI.imp (pi_range3 (glB_ok (by rw [C.scEq]; exact hg)) (C.bl _ (by decide)) (pa_cons ha (pa_cons hb (pa_cons hc pa_nil (noStar_ok nc)) (noStar_ok nb)) (noStar_ok na)) (by rw [noStar_ok na, noStar_ok nb, noStar_ok nc] <;> rfl) (by rw [noStar_ok nb, noStar_ok nc] <;> rfl)) ?_
  rintro σ H R ⟨G, ι, η, ρ, S, sl, h⟩
  refine ⟨G, ι, η, ρ, S, sl, (Post.bind h).imp (fun d G1 ι1 η1 H1 st1 S1 h1 v r => ?_) fun _ _ _ z => z⟩
  refine ⟨G1, ι1, η1, ρ, S1, sl.mono st1.x, (Post.bind h1).imp (fun d2 G2 ι2 η2 H2 st2 S2 h2 v2 r2 => ?_) fun _ _ _ z => z⟩
  refine ⟨G2, ι2, η2, ρ, S2, sl.mono (st1.x.trans st2.x), (Post.bind h2).imp (fun d3 G3 ι3 η3 H3 st3 S3 h3 v3 r3 => ?_) fun _ _ _ z => z⟩
  cases r with
  | int i =>
    cases r2 with
    | int j =>
      cases r3 with
      | int c =>
        simp only [itR3] at h3
        by_cases hj : c = -1 ∧ -1000000 ≤ i ∧ i ≤ 1000000 ∧ -1000000 ≤ j ∧ j ≤ 1000000
        · rw [if_pos hj] at h3
          obtain ⟨rfl, hj⟩ := hj
          refine ⟨i, j, -1, (i - j).toNat, rfl, RgC.neg (by omega) (by omega) (by omega) (by omega), ?_⟩
          exact h3 G3 ι3 H3 (Stp.refl _ _ _) S3 _ (itOk_fn (walk_rangeC (lo := i) (c := -1) (n := (i - j).toNat)))
        · rw [if_neg hj] at h3
          exact h3.elim
      | _ => exact h3.elim
    | _ => exact h3.elim
  | _ => exact h3.elim
end
end Ms
end
section
set_option Elab.async false
set_option linter.all false
set_option maxRecDepth 100000
set_option maxHeartbeats 4000000
/-! Calls, methods, comprehensions. -/
namespace Ms
open PySem L2

section
variable {T : Tab} {cls : Nat → Addr} {k : Nat} {X : Cx} {N : List Str} {sc : Scope} {W : WX}
/-- a def called gets as many as it has parameters -/
theorem evF_len {F : List FD} {k f : Nat} {fd : FD} {ds : List D} {η : List Cell} {K : PySem.W.Frag} {G H : Hp} {ι : List Addr} {Q : VK} {W' : Value → Option Addr → Hp → Prop} (hf : F[f]? = some fd) (h : PV cls K G H ι (evF F k f ds η) Q W') : ds.length = fd.ps.length := by
  cases k with
  | zero => exact h.elim
  | succ k =>
    unfold evF at h
    rw [hf] at h
    by_cases hl : ds.length = fd.ps.length
    · exact hl
    · simp only [hl, if_false] at h
      exact h.elim
theorem call_imp {f : Nat} {fd : FD} {g : Env → M (List D)} {σ : L2.St} {H : Hp} {Q : VK} (hf : T.fns[f]? = some fd) (h : tE cls X.K W (fun ρ => bnd (g ρ) (evF T.fns k f)) σ H Q) :
    tCallS (spF cls X.K fd.ps.length (evF T.fns k f)) (WE W) (tA cls X.K W g) σ H Q := by
  obtain ⟨G, ι, η, ρ, S, sl, h⟩ := h
  refine ⟨G, ι, η, ρ, S, sl, (Post.bind h).imp (fun ds G1 ι1 η1 H1 st1 S1 h1 vs r => ?_) fun _ _ _ z => z⟩
  exact ⟨by rw [r.length]; exact evF_len hf h1, G1, ι1, η1, ds, S1, r, h1⟩
theorem se_call {f : Nat} {fd : FD} {x : Str} {xs : List Expr} {g : Env → M (List D)} {p pos : Pos} (C : CtxD T cls k X N sc W) (hf : T.fns[f]? = some fd) (ho : fd.own = none) (hx : fd.name = x) (hg : glB sc x = true) (hn : nameB x = true) (ha : PA X xs (tA cls X.K W g)) (hne : xs.isEmpty = false)
    (hs : xs.all noStar = true) : PE X (.Call (.Name x p) xs [] pos) (tE cls X.K W fun ρ => bnd (g ρ) (evF T.fns k f)) := by
  obtain ⟨a, dt, FA, e3, F⟩ := C.fn f fd hf
  obtain ⟨e1, e2⟩ := FA.gl ho
  subst hx
  cases xs with
  | nil => cases hne
  | cons e es =>
    have n1 : noStar e = true := by simp at hs; exact hs.1
    have n2 : ∀ y ∈ es, noStar y = true := by simp at hs; exact hs.2
    have pl : (backTo pos (starEach es X.env)).any (·.1) = false := by
      clear ha hne hs
      induction es with
      | nil => rfl
      | cons y ys ih =>
        rw [noStar_ok (n2 y List.mem_cons_self)]
        exact ih fun z hz => n2 z (List.mem_cons_of_mem _ hz)
    exact PE.imp (pe_callS F (C.room.mono (by omega)) (glB_ok (by rw [C.scEq]; exact hg)) e1 e2 e3 (fun σ => passAt C.tk σ) ha (nameB_ok hn).1 (noStar_ok n1) pl) fun _ _ _ h => call_imp hf h

/-- built-ins by their rules -/
theorem bi_D (b : Bi) (hc : X.calm = true) : (b.ty = false → ∃ id, bootBuiltins b.name = some (.builtin id) ∧ CallR X (.builtin id) (rDN cls X.K (biD b))) ∧ (b.ty = true → ∃ t, bootBuiltins b.name = some (.type t) ∧ CallR X (.type t) (rDN cls X.K (biD b))) := by
  cases b
  · exact ⟨fun _ => ⟨"len", by decide +kernel, call_lenD'⟩, fun h => by cases h⟩
  · exact ⟨fun h => (by cases h), fun _ => ⟨"int", by decide +kernel, call_intD⟩⟩
  · exact ⟨fun h => (by cases h), fun _ => ⟨"list", by decide +kernel, call_listD' hc⟩⟩
  · exact ⟨fun h => (by cases h), fun _ => ⟨"list", by decide +kernel, call_listMD' hc⟩⟩
  · exact ⟨fun h => (by cases h), fun _ => ⟨"tuple", by decide +kernel, call_tupleD⟩⟩
  · exact ⟨fun _ => ⟨"all", by decide +kernel, call_allD hc⟩, fun h => by cases h⟩
  · exact ⟨fun _ => ⟨"any", by decide +kernel, call_anyD hc⟩, fun h => by cases h⟩
  · exact ⟨fun _ => ⟨"sum", by decide +kernel, call_sumD hc⟩, fun h => by cases h⟩
  · exact ⟨fun _ => ⟨"min", by decide +kernel, call_minD hc⟩, fun h => by cases h⟩
  · exact ⟨fun _ => ⟨"max", by decide +kernel, call_maxD hc⟩, fun h => by cases h⟩
  · exact ⟨fun h => (by cases h), fun _ => ⟨"str", by decide +kernel, call_strD⟩⟩
theorem bi_name (b : Bi) : b.name ∈ builtinNames ∧ b.name ≠ "__name__" ∧ (b.name == ("__debug__" : Str)) = false := by
  cases b <;> exact ⟨by decide +kernel, by decide +kernel, by decide +kernel⟩
theorem bi_imp {b : List D → M D} {g : Env → M (List D)} {σ : L2.St} {H : Hp} {Q : VK} (h : tE cls X.K W (fun ρ => bnd (g ρ) b) σ H Q) : tCB (rDN cls X.K b) (tA cls X.K W g) σ H Q := by
  obtain ⟨G, ι, η, ρ, S, sl, h⟩ := h
  refine ⟨G, ι, η, ρ, S, sl, (Post.bind h).imp (fun ds G1 ι1 η1 H1 st1 S1 h1 vs r => ?_) fun _ _ _ z => z⟩
  exact ⟨_, G1, ι1, η1, ds, S1, r, h1⟩
theorem se_bi {b : Bi} {x : Str} {xs : List Expr} {g : Env → M (List D)} {p pos : Pos} (C : CtxD T cls k X N sc W) (hx : b.name = x) (hg : glB sc x = true) (ha : PA X xs (tA cls X.K W g)) (hne : xs.isEmpty = false) (hs : xs.all noStar = true) :
    PE X (.Call (.Name x p) xs [] pos) (tE cls X.K W fun ρ => bnd (g ρ) (biD b)) := by
  subst hx
  obtain ⟨m1, m2, m3⟩ := bi_name b
  cases xs with
  | nil => cases hne
  | cons e es =>
    have n1 : noStar e = true := by simp at hs; exact hs.1
    have n2 : ∀ y ∈ es, noStar y = true := by simp at hs; exact hs.2
    have pl : (backTo pos (starEach es X.env)).any (·.1) = false := by
      clear ha hne hs
      induction es with
      | nil => rfl
      | cons y ys ih =>
        rw [noStar_ok (n2 y List.mem_cons_self)]
        exact ih fun z hz => n2 z (List.mem_cons_of_mem _ hz)
    have gl : Gl X b.name := glB_ok (by rw [C.scEq]; exact hg)
    obtain ⟨c1, c2⟩ := bi_D (cls := cls) (X := X) b C.calm
    cases hb : b.ty with
    | false =>
      obtain ⟨id, e1, e2⟩ := c1 hb
      exact PE.imp (pe_callB e2 gl (C.bl _ m1) e1 ha m2 m3 (noStar_ok n1) pl) fun _ _ _ h => bi_imp h
    | true =>
      obtain ⟨t, e1, e2⟩ := c2 hb
      exact PE.imp (pe_callTy e2 gl (C.bl _ m1) e1 ha m2 m3 (noStar_ok n1) pl) fun _ _ _ h => bi_imp h
theorem isTy_ok {t : String} (h : t ∈ isTys) : bootBuiltins (PySem.Str.ofString t) = some (.type t) ∧ PySem.Str.ofString t ≠ "__name__" ∧ (PySem.Str.ofString t == ("__debug__" : Str)) = false ∧ PySem.Str.ofString t ∈ builtinNames := by
  simp only [isTys, List.mem_cons, List.not_mem_nil, or_false] at h
  rcases h with rfl | rfl | rfl | rfl | rfl <;> exact ⟨by decide +kernel, by decide +kernel, by decide +kernel, by decide +kernel⟩
theorem se_isi {t : String} {e : Expr} {f : Env → M D} {p p2 pos : Pos} (C : CtxD T cls k X N sc W) (hg : glB sc "isinstance" = true) (hg2 : glB sc (PySem.Str.ofString t) = true) (ht : t ∈ isTys) (he : PE X e (tE cls X.K W f)) (hn : noStar e = true) :
    PE X (.Call (.Name "isinstance" p) [e, .Name (PySem.Str.ofString t) p2] [] pos) (tE cls X.K W fun ρ => bnd (f ρ) (isiD t)) := by
  obtain ⟨b1, b2, b3, b4⟩ := isTy_ok ht
  have hT : PE X (.Name (PySem.Str.ofString t) p2) (tC (.ty t)) := pe_bltn (glB_ok (by rw [C.scEq]; exact hg2)) (C.bl _ b4) b1 rfl b2 b3
  refine PE.imp (pe_callB (call_isD (cls := cls) t) (glB_ok (by rw [C.scEq]; exact hg)) (C.bl _ (by decide +kernel)) (by decide +kernel) (pa_cons he (pa_cons hT pa_nil) (noStar_ok hn)) (by decide +kernel) (by decide +kernel) (noStar_ok hn) rfl) ?_
  rintro σ H Q ⟨G, ι, η, ρ, S, sl, h⟩
  refine ⟨G, ι, η, ρ, S, sl, (Post.bind h).imp (fun d G1 ι1 η1 H1 st1 S1 h1 v r => ?_) fun _ _ _ z => z⟩
  exact ⟨_, v, G1, ι1, η1, d, rfl, S1, r, h1⟩
/-! methods -/
theorem mt_imp {m : Mt} {fo : Env → M D} {g : Env → M (List D)} {σ : L2.St} {H : Hp} {Q : VK} (h : tE cls X.K W (fun ρ => bnd (fo ρ) fun d => bnd (fun η => if recvOk m d η then .ok () η else .bad) fun _ => bnd (g ρ) (mtD m d)) σ H Q) :
    tE cls X.K W fo σ H fun x H1 => tyV X.K m.ty x H1 ∧ tA cls X.K W g σ H1 fun vs H2 => rDM cls X.K (mtD m) x vs H2 Q := by
  obtain ⟨G, ι, η, ρ, S, sl, h⟩ := h
  refine ⟨G, ι, η, ρ, S, sl, (Post.bind h).imp (fun d G1 ι1 η1 H1 st1 S1 h1 v r => ?_) fun _ _ _ z => z⟩
  by_cases hr : recvOk m d η1 = true
  · have e2 : bnd (fun η => if recvOk m d η = true then Res.ok () η else Res.bad) (fun _ => bnd (g ρ) (mtD m d)) η1 = bnd (g ρ) (mtD m d) η1 := by
      show (if recvOk m d η1 = true then Res.ok () η1 else Res.bad).bind (fun _ => bnd (g ρ) (mtD m d)) = _
      rw [if_pos hr]
      rfl
    rw [e2] at h1
    have h2 := h1
    refine ⟨recv_ok S1 r hr, G1, ι1, η1, ρ, S1, sl.mono st1.x, (Post.bind h2).imp (fun ds G2 ι2 η2 H2 st2 S2 h3 vs r2 => ?_) fun _ _ _ z => z⟩
    exact ⟨_, G2, ι2, η2, d, ds, S2, r.mono st2.x, r2, h3⟩
  · have e2 : bnd (fun η => if recvOk m d η = true then Res.ok () η else Res.bad) (fun _ => bnd (g ρ) (mtD m d)) η1 = .bad := by
      show (if recvOk m d η1 = true then Res.ok () η1 else Res.bad).bind (fun _ => bnd (g ρ) (mtD m d)) = _
      rw [if_neg hr]
      rfl
    rw [e2] at h1
    exact h1.elim
theorem evEs_nil (cf : Nat → List D → M D) (ρ : Env) : evEs cf .nil ρ = ret [] := by simp [evEs]
theorem se_mt {m : Mt} {o : Expr} {n : Str} {xs : List Expr} {fo : Env → M D} {g : Env → M (List D)} {ap p : Pos} (C : CtxD T cls k X N sc W) (hn : m.name = n) (ho : PE X o (tE cls X.K W fo)) (hsu : noSuper o = true) (ha : PA X xs (tA cls X.K W g)) (hs : xs.all noStar = true)
    (hl : (ap.endLine == p.line) = true) (hk : (if m.nul then xs.isEmpty else (xs.length == 1)) = true) (hg0 : xs = [] → ∀ ρ, g ρ = ret []) :
    PE X (.Call (.Attribute o n ap) xs [] p) (tE cls X.K W fun ρ => bnd (fo ρ) fun d => bnd (fun η => if recvOk m d η then .ok () η else .bad) fun _ => bnd (g ρ) (mtD m d)) := by
  subst hn
  have nul : ∀ (m : Mt) (id : String) (T : String) (hT : m.ty = T) (hid : m.id = id) (pa : PlainAttrs T) (slot : Slot T m.name id) (hty : typeOf (.builtin id) = pure (.type "method_descriptor")), xs = [] →
      PE X (.Call (.Attribute o m.name ap) xs [] p) (tE cls X.K W fun ρ => bnd (fo ρ) fun d => bnd (fun η => if recvOk m d η then .ok () η else .bad) fun _ => bnd (g ρ) (mtD m d)) := by
    rintro m id T rfl rfl pa slot hty rfl
    refine PE.imp (pe_bm0 pa slot hty (mt_D (cls := cls) m) ho (noSuper_ok hsu) hl) fun σ H Q h => ?_
    obtain ⟨G, ι, η, ρ, S, sl, h⟩ := mt_imp h
    refine ⟨G, ι, η, ρ, S, sl, h.imp (fun d G1 ι1 η1 H1 st1 S1 h1 v r => ?_) fun _ _ _ z => z⟩
    obtain ⟨h2, G2, ι2, η2, ρ2, S2, sl2, h3⟩ := h1 v r
    rw [hg0 rfl] at h3
    exact ⟨h2, h3 G2 ι2 H1 (Stp.refl _ _ _) S2 [] .nil⟩
  have one : ∀ (m : Mt) (id : String) (T : String) (hT : m.ty = T) (hid : m.id = id) (pa : PlainAttrs T) (slot : Slot T m.name id) (hty : typeOf (.builtin id) = pure (.type "method_descriptor")), xs.length = 1 →
      PE X (.Call (.Attribute o m.name ap) xs [] p) (tE cls X.K W fun ρ => bnd (fo ρ) fun d => bnd (fun η => if recvOk m d η then .ok () η else .bad) fun _ => bnd (g ρ) (mtD m d)) := by
    rintro m id T rfl rfl pa slot hty h1
    match xs, h1, ha, hs with
    | [e], _, ha, hs =>
      have n1 : noStar e = true := by simpa using hs
      exact PE.imp (pe_bm pa slot hty (mt_D (cls := cls) m) ho ha (noSuper_ok hsu) (by rw [noStar_ok n1] <;> rfl) hl (noStar_ok n1) rfl) fun σ H Q h => mt_imp h
  cases m
  case append => exact one .append _ _ rfl rfl PySem.F.plainAttrs_list PySem.F.slot_list_append PySem.F.type_list_append (by simpa [Mt.nul] using hk)
  case pop => exact nul .pop _ _ rfl rfl PySem.F.plainAttrs_list PySem.F.slot_list_pop PySem.F.type_list_pop (by simpa [Mt.nul] using hk)
  case popAt => exact one .popAt _ _ rfl rfl PySem.F.plainAttrs_list PySem.F.slot_list_pop PySem.F.type_list_pop (by simpa [Mt.nul] using hk)
  case clear => exact nul .clear _ _ rfl rfl PySem.F.plainAttrs_list PySem.F.slot_list_clear PySem.F.type_list_clear (by simpa [Mt.nul] using hk)
  case join => exact one .join _ _ rfl rfl PySem.F.plainAttrs_str PySem.F.slot_str_join PySem.F.type_str_join (by simpa [Mt.nul] using hk)
  case split => exact one .split _ _ rfl rfl PySem.F.plainAttrs_str PySem.F.slot_str_split PySem.F.type_str_split (by simpa [Mt.nul] using hk)
/-- a cell that is seen no more as one -/
theorem se_frz {e : Expr} {f : Env → M D} (he : PE X e (tE cls X.K W f)) : PE X e (tE cls X.K W fun ρ => bnd (f ρ) frzD) := by
  refine PE.imp he ?_
  rintro σ H Q ⟨G, ι, η, ρ, S, sl, h⟩
  refine ⟨G, ι, η, ρ, S, sl, (Post.bind h).imp (fun d G1 ι1 η1 H1 st1 S1 h1 v r => ?_) fun _ _ _ z => z⟩
  cases r with
  | @ref n a q =>
    simp only [frzD] at h1
    cases e : η1[n]? with
    | none => rw [e] at h1; exact h1.elim
    | some c =>
      cases c with
      | dead => rw [e] at h1; exact h1.elim
      | tab p q => rw [e] at h1; exact h1.elim
      | dic kvs => rw [e] at h1; exact h1.elim
      | dit kvs => rw [e] at h1; exact h1.elim
      | ins C fs => rw [e] at h1; exact h1.elim
      | lst xs =>
        rw [e] at h1
        obtain ⟨vs, g1, g2⟩ := S1.cells n a _ q e
        obtain ⟨st, S2⟩ := S1.freeze q e (by intro z; cases z) g1
        exact h1 _ ι1 H1 st S2 _ (.fl upd_same (g2.mono st.x))
  | non => exact PV.now h1 S1 .non
  | bl b => exact PV.now h1 S1 (.bl b)
  | int b => exact PV.now h1 S1 (.int b)
  | str b => exact PV.now h1 S1 (.str b)
  | tup q t => exact PV.now h1 S1 (.tup q t)
  | fl q t => exact PV.now h1 S1 (.fl q t)
  | scr q t => exact PV.now h1 S1 (.scr q t)
end
end Ms
end
section
set_option Elab.async false
set_option linter.all false
set_option maxRecDepth 100000
set_option maxHeartbeats 4000000
/-! Targets; comprehensions. -/
namespace Ms
open PySem L2

def gNames : List Nat → TGs
  | [] => gNil
  | i :: is => gCons (gName i) (gNames is)
def gT (K : PySem.W.Frag) : Tn → TG
  | .name i => gName i
  | .tup is => gTup K is.length (gNames is)
def tnSlots : Tn → List Nat
  | .name i => [i]
  | .tup is => is

section
variable {X : Cx} {N : List Str} {sc sc2 : Scope}
theorem chkN_ok {i : Nat} {e : Expr} (h : chkN N sc i e = true) : ∃ x p, e = .Name x p ∧ N[i]? = some x ∧ (sc.names.lookup x = some .local ∨ sc.names.lookup x = some .cell) := by
  unfold chkN at h
  split at h
  · rename_i x p
    simp only [Bool.and_eq_true, decide_eq_true_eq] at h
    refine ⟨x, p, rfl, h.1, ?_⟩
    have h2 := h.2
    split at h2
    · exact .inl (by assumption)
    · exact .inr (by assumption)
    · cases h2
  · cases h
theorem pg_N {i : Nat} {e : Expr} (hN : X.N = N) (nd : N.Nodup) (hs : X.env.scope = sc) (h1 : chkN N sc i e = true) (h2 : chkN N sc2 i e = true)
    (st : ∀ x, sc2.names.lookup x = some .local ∨ sc2.names.lookup x = some .cell → X.fn x = true ∨ X.env.scope.names.lookup x = some .local) : PG X e (gName i) := by
  obtain ⟨x, p, rfl, a, b⟩ := chkN_ok h1
  obtain ⟨x', p', e', a', b'⟩ := chkN_ok h2
  cases e'
  exact pg_name (by rw [hN]; exact nd) (by rw [hN]; exact a) (by rw [hs]; exact b) (st x b')
theorem pgs_N (hN : X.N = N) (nd : N.Nodup) (hs : X.env.scope = sc) (st : ∀ x, sc2.names.lookup x = some .local ∨ sc2.names.lookup x = some .cell → X.fn x = true ∨ X.env.scope.names.lookup x = some .local) :
    ∀ {is : List Nat} {es : List Expr}, chkNs N sc is es = true → chkNs N sc2 is es = true → PGs X es (gNames is) ∧ (assignEach es X.env).length = is.length ∧ (assignEach es X.env).findIdx? (·.1) = none
  | [], [], _, _ => ⟨pgs_nil, rfl, rfl⟩
  | i :: is, e :: es, h1, h2 => by
    simp only [chkNs, Bool.and_eq_true] at h1 h2
    obtain ⟨r1, r2, r3⟩ := pgs_N hN nd hs st h1.2 h2.2
    obtain ⟨x, p, rfl, _⟩ := chkN_ok h1.1
    refine ⟨pgs_cons (pg_N hN nd hs h1.1 h2.1 st) r1 rfl, congrArg (· + 1) r2, ?_⟩
    show ((false, assign (.Name x p) X.env) :: assignEach es X.env).findIdx? (·.1) = none
    rw [List.findIdx?_cons]
    simp [r3]
  | [], _ :: _, h1, _ => by simp [chkNs] at h1
  | _ :: _, [], h1, _ => by simp [chkNs] at h1
theorem pg_T {tg : Tn} {e : Expr} (hN : X.N = N) (nd : N.Nodup) (hs : X.env.scope = sc) (hc : X.calm = true) (h1 : chkTn N sc tg e = true) (h2 : chkTn N sc2 tg e = true)
    (st : ∀ x, sc2.names.lookup x = some .local ∨ sc2.names.lookup x = some .cell → X.fn x = true ∨ X.env.scope.names.lookup x = some .local) : PG X e (gT X.K tg) := by
  cases tg with
  | name i => exact pg_N hN nd hs h1 h2 st
  | tup is =>
    cases e <;> first | (simp [chkTn] at h1; done) | skip
    rename_i es kk p
    obtain ⟨r1, r2, r3⟩ := pgs_N hN nd hs st (is := is) (es := es) (by simpa [chkTn] using h1) (by simpa [chkTn] using h2)
    exact pg_tup hc r1 r2 r3
end
section
variable {K : PySem.W.Frag} {G H : Hp} {ι : List Addr} {η : List Cell}
theorem wipe_set {σ : L2.St} {i : Nat} {o : Option V} : ∀ {vs : List Nat}, i ∈ vs → wipe (σ.set i o) vs = wipe σ vs
  | [], h => by simp at h
  | v :: vs, h => by
    show (wipe (σ.set i o) vs).set v none = (wipe σ vs).set v none
    by_cases hv : i ∈ vs
    · rw [wipe_set hv]
    · have e : i = v := by
        rcases List.mem_cons.mp h with h | h
        · exact h
        · exact absurd h hv
      subst e
      have comm : ∀ (vs : List Nat) (τ : L2.St), i ∉ vs → wipe (τ.set i o) vs = (wipe τ vs).set i o := by
        intro vs
        induction vs with
        | nil => intro τ _; rfl
        | cons w ws ih =>
          intro τ hw
          show (wipe (τ.set i o) ws).set w none = ((wipe τ ws).set w none).set i o
          rw [ih τ fun z => hw (List.mem_cons_of_mem _ z), List.set_comm _ _ (fun z => hw (by rw [z]; exact List.mem_cons_self))]
      rw [comm vs σ hv, List.set_set]
theorem wipe_wipe (σ : L2.St) : ∀ (us vs : List Nat), (∀ u ∈ us, u ∈ vs) → wipe (wipe σ us) vs = wipe σ vs
  | [], vs, _ => rfl
  | u :: us, vs, h => by
    show wipe ((wipe σ us).set u none) vs = wipe σ vs
    rw [wipe_set (h u List.mem_cons_self)]
    exact wipe_wipe σ us vs fun w hw => h w (List.mem_cons_of_mem _ hw)
theorem Slots.wipe {σ : L2.St} {ρ : Env} (h : Slots K G ι σ ρ) : ∀ vs : List Nat, Slots K G ι (wipe σ vs) (wipeD ρ vs)
  | [] => h
  | v :: vs => by
    have ih := Slots.wipe h vs
    show Slots K G ι ((L2.wipe σ vs).set v none) ((wipeD ρ vs).set v none)
    refine ⟨by simp [ih.len], fun j e q => ?_⟩
    by_cases hj : v = j
    · subst hj
      by_cases hi : v < (wipeD ρ vs).length
      · rw [List.getElem?_set_self hi] at q
        cases q
      · rw [List.getElem?_eq_none (by simpa using hi)] at q
        cases q
    · rw [List.getElem?_set_ne hj] at q ⊢
      exact ih.at_ j e q
theorem gNames_ok : ∀ {is : List Nat} {ds : List D} {vs : List V} {σ : L2.St} {ρ ρ' : Env} {Q : L2.St → Hp → Prop}, setAll is ds ρ = some ρ' → Slots K G ι σ ρ → Reps K G ι vs ds →
    (∀ σ', Slots K G ι σ' ρ' → (∀ ws : List Nat, (∀ i ∈ is, i ∈ ws) → wipe σ' ws = wipe σ ws) → Q σ' H) → vs.length = is.length ∧ gNames is vs σ H Q
  | [], [], vs, σ, ρ, ρ', Q, e, s, r, h => by
    cases r
    cases e
    exact ⟨rfl, rfl, h σ s fun _ _ => rfl⟩
  | i :: is, d :: ds, vs, σ, ρ, ρ', Q, e, s, r, h => by
    cases r with
    | cons r t =>
    rename_i v vs
    obtain ⟨l, g⟩ := gNames_ok (is := is) (ds := ds) (ρ := ρ.set i (some d)) (σ := σ.set i (some v)) (Q := Q) e (s.set i r) t fun σ' s' w => h σ' s' fun ws hw => by
      rw [w ws fun j hj => hw j (List.mem_cons_of_mem _ hj), wipe_set (hw i List.mem_cons_self)]
    exact ⟨congrArg (· + 1) l, v, vs, rfl, g⟩
  | [], _ :: _, _, _, _, _, _, e, _, _, _ => by cases e
  | _ :: _, [], _, _, _, _, _, e, _, _, _ => by cases e
theorem gT_ok {tg : Tn} {d : D} {v : V} {σ : L2.St} {ρ ρ' : Env} {Q : L2.St → Hp → Prop} (e : bindT tg d ρ = some ρ') (S : RS K G H ι η) (s : Slots K G ι σ ρ) (r : Rep K G ι v d)
    (h : ∀ σ', Slots K G ι σ' ρ' → (∀ ws : List Nat, (∀ i ∈ tnSlots tg, i ∈ ws) → wipe σ' ws = wipe σ ws) → Q σ' H) : gT K tg v σ H Q := by
  cases tg with
  | name i =>
    cases e
    exact h _ (s.set i r) fun ws hw => wipe_set (hw i List.mem_cons_self)
  | tup is =>
    cases r with
    | @tup a vs ds q t =>
      obtain ⟨l, g⟩ := gNames_ok (H := H) (Q := Q) (show setAll is ds ρ = some ρ' from e) s t h
      exact ⟨a, vs, rfl, SqT.of (S.sub _ _ q), l, g⟩
    | _ => cases e

/-! a heap but for one address -/
def less (H : Hp) (p : Addr) : Hp := fun b => if b = p then none else H b
theorem less_ne {H : Hp} {p b : Addr} (h : b ≠ p) : less H p b = H b := if_neg h
theorem less_same {H : Hp} {p : Addr} : less H p p = none := if_pos rfl
theorem less_upd {H : Hp} {p : Addr} {o : HO} (h : H p = some o) : upd (less H p) p o = H := by
  funext b
  by_cases hb : b = p
  · rw [hb, upd_same, h]
  · rw [upd_ne hb, less_ne hb]
theorem less_of {H : Hp} {p b : Addr} {o : HO} (h : less H p b = some o) : b ≠ p ∧ H b = some o := by
  by_cases hb : b = p
  · rw [hb, less_same] at h; cases h
  · rw [less_ne hb] at h; exact ⟨hb, h⟩
theorem less_none {H : Hp} {p b : Addr} (h : H b = none) : less H p b = none := by
  by_cases hb : b = p
  · rw [hb, less_same]
  · rw [less_ne hb, h]
theorem less_over {H : Hp} {p : Addr} {o : HO} : less (upd H p o) p = less H p := by
  funext b
  by_cases hb : b = p
  · rw [hb, less_same, less_same]
  · rw [less_ne hb, less_ne hb, upd_ne hb]
theorem RS.less {p : Addr} (S : RS K G H ι η) (g : G p = none) (n : p ∉ ι) : RS K G (less H p) ι η := by
  have ne : ∀ (m : Nat) (a : Addr), ι[m]? = some a → a ≠ p := fun m a q z => by
    obtain ⟨h1, h2⟩ := List.getElem?_eq_some_iff.mp q
    exact n (by rw [← z, ← h2]; exact List.getElem_mem h1)
  refine ⟨fun b o q => ?_, S.len, S.nd, S.out, fun m a c q1 q2 => (S.cells m a c q1 q2).mono (Ext.refl G ι) (less_ne (ne m a q1)), fun m a q => by rw [less_ne (ne m a q)]; exact S.there m a q, S.ntb⟩
  rw [less_ne (ne_of_none q g)]
  exact S.sub b o q
theorem Fr1.less {p b : Addr} (h : Fr1 H b) : Fr1 (less H p) b := fun o z => h o (less_of z).2
theorem Stp.less {G2 H2 : Hp} {ι2 : List Addr} {p : Addr} {o : HO} (st : Stp G H ι G2 H2 ι2) (e : H p = some o) (g : G p = none) (n : p ∉ ι) (hl : ∃ xs, o = .lst xs := by exact ⟨_, rfl⟩) :
    Stp G (less H p) ι G2 (less H2 p) ι2 ∧ G2 p = none ∧ p ∉ ι2 ∧ H2 p = some o := by
  have nt : ∀ ps, o ≠ .tbl ps := fun ps z => by
    obtain ⟨xs, q⟩ := hl
    rw [q] at z
    cases z
  have nf : ¬ Fr1 H p := fun z => by
    obtain ⟨ps, q⟩ := z o e
    exact nt ps q
  have n2 : p ∉ ι2 := fun m => by
    rcases st.nw p m with z | z
    · exact n z
    · exact nf z
  have g2 : G2 p = none := by
    cases q : G2 p with
    | none => rfl
    | some u =>
      rcases st.gn p u q with z | z | z | ⟨z, z2⟩
      · rw [g] at z; cases z
      · exact absurd z nf
      · exact absurd z n
      · obtain ⟨xs, q2⟩ := hl
        rw [e, q2] at z
        exact absurd (Option.some.inj z).symm (z2 xs)
  refine ⟨⟨st.x, fun b u q nu m => ?_, fun b m => (st.nw b m).imp id Fr1.less, fun b u q => ?_⟩, g2, n2, st.fr p o e nt n⟩
  · obtain ⟨hb, q⟩ := less_of q
    rw [less_ne hb]
    exact st.fr b u q nu m
  · rcases st.gn b u q with z | z | z | ⟨z, z2⟩
    · exact .inl z
    · exact .inr (.inl z.less)
    · exact .inr (.inr (.inl z))
    · by_cases hb : b = p
      · rw [hb]; exact .inr (.inl (Fr1.none less_same))
      · exact .inr (.inr (.inr ⟨by rw [less_ne hb]; exact z, z2⟩))
end

/-- the block's context -/
theorem CtxD.blk {T : Tab} {cls : Nat → Addr} {k : Nat} {X : Cx} {N : List Str} {sc scope : Scope} {W : WX} (C : CtxD T cls k X N sc W) (hk : scope.kind = .function) (s : Shared) (H : Hp) (a : Addr) (cl : List (Str × Addr)) (fp : List Addr) :
    CtxD T cls k (X.blk s H scope (compEnvC scope cl a X.env) fp) N (relS scope sc) (fun _ _ _ _ => False) where
  nEq := C.nEq
  nd := C.nd
  scEq := by
    rw [← C.scEq]
    rfl
  kind := hk
  calm := C.calm
  room := C.room
  tk := takes0
  glo := C.glo
  bl := C.bl
  fn := C.fn
  cl := C.cl
  sh := C.sh
  xs := C.xs
  lam := C.lam
theorem blk_kind {N : List Str} {sc scope : Scope} {own : List (Str × Nat)} (h : blkC N sc scope own = true) : scope.kind = .function := (blkOk_by h).kind
theorem blk_st {X : Cx} {scope : Scope} (s : Shared) (H : Hp) (a : Addr) (cl : List (Str × Addr)) (fp : List Addr) :
    ∀ x, scope.names.lookup x = some .local ∨ scope.names.lookup x = some .cell → (X.blk s H scope (compEnvC scope cl a X.env) fp).fn x = true ∨ (X.blk s H scope (compEnvC scope cl a X.env) fp).env.scope.names.lookup x = some .local := by
  intro x h
  rcases h with h | h
  · exact .inr (lookup_relabel_local h)
  · refine .inl ?_
    show (scope.names.lookup x == some .cell) = true
    rw [h]
    rfl

section
variable {T : Tab} {cls : Nat → Addr} {k : Nat} {X : Cx} {N : List Str} {sc : Scope} {W : WX}
theorem post_noX {α : Type} {K : PySem.W.Frag} {G H : Hp} {ι : List Addr} {m : M α} {η : List Cell} {Q : α → Hp → List Addr → List Cell → Hp → Prop} {W1 W2 : Value → Option Addr → Hp → Prop} (h : Post cls K G H ι (noX m η) Q W1) : Post cls K G H ι (m η) Q W2 := by
  unfold noX at h
  cases q : m η with
  | ok a η' => rw [q] at h; exact h
  | exc c fs η' => rw [q] at h; exact h.elim
  | bad => rw [q] at h; exact h.elim
theorem bnd_assoc {α β γ : Type} (m : M α) (f : α → M β) (g : β → M γ) : bnd (bnd m f) g = bnd m fun a => bnd (f a) g := by
  funext η
  unfold bnd
  cases m η <;> rfl
theorem lcL_cons {g : Gd} {bind : D → Option Env} {cond : Env → M Bool} {elt : Env → M D} {d : D} {r acc : List D} {ρ : Env} (h : bind d = some ρ) :
    lcL g bind cond elt (d :: r) acc = bnd (chkG g) fun _ => bnd (noX (cond ρ)) fun b => if b then bnd (noX (elt ρ)) fun y => if acc.length < LIM then lcL g bind cond elt r (acc ++ [y]) else bad else lcL g bind cond elt r acc := by
  conv => lhs; unfold lcL
  rw [h]
theorem chkG_ok {α : Type} {K : PySem.W.Frag} {G H : Hp} {ι : List Addr} {g : Gd} {k : Unit → M α} {η : List Cell} {Q : α → Hp → List Addr → List Cell → Hp → Prop} {W' : Value → Option Addr → Hp → Prop} (h : Post cls K G H ι (bnd (chkG g) k η) Q W') : gdOk g η ∧ Post cls K G H ι (k () η) Q W' := by
  unfold bnd chkG at h
  by_cases hg : gdB g η = true
  · rw [if_pos hg] at h
    exact ⟨gdB_ok.mp hg, h⟩
  · rw [if_neg hg] at h
    exact h.elim
theorem lcL_gd {K : PySem.W.Frag} {G H : Hp} {ι : List Addr} {g : Gd} {bind : D → Option Env} {cond : Env → M Bool} {elt : Env → M D} {xs acc : List D} {f : List D → M D} {η : List Cell} {Q : VK} {W' : Value → Option Addr → Hp → Prop} (h : PV cls K G H ι (bnd (lcL g bind cond elt xs acc) f η) Q W') : gdOk g η := by
  cases xs with
  | nil =>
    unfold lcL at h
    rw [bnd_assoc] at h
    exact (chkG_ok h).1
  | cons d r =>
    unfold lcL at h
    rw [bnd_assoc] at h
    exact (chkG_ok h).1
theorem lc_imp {m : Bool} {tg : Tn} {ws : List Nat} {fi : Env → M (List D × Gd)} {fc : Env → M Bool} {fe : Env → M D} {σ : L2.St} {H : Hp} {Q : VK} (hw : ∀ i ∈ tnSlots tg, i ∈ ws)
    (h : tE cls X.K W (fun ρ => bnd (fi ρ) fun items => bnd (lcL items.2 (fun d => bindT tg d (wipeD ρ ws)) fc fe items.1 []) (newL m)) σ H Q) :
    tLc (tI cls X.K W fi) (gT X.K tg) (tT cls X.K (fun _ _ _ _ => False) fc) (tE cls X.K (fun _ _ _ _ => False) fe) ws σ H Q := by
  obtain ⟨G, ι, η, ρ, S, sl, h⟩ := h
  refine ⟨G, ι, η, ρ, S, sl, (Post.bind h).imp (fun its G1 ι1 η1 H1 st1 S1 h1 J hJ D hD => ?_) fun _ _ _ z => z⟩
  obtain ⟨items, g⟩ := its
  dsimp only at h1 hJ
  let Wf : Value → Option Addr → Hp → Prop := fun c d H' => W c d σ H'
  let Pv : Nat → Hp → Prop := fun i H2 => ∃ G2 ι2 η2 acc vacc, Ext G1 ι1 G2 ι2 ∧ RS X.K G2 H2 ι2 η2 ∧ H2 D = some (.lst vacc) ∧ G2 D = none ∧ D ∉ ι2 ∧ Reps X.K G2 ι2 vacc acc ∧
    PV cls X.K G2 (less H2 D) ι2 ((bnd (lcL g (fun d => bindT tg d (wipeD ρ ws)) fc fe (items.drop i) acc) (newL m)) η2) Q Wf
  have slW : Slots X.K G1 ι1 (L2.wipe σ ws) (wipeD ρ ws) := (sl.mono st1.x).wipe ws
  have nD : D ∉ ι1 := fun z => by
    obtain ⟨n, hn, e⟩ := List.mem_iff_getElem.mp z
    exact S1.there n D (by rw [← e]; exact List.getElem?_eq_getElem hn) hD
  have gD : G1 D = none := S1.sub.free hD
  refine lc_it hJ Pv ?_ (fun i H2 _ ⟨G2, ι2, η2, _, _, x, S2, _, _, _, _, hp⟩ => ⟨G2, ι2, η2, x, S2, lcL_gd hp⟩) ?_ ?_
  · have e : less (upd H1 D (.lst [])) D = H1 := by
      rw [less_over]
      funext b
      by_cases hb : b = D
      · rw [hb, less_same, hD]
      · rw [less_ne hb]
    refine ⟨G1, ι1, η1, [], [], Ext.refl _ _, ?_, upd_same, gD, nD, .nil, ?_⟩
    · have ne : ∀ (n : Nat) (a : Addr), ι1[n]? = some a → a ≠ D := fun n a q z => S1.there n a q (by rw [z]; exact hD)
      refine ⟨fun b u q => ?_, S1.len, S1.nd, S1.out, fun n a c q1 q2 => (S1.cells n a c q1 q2).mono (Ext.refl _ _) (by rw [upd_ne (ne n a q1)]), fun n a q => by rw [upd_ne (ne n a q)]; exact S1.there n a q, S1.ntb⟩
      rw [upd_ne (ne_of_none q gD)]
      exact S1.sub b u q
    · rw [e, List.drop_zero]
      exact h1
  · intro i x H2 H3 hi ⟨G2, ι2, η2, acc, vacc, x2, S2, hd, g2, n2, ra, hp⟩ hy
    obtain ⟨d, hdi⟩ : ∃ d, items[i]? = some d := ⟨items[i], List.getElem?_eq_getElem hi⟩
    obtain ⟨G3, st3, S3, rx⟩ := hy G2 ι2 η2 d x2 S2 (lcL_gd hp) hdi
    obtain ⟨st3', g3, n3, hd3⟩ := st3.less hd g2 n2
    have edr : items.drop i = d :: items.drop (i + 1) := by
      have e1 := List.drop_eq_getElem_cons hi
      have e2 : items[i] = d := by
        have q := List.getElem?_eq_getElem hi
        rw [hdi] at q
        exact (Option.some.inj q).symm
      rw [e2] at e1
      exact e1
    have hp1 := Post.ext st3' hp
    rw [edr] at hp1
    cases hb : bindT tg d (wipeD ρ ws) with
    | none =>
      unfold lcL at hp1
      rw [bnd_assoc] at hp1
      have hp2 := (chkG_ok hp1).2
      simp only [hb] at hp2
      exact hp2.elim
    | some ρ2 =>
      have hp2 : PV cls X.K G3 (less H3 D) ι2 ((bnd (noX (fc ρ2)) fun b => bnd (if b then bnd (noX (fe ρ2)) fun y => if acc.length < LIM then lcL g (fun d => bindT tg d (wipeD ρ ws)) fc fe (items.drop (i + 1)) (acc ++ [y]) else bad
          else lcL g (fun d => bindT tg d (wipeD ρ ws)) fc fe (items.drop (i + 1)) acc) (newL m)) η2) Q Wf := by
        have e : bnd (lcL g (fun d => bindT tg d (wipeD ρ ws)) fc fe (d :: items.drop (i + 1)) acc) (newL m) η2 = (bnd (chkG g) fun _ => bnd (noX (fc ρ2)) fun b => bnd (if b then bnd (noX (fe ρ2)) fun y => if acc.length < LIM then lcL g (fun d => bindT tg d (wipeD ρ ws)) fc fe (items.drop (i + 1)) (acc ++ [y]) else bad
          else lcL g (fun d => bindT tg d (wipeD ρ ws)) fc fe (items.drop (i + 1)) acc) (newL m)) η2 := by
          rw [lcL_cons (bind := fun d => bindT tg d (wipeD ρ ws)) hb]
          simp only [bnd_assoc]
        rw [e] at hp1
        exact (chkG_ok hp1).2
      have slB : Slots X.K G3 ι2 (L2.wipe σ ws) (wipeD ρ ws) := (slW.mono x2).mono st3.x
      refine gT_ok hb S3 slB rx fun σ2 s2 w2 => ⟨(w2 ws hw).trans (by first | rfl | exact wipe_wipe σ ws ws fun _ h => h), ?_⟩
      -- the test
      have t0 : Post cls X.K G3 (less H3 D) ι2 (fc ρ2 η2) (fun b G4 ι4 η4 H4 => PV cls X.K G4 H4 ι4 ((bnd (if b = true then bnd (noX (fe ρ2)) fun y => if acc.length < LIM then lcL g (fun d => bindT tg d (wipeD ρ ws)) fc fe (items.drop (i + 1)) (acc ++ [y]) else bad
          else lcL g (fun d => bindT tg d (wipeD ρ ws)) fc fe (items.drop (i + 1)) acc) (newL m)) η4) Q Wf) (fun _ _ _ => False) := post_noX (Post.bind hp2)
      refine ⟨G3, ι2, η2, ρ2, S3, s2, ?_⟩
      cases qc : fc ρ2 η2 with
      | bad => rw [qc] at t0; exact t0.elim
      | exc c fs η4 =>
        rw [qc] at t0
        unfold bnd noX at hp2
        rw [qc] at hp2
        exact hp2.elim
      | ok b η4 =>
        rw [qc] at t0
        intro G4 ι4 H4 st4 S4
        obtain ⟨st4', g4, n4, hd4⟩ := st4.less hd3 g3 n3
        have hp3 := t0 G4 ι4 (less H4 D) st4' (S4.less g4 n4)
        have x4 : Ext G1 ι1 G4 ι4 := (x2.trans st3.x).trans st4.x
        have ra4 := (ra.mono st3.x).mono st4.x
        cases b with
        | false =>
          rw [if_neg Bool.false_ne_true] at hp3 ⊢
          exact ⟨G4, ι4, η4, acc, vacc, x4, S4, hd4, g4, n4, ra4, hp3⟩
        | true =>
          rw [if_pos rfl] at hp3 ⊢
          have hp4 : PV cls X.K G4 (less H4 D) ι4 ((bnd (noX (fe ρ2)) fun y => bnd (if acc.length < LIM then lcL g (fun d => bindT tg d (wipeD ρ ws)) fc fe (items.drop (i + 1)) (acc ++ [y]) else bad) (newL m)) η4) Q Wf := by
            have e : bnd (bnd (noX (fe ρ2)) fun y => if acc.length < LIM then lcL g (fun d => bindT tg d (wipeD ρ ws)) fc fe (items.drop (i + 1)) (acc ++ [y]) else bad) (newL m) η4 = (bnd (noX (fe ρ2)) fun y => bnd (if acc.length < LIM then lcL g (fun d => bindT tg d (wipeD ρ ws)) fc fe (items.drop (i + 1)) (acc ++ [y]) else bad) (newL m)) η4 := by
              rw [bnd_assoc]
            rw [← e]
            exact hp3
          have u0 : Post cls X.K G4 (less H4 D) ι4 (fe ρ2 η4) (fun y G5 ι5 η5 H5 => PV cls X.K G5 H5 ι5 ((bnd (if acc.length < LIM then lcL g (fun d => bindT tg d (wipeD ρ ws)) fc fe (items.drop (i + 1)) (acc ++ [y]) else bad) (newL m)) η5) Q Wf) (fun _ _ _ => False) := post_noX (Post.bind hp4)
          refine ⟨G4, ι4, η4, ρ2, S4, s2.mono st4.x, ?_⟩
          cases qe : fe ρ2 η4 with
          | bad => rw [qe] at u0; exact u0.elim
          | exc c fs η5 =>
            unfold bnd noX at hp4
            rw [qe] at hp4
            exact hp4.elim
          | ok y η5 =>
            rw [qe] at u0
            intro G5 ι5 H5 st5 S5 v rv
            obtain ⟨st5', g5, n5, hd5⟩ := st5.less hd4 g4 n4
            have hp5 := u0 G5 ι5 (less H5 D) st5' (S5.less g5 n5)
            dsimp only at hp5
            by_cases hl : acc.length < LIM
            · rw [if_pos hl] at hp5
              have ra5 := ra4.mono st5.x
              refine ⟨vacc, hd5, by rw [ra5.length]; exact Nat.lt_of_lt_of_le hl lim_line, G5, ι5, η5, acc ++ [y], vacc ++ [v], x4.trans st5.x, ?_, upd_same, g5, n5, ra5.append (.cons rv .nil), ?_⟩
              · have ne : ∀ (n : Nat) (a : Addr), ι5[n]? = some a → a ≠ D := fun n a q z => by
                  obtain ⟨h1, h2⟩ := List.getElem?_eq_some_iff.mp q
                  exact n5 (by rw [← z, ← h2]; exact List.getElem_mem h1)
                refine ⟨fun b u q => ?_, S5.len, S5.nd, S5.out, fun n a c q1 q2 => (S5.cells n a c q1 q2).mono (Ext.refl _ _) (by rw [upd_ne (ne n a q1)]), fun n a q => by rw [upd_ne (ne n a q)]; exact S5.there n a q, S5.ntb⟩
                rw [upd_ne (ne_of_none q g5)]
                exact S5.sub b u q
              · rw [less_over]
                exact hp5
            · rw [if_neg hl] at hp5
              exact hp5.elim
  · intro H2 ⟨G2, ι2, η2, acc, vacc, x2, S2, hd, g2, n2, ra, hp⟩
    rw [List.drop_length] at hp
    have hp' : PV cls X.K G2 (less H2 D) ι2 (newL m acc η2) Q Wf := by
      unfold lcL at hp
      rw [bnd_assoc] at hp
      exact (chkG_ok hp).2
    have q := (newL_ok (S2.less g2 n2) ra hp').2 D less_same
    rw [less_upd hd] at q
    exact q
end
end Ms
end
section
set_option Elab.async false
set_option linter.all false
set_option maxRecDepth 100000
set_option maxHeartbeats 4000000
/-! What a text that is checked is like. -/
namespace Ms
open PySem L2
section

variable {T : Tab} {N : List Str} {sc : Scope}
theorem inv_cmp {op : Cop} {a b : E} {py : Expr} (h : chkE T N sc (.cmp op a b) py = true) : ∃ l r p, py = .Compare l [op.op] [r] p ∧ chkE T N sc a l = true ∧ chkE T N sc b r = true ∧ noSet r = true := by
  cases py <;> first | (simp [chkE] at h; done) | skip
  rename_i l ops cs p
  rcases ops with _ | ⟨o, _ | ⟨o2, os⟩⟩ <;> rcases cs with _ | ⟨r, _ | ⟨r2, rs⟩⟩ <;> first | (simp [chkE] at h; done) | skip
  simp only [chkE, Bool.and_eq_true, decide_eq_true_eq] at h
  obtain ⟨⟨⟨rfl, h1⟩, h2⟩, h3⟩ := h
  exact ⟨l, r, p, rfl, h1, h2, h3⟩
theorem inv_chain {o1 o2 : Cop} {a b c : E} {py : Expr} (h : chkE T N sc (.chain o1 o2 a b c) py = true) : ∃ l r z p, py = .Compare l [o1.op, o2.op] [r, z] p ∧ chkE T N sc a l = true ∧ chkE T N sc b r = true ∧ chkE T N sc c z = true ∧ noSet z = true := by
  cases py <;> first | (simp [chkE] at h; done) | skip
  rename_i l ops cs p
  rcases ops with _ | ⟨o, _ | ⟨o2, _ | ⟨o3, os⟩⟩⟩ <;> rcases cs with _ | ⟨r, _ | ⟨r2, _ | ⟨r3, rs⟩⟩⟩ <;> first | (simp [chkE] at h; done) | skip
  simp only [chkE, Bool.and_eq_true, decide_eq_true_eq] at h
  obtain ⟨⟨⟨⟨⟨rfl, rfl⟩, h1⟩, h2⟩, h3⟩, h4⟩ := h
  exact ⟨l, r, r2, p, rfl, h1, h2, h3, h4⟩
theorem invT_cmp {op : Cop} {a b : E} {py : Expr} (h : chkT T N sc (.cmp op a b) py = true) : ∃ l r p, py = .Compare l [op.op] [r] p ∧ chkE T N sc a l = true ∧ chkE T N sc b r = true ∧ noSet r = true := by
  cases py <;> first | (simp [chkT] at h; done) | skip
  rename_i l ops cs p
  rcases ops with _ | ⟨o, _ | ⟨o2, os⟩⟩ <;> rcases cs with _ | ⟨r, _ | ⟨r2, rs⟩⟩ <;> first | (simp [chkT] at h; done) | skip
  simp only [chkT, Bool.and_eq_true, decide_eq_true_eq] at h
  obtain ⟨⟨⟨rfl, h1⟩, h2⟩, h3⟩ := h
  exact ⟨l, r, p, rfl, h1, h2, h3⟩
theorem invT_chain {o1 o2 : Cop} {a b c : E} {py : Expr} (h : chkT T N sc (.chain o1 o2 a b c) py = true) : ∃ l r z p, py = .Compare l [o1.op, o2.op] [r, z] p ∧ chkE T N sc a l = true ∧ chkE T N sc b r = true ∧ chkE T N sc c z = true ∧ noSet z = true := by
  cases py <;> first | (simp [chkT] at h; done) | skip
  rename_i l ops cs p
  rcases ops with _ | ⟨o, _ | ⟨o2, _ | ⟨o3, os⟩⟩⟩ <;> rcases cs with _ | ⟨r, _ | ⟨r2, _ | ⟨r3, rs⟩⟩⟩ <;> first | (simp [chkT] at h; done) | skip
  simp only [chkT, Bool.and_eq_true, decide_eq_true_eq] at h
  obtain ⟨⟨⟨⟨⟨rfl, rfl⟩, h1⟩, h2⟩, h3⟩, h4⟩ := h
  exact ⟨l, r, r2, p, rfl, h1, h2, h3, h4⟩
theorem inv_and {es : Es} {py : Expr} (h : chkE T N sc (.and_ es) py = true) : ∃ vs p, py = .BoolOp .And vs p ∧ chkB T N sc es vs = true := by
  cases py <;> first | (simp [chkE] at h; done) | skip
  rename_i o vs p
  cases o <;> first | (simp [chkE] at h; done) | skip
  exact ⟨vs, p, rfl, by simpa [chkE] using h⟩
theorem inv_or {es : Es} {py : Expr} (h : chkE T N sc (.or_ es) py = true) : ∃ vs p, py = .BoolOp .Or vs p ∧ chkB T N sc es vs = true := by
  cases py <;> first | (simp [chkE] at h; done) | skip
  rename_i o vs p
  cases o <;> first | (simp [chkE] at h; done) | skip
  exact ⟨vs, p, rfl, by simpa [chkE] using h⟩
theorem invT_and {es : Es} {py : Expr} (h : chkT T N sc (.and_ es) py = true) : ∃ vs p, py = .BoolOp .And vs p ∧ chkTB T N sc es vs = true := by
  cases py <;> first | (simp [chkT] at h; done) | skip
  rename_i o vs p
  cases o <;> first | (simp [chkT] at h; done) | skip
  exact ⟨vs, p, rfl, by simpa [chkT] using h⟩
theorem invT_or {es : Es} {py : Expr} (h : chkT T N sc (.or_ es) py = true) : ∃ vs p, py = .BoolOp .Or vs p ∧ chkTB T N sc es vs = true := by
  cases py <;> first | (simp [chkT] at h; done) | skip
  rename_i o vs p
  cases o <;> first | (simp [chkT] at h; done) | skip
  exact ⟨vs, p, rfl, by simpa [chkT] using h⟩
theorem inv_not {a : E} {py : Expr} (h : chkE T N sc (.not_ a) py = true) : ∃ x p, py = .UnaryOp .Not x p ∧ chkE T N sc a x = true := by
  cases py <;> first | (simp [chkE] at h; done) | skip
  rename_i o x p
  cases o <;> first | (simp [chkE] at h; done) | skip
  exact ⟨x, p, rfl, by simpa [chkE] using h⟩
theorem invT_not {a : E} {py : Expr} (h : chkT T N sc (.not_ a) py = true) : ∃ x p, py = .UnaryOp .Not x p ∧ chkT T N sc a x = true := by
  cases py <;> first | (simp [chkT] at h; done) | skip
  rename_i o x p
  cases o <;> first | (simp [chkT] at h; done) | skip
  exact ⟨x, p, rfl, by simpa [chkT] using h⟩
theorem inv_neg {a : E} {py : Expr} (h : chkE T N sc (.neg a) py = true) : ∃ x p, py = .UnaryOp .USub x p ∧ chkE T N sc a x = true := by
  cases py <;> first | (simp [chkE] at h; done) | skip
  rename_i o x p
  cases o <;> first | (simp [chkE] at h; done) | skip
  exact ⟨x, p, rfl, by simpa [chkE] using h⟩
theorem inv_slice {a : E} {lo hi : Eo} {py : Expr} (h : chkE T N sc (.slice a lo hi) py = true) : ∃ v l u p1 p2, py = .Subscript v (.Slice l u none p1) p2 ∧ chkE T N sc a v = true ∧ chkO T N sc lo l = true ∧ chkO T N sc hi u = true := by
  cases py <;> first | (simp [chkE] at h; done) | skip
  rename_i v s p
  cases s <;> first | (simp [chkE] at h; done) | skip
  rename_i l u st p1
  cases st <;> first | (simp [chkE] at h; done) | skip
  simp only [chkE, Bool.and_eq_true] at h
  exact ⟨v, l, u, p1, p, rfl, h.1.1, h.1.2, h.2⟩
theorem inv_rev {a : E} {py : Expr} (h : chkE T N sc (.rev a) py = true) : ∃ v j p1 p2 p3 p4, py = .Subscript v (.Slice none none (some (.UnaryOp .USub (.Constant (.int 1) j p1) p2)) p3) p4 ∧ chkE T N sc a v = true := by
  cases py <;> first | (simp [chkE] at h; done) | skip
  rename_i v s p
  cases s <;> first | (simp [chkE] at h; done) | skip
  rename_i l u st p1
  cases l <;> cases u <;> cases st <;> first | (simp [chkE] at h; done) | skip
  rename_i st
  cases st <;> first | (simp [chkE] at h; done) | skip
  rename_i o x p2
  cases o <;> first | (simp [chkE] at h; done) | skip
  cases x <;> first | (simp [chkE] at h; done) | skip
  rename_i c j p3
  cases c <;> first | (simp [chkE] at h; done) | skip
  rename_i k
  by_cases hk : k = 1
  · subst hk
    simp only [chkE] at h
    exact ⟨_, _, _, _, _, _, rfl, h⟩
  · exfalso
    unfold chkE at h
    split at h <;> simp_all
theorem inv_call {f : Nat} {es : Es} {py : Expr} (h : chkE T N sc (.call f es) py = true) : ∃ x xs fd p1 p2, py = .Call (.Name x p1) xs [] p2 ∧ T.fns[f]? = some fd ∧ fd.own = none ∧ fd.name = x ∧ glB sc x = true ∧ nameB x = true ∧ chkEs T N sc es xs = true ∧ xs.isEmpty = false := by
  cases py <;> first | (simp [chkE] at h; done) | skip
  rename_i fn xs ks p
  cases fn <;> first | (simp [chkE] at h; done) | skip
  cases ks <;> first | (simp [chkE] at h; done) | skip
  rename_i x p1
  simp only [chkE] at h
  cases q : T.fns[f]? with
  | none => rw [q] at h; cases h
  | some fd =>
    rw [q] at h
    simp only [Bool.and_eq_true, decide_eq_true_eq, Bool.not_eq_true'] at h
    exact ⟨x, xs, fd, p1, p, rfl, rfl, h.1.1.1.1.1, h.1.1.1.1.2, h.1.1.1.2, h.1.1.2, h.1.2, h.2⟩
theorem invT_call {f : Nat} {es : Es} {py : Expr} (h : chkT T N sc (.call f es) py = true) : ∃ x xs fd p1 p2, py = .Call (.Name x p1) xs [] p2 ∧ T.fns[f]? = some fd ∧ fd.own = none ∧ fd.name = x ∧ glB sc x = true ∧ nameB x = true ∧ chkEs T N sc es xs = true ∧ xs.isEmpty = false := by
  cases py <;> first | (simp [chkT] at h; done) | skip
  rename_i fn xs ks p
  cases fn <;> first | (simp [chkT] at h; done) | skip
  cases ks <;> first | (simp [chkT] at h; done) | skip
  rename_i x p1
  simp only [chkT] at h
  cases q : T.fns[f]? with
  | none => rw [q] at h; cases h
  | some fd =>
    rw [q] at h
    simp only [Bool.and_eq_true, decide_eq_true_eq, Bool.not_eq_true'] at h
    exact ⟨x, xs, fd, p1, p, rfl, rfl, h.1.1.1.1.1, h.1.1.1.1.2, h.1.1.1.2, h.1.1.2, h.1.2, h.2⟩
theorem inv_bi {b : Bi} {es : Es} {py : Expr} (h : chkE T N sc (.bi b es) py = true) : ∃ x xs p1 p2, py = .Call (.Name x p1) xs [] p2 ∧ b.name = x ∧ glB sc x = true ∧ chkEs T N sc es xs = true ∧ xs.isEmpty = false := by
  cases py <;> first | (simp [chkE] at h; done) | skip
  rename_i fn xs ks p
  cases fn <;> first | (simp [chkE] at h; done) | skip
  cases ks <;> first | (simp [chkE] at h; done) | skip
  rename_i x p1
  simp only [chkE, Bool.and_eq_true, decide_eq_true_eq, Bool.not_eq_true'] at h
  exact ⟨x, xs, p1, p, rfl, h.1.1.1, h.1.1.2, h.1.2, h.2⟩
theorem invT_bi {b : Bi} {es : Es} {py : Expr} (h : chkT T N sc (.bi b es) py = true) : ∃ x xs p1 p2, py = .Call (.Name x p1) xs [] p2 ∧ b.name = x ∧ glB sc x = true ∧ chkEs T N sc es xs = true ∧ xs.isEmpty = false := by
  cases py <;> first | (simp [chkT] at h; done) | skip
  rename_i fn xs ks p
  cases fn <;> first | (simp [chkT] at h; done) | skip
  cases ks <;> first | (simp [chkT] at h; done) | skip
  rename_i x p1
  simp only [chkT, Bool.and_eq_true, decide_eq_true_eq, Bool.not_eq_true'] at h
  exact ⟨x, xs, p1, p, rfl, h.1.1.1, h.1.1.2, h.1.2, h.2⟩
theorem inv_mt {m : Mt} {a : E} {es : Es} {py : Expr} (h : chkE T N sc (.mt m a es) py = true) : ∃ o n ap xs p, py = .Call (.Attribute o n ap) xs [] p ∧ m.name = n ∧ chkE T N sc a o = true ∧ noSuper o = true ∧ chkEs T N sc es xs = true ∧ (ap.endLine == p.line) = true ∧ (if m.nul then xs.isEmpty else (xs.length == 1)) = true := by
  cases py <;> first | (simp [chkE] at h; done) | skip
  rename_i fn xs ks p
  cases fn <;> first | (simp [chkE] at h; done) | skip
  cases ks <;> first | (simp [chkE] at h; done) | skip
  rename_i o n ap
  simp only [chkE, Bool.and_eq_true, decide_eq_true_eq] at h
  exact ⟨o, n, ap, xs, p, rfl, h.1.1.1.1.1, h.1.1.1.1.2, h.1.1.1.2, h.1.1.2, h.1.2, h.2⟩
theorem inv_isi {a : E} {ty : String} {py : Expr} (h : chkE T N sc (.isi a ty) py = true) : ∃ v p1 p2 p3, py = .Call (.Name "isinstance" p1) [v, .Name (PySem.Str.ofString ty) p2] [] p3 ∧ glB sc "isinstance" = true ∧ chkE T N sc a v = true ∧ noStar v = true ∧ glB sc (PySem.Str.ofString ty) = true ∧ ty ∈ isTys := by
  cases py <;> first | (simp [chkE] at h; done) | skip
  rename_i fn xs ks p
  cases fn <;> first | (simp [chkE] at h; done) | skip
  cases ks <;> first | (simp [chkE] at h; done) | skip
  rcases xs with _ | ⟨v, _ | ⟨y, _ | ⟨z, zs⟩⟩⟩ <;> first | (simp [chkE] at h; done) | skip
  cases y <;> first | (simp [chkE] at h; done) | skip
  rename_i x p1 y p2
  simp only [chkE, Bool.and_eq_true, decide_eq_true_eq] at h
  obtain ⟨⟨⟨⟨⟨⟨rfl, h1⟩, h2⟩, h3⟩, rfl⟩, h4⟩, h5⟩ := h
  exact ⟨v, p1, p2, p, rfl, h1, h2, h3, h4, h5⟩
theorem invT_isi {a : E} {ty : String} {py : Expr} (h : chkT T N sc (.isi a ty) py = true) : ∃ v p1 p2 p3, py = .Call (.Name "isinstance" p1) [v, .Name (PySem.Str.ofString ty) p2] [] p3 ∧ glB sc "isinstance" = true ∧ chkE T N sc a v = true ∧ noStar v = true ∧ glB sc (PySem.Str.ofString ty) = true ∧ ty ∈ isTys := by
  cases py <;> first | (simp [chkT] at h; done) | skip
  rename_i fn xs ks p
  cases fn <;> first | (simp [chkT] at h; done) | skip
  cases ks <;> first | (simp [chkT] at h; done) | skip
  rcases xs with _ | ⟨v, _ | ⟨y, _ | ⟨z, zs⟩⟩⟩ <;> first | (simp [chkT] at h; done) | skip
  cases y <;> first | (simp [chkT] at h; done) | skip
  rename_i x p1 y p2
  simp only [chkT, Bool.and_eq_true, decide_eq_true_eq] at h
  obtain ⟨⟨⟨⟨⟨⟨rfl, h1⟩, h2⟩, h3⟩, rfl⟩, h4⟩, h5⟩ := h
  exact ⟨v, p1, p2, p, rfl, h1, h2, h3, h4, h5⟩
theorem inv_lc {m : Bool} {ws : List Nat} {tg : Tn} {it : It} {cond : Eo} {elt : E} {py : Expr} (h : chkE T N sc (.lc m ws tg it cond elt) py = true) : ∃ e t i ifs scope p, py = .ListComp e [⟨t, i, ifs, 0⟩] scope p ∧ blkC N sc scope (ownOf N ws) = true ∧ chkTn N (relS scope sc) tg t = true ∧ chkTn N scope tg t = true ∧
    (match (generalizing := false) tg with
      | .name j => decide (j ∈ ws)
      | .tup js => js.all fun j => decide (j ∈ ws)) = true ∧ chkIt T N sc it t i = true ∧ chkC T N (relS scope sc) cond ifs = true ∧ chkE T N (relS scope sc) elt e = true ∧ noSet i = true := by
  cases py <;> first | (simp [chkE] at h; done) | skip
  rename_i e gs scope p
  rcases gs with _ | ⟨⟨t, i, ifs, a⟩, _ | ⟨g2, gs⟩⟩ <;> first | (simp [chkE] at h; done) | skip
  by_cases ha : a = 0
  · subst ha
    unfold chkE at h
    simp only [Bool.and_eq_true] at h
    obtain ⟨⟨⟨⟨⟨⟨⟨h1, h2⟩, h3⟩, h4⟩, h5⟩, h6⟩, h7⟩, h8⟩ := h
    exact ⟨_, _, _, _, _, _, rfl, h1, h2, h3, h4, h5, h6, h7, h8⟩
  · exfalso
    unfold chkE at h
    split at h <;> simp_all
theorem inv_b1 {e : E} {vs : List Expr} (h : chkB T N sc (.cons e .nil) vs = true) : ∃ x, vs = [x] ∧ chkE T N sc e x = true := by
  rcases vs with _ | ⟨x, _ | ⟨y, ys⟩⟩
  · simp [chkB] at h
  · exact ⟨x, rfl, by simpa [chkB] using h⟩
  · simp [chkB] at h
theorem inv_b2 {e e2 : E} {r : Es} {vs : List Expr} (h : chkB T N sc (.cons e (.cons e2 r)) vs = true) : ∃ x y ys, vs = x :: y :: ys ∧ chkE T N sc e x = true ∧ chkB T N sc (.cons e2 r) (y :: ys) = true := by
  rcases vs with _ | ⟨x, _ | ⟨y, ys⟩⟩
  · simp [chkB] at h
  · simp [chkB] at h
  · rw [chkB] at h
    · simp only [Bool.and_eq_true] at h
      exact ⟨x, y, ys, rfl, h.1, h.2⟩
    all_goals (intros; simp_all)
theorem inv_tb1 {e : E} {vs : List Expr} (h : chkTB T N sc (.cons e .nil) vs = true) : ∃ x, vs = [x] ∧ chkT T N sc e x = true := by
  rcases vs with _ | ⟨x, _ | ⟨y, ys⟩⟩
  · simp [chkTB] at h
  · exact ⟨x, rfl, by simpa [chkTB] using h⟩
  · simp [chkTB] at h
theorem inv_tb2 {e e2 : E} {r : Es} {vs : List Expr} (h : chkTB T N sc (.cons e (.cons e2 r)) vs = true) : ∃ x y ys, vs = x :: y :: ys ∧ chkT T N sc e x = true ∧ chkTB T N sc (.cons e2 r) (y :: ys) = true := by
  rcases vs with _ | ⟨x, _ | ⟨y, ys⟩⟩
  · simp [chkTB] at h
  · simp [chkTB] at h
  · rw [chkTB] at h
    · simp only [Bool.and_eq_true] at h
      exact ⟨x, y, ys, rfl, h.1, h.2⟩
    all_goals (intros; simp_all)
theorem inv_r1 {a : E} {t i : Expr} (h : chkIt T N sc (.rng1 a) t i = true) : ∃ u p1 p2, i = .Call (.Name "range" p1) [u] [] p2 ∧ glB sc "range" = true ∧ chkE T N sc a u = true ∧ noStar u = true := by
  cases i <;> first | (simp [chkIt] at h; done) | skip
  rename_i fn xs ks p
  cases fn <;> first | (simp [chkIt] at h; done) | skip
  rcases xs with _ | ⟨v, _ | ⟨y, ys⟩⟩ <;> rcases ks with _ | ⟨kw, kws⟩ <;> first | (simp [chkIt] at h; done) | skip
  rename_i x p1
  simp only [chkIt, Bool.and_eq_true, decide_eq_true_eq] at h
  obtain ⟨⟨⟨rfl, h1⟩, h2⟩, h3⟩ := h
  exact ⟨v, p1, p, rfl, h1, h2, h3⟩
theorem inv_r2 {a b : E} {t i : Expr} (h : chkIt T N sc (.rng2 a b) t i = true) : ∃ u v p1 p2, i = .Call (.Name "range" p1) [u, v] [] p2 ∧ glB sc "range" = true ∧ chkE T N sc a u = true ∧ noStar u = true ∧ chkE T N sc b v = true ∧ noStar v = true := by
  cases i <;> first | (simp [chkIt] at h; done) | skip
  rename_i fn xs ks p
  cases fn <;> first | (simp [chkIt] at h; done) | skip
  rcases xs with _ | ⟨v, _ | ⟨y, _ | ⟨z, zs⟩⟩⟩ <;> rcases ks with _ | ⟨kw, kws⟩ <;> first | (simp [chkIt] at h; done) | skip
  rename_i x p1
  simp only [chkIt, Bool.and_eq_true, decide_eq_true_eq] at h
  obtain ⟨⟨⟨⟨⟨rfl, h1⟩, h2⟩, h3⟩, h4⟩, h5⟩ := h
  exact ⟨v, y, p1, p, rfl, h1, h2, h3, h4, h5⟩
theorem inv_r3 {a b c : E} {t i : Expr} (h : chkIt T N sc (.rng3 a b c) t i = true) : ∃ u v w p1 p2, i = .Call (.Name "range" p1) [u, v, w] [] p2 ∧ glB sc "range" = true ∧ chkE T N sc a u = true ∧ noStar u = true ∧ chkE T N sc b v = true ∧ noStar v = true ∧ chkE T N sc c w = true ∧ noStar w = true := by
  cases i <;> first | (simp [chkIt] at h; done) | skip
  rename_i fn xs ks p
  cases fn <;> first | (simp [chkIt] at h; done) | skip
  rcases xs with _ | ⟨v, _ | ⟨y, _ | ⟨z, _ | ⟨w, ws⟩⟩⟩⟩ <;> rcases ks with _ | ⟨kw, kws⟩ <;> first | (simp [chkIt] at h; done) | skip
  rename_i x p1
  simp only [chkIt, Bool.and_eq_true, decide_eq_true_eq] at h
  obtain ⟨⟨⟨⟨⟨⟨⟨rfl, h1⟩, h2⟩, h3⟩, h4⟩, h5⟩, h6⟩, h7⟩ := h
  exact ⟨v, y, z, p1, p, rfl, h1, h2, h3, h4, h5, h6, h7⟩
theorem inv_en {a : E} {t i : Expr} (h : chkIt T N sc (.enum a) t i = true) : ∃ u p1 p2, i = .Call (.Name "enumerate" p1) [u] [] p2 ∧ glB sc "enumerate" = true ∧ chkE T N sc a u = true ∧ noStar u = true ∧ isTuple t = true := by
  cases i <;> first | (simp [chkIt] at h; done) | skip
  rename_i fn xs ks p
  cases fn <;> first | (simp [chkIt] at h; done) | skip
  rcases xs with _ | ⟨v, _ | ⟨y, ys⟩⟩ <;> rcases ks with _ | ⟨kw, kws⟩ <;> first | (simp [chkIt] at h; done) | skip
  rename_i x p1
  simp only [chkIt, Bool.and_eq_true, decide_eq_true_eq] at h
  obtain ⟨⟨⟨⟨rfl, h1⟩, h2⟩, h3⟩, h4⟩ := h
  exact ⟨v, p1, p, rfl, h1, h2, h3, h4⟩
theorem inv_zp {a b : E} {t i : Expr} (h : chkIt T N sc (.zip a b) t i = true) : ∃ u v p1 p2, i = .Call (.Name "zip" p1) [u, v] [] p2 ∧ glB sc "zip" = true ∧ chkE T N sc a u = true ∧ noStar u = true ∧ chkE T N sc b v = true ∧ noStar v = true ∧ isTuple t = true := by
  cases i <;> first | (simp [chkIt] at h; done) | skip
  rename_i fn xs ks p
  cases fn <;> first | (simp [chkIt] at h; done) | skip
  rcases xs with _ | ⟨v, _ | ⟨y, _ | ⟨z, zs⟩⟩⟩ <;> rcases ks with _ | ⟨kw, kws⟩ <;> first | (simp [chkIt] at h; done) | skip
  rename_i x p1
  simp only [chkIt, Bool.and_eq_true, decide_eq_true_eq] at h
  obtain ⟨⟨⟨⟨⟨⟨rfl, h1⟩, h2⟩, h3⟩, h4⟩, h5⟩, h6⟩ := h
  exact ⟨v, y, p1, p, rfl, h1, h2, h3, h4, h5, h6⟩
theorem evAnd_cons (cf : Nat → List D → M D) (e e2 : E) (r : Es) : evAnd cf (.cons e (.cons e2 r)) = fun ρ => bnd (asB (evE cf e ρ)) fun k => if k then evAnd cf (.cons e2 r) ρ else ret (.bl false) := by
  funext ρ
  conv => lhs; unfold evAnd
theorem evOr_cons (cf : Nat → List D → M D) (e e2 : E) (r : Es) : evOr cf (.cons e (.cons e2 r)) = fun ρ => bnd (asB (evE cf e ρ)) fun k => if k then ret (.bl true) else evOr cf (.cons e2 r) ρ := by
  funext ρ
  conv => lhs; unfold evOr
end
end Ms
end
section
set_option Elab.async false
set_option linter.all false
set_option maxRecDepth 100000
set_option maxHeartbeats 4000000
/-! told(lambda: e). -/
namespace Ms
open PySem L2
section
variable {K : PySem.W.Frag} {G H : Hp} {ι : List Addr} {η : List Cell}
/-- new things that nobody knows -/
theorem RS.more {H2 : Hp} (S : RS K G H ι η) (e : Same H H2) : RS K G H2 ι η :=
  ⟨fun b o q => e b o (S.sub b o q), S.len, S.nd, S.out, fun n a c q1 q2 => by
    have h := S.cells n a c q1 q2
    cases c with
    | lst xs => obtain ⟨vs, h1, h2⟩ := h; exact ⟨vs, e _ _ h1, h2⟩
    | dic xs => obtain ⟨vs, h1, h2⟩ := h; exact ⟨vs, e _ _ h1, h2⟩
    | dit xs => obtain ⟨vs, h1, h2⟩ := h; exact ⟨vs, e _ _ h1, h2⟩
    | ins C xs => obtain ⟨dx, vs, h1, h2⟩ := h; exact ⟨dx, vs, e _ _ h1, h2⟩
    | tab p q => obtain ⟨ha, ps, h1, h2, h3⟩ := h; exact ⟨ha, ps, e _ _ h1, h2, h3⟩
    | dead => exact h, fun n a q => by
    cases z : H a with
    | none => exact absurd z (S.there n a q)
    | some o => rw [e a o z]; exact (fun y => nomatch y), S.ntb⟩
theorem Stp.more {H2 : Hp} (e : Same H H2) : Stp G H ι G H2 ι := ⟨Ext.refl _ _, fun b o q _ _ => e b o q, fun _ q => .inl q, fun _ _ q => .inl q⟩
/-- G with the code objects that H1 has -/
noncomputable def withCodes (G H1 : Hp) : Hp := fun b => open Classical in if ∃ q, H1 b = some (LamX.CodeO b q) then H1 b else G b
theorem codeO_lst {c : Addr} {q : Str} (xs : List V) : LamX.CodeO c q ≠ .lst xs := fun z => by
  unfold LamX.CodeO at z
  cases z
theorem codes_in {H1 : Hp} {b : Addr} (h : ∃ q, H1 b = some (LamX.CodeO b q)) : withCodes G H1 b = H1 b := by
  unfold withCodes
  rw [if_pos h]
theorem codes_out {H1 : Hp} {b : Addr} (h : ¬ ∃ q, H1 b = some (LamX.CodeO b q)) : withCodes G H1 b = G b := by
  unfold withCodes
  rw [if_neg h]
/-- the tables among the cells -/
def tabsOf : List Addr → List Cell → List (Addr × Str)
  | a :: as, .tab _ q :: cs => (a, q) :: tabsOf as cs
  | _ :: as, _ :: cs => tabsOf as cs
  | _, _ => []
theorem tabsOf_mem {r : Addr × Str} : ∀ {ι : List Addr} {η : List Cell}, r ∈ tabsOf ι η → ∃ (n : Nat) (p : Str × Option Str), ι[n]? = some r.1 ∧ η[n]? = some (Cell.tab p r.2)
  | a :: as, .tab p q :: cs, h => by
    rcases List.mem_cons.mp h with h | h
    · exact ⟨0, p, by rw [h]; rfl, by rw [h]; rfl⟩
    · obtain ⟨n, p', h1, h2⟩ := tabsOf_mem h
      exact ⟨n + 1, p', h1, h2⟩
  | a :: as, .lst _ :: cs, h => by
    obtain ⟨n, p', h1, h2⟩ := tabsOf_mem (ι := as) (η := cs) h
    exact ⟨n + 1, p', h1, h2⟩
  | a :: as, .dic _ :: cs, h => by
    obtain ⟨n, p', h1, h2⟩ := tabsOf_mem (ι := as) (η := cs) h
    exact ⟨n + 1, p', h1, h2⟩
  | a :: as, .dit _ :: cs, h => by
    obtain ⟨n, p', h1, h2⟩ := tabsOf_mem (ι := as) (η := cs) h
    exact ⟨n + 1, p', h1, h2⟩
  | a :: as, .ins _ _ :: cs, h => by
    obtain ⟨n, p', h1, h2⟩ := tabsOf_mem (ι := as) (η := cs) h
    exact ⟨n + 1, p', h1, h2⟩
  | a :: as, .dead :: cs, h => by
    obtain ⟨n, p', h1, h2⟩ := tabsOf_mem (ι := as) (η := cs) h
    exact ⟨n + 1, p', h1, h2⟩
  | [], _, h => by cases h
  | _ :: _, [], h => by cases h
theorem mem_tabsOf {a : Addr} {p : Str × Option Str} {q : Str} : ∀ {ι : List Addr} {η : List Cell} {n : Nat}, ι[n]? = some a → η[n]? = some (.tab p q) → (a, q) ∈ tabsOf ι η
  | [], _, n, h, _ => by simp at h
  | _ :: _, [], n, _, h => by simp at h
  | b :: as, c :: cs, 0, h1, h2 => by
    simp at h1 h2
    subst h1 h2
    exact List.mem_cons_self
  | b :: as, c :: cs, n + 1, h1, h2 => by
    have ih := mem_tabsOf (ι := as) (η := cs) (n := n) (by simpa using h1) (by simpa using h2)
    cases c with
    | tab p' q' => exact List.mem_cons_of_mem _ ih
    | lst xs => exact ih
    | dic xs => exact ih
    | dit xs => exact ih
    | ins C xs => exact ih
    | dead => exact ih
theorem RS.tabs (S : RS K G H ι η) : LamX.Tabs (tabsOf ι η) H := fun r hr => by
  obtain ⟨n, p, h1, h2⟩ := tabsOf_mem hr
  obtain ⟨_, ps, h3, h4, h5⟩ := S.cells n _ _ h1 h2
  exact ⟨ps, h3, h4, fun pos cv z => let ⟨c, z1, z2⟩ := h5 pos cv z; ⟨c, z1, S.sub _ _ z2⟩⟩
/-- behind a lambda's making -/
theorem lam_step {H1 : Hp} (S : RS K G H ι η) (x : LamX.ExtN H H1) (hT : LamX.Tabs (tabsOf ι η) H1) : RS K (withCodes G H1) H1 ι η ∧ Stp G H ι (withCodes G H1) H1 ι := by
  have keepG : ∀ b o, G b = some o → H1 b = some o := fun b o e => x b o (S.sub b o e) fun ps z => S.ntb b ps (by rw [← z]; exact e)
  have same : Same G (withCodes G H1) := fun b o e => by
    by_cases hc : ∃ q, H1 b = some (LamX.CodeO b q)
    · rw [codes_in hc]
      exact keepG b o e
    · rw [codes_out hc]
      exact e
  refine ⟨⟨fun b o e => ?_, S.len, S.nd, fun n a c q1 q2 q3 => ?_, fun n a c q1 q2 => ?_, fun n a q1 => ?_, fun b ps e => ?_⟩, ⟨same, List.prefix_refl _⟩, fun b o e nt _ => x b o e nt, fun _ q => .inl q, fun b o e => ?_⟩
  · by_cases hc : ∃ q, H1 b = some (LamX.CodeO b q)
    · rw [codes_in hc] at e
      exact e
    · rw [codes_out hc] at e
      exact keepG b o e
  · have gn := S.out n a c q1 q2 q3
    have hne : ¬ ∃ q, H1 a = some (LamX.CodeO a q) := by
      rintro ⟨q, hq⟩
      have hck := S.cells n a c q1 q2
      cases c with
      | lst xs =>
        obtain ⟨vs, h1, _⟩ := hck
        rw [x a _ h1 (fun ps z => nomatch z)] at hq
        exact codeO_lst vs (Option.some.inj hq).symm
      | dic xs =>
        obtain ⟨vs, h1, _⟩ := hck
        rw [x a _ h1 (fun ps z => nomatch z)] at hq
        exact absurd (Option.some.inj hq).symm (by unfold LamX.CodeO; exact fun z => nomatch z)
      | dit xs =>
        obtain ⟨vs, h1, _⟩ := hck
        rw [x a _ h1 (fun ps z => nomatch z)] at hq
        exact absurd (Option.some.inj hq).symm (by unfold LamX.CodeO; exact fun z => nomatch z)
      | ins C xs =>
        obtain ⟨dx, vs, h1, _⟩ := hck
        rw [x a _ h1 (fun ps z => nomatch z)] at hq
        exact absurd (Option.some.inj hq).symm (by unfold LamX.CodeO; exact fun z => nomatch z)
      | tab p' q' =>
        obtain ⟨ps, h1, _⟩ := hT _ (mem_tabsOf q1 q2)
        rw [h1] at hq
        exact LamX.codeO_ne ps (Option.some.inj hq).symm
      | dead => exact q3 rfl
    rw [codes_out hne]
    exact gn
  · have hck := S.cells n a c q1 q2
    cases c with
    | lst xs =>
      obtain ⟨vs, h1, h2⟩ := hck
      exact ⟨vs, x a _ h1 (fun ps z => nomatch z), h2.mono ⟨same, List.prefix_refl _⟩⟩
    | dic xs =>
      obtain ⟨vs, h1, h2⟩ := hck
      exact ⟨vs, x a _ h1 (fun ps z => nomatch z), h2.mono ⟨same, List.prefix_refl _⟩⟩
    | dit xs =>
      obtain ⟨vs, h1, h2⟩ := hck
      exact ⟨vs, x a _ h1 (fun ps z => nomatch z), h2.mono ⟨same, List.prefix_refl _⟩⟩
    | ins C xs =>
      obtain ⟨dx, vs, h1, h2⟩ := hck
      exact ⟨dx, vs, x a _ h1 (fun ps z => nomatch z), h2.mono ⟨same, List.prefix_refl _⟩⟩
    | tab p' q' =>
      obtain ⟨ps, h1, h2, h3⟩ := hT _ (mem_tabsOf q1 q2)
      refine ⟨hck.1, ps, h1, h2, fun pos cv z => ?_⟩
      obtain ⟨c, e1, e2⟩ := h3 pos cv z
      exact ⟨c, e1, by rw [codes_in ⟨_, e2⟩]; exact e2⟩
    | dead =>
      show withCodes G H1 a ≠ none
      cases q : G a with
      | none => exact absurd q hck
      | some o =>
        rw [same _ _ q]
        exact fun z => nomatch z
  · obtain ⟨c, hc⟩ : ∃ c, η[n]? = some c := ⟨_, List.getElem?_eq_getElem (by rw [← S.len]; exact (List.getElem?_eq_some_iff.mp q1).1)⟩
    have hck := S.cells n a c q1 hc
    cases c with
    | lst xs =>
      obtain ⟨vs, h1, _⟩ := hck
      rw [x a _ h1 (fun ps z => nomatch z)]
      exact fun z => nomatch z
    | dic xs =>
      obtain ⟨vs, h1, _⟩ := hck
      rw [x a _ h1 (fun ps z => nomatch z)]
      exact fun z => nomatch z
    | dit xs =>
      obtain ⟨vs, h1, _⟩ := hck
      rw [x a _ h1 (fun ps z => nomatch z)]
      exact fun z => nomatch z
    | ins C xs =>
      obtain ⟨dx, vs, h1, _⟩ := hck
      rw [x a _ h1 (fun ps z => nomatch z)]
      exact fun z => nomatch z
    | tab p' q' =>
      obtain ⟨ps, h1, _⟩ := hT _ (mem_tabsOf q1 hc)
      rw [h1]
      exact fun z => nomatch z
    | dead =>
      cases q : G a with
      | none => exact absurd q hck
      | some o =>
        rw [keepG _ _ q]
        exact fun z => nomatch z
  · by_cases hc : ∃ q, H1 b = some (LamX.CodeO b q)
    · rw [codes_in hc] at e
      obtain ⟨q, hq⟩ := hc
      rw [hq] at e
      exact LamX.codeO_ne ps (Option.some.inj e)
    · rw [codes_out hc] at e
      exact S.ntb b ps e
  · by_cases hc : ∃ q, H1 b = some (LamX.CodeO b q)
    · rw [codes_in hc] at e
      obtain ⟨q, hq⟩ := hc
      rw [hq] at e
      cases e
      cases z : H b with
      | none => exact .inr (.inl (Fr1.none z))
      | some u =>
        by_cases hu : ∃ ps, u = HO.tbl ps
        · exact .inr (.inl fun o' e' => by rw [z] at e'; cases e'; exact hu)
        · have q2 := x b u z fun ps w => hu ⟨ps, w⟩
          rw [hq] at q2
          cases q2
          exact .inr (.inr (.inr ⟨rfl, fun xs => codeO_lst xs⟩))
    · rw [codes_out hc] at e
      exact .inl e
/-- a new tuple gets known -/
theorem RS.know {H2 : Hp} {p : Addr} {o : HO} (S : RS K G H ι η) (e : Same H H2) (hp : H p = none) (h2 : H2 p = some o) (nt : ∀ ps, o ≠ .tbl ps) : RS K (upd G p o) H2 ι η ∧ Stp G H ι (upd G p o) H2 ι := by
  have S2 := S.more e
  have gp : G p = none := S.sub.free hp
  have ne : ∀ (n : Nat) (a : Addr), ι[n]? = some a → a ≠ p := fun n a q z => S.there n a q (by rw [z]; exact hp)
  refine ⟨⟨fun b u q => ?_, S2.len, S2.nd, fun n a c q q2 q3 => ?_, fun n a c q1 q2 => (S2.cells n a c q1 q2).mono (ext_new gp) rfl, S2.there, fun b ps => ?_⟩, ext_new gp, fun b u q _ _ => e b u q, fun _ q => .inl q, fun b u q => ?_⟩
  · by_cases hb : b = p
    · rw [hb, upd_same] at q
      rw [hb, h2, q]
    · rw [upd_ne hb] at q
      exact S2.sub b u q
  · rw [upd_ne (ne n a q)]
    exact S2.out n a c q q2 q3
  · by_cases hb : b = p
    · rw [hb, upd_same]; exact fun z => nt ps (Option.some.inj z)
    · rw [upd_ne hb]; exact S2.ntb b ps
  · by_cases hb : b = p
    · rw [hb]; exact .inr (.inl (Fr1.none hp))
    · rw [upd_ne hb] at q; exact .inl q
theorem lookup_rep {x : Str} : ∀ {fs : List (Str × D)} {fvs : List (Str × V)} {d : D}, fvs.map (·.1) = fs.map (·.1) → Reps K G ι (fvs.map (·.2)) (fs.map (·.2)) → fs.lookup x = some d → ∃ v, fvs.lookup x = some v ∧ Rep K G ι v d
  | [], _, _, _, _, h => by cases h
  | (n, e) :: fs, [], _, hf, _, _ => by cases hf
  | (n, e) :: fs, (m, v) :: fvs, d, hf, r, h => by
    simp only [List.map_cons, List.cons.injEq] at hf r
    obtain ⟨rfl, hf⟩ := hf
    cases r with
    | cons r1 r2 =>
      rw [List.lookup_cons] at h ⊢
      cases hb : x == m with
      | true =>
        rw [hb] at h
        cases h
        exact ⟨v, rfl, r1⟩
      | false =>
        rw [hb] at h
        exact lookup_rep hf r2 h
theorem words_rep {c : Nat} {fs : List (Str × D)} {fvs : List (Str × V)} {ds : List D} (hf : fvs.map (·.1) = fs.map (·.1)) (r : Reps K G ι (fvs.map (·.2)) (fs.map (·.2))) (h : wordsOf D.str D.int c fs = some ds) : ∃ ws, wordsOf V.str V.int c fvs = some ws ∧ Reps K G ι ws ds := by
  unfold wordsOf at h
  split at h
  · split at h
    · rename_i a b h1 h2
      cases h
      obtain ⟨v1, g1, r1⟩ := lookup_rep hf r h1
      obtain ⟨v2, g2, r2⟩ := lookup_rep hf r h2
      exact ⟨_, by simp only [wordsOf, g1, g2], .cons (.str _) (.cons r1 (.cons r2 .nil))⟩
    · cases h
  · obtain ⟨d, h1, h2⟩ := Option.map_eq_some_iff.mp h
    subst h2
    obtain ⟨v1, g1, r1⟩ := lookup_rep hf r h1
    exact ⟨_, by simp only [wordsOf, g1, Option.map_some], .cons (.str _) (.cons r1 .nil)⟩
  · cases h
    exact ⟨_, rfl, .cons (.str _) (.cons (.int _) .nil)⟩
  · cases h
    exact ⟨_, rfl, .cons (.str _) (.cons (.int _) .nil)⟩
  · cases h
    exact ⟨_, rfl, .cons (.str _) (.cons (.int _) .nil)⟩
  · obtain ⟨d, h1, h2⟩ := Option.map_eq_some_iff.mp h
    subst h2
    obtain ⟨v1, g1, r1⟩ := lookup_rep hf r h1
    exact ⟨_, by simp only [wordsOf, g1, Option.map_some], .cons (.str _) (.cons r1 .nil)⟩
  · cases h
end
theorem noArgs_ok {pr : Arguments} (h : noArgs pr = true) : pr = ⟨[], [], none, [], [], none, []⟩ := by
  obtain ⟨a, b, c, d, e, f, g⟩ := pr
  simp only [noArgs, Bool.and_eq_true, List.isEmpty_iff, Option.isNone_iff_eq_none] at h
  obtain ⟨⟨⟨⟨⟨⟨rfl, rfl⟩, rfl⟩, rfl⟩, rfl⟩, rfl⟩, rfl⟩ := h
  rfl
section
variable {T : Tab} {cls : Nat → Addr} {k : Nat} {X : Cx} {N : List Str} {sc : Scope} {W : WX}
theorem se_told {i : Nat} {p : Str × Option Str} {q x : Str} {pr : Arguments} {b : Expr} {scope : Scope} {ppos lpos pos : Pos} {f : Env → M D} (C : CtxD T cls k X N sc W) (hL : T.lam = some ⟨i, p, q⟩) (hx : x = T.told) (hg : glB sc x = true) (hn : nameB x = true) (hp : noArgs pr = true) (hs : LamX.lamSB sc scope = true)
    (hb : ∀ (A : Around) (outer : List PySem.Env) (s : Shared) (H : Hp) (E : XK) (g c' : Addr), Room (4 * k + 3) (A.deeper (LamX.lamEnv X scope s.heap.objs.size g c')) → PE (LamX.lamCx X A outer s H E scope g c') b (tE cls X.K (fun c d _ H => E c d H) f)) :
    PE X (.Call (.Name x ppos) [.Lambda pr b scope lpos] [] pos) (tE cls X.K W fun ρ => toldD p q i (f ρ)) := by
  refine ⟨fun pins s σ H Q I h => ?_⟩
  obtain ⟨G, ι, η, ρ, S, sl, h⟩ := h
  obtain ⟨hcode, hq, TB, room4, g, pg, bg, sg, dV, kV, doc, pm, cdv, ct, oc, an, od, osl, Ng, a, e1, e2, e3, e4, e5, e6, e7, e8, e9, e10, hG⟩ := C.lam _ hL
  dsimp only at hcode hq TB
  subst hx
  have hpr := noArgs_ok hp
  subst hpr
  dsimp only at h
  unfold toldD at h
  split at h
  · rename_i p' q' hi
    split at h
    · rename_i hpq
      obtain ⟨rfl, rfl⟩ := hpq
      obtain ⟨P, hP⟩ : ∃ P, ι[i]? = some P := ⟨_, List.getElem?_eq_getElem (by rw [S.len]; exact (List.getElem?_eq_some_iff.mp hi).1)⟩
      have hck := S.cells i P _ hP hi
      have eP : P = (He.cT X.K p').2 := hck.1
      subst eP
      refine (LamX.pe_lamcall (T := tabsOf ι η) (TT := TTD X.K cls) (t := fun E => tE cls X.K (fun c d _ H => E c d H) f) (k := 4 * k + 3) (glB_ok (by rw [C.scEq]; exact hg)) e1 e2 e3 e4 e5 e6 e7 e8 (hG _) TB hcode (by rw [hq]; exact mem_tabsOf hP hi) ?_ room4 (LamX.lamS_by (by rw [C.scEq]; exact hs)) rfl (fun _ _ _ _ _ => rfl) (fun A outer s H E g c' hr => hb A outer s H E g c' hr) (nameB_ok hn).1 e9 e10).run pins s σ H Q I ⟨S.tabs, fun H1 hE hT => ?_⟩
      · intro r hr e
        obtain ⟨n, p2, h1, h2⟩ := tabsOf_mem hr
        rw [e] at h1
        have := S.inj hP h1
        subst this
        rw [hi] at h2
        cases h2
        exact hq.symm
      · obtain ⟨S1, st1⟩ := lam_step S hE hT
        refine ⟨_, ι, η, ρ, S1, sl.mono st1.x, ?_⟩
        cases hm : f ρ η with
        | bad => rw [hm] at h; exact h.elim
        | ok d η' =>
          rw [hm] at h
          exact Post.ext (r := .ok d η') st1 h
        | exc c fs η' =>
          rw [hm] at h
          intro G2 ι2 H2 dx fvs st2 S2 hdx hf rf
          dsimp only at h
          cases hw : wordsOf D.str D.int c fs with
          | none => rw [hw] at h; exact h.elim
          | some ds =>
            rw [hw] at h
            obtain ⟨ws, w1, w2⟩ := words_rep (K := X.K) (G := G2) (ι := ι2) hf rf hw
            refine ⟨c, dx, fvs, ws, rfl, rfl, hdx, w1, fun H3 pp sm hn2 ht => ?_⟩
            obtain ⟨S3, st3⟩ := S2.know sm hn2 ht fun ps z => nomatch z
            exact h _ ι2 H3 ((st1.trans st2).trans st3) S3 _ (.tup upd_same (w2.mono st3.x))
    · exact h.elim
  · exact h.elim
end
end Ms
end
section
set_option Elab.async false
set_option linter.all false
set_option maxRecDepth 100000
set_option maxHeartbeats 4000000
/-! Fields, methods, instances, dicts: what the code does. -/
namespace Ms
open PySem L2
section
variable {X : Cx} {CX : CXT} {k : Nat} {f C : Addr} {fd : FuncData} {ps : List Str} {sp : Sp} {E : St → XK} {x m : Str} {p pos apos : Pos} {e o : Expr} {es xs : List Expr} {ta : TE} {t : TA}
/-- the text of o.m(..) -/
theorem meth_text {env : PySem.Env} (hb : attributeBase o m env (eval o env) = eval o env) (hs : xs.all noStar = true) (hl : (apos.endLine == pos.line) = true) (h30 : xs.length < 29) :
    ∃ pl : Sem Bool, eval (.Call (.Attribute o m apos) xs [] pos) env = (do
      let ov ← eval o env
      standAt apos.atName
      let r ← holding [ov] (getMethod ov m pl)
      callWith pos r.1 r.2 (backTo pos (starEach xs env)) (backToKw pos (keywordEach [] env))) := by
  have few : methodCallForm (xs.length + ([] : List Keyword).length) (backTo pos (starEach xs env)) (backToKw pos (keywordEach [] env)) = true := by
    have a : ∀ {ys : List Expr}, ys.all noStar = true → (backTo pos (starEach ys env)).all (fun z => !z.1) = true := by
      intro ys
      induction ys with
      | nil => exact fun _ => rfl
      | cons y ys ih =>
        intro h
        rw [List.all_cons, Bool.and_eq_true] at h
        rw [noStar_ok h.1]
        exact ih h.2
    unfold methodCallForm
    rw [a hs]
    simp only [List.length_nil, Nat.add_zero, Bool.true_and, Bool.and_eq_true, decide_eq_true_eq]
    exact ⟨rfl, by
      show xs.length + 0 < 30
      omega⟩
  have hp : methodCallPos true o env apos pos = pure pos := by
    unfold methodCallPos
    simp only [hl, Bool.not_true, Bool.false_or, if_true]
  refine ⟨do return (← importBound o env).getD true, ?_⟩
  rw [arm_eval_Call, hb]
  unfold methodCall
  rw [few]
  unfold calleeOf
  simp only [if_true, hp]
  rfl
/-- o.m(..) where what is raised is wished for at the caller's slots -/
def tMethD (C : Addr) (m : Str) (sp : Sp) (E : St → XK) (ta : TE) (t : TA) : TE := fun σ H Q => ta σ H fun x H1 => ∃ a dx fs, x = .ref a ∧ H1 a = some (.ins C dx fs) ∧ fs.lookup m = none ∧ t σ H1 fun vs H2 => sp (x :: vs) H2 Q (E σ)
theorem pe_methD (he : PE X o ta) (c : Cls X.K C) (hm : Meth X.K C m f) (F : FnOk X.prog X.w X.K X.mg X.base CX k f fd ps sp) (hr : Room k X.A) (hb : Binds X.K fd ps []) (hx : ∀ σ, PassesAt CX X σ (E σ)) (ha : PA X xs t) (hs : xs.all noStar = true) (hl : (apos.endLine == pos.line) = true) (h30 : xs.length < 29)
    (hn : xs = [] → ∀ σ H Q, t σ H Q → Q [] H) (hba : attributeBase o m X.env (eval o X.env) = eval o X.env) : PE X (.Call (.Attribute o m apos) xs [] pos) (tMethD C m sp E ta t) := by
  obtain ⟨pl, ht⟩ := meth_text (xs := xs) hba hs hl h30
  refine ⟨fun pins s σ H Q I h => PySem.W.methodCall_KW (pl := pl) (thn (he.run pins s σ H _ I h) fun u s1 q0 => ?_) ht⟩
  obtain ⟨x, H1, I1, rx, a, dx, fs, ex, ea, l, q⟩ := q0
  subst ex
  cases (show u = Value.ref a from rx)
  refine getmeth_ok I1 ea c hm l ?_
  cases xs with
  | nil =>
    exact PySem.W.callWith_K0 (first := [.ref a]) I1.kIn hm.kp (run_fnS (us := [.ref a]) (vs := [.ref a]) F hr hb (hx σ) I1 (.cons rfl .nil) (hn rfl _ _ _ q))
  | cons e es =>
    rw [List.all_cons, Bool.and_eq_true] at hs
    have pl2 : (backTo pos (starEach es X.env)).any (·.1) = false := by
      have a : ∀ {ys : List Expr}, ys.all noStar = true → (backTo pos (starEach ys X.env)).any (fun z => z.1) = false := by
        intro ys
        induction ys with
        | nil => exact fun _ => rfl
        | cons y ys ih =>
          intro h
          rw [List.all_cons, Bool.and_eq_true] at h
          rw [noStar_ok h.1]
          exact ih h.2
      exact a hs.2
    refine PySem.W.callWith_K (first := [.ref a]) (h₀ := X.base) I.ok.mod.kin hm.kp (thn (ha.run pos pins s1 σ H1 _ I1 q) fun us s2 q3 => ?_) (noStar_ok hs.1) pl2
    obtain ⟨vs, H2, I2, r, q2⟩ := q3
    exact ⟨I2.kIn, run_fnS (us := .ref a :: us) (vs := .ref a :: vs) F hr hb (hx σ) I2 (.cons rfl r) q2⟩
/-- C(..) likewise -/
def tMakeD (C : Addr) (sp : Sp) (E : St → XK) (t : TA) : TE := fun σ H Q => t σ H fun vs H1 => ∀ y dx, H1 y = none → H1 dx = none → dx ≠ y → sp (.ref y :: vs) (upd (upd H1 dx (.own y)) y (.ins C dx [])) (fun v H2 => v = .non ∧ Q (.ref y) H2) (E σ)
theorem run_makeD {pins : List (Addr × Obj)} {σ : L2.St} {H : Hp} {s : Shared} {Q : VK} {us : List Value} {vs : List V} (M : Mk X.K C f) (F : FnOk X.prog X.w X.K X.mg X.base CX k f fd ps sp) (hr : Room (k + 1) X.A) (hb : Binds X.K fd ps []) (hx : PassesAt CX X σ (E σ)) (I : Inv X pins σ H s) (r : Vals vs us)
    (h : ∀ y dx, H y = none → H dx = none → dx ≠ y → sp (.ref y :: vs) (upd (upd H dx (.own y)) y (.ins C dx [])) (fun v H2 => v = .non ∧ Q (.ref y) H2) (E σ)) : wpAny (model X.prog X.w) X.A (call (.ref C) us) (EP X pins σ Q) X.xe s := by
  let n := s.heap.objs.size
  have q0 := h (n + 1) n (I.hok.fresh (Nat.le_succ _)) (I.hok.fresh (Nat.le_refl _)) (Nat.ne_of_lt (Nat.lt_succ_self _))
  have J := Inv.made (C := C) I
  have r2 : Vals (V.ref (n + 1) :: vs) (Value.ref (n + 1) :: us) := .cons rfl r
  have e1 : (Value.ref (n + 1) :: us).length = ps.length := r2.length.symm.trans (F.len _ _ _ _ q0)
  have bd := hb _ (Value.ref (n + 1) :: us) J.kIn (by rw [List.append_nil]; exact e1)
  rw [List.append_nil] at bd
  have run := F.run _ X.stack _ _ ⟨Value.ref (n + 1) :: us, []⟩ (Value.ref (n + 1) :: us) _ _ (E σ) (hr.make C us []) (J.env0.make C us []) bd r2 q0
  refine wpAny_call (make_map (f := f) I.kIn M.makes M.init (beq_iff_eq.mp M.fn) (codeAny_mono run fun res s' hq => ?_))
  cases res with
  | error e => exact hx pins _ _ e s' J hq
  | ok fl =>
    cases fl with
    | ret u =>
      obtain ⟨v, H', I3, rv, ⟨ev, q3⟩⟩ := J.after hq
      subst ev
      exact ⟨rv, V.ref (n + 1), H', I3, rfl, q3⟩
    | next => exact hq.elim
    | brk => exact hq.elim
    | cont => exact hq.elim
theorem pe_makeD (M : Mk X.K C f) (F : FnOk X.prog X.w X.K X.mg X.base CX k f fd ps sp) (hr : Room (k + 1) X.A) (hg : Gl X x) (hm : X.mg x = some (.ref C)) (hb : Binds X.K fd ps []) (hx : ∀ σ, PassesAt CX X σ (E σ)) (ha : PA X (e :: es) t) (hdb : (x == ("__debug__" : Str)) = false) (h1 : noStar e = true)
    (hpl : (backTo pos (starEach es X.env)).any (·.1) = false) : PE X (.Call (.Name x p) (e :: es) [] pos) (tMakeD C sp E t) := by
  refine ⟨fun pins s σ H Q I h => wpAny_Call_Name_kw (ld_glob I hg hm ?_ hdb)⟩
  refine PySem.W.callWith_K (h₀ := X.base) I.ok.mod.kin M.kp (thn (ha.run pos pins s σ H _ I h) fun us s1 q1 => ?_) (noStar_ok h1) hpl
  obtain ⟨vs, H1, I1, r, q⟩ := q1
  exact ⟨I1.kIn, run_makeD M F hr hb (hx σ) I1 r q⟩
end
/-! ### a written dict of texts: get -/
def tKGet (K : PySem.W.Frag) (a : Addr) (ty : TE) : TE := fun σ H Q => ty σ H fun y H1 => ∃ (z : Str) (r : Option Value) (v : V), y = .str z ∧ PySem.W.nsIn K a z = some r ∧ RelV v (r.getD .none) ∧ Q v H1
theorem pe_kget {X : Cx} {a : Addr} {es : Array DictEntry} {n : Nat} {o e : Expr} {c : Const} {j : Nat} {p3 apos cpos : Pos} {ty : TE} (D : KDict X.K X.w a es n) (ho : PE X o (tC (.ref a))) (he : PE X e ty) (hc : c = .none) (hb : attributeBase o "get" X.env (eval o X.env) = eval o X.env) (hl : (apos.endLine == cpos.line) = true) (hs : noStar e = true) :
    PE X (.Call (.Attribute o "get" apos) [e, .Constant c j p3] [] cpos) (tKGet X.K a ty) := by
  subst hc
  have tr : backTo cpos (starEach [e, .Constant .none j p3] X.env) = [(false, eval e X.env), (false, eval (.Constant .none j p3) X.env)] := by
    rw [noStar_ok hs]
    rfl
  have few : ((backTo cpos (starEach [e, .Constant .none j p3] X.env)).all (fun x => !x.1) && (backToKw cpos (keywordEach [] X.env)).all (fun x => x.1.isSome) && decide (([e, .Constant .none j p3] : List Expr).length + ([] : List Keyword).length + (if ([] : List Keyword).isEmpty then 0 else 1) < 30)) = true := by
    rw [tr]
    rfl
  refine ⟨fun pins s σ H Q I h => ?_⟩
  refine wpAny_Call_method hb few hl PySem.F.plainAttrs_dict PySem.F.slot_dict_get PySem.F.type_dict_get (thn (ho.run pins s σ H (fun x H1 => x = V.ref a ∧ tKGet X.K a ty σ H1 Q) I ⟨rfl, h⟩) fun u s1 q0 => ?_)
  obtain ⟨x, H1, I1, rx, ex, q1⟩ := q0
  subst ex
  cases (show u = Value.ref a from rx)
  have mp : ∀ {s : Shared}, X.K.In s.heap → s.heap.MapOf (strKind X.prog X.w) a (fun k => findBy Value.isStrOf es k) := fun z => PySem.W.mapOf_K (prog := X.prog) z D.at_ D.lit
  refine ⟨(mp I1.kIn).typeIs, fun b q => ?_, ?_⟩
  · cases q
    exact ⟨_, I1.kIn _ _ D.at_, rfl⟩
  · rw [tr]
    refine Calls.callWith_builtin rfl (Calls.evalArgs_plain (Calls.spliced_cons (thn (he.run pins s1 σ H1 _ I1 q1) fun iv s2 q2 => ?_)))
    obtain ⟨y, H2, I2, ry, z, r, v, ey, e1, rv, q3⟩ := q2
    subst ey
    obtain ⟨t, rfl⟩ := ry
    refine Calls.spliced_cons (thn ((pe_non (X := X)).run pins s2 σ H2 (fun w H3 => w = V.non ∧ H3 = H2) I2 ⟨rfl, rfl⟩) fun fv s3 q4 => Calls.spliced_nil ?_)
    obtain ⟨w, H3, I3, rw3, ew, eH⟩ := q4
    subst ew eH
    cases (show fv = Value.none from rw3)
    refine call_meetsIn PySem.F.slot_dict_get (mp I3.kIn).typeIs PySem.F.entry_dict_get (PySem.F.args_dict_get_3 _ _ _) (meets_dict_get_default (strKind X.prog X.w) a (strKind_is X.prog X.w z t) D.low .none) ⟨_, mp I3.kIn, v, _, I3.tok _, ?_, q3⟩
    rw [PySem.W.find_K D.at_ e1]
    exact rv
end Ms
end
section
set_option Elab.async false
set_option linter.all false
set_option maxRecDepth 100000
set_option maxHeartbeats 4000000
/-! The readings of these by data. -/
namespace Ms
open PySem L2
section
variable {cls : Nat → Addr} {K : PySem.W.Frag} {G H : Hp} {ι : List Addr} {η : List Cell} {Q : VK} {W : Value → Option Addr → Hp → Prop}
/-- a step that looks -/
theorem post_look {α β : Type} {b : Bool} {a : α} {k : α → M β} {Qp : β → Hp → List Addr → List Cell → Hp → Prop} (h : Post cls K G H ι (bnd (fun η => if b = true then Res.ok a η else Res.bad) k η) Qp W) : b = true ∧ Post cls K G H ι (k a η) Qp W := by
  cases b with
  | true => exact ⟨rfl, h⟩
  | false => exact (show False from h).elim
end
section
variable {T : Tab} {cls : Nat → Addr} {k : Nat} {X : Cx} {N : List Str} {sc : Scope} {W : WX}
theorem hasCls_ok {C : Str} (h : hasCls T C = true) : ∃ fs, (C, fs) ∈ T.cls := by
  unfold hasCls at h
  obtain ⟨q, hq, e⟩ := List.any_eq_true.mp h
  exact ⟨q.2, by rw [← of_decide_eq_true e]; exact hq⟩
theorem hasFld_ok {C f : Str} (h : hasFld T C f = true) : ∃ fs, (C, fs) ∈ T.cls ∧ f ∈ fs := by
  unfold hasFld at h
  obtain ⟨q, hq, e⟩ := List.any_eq_true.mp h
  rw [Bool.and_eq_true] at e
  exact ⟨q.2, by rw [← of_decide_eq_true e.1]; exact hq, by simpa using e.2⟩
theorem isMeth_ok {f : Nat} {C m : Str} (h : isMeth T f C m = true) : ∃ fd, T.fns[f]? = some fd ∧ fd.own = some (C, m) := by
  unfold isMeth at h
  split at h
  · rename_i fd e
    exact ⟨fd, e, of_decide_eq_true h⟩
  · cases h
theorem se_fld {C f : Str} {o : Expr} {fo : Env → M D} {pos : Pos} (Cx : CtxD T cls k X N sc W) (hf : hasFld T C f = true) (ho : PE X o (tE cls X.K W fo)) (hs : noSuper o = true) : PE X (.Attribute o f pos) (tE cls X.K W fun ρ => bnd (fo ρ) (fldD C f)) := by
  obtain ⟨fs0, h1, h2⟩ := hasFld_ok hf
  have cl := Cx.cl C fs0 h1
  refine PE.imp (pe_fld ho (noSuper_ok hs)) ?_
  rintro σ H Q ⟨G, ι, η, ρ, S, sl, h⟩
  refine ⟨G, ι, η, ρ, S, sl, (Post.bind h).imp (fun d G1 ι1 η1 H1 st1 S1 q v r => ?_) fun _ _ _ z => z⟩
  unfold fldD at q
  cases hx : fldsOf η1 C d with
  | none => rw [hx] at q; exact q.elim
  | some fs =>
    rw [hx] at q
    cases hy : fs.lookup f with
    | none =>
      simp only [Option.bind_some, hy] at q
      exact q.elim
    | some z =>
      simp only [Option.bind_some, hy] at q
      obtain ⟨n, a, dx, vs, rfl, rfl, e1, e2, e3, e4⟩ := fldsOf_ok S1 r hx
      obtain ⟨u, u1, u2⟩ := (e4.look f).1 z hy
      exact ⟨a, _, dx, vs, u, rfl, e3, cl.cl, cl.no f h2, u1, PV.now q S1 u2⟩
theorem se_meth {f : Nat} {C m : Str} {o : Expr} {xs : List Expr} {fo : Env → M D} {g : Env → M (List D)} {apos pos : Pos} (Cx : CtxD T cls k X N sc W) (hm : isMeth T f C m = true) (hc : hasCls T C = true) (ho : PE X o (tE cls X.K W fo)) (hs : noSuper o = true) (ha : PA X xs (tA cls X.K W g)) (hx : xs.all noStar = true)
    (hl : (apos.endLine == pos.line) = true) (h29 : xs.length < 29) (hg0 : xs = [] → ∀ ρ, g ρ = ret []) : PE X (.Call (.Attribute o m apos) xs [] pos) (tE cls X.K W fun ρ => bnd (fo ρ) fun d => bnd (methD C m d) fun _ => bnd (g ρ) fun ds => evF T.fns k f (d :: ds)) := by
  obtain ⟨fd, e1, e2⟩ := isMeth_ok hm
  obtain ⟨fs0, e3⟩ := hasCls_ok hc
  obtain ⟨a, dt, FA, bd, F⟩ := Cx.fn f fd e1
  refine PE.imp (pe_methD (E := WE W) ho (Cx.cl C fs0 e3).cl (FA.me C m e2) F (Cx.room.mono (by omega)) bd (fun σ => passAt Cx.tk σ) ha hx hl h29 (fun e σ H Q q => ?_) (noSuper_ok hs)) ?_
  · obtain ⟨G, ι, η, ρ, S, sl, q⟩ := q
    rw [hg0 e] at q
    exact q G ι H (Stp.refl _ _ _) S [] .nil
  · rintro σ H Q ⟨G, ι, η, ρ, S, sl, h⟩
    refine ⟨G, ι, η, ρ, S, sl, (Post.bind h).imp (fun d G1 ι1 η1 H1 st1 S1 q v r => ?_) fun _ _ _ z => z⟩
    have q2 : Post cls X.K G1 H1 ι1 ((methD C m d η1).bind fun _ => bnd (g ρ) fun ds => evF T.fns k f (d :: ds)) _ _ := q
    unfold methD at q2
    cases hx : fldsOf η1 C d with
    | none => rw [hx] at q2; exact q2.elim
    | some fs =>
      rw [hx] at q2
      dsimp only at q2
      cases hy : (fs.lookup m).isNone with
      | false =>
        rw [hy] at q2
        exact q2.elim
      | true =>
        rw [hy] at q2
        obtain ⟨n, a, dx, vs, rfl, rfl, e1, e2, e3, e4⟩ := fldsOf_ok S1 r hx
        refine ⟨a, dx, vs, rfl, e3, (e4.look m).2 (Option.isNone_iff_eq_none.mp hy), G1, ι1, η1, ρ, S1, sl.mono st1.x, (Post.bind (show Post cls X.K G1 H1 ι1 ((g ρ η1).bind _) _ _ from q2)).imp (fun ds G2 ι2 η2 H2 st2 S2 q3 ws r2 => ?_) fun _ _ _ z => z⟩
        exact ⟨by
          have := evF_len ‹_› q3
          rw [← this, List.length_cons, List.length_cons, r2.length], G2, ι2, η2, _, S2, .cons (r.mono st2.x) r2, q3⟩
theorem se_make {f : Nat} {C : Str} {xs : List Expr} {g : Env → M (List D)} {p pos : Pos} (Cx : CtxD T cls k X N sc W) (hm : isMeth T f C "__init__" = true) (hc : hasCls T C = true) (hg : glB sc C = true) (hn : nameB C = true) (ha : PA X xs (tA cls X.K W g)) (hne : xs.isEmpty = false) (hx : xs.all noStar = true) :
    PE X (.Call (.Name C p) xs [] pos) (tE cls X.K W fun ρ => bnd (g ρ) (makeD C (evF T.fns k f))) := by
  obtain ⟨fd, e1, e2⟩ := isMeth_ok hm
  obtain ⟨fs0, e3⟩ := hasCls_ok hc
  obtain ⟨a, dt, FA, bd, F⟩ := Cx.fn f fd e1
  cases xs with
  | nil => cases hne
  | cons e es =>
    rw [List.all_cons, Bool.and_eq_true] at hx
    have pl : (backTo pos (starEach es X.env)).any (·.1) = false := by
      have a : ∀ {ys : List Expr}, ys.all noStar = true → (backTo pos (starEach ys X.env)).any (fun z => z.1) = false := by
        intro ys
        induction ys with
        | nil => exact fun _ => rfl
        | cons y ys ih =>
          intro h
          rw [List.all_cons, Bool.and_eq_true] at h
          rw [noStar_ok h.1]
          exact ih h.2
      exact a hx.2
    refine PE.imp (pe_makeD (E := WE W) (FA.made C e2) F Cx.room (glB_ok (by rw [Cx.scEq]; exact hg)) (Cx.cl C fs0 e3).gl bd (fun σ => passAt Cx.tk σ) ha (nameB_ok hn).1 hx.1 pl) ?_
    rintro σ H Q ⟨G, ι, η, ρ, S, sl, h⟩
    refine ⟨G, ι, η, ρ, S, sl, (Post.bind h).imp (fun ds G1 ι1 η1 H1 st1 S1 q vs r y dx hy hdx hne => ?_) fun _ _ _ z => z⟩
    have sm : Same H1 (upd H1 dx (.own y)) := fun b o e => by rw [upd_ne (ne_of_none e hdx)]; exact e
    have hy2 : upd H1 dx (.own y) y = none := by rw [upd_ne hne.symm]; exact hy
    have S2 := S1.more sm
    have S3 := S2.cell (o := .ins (He.ga X.K C) dx []) (c := .ins C []) hy2 ⟨dx, [], upd_same, ⟨rfl, .nil⟩⟩
    have st : Stp G1 H1 ι1 G1 (upd (upd H1 dx (.own y)) y (.ins (He.ga X.K C) dx [])) (ι1 ++ [y]) := (Stp.more sm).trans (RS.stpCell hy2)
    have iy : (ι1 ++ [y])[η1.length]? = some y := by
      rw [← S1.len, List.getElem?_append_right (Nat.le_refl _)]
      simp
    unfold makeD at q
    have q2 := (Post.bind q).ext st
    have ln : (V.ref y :: vs).length = fd.ps.length := by
      have := evF_len (F := T.fns) (k := k) (f := f) (ds := .ref η1.length :: ds) e1 (K := X.K) (G := G1) (H := _) (ι := ι1 ++ [y]) (Q := fun _ _ => True) (cls := cls) (W' := fun c d H' => W c d σ H') (q2.imp (fun _ _ _ _ _ _ _ _ _ _ => trivial) fun _ _ _ z => z)
      rw [← this, List.length_cons, List.length_cons, r.length]
    have q5 : PV cls X.K G1 (upd (upd H1 dx (.own y)) y (.ins (He.ga X.K C) dx [])) (ι1 ++ [y]) (evF T.fns k f (.ref η1.length :: ds) (η1 ++ [.ins C []])) (fun v H2 => v = .non ∧ Q (.ref y) H2) (fun c d H' => W c d σ H') := by
      refine q2.imp (fun d G2 ι2 η2 H2 st2 S4 q3 v rv => ?_) fun _ _ _ z => z
      cases rv with
      | non => exact ⟨rfl, q3 G2 ι2 H2 (Stp.refl _ _ _) S4 _ (.ref (prefix_get st2.x.i iy))⟩
      | _ => exact q3.elim
    exact ⟨ln, G1, ι1 ++ [y], η1 ++ [.ins C []], .ref η1.length :: ds, S3, .cons (.ref iy) (r.mono st.x), q5⟩
theorem se_dnew {t : Bool} {pos : Pos} : PE X (.Dict [] [] pos) (tE cls X.K W fun _ => dnewD t) := by
  have new : ∀ {σ : L2.St} {H : Hp} {Q : VK} {o : HO} {c : Cell}, (∀ G ι p, CellOk X.K G ι (upd H p o) p c) → tE cls X.K W (fun _ => fun η => Res.ok (.ref η.length) (η ++ [c])) σ H Q → ∀ p, H p = none → Q (.ref p) (upd H p o) := by
    rintro σ H Q o c hc ⟨G, ι, η, ρ, S, sl, h⟩ p hp
    refine h G (ι ++ [p]) _ (RS.stpCell hp) (S.cell hp (hc _ _ p)) _ (.ref ?_)
    rw [← S.len, List.getElem?_append_right (Nat.le_refl _)]
    simp
  cases t with
  | false => exact PE.imp pe_dnewK fun σ H Q h => new (c := .dic []) (fun G ι p => ⟨[], upd_same, ⟨rfl, .nil⟩⟩) h
  | true => exact PE.imp pe_dnewT fun σ H Q h => new (c := .dit []) (fun G ι p => ⟨[], upd_same, ⟨rfl, .nil⟩⟩) h
theorem noSl_ok {e : Expr} (h : noSlice e = true) : NoSl e := noSlice_ok h
theorem se_dget {a b : Expr} {fa fb : Env → M D} {pos : Pos} (Cx : CtxD T cls k X N sc W) (ha : PE X a (tE cls X.K W fa)) (hb : PE X b (tE cls X.K W fb)) (hs : noSlice b = true) : PE X (.Subscript a b pos) (tE cls X.K W fun ρ => bnd (fa ρ) fun x => bnd (fb ρ) fun y => dgetD x y) := by
  refine PE.imp (pe_dget (by have := Cx.room.un; omega) ha hb (noSl_ok hs)) ?_
  rintro σ H Q ⟨G, ι, η, ρ, S, sl, h⟩
  refine ⟨G, ι, η, ρ, S, sl, (Post.bind h).imp (fun d G1 ι1 η1 H1 st1 S1 h1 v r => ?_) fun _ _ _ z => z⟩
  refine ⟨G1, ι1, η1, ρ, S1, sl.mono st1.x, (Post.bind h1).imp (fun y G2 ι2 η2 H2 st2 S2 h2 u r2 => ?_) fun _ _ _ z => z⟩
  unfold dgetD at h2
  cases hq : lookD η2 d y with
  | none => rw [hq] at h2; exact h2.elim
  | some o =>
    rw [hq] at h2
    cases o with
    | none => exact h2.elim
    | some z =>
      obtain ⟨a, w, rfl, e1, e2, e3, e4⟩ := lookD_ok S2 (r.mono st2.x) r2 hq
      obtain ⟨u2, rfl, e5⟩ := e3 z rfl
      exact ⟨a, u2, rfl, e1, PV.now h2 S2 e5⟩
theorem se_dget2 {a b c : Expr} {n : Str} {fa fb fc : Env → M D} {apos pos : Pos} (Cx : CtxD T cls k X N sc W) (hn : n = "get") (ha : PE X a (tE cls X.K W fa)) (hs : noSuper a = true) (hb : PE X b (tE cls X.K W fb)) (nb : noStar b = true) (hc : PE X c (tE cls X.K W fc)) (nc : noStar c = true) (hl : (apos.endLine == pos.line) = true) :
    PE X (.Call (.Attribute a n apos) [b, c] [] pos) (tE cls X.K W fun ρ => bnd (fa ρ) fun v => bnd (fun η => if isDic η v then .ok () η else .bad) fun _ => bnd (fb ρ) fun y => bnd (fc ρ) fun z => dget2D v y z) := by
  subst hn
  have tr : backTo pos (starEach [b, c] X.env) = [(false, eval b X.env), (false, eval c X.env)] := by
    rw [noStar_ok nb, noStar_ok nc]
    rfl
  have m2 : M2 X a "get" apos b c pos := ⟨noSuper_ok hs, by rw [tr]; rfl, hl, tr⟩
  refine PE.imp (pe_dget2 (by have := Cx.room.un; omega) ha hb hc m2) ?_
  rintro σ H Q ⟨G, ι, η, ρ, S, sl, h⟩
  refine ⟨G, ι, η, ρ, S, sl, (Post.bind h).imp (fun d G1 ι1 η1 H1 st1 S1 h1 v r => ?_) fun _ _ _ z => z⟩
  obtain ⟨hd, h1⟩ := post_look (b := isDic η1 d) h1
  obtain ⟨a, rfl, isd⟩ := isDic_ok S1 r hd
  refine ⟨a, rfl, isd, G1, ι1, η1, ρ, S1, sl.mono st1.x, (Post.bind h1).imp (fun y G2 ι2 η2 H2 st2 S2 h2 u r2 => ?_) fun _ _ _ z => z⟩
  refine ⟨G2, ι2, η2, ρ, S2, sl.mono (st1.x.trans st2.x), (Post.bind h2).imp (fun z G3 ι3 η3 H3 st3 S3 h3 w r3 => ?_) fun _ _ _ z => z⟩
  unfold dget2D at h3
  cases hq : lookD η3 d y with
  | none => rw [hq] at h3; exact h3.elim
  | some o =>
    rw [hq] at h3
    obtain ⟨a', w', ea, e1, e2, e3, e4⟩ := lookD_ok S3 ((r.mono st2.x).mono st3.x) (r2.mono st3.x) hq
    cases ea
    cases o with
    | none =>
      rw [e4 rfl] at e1
      exact ⟨none, e1, PV.now h3 S3 r3⟩
    | some z =>
      obtain ⟨u2, rfl, e5⟩ := e3 z rfl
      exact ⟨some u2, e1, PV.now h3 S3 e5⟩
theorem din_imp {neg : Bool} {fk fd : Env → M D} {σ : L2.St} {H : Hp} {Q : VK} (h : tE cls X.K W (fun ρ => bnd (fk ρ) fun y => bnd (fd ρ) fun x => dinD neg y x) σ H Q) :
    tE cls X.K W fk σ H fun y H1 => tE cls X.K W fd σ H1 fun x H2 => ∃ a o, x = .ref a ∧ DGet H2 a y o ∧ Q (.bl (if neg then !o.isSome else o.isSome)) H2 := by
  obtain ⟨G, ι, η, ρ, S, sl, h⟩ := h
  refine ⟨G, ι, η, ρ, S, sl, (Post.bind h).imp (fun d G1 ι1 η1 H1 st1 S1 h1 v r => ?_) fun _ _ _ z => z⟩
  refine ⟨G1, ι1, η1, ρ, S1, sl.mono st1.x, (Post.bind h1).imp (fun y G2 ι2 η2 H2 st2 S2 h2 u r2 => ?_) fun _ _ _ z => z⟩
  unfold dinD at h2
  cases hq : lookD η2 y d with
  | none => rw [hq] at h2; exact h2.elim
  | some o =>
    rw [hq] at h2
    obtain ⟨a, w, rfl, e1, e2, e3, e4⟩ := lookD_ok S2 r2 (r.mono st2.x) hq
    refine ⟨a, w, rfl, e1, ?_⟩
    rw [e2]
    exact PV.now h2 S2 (.bl _)
theorem pc_dinD {neg : Bool} {a b : Expr} {fk fd : Env → M D} (Cx : CtxD T cls k X N sc W) (ha : PE X a (tE cls X.K W fk)) (hb : PE X b (tE cls X.K W fd)) : PC X (if neg then .NotIn else .In) a b (fun σ H Q => tE cls X.K W fk σ H fun y H1 => tE cls X.K W fd σ H1 fun x H2 => ∃ a o, x = .ref a ∧ DGet H2 a y o ∧ Q (.bl (if neg then !o.isSome else o.isSome)) H2) := by
  have hu : X.A.units + 1 < cLine := by have := Cx.room.un; omega
  cases neg with
  | true => exact pc_dnotin hu ha hb
  | false => exact pc_din hu ha hb
theorem se_din {neg : Bool} {a b : Expr} {fk fd : Env → M D} {pos : Pos} (Cx : CtxD T cls k X N sc W) (ha : PE X a (tE cls X.K W fk)) (hb : PE X b (tE cls X.K W fd)) (hs : noSet b = true) : PE X (.Compare a [if neg then .NotIn else .In] [b] pos) (tE cls X.K W fun ρ => bnd (fk ρ) fun y => bnd (fd ρ) fun x => dinD neg y x) :=
  PE.imp (pe_cmp (pc_dinD Cx ha hb) (noSet_behind hs)) fun σ H Q h => din_imp h
theorem st_din {neg : Bool} {a b : Expr} {fk fd : Env → M D} {pos : Pos} (Cx : CtxD T cls k X N sc W) (ha : PE X a (tE cls X.K W fk)) (hb : PE X b (tE cls X.K W fd)) (hs : noSet b = true) : PT X (.Compare a [if neg then .NotIn else .In] [b] pos) (tT cls X.K W fun ρ => asB (bnd (fk ρ) fun y => bnd (fd ρ) fun x => dinD neg y x)) :=
  PT.imp (pt_cmp (pc_dinD Cx ha hb) (noSet_behind hs)) fun σ H Q h => din_imp (test_imp h)
/-! written dicts of texts -/
theorem shp_val {x : Str} {tb : List (Str × Str)} {d : Addr} {es : Array DictEntry} {n : Nat} (hx : ∀ z, ∃ r, PySem.W.nsIn X.K d z = some r ∧ (∀ y, tb.lookup z = some y → ∃ t, r = some (.str y t)) ∧ (tb.lookup z = none → r = none)) (z : Str) :
    ∃ r, PySem.W.nsIn X.K d z = some r ∧ r.isSome = (tb.lookup z).isSome ∧ (∀ y, tb.lookup z = some y → ∃ t, r = some (.str y t)) ∧ (tb.lookup z = none → r = none) := by
  obtain ⟨r, h1, h2, h3⟩ := hx z
  refine ⟨r, h1, ?_, h2, h3⟩
  cases q : tb.lookup z with
  | none =>
    rw [h3 q]
    rfl
  | some y =>
    obtain ⟨t, e⟩ := h2 y q
    rw [e]
    rfl
theorem pe_shName {x : Str} {u : Addr} {p : Pos} (Cx : CtxD T cls k X N sc W) (hg : glB sc x = true) (hn : nameB x = true) (hm : X.mg x = some (.ref u)) : PE X (.Name x p) (tC (.ref u)) :=
  pe_glob (v := V.ref u) (glB_ok (by rw [Cx.scEq]; exact hg)) hm rfl (nameB_ok hn).1
theorem se_shp {x : Str} {tb : List (Str × Str)} {b : Expr} {fb : Env → M D} {p pos : Pos} (Cx : CtxD T cls k X N sc W) (ht : (x, tb) ∈ T.shs) (hg : glB sc x = true) (hn : nameB x = true) (hb : PE X b (tE cls X.K W fb)) (hs : noSlice b = true) :
    PE X (.Subscript (.Name x p) b pos) (tE cls X.K W fun ρ => bnd (fb ρ) (shpD tb)) := by
  obtain ⟨d, es, n, hm, KD, hx⟩ := Cx.sh x tb ht
  refine PE.imp (pe_ix ix_kdict (pe_shName Cx hg hn hm) hb (noSlice_ok hs)) ?_
  rintro σ H Q ⟨G, ι, η, ρ, S, sl, h⟩
  refine ⟨G, ι, η, ρ, S, sl, (Post.bind h).imp (fun y G1 ι1 η1 H1 st1 S1 h1 v r => ?_) fun _ _ _ z => z⟩
  cases r with
  | str z =>
    obtain ⟨c, e, h2⟩ := PV.fromO (show PV cls X.K G1 H1 ι1 (fromO ((tb.lookup z).map .str) η1) Q _ from h1)
    obtain ⟨y, e1, rfl⟩ := Option.map_eq_some_iff.mp e
    obtain ⟨r, g1, _, g2, _⟩ := shp_val (x := x) (n := n) (es := es) hx z
    obtain ⟨t, rfl⟩ := g2 y e1
    exact ⟨d, z, .str y, rfl, rfl, ⟨es, n, _, KD.at_, KD.lit, g1, ⟨t, rfl⟩⟩, PV.now h2 S1 (.str y)⟩
  | _ => exact h1.elim
theorem se_shpg {x : Str} {tb : List (Str × Str)} {b : Expr} {n : Str} {c : Const} {j : Nat} {fb : Env → M D} {p p3 apos pos : Pos} (Cx : CtxD T cls k X N sc W) (ht : (x, tb) ∈ T.shs) (hg : glB sc x = true) (hnm : nameB x = true) (hb : PE X b (tE cls X.K W fb)) (hs : noStar b = true) (hn : n = "get") (hc : c = .none) (hl : (apos.endLine == pos.line) = true) :
    PE X (.Call (.Attribute (.Name x p) n apos) [b, .Constant c j p3] [] pos) (tE cls X.K W fun ρ => bnd (fb ρ) (shpG tb)) := by
  subst hn
  obtain ⟨d, es, n, hm, KD, hx⟩ := Cx.sh x tb ht
  refine PE.imp (pe_kget KD (pe_shName Cx hg hnm hm) hb hc (noSuper_ok rfl) hl hs) ?_
  rintro σ H Q ⟨G, ι, η, ρ, S, sl, h⟩
  refine ⟨G, ι, η, ρ, S, sl, (Post.bind h).imp (fun y G1 ι1 η1 H1 st1 S1 h1 v r => ?_) fun _ _ _ z => z⟩
  cases r with
  | str z =>
    obtain ⟨r, g1, _, g2, g3⟩ := shp_val (x := x) (n := n) (es := es) hx z
    cases q : tb.lookup z with
    | none =>
      have e := g3 q
      subst e
      have h2 : PV cls X.K G1 H1 ι1 (ret (match tb.lookup z with | some y => .str y | none => .non) η1) Q _ := h1
      rw [q] at h2
      exact ⟨z, none, .non, rfl, g1, rfl, PV.now h2 S1 .non⟩
    | some y =>
      obtain ⟨t, rfl⟩ := g2 y q
      have h2 : PV cls X.K G1 H1 ι1 (ret (match tb.lookup z with | some y => .str y | none => .non) η1) Q _ := h1
      rw [q] at h2
      exact ⟨z, _, .str y, rfl, g1, ⟨t, rfl⟩, PV.now h2 S1 (.str y)⟩
  | _ => exact h1.elim
theorem or_shpin {neg : Bool} {tb : List (Str × Str)} {d : Addr} {es : Array DictEntry} {n : Nat} (KD : KDict X.K X.w d es n) (hx : ∀ z, ∃ r, PySem.W.nsIn X.K d z = some r ∧ (∀ y, tb.lookup z = some y → ∃ t, r = some (.str y t)) ∧ (tb.lookup z = none → r = none)) :
    OpR X (compareOp (if neg then .NotIn else .In)) (fun a b H Q => ∃ z, a = .str z ∧ b = .ref d ∧ Q (.bl (if neg then !(tb.lookup z).isSome else (tb.lookup z).isSome)) H) := by
  intro pins s σ H a b u v Q I ra rb h
  obtain ⟨z, rfl, rfl, q⟩ := h
  obtain ⟨r, g1, g2, _⟩ := shp_val (x := "") (n := n) (es := es) hx z
  cases neg with
  | true => exact op_notIn_kd KD pins s σ H _ _ u v Q I ra rb ⟨z, r, rfl, rfl, g1, by rw [g2]; exact q⟩
  | false => exact op_in_kd KD pins s σ H _ _ u v Q I ra rb ⟨z, r, rfl, rfl, g1, by rw [g2]; exact q⟩
theorem shpin_imp {neg : Bool} {tb : List (Str × Str)} {d : Addr} {fb : Env → M D} {σ : L2.St} {H : Hp} {Q : VK} (h : tE cls X.K W (fun ρ => bnd (fb ρ) (shpIn tb neg)) σ H Q) :
    tOp (fun a b H Q => ∃ z, a = .str z ∧ b = .ref d ∧ Q (.bl (if neg then !(tb.lookup z).isSome else (tb.lookup z).isSome)) H) (tE cls X.K W fb) (tC (.ref d)) σ H Q := by
  obtain ⟨G, ι, η, ρ, S, sl, h⟩ := h
  refine ⟨G, ι, η, ρ, S, sl, (Post.bind h).imp (fun y G1 ι1 η1 H1 st1 S1 h1 v r => ?_) fun _ _ _ z => z⟩
  cases r with
  | str z => exact ⟨z, rfl, rfl, PV.now (show PV cls X.K G1 H1 ι1 (.ok _ η1) Q _ from h1) S1 (.bl _)⟩
  | _ => exact h1.elim
theorem se_shpin {neg : Bool} {x : Str} {tb : List (Str × Str)} {a : Expr} {fb : Env → M D} {p pos : Pos} (Cx : CtxD T cls k X N sc W) (ht : (x, tb) ∈ T.shs) (hg : glB sc x = true) (hn : nameB x = true) (ha : PE X a (tE cls X.K W fb)) : PE X (.Compare a [if neg then .NotIn else .In] [.Name x p] pos) (tE cls X.K W fun ρ => bnd (fb ρ) (shpIn tb neg)) := by
  obtain ⟨d, es, n, hm, KD, hx⟩ := Cx.sh x tb ht
  exact PE.imp (pe_cmpR (or_shpin KD hx) ha (pe_shName Cx hg hn hm) (noSet_behind rfl)) fun σ H Q h => shpin_imp h
theorem st_shpin {neg : Bool} {x : Str} {tb : List (Str × Str)} {a : Expr} {fb : Env → M D} {p pos : Pos} (Cx : CtxD T cls k X N sc W) (ht : (x, tb) ∈ T.shs) (hg : glB sc x = true) (hn : nameB x = true) (ha : PE X a (tE cls X.K W fb)) : PT X (.Compare a [if neg then .NotIn else .In] [.Name x p] pos) (tT cls X.K W fun ρ => asB (bnd (fb ρ) (shpIn tb neg))) := by
  obtain ⟨d, es, n, hm, KD, hx⟩ := Cx.sh x tb ht
  exact PT.imp (pt_cmpR (or_shpin KD hx) ha (pe_shName Cx hg hn hm) (noSet_behind rfl)) fun σ H Q h => shpin_imp (test_imp h)
end
end Ms
end
section
set_option Elab.async false
set_option linter.all false
set_option maxRecDepth 100000
set_option maxHeartbeats 4000000
/-! What a text that is checked is like: fields, methods, dicts. -/
namespace Ms
open PySem L2
section
variable {T : Tab} {N : List Str} {sc : Scope}
theorem inv_fld {C f : Str} {a : E} {py : Expr} (h : chkE T N sc (.fld C a f) py = true) : ∃ v p, py = .Attribute v f p ∧ chkE T N sc a v = true ∧ noSuper v = true ∧ hasFld T C f = true := by
  cases py <;> first | (exact absurd h Bool.false_ne_true) | skip
  rename_i v n p
  unfold chkE at h
  simp only [Bool.and_eq_true, decide_eq_true_eq] at h
  obtain ⟨⟨⟨rfl, h1⟩, h2⟩, h3⟩ := h
  exact ⟨v, p, rfl, h1, h2, h3⟩
theorem inv_meth {f : Nat} {C m : Str} {a : E} {es : Es} {py : Expr} (h : chkE T N sc (.meth f C m a es) py = true) : ∃ o ap xs p, py = .Call (.Attribute o m ap) xs [] p ∧ isMeth T f C m = true ∧ chkE T N sc a o = true ∧ noSuper o = true ∧ chkEs T N sc es xs = true ∧ (ap.endLine == p.line) = true ∧ xs.length < 29 ∧ hasCls T C = true := by
  cases py <;> first | (exact absurd h Bool.false_ne_true) | skip
  rename_i fn xs ks p
  cases fn <;> first | (exact absurd h Bool.false_ne_true) | skip
  rename_i o n ap
  cases ks <;> first | (exact absurd h Bool.false_ne_true) | skip
  unfold chkE at h
  simp only [Bool.and_eq_true, decide_eq_true_eq] at h
  obtain ⟨⟨⟨⟨⟨⟨⟨h1, rfl⟩, h2⟩, h3⟩, h4⟩, h5⟩, h6⟩, h7⟩ := h
  exact ⟨o, ap, xs, p, rfl, h1, h2, h3, h4, h5, h6, h7⟩
theorem invT_meth {f : Nat} {C m : Str} {a : E} {es : Es} {py : Expr} (h : chkT T N sc (.meth f C m a es) py = true) : ∃ o ap xs p, py = .Call (.Attribute o m ap) xs [] p ∧ isMeth T f C m = true ∧ chkE T N sc a o = true ∧ noSuper o = true ∧ chkEs T N sc es xs = true ∧ (ap.endLine == p.line) = true ∧ xs.length < 29 ∧ hasCls T C = true := by
  cases py <;> first | (exact absurd h Bool.false_ne_true) | skip
  rename_i fn xs ks p
  cases fn <;> first | (exact absurd h Bool.false_ne_true) | skip
  rename_i o n ap
  cases ks <;> first | (exact absurd h Bool.false_ne_true) | skip
  unfold chkT at h
  simp only [Bool.and_eq_true, decide_eq_true_eq] at h
  obtain ⟨⟨⟨⟨⟨⟨⟨h1, rfl⟩, h2⟩, h3⟩, h4⟩, h5⟩, h6⟩, h7⟩ := h
  exact ⟨o, ap, xs, p, rfl, h1, h2, h3, h4, h5, h6, h7⟩
theorem inv_make {f : Nat} {C : Str} {es : Es} {py : Expr} (h : chkE T N sc (.make f C es) py = true) : ∃ xs p1 p2, py = .Call (.Name C p1) xs [] p2 ∧ isMeth T f C "__init__" = true ∧ glB sc C = true ∧ nameB C = true ∧ chkEs T N sc es xs = true ∧ xs.isEmpty = false ∧ hasCls T C = true := by
  cases py <;> first | (exact absurd h Bool.false_ne_true) | skip
  rename_i fn xs ks p
  cases fn <;> first | (exact absurd h Bool.false_ne_true) | skip
  rename_i x p1
  cases ks <;> first | (exact absurd h Bool.false_ne_true) | skip
  unfold chkE at h
  simp only [Bool.and_eq_true, decide_eq_true_eq, Bool.not_eq_true'] at h
  obtain ⟨⟨⟨⟨⟨⟨h1, rfl⟩, h2⟩, h3⟩, h4⟩, h5⟩, h6⟩ := h
  exact ⟨xs, p1, p, rfl, h1, h2, h3, h4, h5, h6⟩
theorem inv_dnew {t : Bool} {py : Expr} (h : chkE T N sc (.dnew t) py = true) : ∃ p, py = .Dict [] [] p := by
  cases py <;> first | (exact absurd h Bool.false_ne_true) | skip
  rename_i ks vs p
  cases ks <;> cases vs <;> first | (exact absurd h Bool.false_ne_true) | exact ⟨p, rfl⟩
theorem inv_dget {d k : E} {py : Expr} (h : chkE T N sc (.dget d k) py = true) : ∃ v s p, py = .Subscript v s p ∧ chkE T N sc d v = true ∧ chkE T N sc k s = true ∧ noSlice s = true := by
  cases py <;> first | (exact absurd h Bool.false_ne_true) | skip
  rename_i v s p
  unfold chkE at h
  simp only [Bool.and_eq_true] at h
  exact ⟨v, s, p, rfl, h.1.1, h.1.2, h.2⟩
theorem inv_dget2 {d k x : E} {py : Expr} (h : chkE T N sc (.dget2 d k x) py = true) : ∃ o ap u w p, py = .Call (.Attribute o "get" ap) [u, w] [] p ∧ chkE T N sc d o = true ∧ noSuper o = true ∧ chkE T N sc k u = true ∧ noStar u = true ∧ chkE T N sc x w = true ∧ noStar w = true ∧ (ap.endLine == p.line) = true := by
  cases py <;> first | (exact absurd h Bool.false_ne_true) | skip
  rename_i fn xs ks p
  cases fn <;> first | (exact absurd h Bool.false_ne_true) | skip
  rename_i o n ap
  rcases xs with _ | ⟨u, _ | ⟨w, _ | ⟨z, zs⟩⟩⟩ <;> cases ks <;> first | (exact absurd h Bool.false_ne_true) | skip
  unfold chkE at h
  simp only [Bool.and_eq_true, decide_eq_true_eq] at h
  obtain ⟨⟨⟨⟨⟨⟨⟨rfl, h1⟩, h2⟩, h3⟩, h4⟩, h5⟩, h6⟩, h7⟩ := h
  exact ⟨o, ap, u, w, p, rfl, h1, h2, h3, h4, h5, h6, h7⟩
theorem inv_din {neg : Bool} {k d : E} {py : Expr} (h : chkE T N sc (.din neg k d) py = true) : ∃ l r p, py = .Compare l [if neg then .NotIn else .In] [r] p ∧ chkE T N sc k l = true ∧ chkE T N sc d r = true ∧ noSet r = true := by
  cases py <;> first | (exact absurd h Bool.false_ne_true) | skip
  rename_i l ops cs p
  rcases ops with _ | ⟨o, _ | ⟨o2, os⟩⟩ <;> rcases cs with _ | ⟨r, _ | ⟨r2, rs⟩⟩ <;> first | (exact absurd h Bool.false_ne_true) | skip
  unfold chkE at h
  simp only [Bool.and_eq_true, decide_eq_true_eq] at h
  obtain ⟨⟨⟨rfl, h1⟩, h2⟩, h3⟩ := h
  exact ⟨l, r, p, rfl, h1, h2, h3⟩
theorem invT_din {neg : Bool} {k d : E} {py : Expr} (h : chkT T N sc (.din neg k d) py = true) : ∃ l r p, py = .Compare l [if neg then .NotIn else .In] [r] p ∧ chkE T N sc k l = true ∧ chkE T N sc d r = true ∧ noSet r = true := by
  cases py <;> first | (exact absurd h Bool.false_ne_true) | skip
  rename_i l ops cs p
  rcases ops with _ | ⟨o, _ | ⟨o2, os⟩⟩ <;> rcases cs with _ | ⟨r, _ | ⟨r2, rs⟩⟩ <;> first | (exact absurd h Bool.false_ne_true) | skip
  unfold chkT at h
  simp only [Bool.and_eq_true, decide_eq_true_eq] at h
  obtain ⟨⟨⟨rfl, h1⟩, h2⟩, h3⟩ := h
  exact ⟨l, r, p, rfl, h1, h2, h3⟩
theorem inv_shp {x : Str} {tb : List (Str × Str)} {k : E} {py : Expr} (h : chkE T N sc (.shp x tb k) py = true) : ∃ p1 s p, py = .Subscript (.Name x p1) s p ∧ glB sc x = true ∧ nameB x = true ∧ (x, tb) ∈ T.shs ∧ chkE T N sc k s = true ∧ noSlice s = true := by
  cases py <;> first | (exact absurd h Bool.false_ne_true) | skip
  rename_i v s p
  cases v <;> first | (exact absurd h Bool.false_ne_true) | skip
  unfold chkE at h
  simp only [Bool.and_eq_true, decide_eq_true_eq] at h
  obtain ⟨⟨⟨⟨⟨rfl, h1⟩, h2⟩, h3⟩, h4⟩, h5⟩ := h
  exact ⟨_, s, p, rfl, h1, h2, h3, h4, h5⟩
theorem inv_shpg {x : Str} {tb : List (Str × Str)} {k : E} {py : Expr} (h : chkE T N sc (.shpg x tb k) py = true) : ∃ p1 ap u j p3 p, py = .Call (.Attribute (.Name x p1) "get" ap) [u, .Constant .none j p3] [] p ∧ glB sc x = true ∧ nameB x = true ∧ (x, tb) ∈ T.shs ∧ chkE T N sc k u = true ∧ noStar u = true ∧ (ap.endLine == p.line) = true := by
  cases py <;> first | (exact absurd h Bool.false_ne_true) | skip
  rename_i fn xs ks p
  cases fn <;> first | (exact absurd h Bool.false_ne_true) | skip
  rename_i o n ap
  cases o <;> first | (exact absurd h Bool.false_ne_true) | skip
  rcases xs with _ | ⟨u, _ | ⟨w, _ | ⟨z, zs⟩⟩⟩ <;> first | (exact absurd h Bool.false_ne_true) | skip
  · cases w <;> first | (exact absurd h Bool.false_ne_true) | skip
    cases ks <;> first | (exact absurd h Bool.false_ne_true) | skip
    unfold chkE at h
    simp only [Bool.and_eq_true, decide_eq_true_eq] at h
    obtain ⟨⟨⟨⟨⟨⟨⟨⟨rfl, h1⟩, h2⟩, h3⟩, rfl⟩, h4⟩, h5⟩, rfl⟩, h6⟩ := h
    exact ⟨_, ap, u, _, _, p, rfl, h1, h2, h3, h4, h5, h6⟩
  · cases w <;> exact absurd h Bool.false_ne_true
theorem inv_shpin {neg : Bool} {x : Str} {tb : List (Str × Str)} {k : E} {py : Expr} (h : chkE T N sc (.shpin neg x tb k) py = true) : ∃ l p1 p, py = .Compare l [if neg then .NotIn else .In] [.Name x p1] p ∧ chkE T N sc k l = true ∧ glB sc x = true ∧ nameB x = true ∧ (x, tb) ∈ T.shs := by
  cases py <;> first | (exact absurd h Bool.false_ne_true) | skip
  rename_i l ops cs p
  rcases ops with _ | ⟨o, _ | ⟨o2, os⟩⟩ <;> rcases cs with _ | ⟨r, _ | ⟨r2, rs⟩⟩ <;> first | (exact absurd h Bool.false_ne_true) | skip
  · cases r <;> first | (exact absurd h Bool.false_ne_true) | skip
    unfold chkE at h
    simp only [Bool.and_eq_true, decide_eq_true_eq] at h
    obtain ⟨⟨⟨⟨⟨rfl, h1⟩, rfl⟩, h2⟩, h3⟩, h4⟩ := h
    exact ⟨l, _, p, rfl, h1, h2, h3, h4⟩
  all_goals (cases r <;> exact absurd h Bool.false_ne_true)
theorem invT_shpin {neg : Bool} {x : Str} {tb : List (Str × Str)} {k : E} {py : Expr} (h : chkT T N sc (.shpin neg x tb k) py = true) : ∃ l p1 p, py = .Compare l [if neg then .NotIn else .In] [.Name x p1] p ∧ chkE T N sc k l = true ∧ glB sc x = true ∧ nameB x = true ∧ (x, tb) ∈ T.shs := by
  cases py <;> first | (exact absurd h Bool.false_ne_true) | skip
  rename_i l ops cs p
  rcases ops with _ | ⟨o, _ | ⟨o2, os⟩⟩ <;> rcases cs with _ | ⟨r, _ | ⟨r2, rs⟩⟩ <;> first | (exact absurd h Bool.false_ne_true) | skip
  · cases r <;> first | (exact absurd h Bool.false_ne_true) | skip
    unfold chkT at h
    simp only [Bool.and_eq_true, decide_eq_true_eq] at h
    obtain ⟨⟨⟨⟨⟨rfl, h1⟩, rfl⟩, h2⟩, h3⟩, h4⟩ := h
    exact ⟨l, _, p, rfl, h1, h2, h3, h4⟩
  all_goals (cases r <;> exact absurd h Bool.false_ne_true)
end
end Ms
end
section
set_option Elab.async false
set_option linter.all false
set_option maxRecDepth 100000
set_option maxHeartbeats 4000000
/-! Every expression keeps to its data. -/
namespace Ms
open PySem L2

section
variable {T : Tab} {N : List Str}
theorem noStar_E {sc : Scope} : ∀ {es : Es} {xs : List Expr}, chkEs T N sc es xs = true → xs.all noStar = true
  | .nil, [], _ => rfl
  | .cons e r, x :: xs, h => by
    simp only [chkEs, Bool.and_eq_true] at h
    simp only [List.all_cons, Bool.and_eq_true]
    exact ⟨h.1.2, noStar_E h.2⟩
  | .nil, _ :: _, h => by simp [chkEs] at h
  | .cons _ _, [], h => by simp [chkEs] at h
theorem evEs_zero {sc : Scope} : ∀ {es : Es}, chkEs T N sc es [] = true → ∀ (cf : Nat → List D → M D) (ρ : Env), evEs cf es ρ = ret []
  | .nil, _, cf, ρ => by simp [evEs]
  | .cons e r, h, _, _ => by simp [chkEs] at h
theorem inv_told {sc : Scope} {i : Nat} {p : Str × Option Str} {q : Str} {a : E} {py : Expr} (h : chkE T N sc (.told i p q a) py = true) : ∃ x pp pr b scope lp pos, py = .Call (.Name x pp) [.Lambda pr b scope lp] [] pos ∧ T.lam = some ⟨i, p, q⟩ ∧ x = T.told ∧ glB sc x = true ∧ nameB x = true ∧ noArgs pr = true ∧ LamX.lamSB sc scope = true ∧ chkE { T with lam := none } N scope a b = true := by
  cases py <;> first | (exact absurd h Bool.false_ne_true) | skip
  rename_i fn xs ks pos
  cases fn <;> first | (exact absurd h Bool.false_ne_true) | skip
  rename_i x pp
  rcases xs with _ | ⟨l, _ | ⟨y, ys⟩⟩ <;> first | (exact absurd h Bool.false_ne_true) | skip
  · cases l <;> first | (exact absurd h Bool.false_ne_true) | skip
    rename_i pr b scope lp
    cases ks <;> first | (exact absurd h Bool.false_ne_true) | skip
    unfold chkE at h
    simp only [Bool.and_eq_true, decide_eq_true_eq] at h
    obtain ⟨⟨⟨⟨⟨⟨h1, h2⟩, h3⟩, h4⟩, h5⟩, h6⟩, h7⟩ := h
    exact ⟨x, pp, pr, b, scope, lp, pos, rfl, h1, h2, h3, h4, h5, h6, h7⟩
  · cases l <;> exact absurd h Bool.false_ne_true
theorem tnS {ws : List Nat} {tg : Tn} (h : (match tg with
      | .name j => decide (j ∈ ws)
      | .tup js => js.all fun j => decide (j ∈ ws)) = true) : ∀ i ∈ tnSlots tg, i ∈ ws := by
  cases tg with
  | name j =>
    intro i hi
    simp [tnSlots] at hi
    subst hi
    exact of_decide_eq_true h
  | tup js =>
    intro i hi
    exact of_decide_eq_true (List.all_eq_true.mp h i hi)
end
section
variable (cls : Nat → Addr) (k : Nat)
mutual
theorem sE : ∀ (e : E) (T : Tab) (N : List Str) (X : Cx) (sc : Scope) (W : WX) (_ : CtxD T cls k X N sc W) (py : Expr), chkE T N sc e py = true → PE X py (tE cls X.K W (evE (evF T.fns k) e))
  | .loc i, T, N, X, sc, W, C, py, h => by
    cases py <;> first | (simp [chkE] at h; done) | skip
    simp only [chkE, Bool.and_eq_true, decide_eq_true_eq] at h
    simp only [evE]
    exact se_loc C h.1.1 h.1.2 h.2
  | .cst c, T, N, X, sc, W, C, py, h => by
    cases py <;> first | (simp [chkE] at h; done) | skip
    simp only [chkE, Bool.and_eq_true, decide_eq_true_eq] at h
    obtain ⟨rfl, h⟩ := h
    simp only [evE]
    exact se_cst h
  | .glob x c, T, N, X, sc, W, C, py, h => by
    cases py <;> first | (simp [chkE] at h; done) | skip
    simp only [chkE, Bool.and_eq_true, decide_eq_true_eq] at h
    obtain ⟨⟨⟨rfl, h1⟩, h2⟩, h3⟩ := h
    simp only [evE]
    exact se_glob C h1 h2 h3
  | .bin op a b, T, N, X, sc, W, C, py, h => by
    cases py <;> first | (simp [chkE] at h; done) | skip
    simp only [chkE, Bool.and_eq_true, decide_eq_true_eq] at h
    obtain ⟨⟨rfl, h1⟩, h2⟩ := h
    simp only [evE]
    exact se_bin (sE a T N X sc W C _ h1) (sE b T N X sc W C _ h2)
  | .cmp op a b, T, N, X, sc, W, C, py, h => by
    obtain ⟨l, r, p, rfl, h1, h2, h3⟩ := inv_cmp h
    simp only [evE]
    exact se_cmp C (sE a T N X sc W C _ h1) (sE b T N X sc W C _ h2) h3
  | .chain o1 o2 a b c, T, N, X, sc, W, C, py, h => by
    obtain ⟨l, r, z, p, rfl, h1, h2, h3, h4⟩ := inv_chain h
    simp only [evE]
    exact se_chain C (sE a T N X sc W C _ h1) (sE b T N X sc W C _ h2) (sE c T N X sc W C _ h3) h4
  | .and_ es, T, N, X, sc, W, C, py, h => by
    obtain ⟨vs, p, rfl, h1⟩ := inv_and h
    simp only [evE]
    exact sAnd es T N X sc W C vs p h1
  | .or_ es, T, N, X, sc, W, C, py, h => by
    obtain ⟨vs, p, rfl, h1⟩ := inv_or h
    simp only [evE]
    exact sOr es T N X sc W C vs p h1
  | .not_ a, T, N, X, sc, W, C, py, h => by
    obtain ⟨x, p, rfl, h1⟩ := inv_not h
    simp only [evE]
    exact se_not (sE a T N X sc W C _ h1)
  | .neg a, T, N, X, sc, W, C, py, h => by
    obtain ⟨x, p, rfl, h1⟩ := inv_neg h
    simp only [evE]
    exact se_neg (sE a T N X sc W C _ h1)
  | .ite c a b, T, N, X, sc, W, C, py, h => by
    cases py <;> first | (simp [chkE] at h; done) | skip
    simp only [chkE, Bool.and_eq_true, decide_eq_true_eq] at h
    simp only [evE]
    exact se_ite (sT c T N X sc W C _ h.1.1) (sE a T N X sc W C _ h.1.2) (sE b T N X sc W C _ h.2)
  | .tup es, T, N, X, sc, W, C, py, h => by
    cases py <;> first | (simp [chkE] at h; done) | skip
    simp only [chkE] at h
    simp only [evE]
    exact se_tup (sA es T N X sc W C _ h)
  | .lst m es, T, N, X, sc, W, C, py, h => by
    cases py <;> first | (simp [chkE] at h; done) | skip
    simp only [chkE] at h
    simp only [evE]
    exact se_lst (sA es T N X sc W C _ h)
  | .sub a i, T, N, X, sc, W, C, py, h => by
    cases py <;> first | (simp [chkE] at h; done) | skip
    simp only [chkE, Bool.and_eq_true] at h
    simp only [evE]
    exact se_sub (sE a T N X sc W C _ h.1.1) (sE i T N X sc W C _ h.1.2) h.2
  | .slice a lo hi, T, N, X, sc, W, C, py, h => by
    obtain ⟨v, l, u, p1, p2, rfl, h1, h2, h3⟩ := inv_slice h
    simp only [evE]
    exact se_slice (sE a T N X sc W C _ h1) (sO lo T N X sc W C _ h2) (sO hi T N X sc W C _ h3)
  | .rev a, T, N, X, sc, W, C, py, h => by
    obtain ⟨v, j, p1, p2, p3, p4, rfl, h1⟩ := inv_rev h
    simp only [evE]
    exact se_rev (sE a T N X sc W C _ h1)
  | .call f es, T, N, X, sc, W, C, py, h => by
    obtain ⟨x, xs, fd, p1, p2, rfl, h1, h0, h2, h3, h4, h5, h6⟩ := inv_call h
    simp only [evE]
    exact se_call C h1 h0 h2 h3 h4 (sA es T N X sc W C _ h5) h6 (noStar_E h5)
  | .bi b es, T, N, X, sc, W, C, py, h => by
    obtain ⟨x, xs, p1, p2, rfl, h1, h2, h3, h4⟩ := inv_bi h
    simp only [evE]
    exact se_bi C h1 h2 (sA es T N X sc W C _ h3) h4 (noStar_E h3)
  | .mt m a es, T, N, X, sc, W, C, py, h => by
    obtain ⟨o, n, ap, xs, p, rfl, h1, h2, h3, h4, h5, h6⟩ := inv_mt h
    simp only [evE]
    exact se_mt C h1 (sE a T N X sc W C _ h2) h3 (sA es T N X sc W C _ h4) (noStar_E h4) h5 h6 fun e ρ => evEs_zero (by rw [e] at h4; exact h4) _ ρ
  | .isi a ty, T, N, X, sc, W, C, py, h => by
    obtain ⟨v, p1, p2, p3, rfl, h1, h2, h3, h4, h5⟩ := inv_isi h
    simp only [evE]
    exact se_isi C h1 h4 h5 (sE a T N X sc W C _ h2) h3
  | .lc m ws tg it cond elt, T, N, X, sc, W, C, py, h => by
    obtain ⟨e, t, i, ifs, scope, p, rfl, h1, h2, h2', h3, h4, h5, h6, h7⟩ := inv_lc h
    simp only [evE]
    exact PE.imp (pe_lc (own := ownOf N ws) C.calm (by rw [C.nEq]; exact C.nd) (sI it T N X sc W C _ _ h4) (blkOk_by (by rw [C.nEq, C.scEq]; exact h1))
      (fun s H a cl fp => pg_T (X := X.blk s H scope (compEnvC scope cl a X.env) fp) (N := N) (sc := relS scope sc) (sc2 := scope) C.nEq C.nd (C.blk (blk_kind h1) s H a cl fp).scEq C.calm h2 h2' (blk_st s H a cl fp))
      (fun s H a cl fp => sC cond T N _ _ _ (C.blk (blk_kind h1) s H a cl fp) _ h5) (fun s H a cl fp => sE elt T N _ _ _ (C.blk (blk_kind h1) s H a cl fp) _ h6) (noSet_folded h7)) fun σ H Q hq => by
        rw [ownOf_slots]
        exact lc_imp (tnS h3) hq
  | .fld cn a f, T, N, X, sc, W, C, py, h => by
    obtain ⟨v, p, rfl, h1, h2, h3⟩ := inv_fld h
    simp only [evE]
    exact se_fld C h3 (sE a T N X sc W C _ h1) h2
  | .meth f cn m a es, T, N, X, sc, W, C, py, h => by
    obtain ⟨o, ap, xs, p, rfl, h1, h2, h3, h4, h5, h6, h7⟩ := inv_meth h
    simp only [evE]
    exact se_meth C h1 h7 (sE a T N X sc W C _ h2) h3 (sA es T N X sc W C _ h4) (noStar_E h4) h5 h6 fun e ρ => evEs_zero (by rw [e] at h4; exact h4) _ ρ
  | .make f cn es, T, N, X, sc, W, C, py, h => by
    obtain ⟨xs, p1, p2, rfl, h1, h2, h3, h4, h5, h6⟩ := inv_make h
    simp only [evE]
    exact se_make C h1 h6 h2 h3 (sA es T N X sc W C _ h4) h5 (noStar_E h4)
  | .dnew t, T, N, X, sc, W, C, py, h => by
    obtain ⟨p, rfl⟩ := inv_dnew h
    simp only [evE]
    exact se_dnew
  | .dget d a, T, N, X, sc, W, C, py, h => by
    obtain ⟨v, s, p, rfl, h1, h2, h3⟩ := inv_dget h
    simp only [evE]
    exact se_dget C (sE d T N X sc W C _ h1) (sE a T N X sc W C _ h2) h3
  | .dget2 d a x, T, N, X, sc, W, C, py, h => by
    obtain ⟨o, ap, u, w, p, rfl, h1, h2, h3, h4, h5, h6, h7⟩ := inv_dget2 h
    simp only [evE]
    exact se_dget2 C rfl (sE d T N X sc W C _ h1) h2 (sE a T N X sc W C _ h3) h4 (sE x T N X sc W C _ h5) h6 h7
  | .din neg a d, T, N, X, sc, W, C, py, h => by
    obtain ⟨l, r, p, rfl, h1, h2, h3⟩ := inv_din h
    simp only [evE]
    exact se_din C (sE a T N X sc W C _ h1) (sE d T N X sc W C _ h2) h3
  | .shp x tb a, T, N, X, sc, W, C, py, h => by
    obtain ⟨p1, s, p, rfl, h1, h2, h3, h4, h5⟩ := inv_shp h
    simp only [evE]
    exact se_shp C h3 h1 h2 (sE a T N X sc W C _ h4) h5
  | .shpg x tb a, T, N, X, sc, W, C, py, h => by
    obtain ⟨p1, ap, u, j, p3, p, rfl, h1, h2, h3, h4, h5, h6⟩ := inv_shpg h
    simp only [evE]
    exact se_shpg C h3 h1 h2 (sE a T N X sc W C _ h4) h5 rfl rfl h6
  | .shpin neg x tb a, T, N, X, sc, W, C, py, h => by
    obtain ⟨l, p1, p, rfl, h1, h2, h3, h4⟩ := inv_shpin h
    simp only [evE]
    exact se_shpin C h4 h2 h3 (sE a T N X sc W C _ h1)
  | .frz a, T, N, X, sc, W, C, py, h => by
    simp only [evE]
    have h' : chkE T N sc a py = true := by
      unfold chkE at h
      exact h
    exact se_frz (sE a T N X sc W C _ h')
  | .told i p q a, T, N, X, sc, W, C, py, h => by
    obtain ⟨x, pp, pr, b, scope, lp, pos, rfl, h1, h2, h3, h4, h5, h6, h7⟩ := inv_told h
    simp only [evE]
    exact se_told C h1 h2 h3 h4 h5 h6 fun A outer s H E g c' hr => sE a { T with lam := none } N (LamX.lamCx X A outer s H E scope g c') scope _
      ⟨C.nEq, C.nd, rfl, (LamX.lamS_by h6).kind, rfl, hr, takes_of rfl rfl rfl rfl, C.glo, C.bl, C.fn, C.cl, C.sh, C.xs, fun L z => nomatch z⟩ b h7
theorem sT : ∀ (e : E) (T : Tab) (N : List Str) (X : Cx) (sc : Scope) (W : WX) (_ : CtxD T cls k X N sc W) (py : Expr), chkT T N sc e py = true → PT X py (tT cls X.K W fun ρ => asB (evE (evF T.fns k) e ρ))
  | .cmp op a b, T, N, X, sc, W, C, py, h => by
    obtain ⟨l, r, p, rfl, h1, h2, h3⟩ := invT_cmp h
    simp only [evE]
    exact st_cmp C (sE a T N X sc W C _ h1) (sE b T N X sc W C _ h2) h3
  | .chain o1 o2 a b c, T, N, X, sc, W, C, py, h => by
    obtain ⟨l, r, z, p, rfl, h1, h2, h3, h4⟩ := invT_chain h
    simp only [evE]
    exact st_chain C (sE a T N X sc W C _ h1) (sE b T N X sc W C _ h2) (sE c T N X sc W C _ h3) h4
  | .and_ es, T, N, X, sc, W, C, py, h => by
    obtain ⟨vs, p, rfl, h1⟩ := invT_and h
    simp only [evE]
    exact (sTAnd es T N X sc W C vs p h1).pt
  | .or_ es, T, N, X, sc, W, C, py, h => by
    obtain ⟨vs, p, rfl, h1⟩ := invT_or h
    simp only [evE]
    exact (sTOr es T N X sc W C vs p h1).pt
  | .not_ a, T, N, X, sc, W, C, py, h => by
    obtain ⟨x, p, rfl, h1⟩ := invT_not h
    simp only [evE]
    exact st_not (sT a T N X sc W C _ h1)
  | .loc i, T, N, X, sc, W, C, py, h => by
    cases py <;> first | (simp [chkT] at h; done) | skip
    simp only [chkT, Bool.and_eq_true, decide_eq_true_eq] at h
    simp only [evE]
    exact st_val (se_loc C h.1.1 h.1.2 h.2) rfl
  | .sub a i, T, N, X, sc, W, C, py, h => by
    cases py <;> first | (simp [chkT] at h; done) | skip
    simp only [chkT, Bool.and_eq_true] at h
    simp only [evE]
    exact st_val (se_sub (sE a T N X sc W C _ h.1.1) (sE i T N X sc W C _ h.1.2) h.2) rfl
  | .call f es, T, N, X, sc, W, C, py, h => by
    obtain ⟨x, xs, fd, p1, p2, rfl, h1, h0, h2, h3, h4, h5, h6⟩ := invT_call h
    simp only [evE]
    exact st_val (se_call C h1 h0 h2 h3 h4 (sA es T N X sc W C _ h5) h6 (noStar_E h5)) rfl
  | .bi b es, T, N, X, sc, W, C, py, h => by
    obtain ⟨x, xs, p1, p2, rfl, h1, h2, h3, h4⟩ := invT_bi h
    simp only [evE]
    exact st_val (se_bi C h1 h2 (sA es T N X sc W C _ h3) h4 (noStar_E h3)) rfl
  | .isi a ty, T, N, X, sc, W, C, py, h => by
    obtain ⟨v, p1, p2, p3, rfl, h1, h2, h3, h4, h5⟩ := invT_isi h
    simp only [evE]
    exact st_val (se_isi C h1 h4 h5 (sE a T N X sc W C _ h2) h3) rfl
  | .meth f cn m a es, T, N, X, sc, W, C, py, h => by
    obtain ⟨o, ap, xs, p, rfl, h1, h2, h3, h4, h5, h6, h7⟩ := invT_meth h
    simp only [evE]
    exact st_val (se_meth C h1 h7 (sE a T N X sc W C _ h2) h3 (sA es T N X sc W C _ h4) (noStar_E h4) h5 h6 fun e ρ => evEs_zero (by rw [e] at h4; exact h4) _ ρ) rfl
  | .din neg a d, T, N, X, sc, W, C, py, h => by
    obtain ⟨l, r, p, rfl, h1, h2, h3⟩ := invT_din h
    simp only [evE]
    exact st_din C (sE a T N X sc W C _ h1) (sE d T N X sc W C _ h2) h3
  | .shpin neg x tb a, T, N, X, sc, W, C, py, h => by
    obtain ⟨l, p1, p, rfl, h1, h2, h3, h4⟩ := invT_shpin h
    simp only [evE]
    exact st_shpin C h4 h2 h3 (sE a T N X sc W C _ h1)
  | .fld _ _ _, _, _, _, _, _, _, py, h => by cases py <;> exact absurd h Bool.false_ne_true
  | .make _ _ _, _, _, _, _, _, _, py, h => by cases py <;> exact absurd h Bool.false_ne_true
  | .dnew _, _, _, _, _, _, _, py, h => by cases py <;> exact absurd h Bool.false_ne_true
  | .dget _ _, _, _, _, _, _, _, py, h => by cases py <;> exact absurd h Bool.false_ne_true
  | .dget2 _ _ _, _, _, _, _, _, _, py, h => by cases py <;> exact absurd h Bool.false_ne_true
  | .shp _ _ _, _, _, _, _, _, _, py, h => by cases py <;> exact absurd h Bool.false_ne_true
  | .shpg _ _ _, _, _, _, _, _, _, py, h => by cases py <;> exact absurd h Bool.false_ne_true
  | .cst _, _, _, _, _, _, _, py, h => by cases py <;> (simp [chkT] at h; done)
  | .glob _ _, _, _, _, _, _, _, py, h => by cases py <;> (simp [chkT] at h; done)
  | .bin _ _ _, _, _, _, _, _, _, py, h => by cases py <;> (simp [chkT] at h; done)
  | .neg _, _, _, _, _, _, _, py, h => by cases py <;> (simp [chkT] at h; done)
  | .ite _ _ _, _, _, _, _, _, _, py, h => by cases py <;> (simp [chkT] at h; done)
  | .tup _, _, _, _, _, _, _, py, h => by cases py <;> (simp [chkT] at h; done)
  | .lst _ _, _, _, _, _, _, _, py, h => by cases py <;> (simp [chkT] at h; done)
  | .slice _ _ _, _, _, _, _, _, _, py, h => by cases py <;> (simp [chkT] at h; done)
  | .rev _, _, _, _, _, _, _, py, h => by cases py <;> (simp [chkT] at h; done)
  | .mt _ _ _, _, _, _, _, _, _, py, h => by cases py <;> (simp [chkT] at h; done)
  | .lc _ _ _ _ _ _, _, _, _, _, _, _, py, h => by cases py <;> (simp [chkT] at h; done)
  | .frz _, _, _, _, _, _, _, py, h => by cases py <;> (simp [chkT] at h; done)
  | .told _ _ _ _, _, _, _, _, _, _, py, h => by cases py <;> (simp [chkT] at h; done)
theorem sA : ∀ (es : Es) (T : Tab) (N : List Str) (X : Cx) (sc : Scope) (W : WX) (_ : CtxD T cls k X N sc W) (xs : List Expr), chkEs T N sc es xs = true → PA X xs (tA cls X.K W (evEs (evF T.fns k) es))
  | .nil, T, N, X, sc, W, C, [], h => by
    simp only [evEs]
    exact sa_nil
  | .cons e r, T, N, X, sc, W, C, x :: xs, h => by
    simp only [chkEs, Bool.and_eq_true] at h
    simp only [evEs]
    exact sa_cons (sE e T N X sc W C _ h.1.1) (sA r T N X sc W C _ h.2) h.1.2
  | .nil, _, _, _, _, _, _, _ :: _, h => by simp [chkEs] at h
  | .cons _ _, _, _, _, _, _, _, [], h => by simp [chkEs] at h
theorem sAnd : ∀ (es : Es) (T : Tab) (N : List Str) (X : Cx) (sc : Scope) (W : WX) (_ : CtxD T cls k X N sc W) (vs : List Expr) (p : Pos), chkB T N sc es vs = true → PE X (.BoolOp .And vs p) (tE cls X.K W (evAnd (evF T.fns k) es))
  | .nil, _, _, _, _, _, _, vs, _, h => by simp [chkB] at h
  | .cons e .nil, T, N, X, sc, W, C, vs, p, h => by
    obtain ⟨x, rfl, h1⟩ := inv_b1 h
    simp only [evAnd]
    exact pe_one (sE e T N X sc W C _ h1)
  | .cons e (.cons e2 r), T, N, X, sc, W, C, vs, p, h => by
    obtain ⟨x, y, ys, rfl, h1, h2⟩ := inv_b2 h
    have ih := sAnd (.cons e2 r) T N X sc W C (y :: ys) p h2
    rw [evAnd_cons]
    exact se_and (sE e T N X sc W C _ h1) ih
theorem sOr : ∀ (es : Es) (T : Tab) (N : List Str) (X : Cx) (sc : Scope) (W : WX) (_ : CtxD T cls k X N sc W) (vs : List Expr) (p : Pos), chkB T N sc es vs = true → PE X (.BoolOp .Or vs p) (tE cls X.K W (evOr (evF T.fns k) es))
  | .nil, _, _, _, _, _, _, vs, _, h => by simp [chkB] at h
  | .cons e .nil, T, N, X, sc, W, C, vs, p, h => by
    obtain ⟨x, rfl, h1⟩ := inv_b1 h
    simp only [evOr]
    exact pe_one (sE e T N X sc W C _ h1)
  | .cons e (.cons e2 r), T, N, X, sc, W, C, vs, p, h => by
    obtain ⟨x, y, ys, rfl, h1, h2⟩ := inv_b2 h
    have ih := sOr (.cons e2 r) T N X sc W C (y :: ys) p h2
    rw [evOr_cons]
    exact se_or (sE e T N X sc W C _ h1) ih
theorem sTAnd : ∀ (es : Es) (T : Tab) (N : List Str) (X : Cx) (sc : Scope) (W : WX) (_ : CtxD T cls k X N sc W) (vs : List Expr) (p : Pos), chkTB T N sc es vs = true → PW X (.BoolOp .And vs p) (tT cls X.K W fun ρ => asB (evAnd (evF T.fns k) es ρ))
  | .nil, _, _, _, _, _, _, vs, _, h => by simp [chkTB] at h
  | .cons e .nil, T, N, X, sc, W, C, vs, p, h => by
    obtain ⟨x, rfl, h1⟩ := inv_tb1 h
    simp only [evAnd]
    exact pw_and1 (sT e T N X sc W C _ h1)
  | .cons e (.cons e2 r), T, N, X, sc, W, C, vs, p, h => by
    obtain ⟨x, y, ys, rfl, h1, h2⟩ := inv_tb2 h
    have ih := sTAnd (.cons e2 r) T N X sc W C (y :: ys) p h2
    rw [evAnd_cons]
    exact st_and (sT e T N X sc W C _ h1) ih
theorem sTOr : ∀ (es : Es) (T : Tab) (N : List Str) (X : Cx) (sc : Scope) (W : WX) (_ : CtxD T cls k X N sc W) (vs : List Expr) (p : Pos), chkTB T N sc es vs = true → PW X (.BoolOp .Or vs p) (tT cls X.K W fun ρ => asB (evOr (evF T.fns k) es ρ))
  | .nil, _, _, _, _, _, _, vs, _, h => by simp [chkTB] at h
  | .cons e .nil, T, N, X, sc, W, C, vs, p, h => by
    obtain ⟨x, rfl, h1⟩ := inv_tb1 h
    simp only [evOr]
    exact pw_or1 (sT e T N X sc W C _ h1)
  | .cons e (.cons e2 r), T, N, X, sc, W, C, vs, p, h => by
    obtain ⟨x, y, ys, rfl, h1, h2⟩ := inv_tb2 h
    have ih := sTOr (.cons e2 r) T N X sc W C (y :: ys) p h2
    rw [evOr_cons]
    exact st_or (sT e T N X sc W C _ h1) ih
theorem sO : ∀ (o : Eo) (T : Tab) (N : List Str) (X : Cx) (sc : Scope) (W : WX) (_ : CtxD T cls k X N sc W) (x : Option Expr), chkO T N sc o x = true → PO X x (tO cls X.K W (evO (evF T.fns k) o))
  | .none, T, N, X, sc, W, C, none, h => by
    simp only [evO]
    exact so_none
  | .some e, T, N, X, sc, W, C, some x, h => by
    simp only [chkO] at h
    simp only [evO]
    exact so_some (sE e T N X sc W C _ h)
  | .none, _, _, _, _, _, _, some _, h => by simp [chkO] at h
  | .some _, _, _, _, _, _, _, none, h => by simp [chkO] at h
theorem sC : ∀ (o : Eo) (T : Tab) (N : List Str) (X : Cx) (sc : Scope) (W : WX) (_ : CtxD T cls k X N sc W) (xs : List Expr), chkC T N sc o xs = true → PTs X xs (tT cls X.K W (evC (evF T.fns k) o))
  | .none, T, N, X, sc, W, C, [], h => by
    simp only [evC]
    refine PTs.imp pts_nil ?_
    rintro σ H Q ⟨G, ι, η, ρ, S, sl, h⟩
    exact h G ι H (Stp.refl _ _ _) S
  | .some e, T, N, X, sc, W, C, [x], h => by
    simp only [chkC] at h
    simp only [evC]
    exact pts_one (sT e T N X sc W C _ h)
  | .none, _, _, _, _, _, _, _ :: _, h => by simp [chkC] at h
  | .some _, _, _, _, _, _, _, [], h => by simp [chkC] at h
  | .some _, _, _, _, _, _, _, _ :: _ :: _, h => by simp [chkC] at h
theorem sI : ∀ (it : It) (T : Tab) (N : List Str) (X : Cx) (sc : Scope) (W : WX) (_ : CtxD T cls k X N sc W) (t i : Expr), chkIt T N sc it t i = true → PI X t i (tI cls X.K W (evIt (evF T.fns k) it))
  | .val e, T, N, X, sc, W, C, t, i, h => by
    simp only [chkIt] at h
    simp only [evIt]
    exact si_val (sE e T N X sc W C _ h)
  | .rng1 a, T, N, X, sc, W, C, t, i, h => by
    obtain ⟨u, p1, p2, rfl, h1, h2, h3⟩ := inv_r1 h
    simp only [evIt]
    exact si_r1 C h1 (sE a T N X sc W C _ h2) h3
  | .rng2 a b, T, N, X, sc, W, C, t, i, h => by
    obtain ⟨u, v, p1, p2, rfl, h1, h2, h3, h4, h5⟩ := inv_r2 h
    simp only [evIt]
    exact si_r2 C h1 (sE a T N X sc W C _ h2) h3 (sE b T N X sc W C _ h4) h5
  | .rng3 a b c, T, N, X, sc, W, C, t, i, h => by
    obtain ⟨u, v, w, p1, p2, rfl, h1, h2, h3, h4, h5, h6, h7⟩ := inv_r3 h
    simp only [evIt]
    exact si_r3 C h1 (sE a T N X sc W C _ h2) h3 (sE b T N X sc W C _ h4) h5 (sE c T N X sc W C _ h6) h7
  | .enum a, T, N, X, sc, W, C, t, i, h => by
    obtain ⟨u, p1, p2, rfl, h1, h2, h3, h4⟩ := inv_en h
    simp only [evIt]
    exact si_enum C h1 (sE a T N X sc W C _ h2) h3 h4
  | .zip a b, T, N, X, sc, W, C, t, i, h => by
    obtain ⟨u, v, p1, p2, rfl, h1, h2, h3, h4, h5, h6⟩ := inv_zp h
    simp only [evIt]
    exact si_zip C h1 (sE a T N X sc W C _ h2) (sE b T N X sc W C _ h4) h3 h5 h6
end
end
end Ms
end
section
set_option Elab.async false
set_option linter.all false
set_option maxRecDepth 100000
set_option maxHeartbeats 4000000
/-! Statements by data. -/
namespace Ms
open PySem L2

theorem PS.imp {X : Cx} {e : Stmt} {t t' : TS} (h : PS X e t) (hi : ∀ D σ H, t' D σ H → t D σ H) : PS X e t' := ⟨fun pins s σ H D I q => h.run pins s σ H D I (hi _ _ _ q)⟩
theorem PSs.imp {X : Cx} {e : List Stmt} {t t' : TS} (h : PSs X e t) (hi : ∀ D σ H, t' D σ H → t D σ H) : PSs X e t' := ⟨fun pins s σ H D I q => h.run pins s σ H D I (hi _ _ _ q)⟩

/-- where a flow goes on -/
def flQ (K : PySem.W.Frag) (D : Ends) (fl : Fl) (G : Hp) (ι : List Addr) (H : Hp) : Prop := match fl with
  | .nx ρ => ∀ σ, Slots K G ι σ ρ → D.nx σ H
  | .rt d => ∀ v, Rep K G ι v d → D.rt v H
def tS (cls : Nat → Addr) (K : PySem.W.Frag) (W : WX) (f : Env → M Fl) : TS := fun D σ H => ∃ G ι η ρ, RS K G H ι η ∧ Slots K G ι σ ρ ∧ Post cls K G H ι (f ρ η) (fun fl G' ι' _ H' => flQ K D fl G' ι' H') (fun c d H' => ∀ σ', W c d σ' H')

/-- a def's body -/
structure CtxS (T : Tab) (cls : Nat → Addr) (k : Nat) (X : Cx) (N : List Str) (sc : Scope) (W : WX) : Prop extends CtxD T cls k X N sc W where
  pass : PassesOwn (model X.prog X.w) X.A X.env X.xe
  fnn : ∀ x, X.fn x = true

section
variable {cls : Nat → Addr} {K : PySem.W.Frag} {W : WX} {Z : Ends} {σ : L2.St} {H : Hp}
theorem seq_imp {fa fb : Env → M Fl} (h : tS cls K W (fun ρ => bnd (fa ρ) fun fl => match fl with | .nx ρ' => fb ρ' | .rt d => ret (.rt d)) Z σ H) : tSeq (tS cls K W fa) (tS cls K W fb) Z σ H := by
  obtain ⟨G, ι, η, ρ, S, sl, h⟩ := h
  refine ⟨G, ι, η, ρ, S, sl, (Post.bind h).imp (fun fl G1 ι1 η1 H1 st S1 h1 => ?_) fun _ _ _ z => z⟩
  cases fl with
  | nx ρ' => exact fun σ' sl' => ⟨G1, ι1, η1, ρ', S1, sl', h1⟩
  | rt d => exact fun v r => h1 G1 ι1 H1 (Stp.refl _ _ _) S1 v r
theorem asg_imp {tg : Tn} {f : Env → M D} (h : tS cls K W (fun ρ => bnd (f ρ) fun d => match bindT tg d ρ with | some ρ' => ret (.nx ρ') | none => bad) Z σ H) : tAsg (tE cls K W f) (gT K tg) Z σ H := by
  obtain ⟨G, ι, η, ρ, S, sl, h⟩ := h
  refine ⟨G, ι, η, ρ, S, sl, (Post.bind h).imp (fun d G1 ι1 η1 H1 st S1 h1 v r => ?_) fun c d H' z => z σ⟩
  cases q : bindT tg d ρ with
  | none =>
    rw [q] at h1
    exact h1.elim
  | some ρ' =>
    rw [q] at h1
    exact gT_ok q S1 (sl.mono st.x) r fun σ' s' _ => h1 G1 ι1 H1 (Stp.refl _ _ _) S1 σ' s'
theorem ret_imp {f : Env → M D} (h : tS cls K W (fun ρ => bnd (f ρ) fun d => ret (.rt d)) Z σ H) : tRet (tE cls K W f) Z σ H := by
  obtain ⟨G, ι, η, ρ, S, sl, h⟩ := h
  exact ⟨G, ι, η, ρ, S, sl, (Post.bind h).imp (fun d G1 ι1 η1 H1 st S1 h1 v r => h1 G1 ι1 H1 (Stp.refl _ _ _) S1 v r) fun c d H' z => z σ⟩
theorem drop_imp {f : Env → M D} (h : tS cls K W (fun ρ => bnd (f ρ) fun _ => ret (.nx ρ)) Z σ H) : tDrop (tE cls K W f) Z σ H := by
  obtain ⟨G, ι, η, ρ, S, sl, h⟩ := h
  exact ⟨G, ι, η, ρ, S, sl, (Post.bind h).imp (fun d G1 ι1 η1 H1 st S1 h1 v r => h1 G1 ι1 H1 (Stp.refl _ _ _) S1 σ (sl.mono st.x)) fun c d H' z => z σ⟩
theorem if_imp {fc : Env → M Bool} {fa fb : Env → M Fl} (h : tS cls K W (fun ρ => bnd (fc ρ) fun k => if k then fa ρ else fb ρ) Z σ H) : tIfS (tT cls K W fc) (tS cls K W fa) (tS cls K W fb) Z σ H := by
  obtain ⟨G, ι, η, ρ, S, sl, h⟩ := h
  refine ⟨G, ι, η, ρ, S, sl, (Post.bind h).imp (fun b G1 ι1 η1 H1 st S1 h1 => ?_) fun c d H' z => z σ⟩
  cases b with
  | true =>
    rw [if_pos rfl] at h1 ⊢
    exact ⟨G1, ι1, η1, ρ, S1, sl.mono st.x, h1⟩
  | false =>
    rw [if_neg Bool.false_ne_true] at h1 ⊢
    exact ⟨G1, ι1, η1, ρ, S1, sl.mono st.x, h1⟩
theorem while_imp {fc : Env → M Bool} {fb : Env → M Fl} (h : tS cls K W (fun ρ => whileL fc fb WF ρ) Z σ H) : tWhile (tT cls K W fc) (tS cls K W fb) Z σ H := by
  obtain ⟨G, ι, η, ρ, S, sl, h⟩ := h
  refine ⟨fun m σ H => ∃ G ι η ρ, RS K G H ι η ∧ Slots K G ι σ ρ ∧ Post cls K G H ι (whileL fc fb m ρ η) (fun fl G' ι' _ H' => flQ K Z fl G' ι' H') (fun c d H' => ∀ σ', W c d σ' H'), ⟨WF, G, ι, η, ρ, S, sl, h⟩, ?_⟩
  rintro m σ H ⟨G, ι, η, ρ, S, sl, h⟩
  cases m with
  | zero => exact h.elim
  | succ m =>
    unfold whileL at h
    refine ⟨G, ι, η, ρ, S, sl, (Post.bind h).imp (fun b G1 ι1 η1 H1 st S1 h1 => ?_) fun c d H' z => z σ⟩
    cases b with
    | true =>
      rw [if_pos rfl] at h1 ⊢
      refine ⟨_, fun σ' H' n => ⟨m, Nat.lt_succ_self m, n⟩, G1, ι1, η1, ρ, S1, sl.mono st.x, (Post.bind h1).imp (fun fl G2 ι2 η2 H2 st2 S2 h2 => ?_) fun _ _ _ z => z⟩
      cases fl with
      | nx ρ3 => exact fun σ' sl' => ⟨G2, ι2, η2, ρ3, S2, sl', h2⟩
      | rt d => exact fun v r => h2 G2 ι2 H2 (Stp.refl _ _ _) S2 v r
    | false =>
      rw [if_neg Bool.false_ne_true] at h1 ⊢
      exact h1 G1 ι1 H1 (Stp.refl _ _ _) S1 σ (sl.mono st.x)
theorem forL_gd {G : Hp} {ι : List Addr} {g : Gd} {bind : D → Env → Option Env} {body : Env → M Fl} {xs : List D} {ρ : Env} {η : List Cell} {Q : Fl → Hp → List Addr → List Cell → Hp → Prop} {W' : Value → Option Addr → Hp → Prop} (h : Post cls K G H ι (forL g bind body xs ρ η) Q W') : gdOk g η := by
  cases xs with
  | nil =>
    unfold forL at h
    exact (chkG_ok h).1
  | cons d r =>
    unfold forL at h
    exact (chkG_ok h).1
theorem for_imp {tg : Tn} {fi : Env → M (List D × Gd)} {fb : Env → M Fl} (h : tS cls K W (fun ρ => bnd (fi ρ) fun items => forL items.2 (bindT tg) fb items.1 ρ) Z σ H) : tFor (tI cls K W fi) (gT K tg) (tS cls K W fb) Z σ H := by
  obtain ⟨G, ι, η, ρ, S, sl, h⟩ := h
  refine ⟨G, ι, η, ρ, S, sl, (Post.bind h).imp (fun its G1 ι1 η1 H1 st S1 h1 J hJ => ?_) fun c d H' z => z σ⟩
  obtain ⟨items, g⟩ := its
  dsimp only at h1 hJ
  let Pv : Nat → L2.St → Hp → Prop := fun i σ2 H2 => ∃ G2 ι2 η2 ρ2, Ext G1 ι1 G2 ι2 ∧ RS K G2 H2 ι2 η2 ∧ Slots K G2 ι2 σ2 ρ2 ∧ Post cls K G2 H2 ι2 (forL g (bindT tg) fb (items.drop i) ρ2 η2) (fun fl G' ι' _ H' => flQ K Z fl G' ι' H') (fun c d H' => ∀ σ', W c d σ' H')
  refine for_it hJ Pv ⟨G1, ι1, η1, ρ, Ext.refl _ _, S1, sl.mono st.x, by rw [List.drop_zero]; exact h1⟩ (fun i σ2 H2 _ ⟨G2, ι2, η2, _, x, S2, _, hp⟩ => ⟨G2, ι2, η2, x, S2, forL_gd hp⟩) ?_ ?_
  · rintro i x σ2 H2 H3 hi ⟨G2, ι2, η2, ρ2, x2, S2, sl2, hp⟩ hy
    obtain ⟨d, hdi⟩ : ∃ d, items[i]? = some d := ⟨items[i], List.getElem?_eq_getElem hi⟩
    obtain ⟨G3, st3, S3, rx⟩ := hy G2 ι2 η2 d x2 S2 (forL_gd hp) hdi
    have edr : items.drop i = d :: items.drop (i + 1) := by
      have e1 := List.drop_eq_getElem_cons hi
      have e2 : items[i] = d := by
        have q := List.getElem?_eq_getElem hi
        rw [hdi] at q
        exact (Option.some.inj q).symm
      rw [e2] at e1
      exact e1
    have hp1 := Post.ext st3 hp
    rw [edr] at hp1
    unfold forL at hp1
    replace hp1 := (chkG_ok hp1).2
    cases hb : bindT tg d ρ2 with
    | none =>
      rw [hb] at hp1
      exact hp1.elim
    | some ρ3 =>
      rw [hb] at hp1
      refine gT_ok hb S3 (sl2.mono st3.x) rx fun σ3 s3 _ => ⟨G3, ι2, η2, ρ3, S3, s3, (Post.bind hp1).imp (fun fl G4 ι4 η4 H4 st4 S4 h4 => ?_) fun _ _ _ z => z⟩
      cases fl with
      | nx ρ4 => exact fun σ4 s4 => ⟨G4, ι4, η4, ρ4, (x2.trans st3.x).trans st4.x, S4, s4, h4⟩
      | rt v => exact fun v r => h4 G4 ι4 H4 (Stp.refl _ _ _) S4 v r
  · rintro σ2 H2 ⟨G2, ι2, η2, ρ2, x2, S2, sl2, hp⟩
    rw [List.drop_length] at hp
    unfold forL at hp
    exact (chkG_ok hp).2 G2 ι2 H2 (Stp.refl _ _ _) S2 σ2 sl2
theorem par_imp {i j : Nat} {fa fb : Env → M D} (h : tS cls K W (fun ρ => bnd (fa ρ) fun x => bnd (fb ρ) fun y => ret (.nx ((ρ.set i (some x)).set j (some y)))) Z σ H) :
    tPar i j (tA cls K W fun ρ => bnd (fa ρ) fun d => bnd (bnd (fb ρ) fun d => bnd (ret []) fun ds => ret (d :: ds)) fun ds => ret (d :: ds)) Z σ H := by
  obtain ⟨G, ι, η, ρ, S, sl, h⟩ := h
  refine ⟨G, ι, η, ρ, S, sl, ?_⟩
  unfold bnd at h ⊢
  dsimp only at h ⊢
  cases qa : fa ρ η with
  | bad => rw [qa] at h; exact h.elim
  | exc c fs η1 =>
    rw [qa] at h
    exact fun G' ι' H' dx fvs y z a b e => h G' ι' H' dx fvs y z a b e σ
  | ok d η1 =>
    rw [qa] at h
    simp only [Res.bind] at h ⊢
    cases qb : fb ρ η1 with
    | bad => rw [qb] at h; exact h.elim
    | exc c fs η2 =>
      rw [qb] at h
      exact fun G' ι' H' dx fvs y z a b e => h G' ι' H' dx fvs y z a b e σ
    | ok e η2 =>
      rw [qb] at h
      intro G2 ι2 H2 st S2 vs r
      cases r with
      | cons r1 t =>
        cases t with
        | cons r2 t =>
          cases t
          exact ⟨_, _, rfl, h G2 ι2 H2 st S2 _ (((sl.mono st.x).set i r1).set j r2)⟩
theorem seti_imp {fe fo fi : Env → M D} (h : tS cls K W (fun ρ => bnd (fe ρ) fun y => bnd (fo ρ) fun d => bnd (fi ρ) fun k => bnd (setD d k y) fun _ => ret (.nx ρ)) Z σ H) :
    tAsg (tE cls K W fe) (gSub (tE cls K W fo) (tE cls K W fi) (rSetD cls K)) Z σ H := by
  obtain ⟨G, ι, η, ρ, S, sl, h⟩ := h
  refine ⟨G, ι, η, ρ, S, sl, (Post.bind h).imp (fun y G1 ι1 η1 H1 st1 S1 h1 v r1 => ?_) fun c d H' z => z σ⟩
  refine ⟨G1, ι1, η1, ρ, S1, sl.mono st1.x, (Post.bind h1).imp (fun o G2 ι2 η2 H2 st2 S2 h2 w r2 => ?_) fun c d H' z => z σ⟩
  refine ⟨G2, ι2, η2, ρ, S2, (sl.mono st1.x).mono st2.x, (Post.bind h2).imp (fun i G3 ι3 η3 H3 st3 S3 h3 u r3 => ?_) fun c d H' z => z σ⟩
  refine ⟨_, G3, ι3, η3, o, i, y, S3, r2.mono st3.x, r3, (r1.mono st2.x).mono st3.x, (Post.bind h3).imp (fun _ G4 ι4 η4 H4 st4 S4 h4 => ?_) fun _ _ _ z => z⟩
  exact h4 G4 ι4 H4 (Stp.refl _ _ _) S4 σ ((((sl.mono st1.x).mono st2.x).mono st3.x).mono st4.x)

theorem noComp_sw {e : Expr} {t : Option Expr} {l : Nat} {env : PySem.Env} (h : noComp e = true) : swapsWith e t l env = pure false := noComp_ok h
theorem fset_imp {T : Tab} {k : Nat} {X : Cx} {N : List Str} {sc : Scope} {C f : Str} {fe fo : Env → M D} (Cx : CtxD T cls k X N sc W) (hf : hasFld T C f = true) (h : tS cls X.K W (fun ρ => bnd (fe ρ) fun y => bnd (fo ρ) fun d => bnd (fsetD C f d y) fun _ => ret (.nx ρ)) Z σ H) :
    sFld X.K (tE cls X.K W fo) (tE cls X.K W fe) f Z σ H := by
  obtain ⟨fs0, c1, c2⟩ := hasFld_ok hf
  have cl := Cx.cl C fs0 c1
  obtain ⟨G, ι, η, ρ, S, sl, h⟩ := h
  refine ⟨G, ι, η, ρ, S, sl, (Post.bind h).imp (fun y G1 ι1 η1 H1 st1 S1 h1 v r1 => ?_) fun c d H' z => z σ⟩
  refine ⟨G1, ι1, η1, ρ, S1, sl.mono st1.x, (Post.bind h1).imp (fun o G2 ι2 η2 H2 st2 S2 h2 w r2 => ?_) fun c d H' z => z σ⟩
  cases r2 with
  | @ref n a q =>
    have h3 : Post cls X.K G2 H2 ι2 ((fsetD C f (.ref n) y η2).bind fun _ => ret (Fl.nx ρ)) _ _ := h2
    unfold fsetD at h3
    dsimp only at h3
    split at h3
    · rename_i C' fs e
      split at h3
      · rename_i hc
        obtain ⟨rfl, hl⟩ := hc
        obtain ⟨dx, vs, g1, g2⟩ := S2.cells n a _ q e
        refine ⟨a, _, dx, vs, rfl, g1, cl.cl, cl.no f c2, by rw [g2.length]; exact hl, ?_⟩
        have wr := S2.write (o := .ins (He.ga X.K C') dx (L2.putF f v vs)) (c := .ins C' (putFG f y fs)) q e (by intro z; cases z) ⟨dx, _, upd_same, g2.putF (r1.mono st2.x)⟩
        exact h3 G2 ι2 _ (RS.stpWrite q) wr σ ((sl.mono st1.x).mono st2.x)
      · exact h3.elim
    · exact h3.elim
  | _ => exact h2.elim
theorem faug_imp {T : Tab} {k : Nat} {X : Cx} {N : List Str} {sc : Scope} {C f : Str} {op : Bop} {fe fo : Env → M D} {rd : V → V → Hp → VK → Prop} (Cx : CtxD T cls k X N sc W) (hf : hasFld T C f = true)
    (hrd : ∀ {G H : Hp} {ι : List Addr} {η : List Cell} {x y : D} {u v : V} {Q : VK} {W0 : Value → Option Addr → Hp → Prop}, RS X.K G H ι η → Rep X.K G ι u x → Rep X.K G ι v y → PV cls X.K G H ι (augI op x y η) Q W0 → rd u v H Q)
    (h : tS cls X.K W (fun ρ => bnd (fo ρ) fun d => bnd (fldD C f d) fun v => bnd (fe ρ) fun y => bnd (augI op v y) fun z => bnd (fsetD C f d z) fun _ => ret (.nx ρ)) Z σ H) :
    sFldAug X.K (tE cls X.K W fo) (tE cls X.K W fe) rd f Z σ H := by
  obtain ⟨fs0, c1, c2⟩ := hasFld_ok hf
  have cl := Cx.cl C fs0 c1
  obtain ⟨G, ι, η, ρ, S, sl, h⟩ := h
  refine ⟨G, ι, η, ρ, S, sl, (Post.bind h).imp (fun d G1 ι1 η1 H1 st1 S1 h1 w r1 => ?_) fun c d H' z => z σ⟩
  have h2 : Post cls X.K G1 H1 ι1 ((fldD C f d η1).bind fun v => bnd (fe ρ) fun y => bnd (augI op v y) fun z => bnd (fsetD C f d z) fun _ => ret (Fl.nx ρ)) _ _ := h1
  unfold fldD at h2
  cases hx : fldsOf η1 C d with
  | none => rw [hx] at h2; exact h2.elim
  | some fs =>
    rw [hx] at h2
    cases hy : fs.lookup f with
    | none =>
      simp only [Option.bind_some, hy] at h2
      exact h2.elim
    | some z =>
      simp only [Option.bind_some, hy] at h2
      obtain ⟨n, a, dx, vs, rfl, rfl, e1, e2, e3, e4⟩ := fldsOf_ok S1 r1 hx
      obtain ⟨u, u1, u2⟩ := (e4.look f).1 z hy
      refine ⟨a, _, dx, vs, u, rfl, e3, cl.cl, cl.no f c2, u1, G1, ι1, η1, ρ, S1, sl.mono st1.x, (Post.bind (show Post cls X.K G1 H1 ι1 ((fe ρ η1).bind _) _ _ from h2)).imp (fun y G2 ι2 η2 H2 st2 S2 h3 v r2 => ?_) fun c d H' z => z σ⟩
      refine hrd S2 (u2.mono st2.x) r2 ((Post.bind h3).imp (fun q G3 ι3 η3 H3 st3 S3 h4 w r3 => ?_) fun c d H' z => z)
      have h5 : Post cls X.K G3 H3 ι3 ((fsetD C f (.ref n) q η3).bind fun _ => ret (Fl.nx ρ)) _ _ := h4
      unfold fsetD at h5
      dsimp only at h5
      split at h5
      · rename_i C' fs' e
        split at h5
        · rename_i hc
          obtain ⟨rfl, hl⟩ := hc
          have q3 := prefix_get st3.x.i (prefix_get st2.x.i e1)
          obtain ⟨dx', vs', g1, g2⟩ := S3.cells n a _ q3 e
          refine ⟨dx', vs', g1, by rw [g2.length]; exact hl, ?_⟩
          have wr := S3.write (o := .ins (He.ga X.K C') dx' (L2.putF f w vs')) (c := .ins C' (putFG f q fs')) q3 e (by intro z; cases z) ⟨dx', _, upd_same, g2.putF r3⟩
          exact h5 G3 ι3 _ (RS.stpWrite q3) wr σ (((sl.mono st1.x).mono st2.x).mono st3.x)
        · exact h5.elim
      · exact h5.elim
theorem dset_imp {X : Cx} {fe fd fk : Env → M D} (h : tS cls X.K W (fun ρ => bnd (fe ρ) fun y => bnd (fd ρ) fun v => bnd (fk ρ) fun z => bnd (dsetD v z y) fun _ => ret (.nx ρ)) Z σ H) : sDPut (tE cls X.K W fd) (tE cls X.K W fk) (tE cls X.K W fe) Z σ H := by
  obtain ⟨G, ι, η, ρ, S, sl, h⟩ := h
  refine ⟨G, ι, η, ρ, S, sl, (Post.bind h).imp (fun y G1 ι1 η1 H1 st1 S1 h1 v r1 => ?_) fun c d H' z => z σ⟩
  refine ⟨G1, ι1, η1, ρ, S1, sl.mono st1.x, (Post.bind h1).imp (fun d G2 ι2 η2 H2 st2 S2 h2 w r2 => ?_) fun c d H' z => z σ⟩
  refine ⟨G2, ι2, η2, ρ, S2, (sl.mono st1.x).mono st2.x, (Post.bind h2).imp (fun k G3 ι3 η3 H3 st3 S3 h3 u r3 => ?_) fun c d H' z => z σ⟩
  have h4 : Post cls X.K G3 H3 ι3 ((dsetD d k y η3).bind fun _ => ret (Fl.nx ρ)) _ _ := h3
  have s3 := ((sl.mono st1.x).mono st2.x).mono st3.x
  have ry := (r1.mono st2.x).mono st3.x
  unfold dsetD at h4
  cases r2 with
  | @ref n a q =>
    have q3 := prefix_get st3.x.i q
    dsimp only at h4
    split at h4
    · rename_i kvs e
      obtain ⟨vs, g1, g2⟩ := S3.cells n a _ q3 e
      split at h4
      · rename_i key hk
        split at h4
        · rename_i hl
          have ek := keyD_ok r3 hk
          subst ek
          refine ⟨a, _, rfl, DPut.k g1 (by rw [g2.length]; exact Nat.lt_of_lt_of_le hl lim_line), ?_⟩
          exact h4 G3 ι3 _ (RS.stpWrite q3) (S3.write q3 e (by intro z; cases z) ⟨_, upd_same, g2.put key ry⟩) σ s3
        · exact h4.elim
      · exact h4.elim
    · rename_i kvs e
      obtain ⟨vs, g1, g2⟩ := S3.cells n a _ q3 e
      split at h4
      · rename_i ds
        split at h4
        · rename_i key hk
          split at h4
          · rename_i hl
            cases r3 with
            | @tup b ws _ gb tb =>
              have ek := keysD_ok tb hk
              subst ek
              refine ⟨a, _, rfl, DPut.t g1 (S3.sub _ _ gb) (by rw [g2.length]; exact Nat.lt_of_lt_of_le hl lim_line), ?_⟩
              exact h4 G3 ι3 _ (RS.stpWrite q3) (S3.write q3 e (by intro z; cases z) ⟨_, upd_same, g2.put key ry⟩) σ s3
          · exact h4.elim
        · exact h4.elim
      · exact h4.elim
    · exact h4.elim
  | _ => exact h4.elim
theorem swapped_subs {x1 y1 x2 y2 u v : Expr} {p1 p2 pt pt2 : Pos} {kt k2 : Nat} {env : PySem.Env} : swappedStores [.Tuple [.Subscript x1 y1 p1, .Subscript x2 y2 p2] kt pt] (.Tuple [u, v] k2 pt2) env = pure none := by
  unfold swappedStores
  simp only [List.length_cons, List.length_nil, List.filterMap_cons, List.filterMap_nil]
  cases env.blockKind != .function with
  | true => rfl
  | false =>
    cases ([u, v].any fun | .Starred .. => true | _ => false) with
    | true => simp
    | false => simp
theorem sti2_imp {X : Cx} {fa fb fo1 fi1 fo2 fi2 : Env → M D} (h : tS cls X.K W (fun ρ => bnd (fa ρ) fun x => bnd (fb ρ) fun y => bnd (fo1 ρ) fun d1 => bnd (fi1 ρ) fun k1 => bnd (setD d1 k1 x) fun _ => bnd (fo2 ρ) fun d2 => bnd (fi2 ρ) fun k2 => bnd (setD d2 k2 y) fun _ => ret (.nx ρ)) Z σ H) :
    tAsg (tE cls X.K W fun ρ => bnd (bnd (fa ρ) fun d => bnd (bnd (fb ρ) fun d => bnd (ret []) fun ds => ret (d :: ds)) fun ds => ret (d :: ds)) fun ds => if ds.length ≤ LIM then ret (.tup ds) else bad)
      (gTup X.K 2 (gCons (gSub (tE cls X.K W fo1) (tE cls X.K W fi1) (rSetD cls X.K)) (gCons (gSub (tE cls X.K W fo2) (tE cls X.K W fi2) (rSetD cls X.K)) gNil))) Z σ H := by
  obtain ⟨G, ι, η, ρ, S, sl, h⟩ := h
  refine ⟨G, ι, η, ρ, S, sl, ?_⟩
  have e : (bnd (bnd (fa ρ) fun d => bnd (bnd (fb ρ) fun d => bnd (ret []) fun ds => ret (d :: ds)) fun ds => ret (d :: ds)) fun ds => if ds.length ≤ LIM then ret (D.tup ds) else bad) = bnd (fa ρ) fun x => bnd (fb ρ) fun y => ret (D.tup [x, y]) := by
    rw [bnd_assoc]
    congr 1
    funext x
    rw [bnd_assoc, bnd_assoc]
    congr 1
  try dsimp only
  rw [e]
  have h0 : Post cls X.K G H ι (bnd (fa ρ) (fun x => bnd (fb ρ) fun y => bnd (ret (D.tup [x, y])) fun t => match t with
      | D.tup [x, y] => bnd (fo1 ρ) fun d1 => bnd (fi1 ρ) fun k1 => bnd (setD d1 k1 x) fun _ => bnd (fo2 ρ) fun d2 => bnd (fi2 ρ) fun k2 => bnd (setD d2 k2 y) fun _ => ret (Fl.nx ρ)
      | _ => bad) η) (fun fl G' ι' _ H' => flQ X.K Z fl G' ι' H') (fun c d H' => ∀ σ', W c d σ' H') := h
  have e2 : (bnd (fa ρ) fun x => bnd (fb ρ) fun y => bnd (ret (D.tup [x, y])) fun t => match t with
      | D.tup [x, y] => bnd (fo1 ρ) fun d1 => bnd (fi1 ρ) fun k1 => bnd (setD d1 k1 x) fun _ => bnd (fo2 ρ) fun d2 => bnd (fi2 ρ) fun k2 => bnd (setD d2 k2 y) fun _ => ret (Fl.nx ρ)
      | _ => bad) = bnd (bnd (fa ρ) fun x => bnd (fb ρ) fun y => ret (D.tup [x, y])) fun t => match t with
      | D.tup [x, y] => bnd (fo1 ρ) fun d1 => bnd (fi1 ρ) fun k1 => bnd (setD d1 k1 x) fun _ => bnd (fo2 ρ) fun d2 => bnd (fi2 ρ) fun k2 => bnd (setD d2 k2 y) fun _ => ret (Fl.nx ρ)
      | _ => bad := by
    rw [bnd_assoc]
    congr 1
    funext x
    rw [bnd_assoc]
  rw [e2] at h0
  refine (Post.bind h0).imp (fun t G1 ι1 η1 H1 st1 S1 h1 v r1 => ?_) fun c d H' z => z σ
  split at h1
  · rename_i x y
    cases r1 with
    | @tup b vs _ gb tb =>
      cases tb with
      | @cons vx _ _ _ rx tb =>
      cases tb with
      | @cons vy _ _ _ ry tb =>
      cases tb
      refine ⟨b, _, rfl, SqT.of (S1.sub _ _ gb), rfl, vx, _, rfl, G1, ι1, η1, ρ, S1, sl.mono st1.x, (Post.bind h1).imp (fun d1 G2 ι2 η2 H2 st2 S2 h2 w2 r2 => ?_) fun c d H' z => z σ⟩
      refine ⟨G2, ι2, η2, ρ, S2, (sl.mono st1.x).mono st2.x, (Post.bind h2).imp (fun k1 G3 ι3 η3 H3 st3 S3 h3 w3 r3 => ?_) fun c d H' z => z σ⟩
      refine ⟨_, G3, ι3, η3, d1, k1, x, S3, r2.mono st3.x, r3, (rx.mono st2.x).mono st3.x, (Post.bind h3).imp (fun _ G4 ι4 η4 H4 st4 S4 h4 => ?_) fun _ _ _ z => z⟩
      have s4 := (((sl.mono st1.x).mono st2.x).mono st3.x).mono st4.x
      refine ⟨vy, [], rfl, G4, ι4, η4, ρ, S4, s4, (Post.bind h4).imp (fun d2 G5 ι5 η5 H5 st5 S5 h5 w5 r5 => ?_) fun c d H' z => z σ⟩
      refine ⟨G5, ι5, η5, ρ, S5, s4.mono st5.x, (Post.bind h5).imp (fun k2 G6 ι6 η6 H6 st6 S6 h6 w6 r6 => ?_) fun c d H' z => z σ⟩
      refine ⟨_, G6, ι6, η6, d2, k2, y, S6, r5.mono st6.x, r6, ((((ry.mono st2.x).mono st3.x).mono st4.x).mono st5.x).mono st6.x, (Post.bind h6).imp (fun _ G7 ι7 η7 H7 st7 S7 h7 => ?_) fun _ _ _ z => z⟩
      exact ⟨rfl, h7 G7 ι7 H7 (Stp.refl _ _ _) S7 σ (((s4.mono st5.x).mono st6.x).mono st7.x)⟩
  · exact h1.elim
/-- op=, by data -/
def rAugD (cls : Nat → Addr) (K : PySem.W.Frag) (op : Bop) : TIp := fun x y H Q => ∃ W0 G ι η d e, RS K G H ι η ∧ Rep K G ι x d ∧ Rep K G ι y e ∧ PV cls K G H ι (augD op d e η) Q W0
theorem aug_imp {i : Nat} {op : Bop} {f : Env → M D} (h : tS cls K W (fun ρ => bnd (fromO (ρ[i]?.join)) fun x => bnd (f ρ) fun y => bnd (augD op x y) fun z => ret (.nx (ρ.set i (some z)))) Z σ H) : tAug i (tE cls K W f) (rAugD cls K op) Z σ H := by
  obtain ⟨G, ι, η, ρ, S, sl, h⟩ := h
  dsimp only at h
  cases q : ρ[i]?.join with
  | none => rw [q] at h; exact h.elim
  | some x =>
    rw [q] at h
    have e' : ρ[i]? = some (some x) := by
      cases q2 : ρ[i]? with
      | none => rw [q2] at q; cases q
      | some o => rw [q2] at q; cases o <;> first | (cases q; done) | (cases q; rfl)
    obtain ⟨v, q1, q2⟩ := sl.at_ i x e'
    refine ⟨v, q1, G, ι, η, ρ, S, sl, (Post.bind (show Post cls K G H ι ((f ρ η).bind _) _ _ from h)).imp (fun y G1 ι1 η1 H1 st1 S1 h1 u r1 => ?_) fun c d H' z => z σ⟩
    refine ⟨_, G1, ι1, η1, x, y, S1, q2.mono st1.x, r1, (Post.bind h1).imp (fun z G2 ι2 η2 H2 st2 S2 h2 w r2 => ?_) fun _ _ _ z => z⟩
    exact h2 G2 ι2 H2 (Stp.refl _ _ _) S2 _ (((sl.mono st1.x).mono st2.x).set i r2)
end
section
variable {X : Cx} {cls : Nat → Addr}
theorem ip_D (op : Bop) : PIp X op.op (rAugD cls X.K op) := by
  intro pins s σ H x y v u Q I rx ry h
  obtain ⟨W0, G, ι, η, d, e, S, r1, r2, h⟩ := h
  cases op with
  | add =>
    cases r1 with
    | int i =>
      cases r2 with
      | int j => exact ip_add pins s σ H _ _ v u Q I rx ry ⟨i, j, rfl, rfl, PV.now h S (.int _)⟩
      | _ => exact h.elim
    | @ref n a ha =>
      unfold augD at h
      dsimp only at h
      split at h
      · rename_i xs ys hn hy
        split at h
        · rename_i hl
          obtain ⟨a', vs, e1, e2, e3, e4⟩ := S.live (.ref ha) hn
          cases e1
          obtain ⟨b, ws, rfl, e5, e6⟩ := asL_ok S r2 hy
          refine iop_ext pins s σ H _ _ v u Q I rx ry ⟨a, b, vs, ws, rfl, rfl, e3, e5, ?_, ?_⟩
          · rw [e4.length, e6.length]; exact Nat.le_trans hl lim_line
          · exact h G ι _ (RS.stpWrite ha) (S.write ha hn (by intro z; cases z) ⟨_, upd_same, e4.append e6⟩) _ (.ref ha)
        · exact h.elim
      · exact h.elim
    | _ => exact h.elim
  | sub =>
    cases r1 with
    | int i =>
      cases r2 with
      | int j => exact ip_sub pins s σ H _ _ v u Q I rx ry ⟨i, j, rfl, rfl, PV.now h S (.int _)⟩
      | _ => exact h.elim
    | _ => exact h.elim
  | mul => cases r1 <;> exact h.elim
  | fdiv => cases r1 <;> exact h.elim
  | mod => cases r1 <;> exact h.elim
end

theorem sole_no {t v : Expr} {l : Nat} {env : PySem.Env} (h : noComp v = true) : swapsWithSole [t] v l env = pure false := noComp_ok (t := some t) h
theorem sole_sub {o i v : Expr} {p : Pos} {l : Nat} {env : PySem.Env} : swapsWithSole [.Subscript o i p] v l env = pure false := by
  cases v <;> rfl
theorem few_names {sc : Scope} (f : Expr → Option Str) (hf : ∀ e, cellNm sc e = true → f e = none) : ∀ {ts : List Expr}, ts.any (cellNm sc) = true → (ts.filterMap f).length < ts.length
  | [], h => by cases h
  | t :: ts, h => by
    have le : (ts.filterMap f).length ≤ ts.length := List.length_filterMap_le f ts
    rw [List.filterMap_cons]
    cases q : f t with
    | none =>
      simp only [List.length_cons]
      omega
    | some x =>
      simp only [List.length_cons]
      rw [List.any_cons, Bool.or_eq_true] at h
      rcases h with h | h
      · rw [hf t h] at q
        cases q
      · have := few_names f hf h
        omega
theorem swapped_no {t v : Expr} {env : PySem.Env} (h : plainAsg env.scope t v = true) : swappedStores [t] v env = pure none := by
  cases t
  case Tuple ts kk p =>
    cases v
    case Tuple vs k2 p2 =>
      have key := few_names (sc := env.scope) (fun
        | .Name id pos => if env.kindOf id == some .local && pos.line == (ts.head?.map (·.pos.line)).getD 0 then some id else none
        | _ => none) (fun e he => by
          unfold cellNm at he
          split at he
          · rename_i x pos
            have hk : env.kindOf x = some .cell := of_decide_eq_true he
            try dsimp only
            rw [hk]
            rfl
          · cases he) (show ts.any (cellNm env.scope) = true from h)
      unfold swappedStores
      try dsimp only
      split
      · rfl
      · split
        · rfl
        · split
          · rfl
          · rename_i h3
            exfalso
            apply h3
            rw [Bool.or_eq_true]
            left
            rw [bne_iff_ne]
            exact Nat.ne_of_lt key
    all_goals rfl
  case List ts p => cases v <;> first | rfl | exact absurd h Bool.false_ne_true
  all_goals rfl
theorem swapped_par {x y : Str} {p1 p2 pt pt2 : Pos} {kt k2 : Nat} {a b : Expr} {env : PySem.Env} (hk : env.scope.kind = .function) (hx : env.scope.names.lookup x = some .local) (hy : env.scope.names.lookup y = some .local) (na : noStar a = true) (nb : noStar b = true) (hxy : x ≠ y) (hl : (p1.line == p2.line) = true)
    (hf : (!([a, b].all (foldedForSure 8))) = true) (hc : (!([a, b].all (constantsAlone 8))) = true) : swappedStores [.Tuple [.Name x p1, .Name y p2] kt pt] (.Tuple [a, b] k2 pt2) env = pure (some [x, y]) := by
  have hb : env.blockKind = .function := by unfold Env.blockKind; rw [hk]; rfl
  have kx : env.kindOf x = some .local := hx
  have ky : env.kindOf y = some .local := hy
  have e1 : ∀ e : Expr, noStar e = true → (match e with | .Starred .. => true | _ => false) = false := by
    intro e h
    cases e <;> first | rfl | cases h
  have hs : ([a, b].any fun | .Starred .. => true | _ => false) = false := by
    simp only [List.any_cons, List.any_nil, Bool.or_false]
    rw [e1 a na, e1 b nb]
    rfl
  have hl' : (p2.line == p1.line) = true := by
    rw [beq_iff_eq] at hl ⊢
    exact hl.symm
  have hd : ([x, y].eraseDups.length != 2) = false := by
    have : (y == x) = false := by simpa using fun z => hxy z.symm
    simp [List.eraseDups_cons, this]
  simp only [Bool.not_eq_true'] at hf hc
  unfold swappedStores
  simp only [List.length_cons, List.length_nil, hb, List.head?_cons, Option.map_some, Option.getD_some, Expr.pos, kx, ky, hl', List.filterMap_cons, List.filterMap_nil]
  simp [hs, hf, hc, hd]
  intro h
  rcases h with h | h
  · cases a <;> first | exact absurd na Bool.false_ne_true | exact absurd h Bool.false_ne_true
  · cases b <;> first | exact absurd nb Bool.false_ne_true | exact absurd h Bool.false_ne_true

section
variable {T : Tab} {cls : Nat → Addr} {k : Nat} {X : Cx} {N : List Str} {sc : Scope} {W : WX}
theorem backTo_plain {pos : Pos} {env : PySem.Env} : ∀ {es : List Expr}, es.all noStar = true → (backTo pos (starEach es env)).any (·.1) = false
  | [], _ => rfl
  | e :: es, h => by
    simp only [List.all_cons, Bool.and_eq_true] at h
    rw [noStar_ok h.1]
    exact backTo_plain h.2
theorem ss_rais {c : Nat} {x : Str} {fs : List Str} {xs : List Expr} {g : Env → M (List D)} {p pos pos2 : Pos} (C : CtxD T cls k X N sc W) (hx : (c, x, fs) ∈ T.xs) (hg : glB sc x = true) (hn : nameB x = true) (ha : PA X xs (tA cls X.K W g)) (hne : xs.isEmpty = false) (hs : xs.all noStar = true) (h9 : fs.length ≤ 1000) :
    PS X (.Raise (some (.Call (.Name x p) xs [] pos)) none pos2) (tS cls X.K W fun ρ => bnd (g ρ) (raisD c fs)) := by
  obtain ⟨e1, hno, TC, fI, dt, ps, e2, e3, e4, e5⟩ := C.xs c x fs hx
  cases xs with
  | nil => cases hne
  | cons e es =>
    simp only [List.all_cons, Bool.and_eq_true] at hs
    have pl : (backTo pos (starEach es X.env)).any (·.1) = false := backTo_plain hs.2
    refine PS.imp (ps_raise C.calm C.tk (pmk_oex (k := 4 * k + 2) TC e2 e3 (e5.mono (by omega)) C.room e4 .nil passL (glB_ok (by rw [C.scEq]; exact hg)) e1 ha (nameB_ok hn).1 (noStar_ok hs.1) pl)) ?_
    rintro D σ H ⟨G, ι, η, ρ, S, sl, h⟩
    refine ⟨G, ι, η, ρ, S, sl, (Post.bind h).imp (fun ds G1 ι1 η1 H1 st1 S1 h1 vs r => ?_) fun c d H' z => z σ⟩
    unfold raisD at h1
    split at h1
    · rename_i hl
      refine ⟨?_, fun a ha0 => ⟨a, vs, by rw [List.append_nil], by rw [r.length, hl], upd_same, fun d hd hda => ⟨rfl, d, (fs.zip vs).reverse, upd_same, ?_, ?_, ?_⟩⟩⟩
      · rw [r.length, hl]; exact h9
      · rw [upd_ne hda, upd_same]
      · rw [upd_ne hda] at hd
        exact hd
      · rw [upd_ne hda] at hd
        have eH : upd (del (upd (upd (upd H1 a (exo a (cls c) none)) d (exd d (fs.zip vs).reverse)) a (exo a (cls c) (some d))) a) d (.xd (fs.zip vs).reverse) = upd H1 d (.xd (fs.zip vs).reverse) := by
          funext b
          by_cases hb : b = d
          · rw [hb, upd_same, upd_same]
          · rw [upd_ne hb, upd_ne hb]
            by_cases hb2 : b = a
            · rw [hb2, del_same, ha0]
            · rw [del_ne hb2, upd_ne hb2, upd_ne hb, upd_ne hb2]
        rw [eH]
        have sm : Same H1 (upd H1 d (.xd (fs.zip vs).reverse)) := fun b o e => by rw [upd_ne (ne_of_none e hd)]; exact e
        have hlv : vs.length = fs.length := by rw [r.length, hl]
        refine h1 G1 ι1 _ d (fs.zip vs).reverse (Stp.more sm) (S1.more sm) upd_same ?_ ?_ σ
        · rw [List.map_reverse, List.map_reverse, List.map_fst_zip (by omega), List.map_fst_zip (by omega)]
        · rw [List.map_reverse, List.map_reverse, List.map_snd_zip (by omega), List.map_snd_zip (by omega)]
          exact r.reverse
    · exact h1.elim
end
section
variable (T : Tab) (cls : Nat → Addr) (k : Nat) (N : List Str)
theorem each_one {t : Expr} {env : PySem.Env} {i : Tn} {sc : Scope} (h : chkTn N sc i t = true) : (assignEach [t] env).map (·.2) = [assign t env] := by
  cases i with
  | name i =>
    obtain ⟨x, p, rfl, _⟩ := chkN_ok (show chkN N sc i t = true from h)
    rfl
  | tup is => cases t <;> first | rfl | cases h
theorem assign_sub {o i : Expr} {pos : Pos} {env : PySem.Env} (h : noSlice i = true) : ∀ v, assign (.Subscript o i pos) env v = (do
      let ov ← holding [v] (eval o env)
      let iv ← holding [v, ov] (eval i env)
      standAt pos
      holding [v, ov, iv] (setItem ov iv v)
      release [v, ov, iv] []) := by
  intro v
  cases i <;> first | rfl | exact absurd h Bool.false_ne_true
theorem inv_par {sc : Scope} {i j : Nat} {a b : E} {py : Stmt} (h : chkS T N sc (.par i j a b) py = true) : ∃ x y p1 p2 k pt u v k2 pt2 pos, py = .Assign [.Tuple [.Name x p1, .Name y p2] k pt] (.Tuple [u, v] k2 pt2) pos ∧
    N[i]? = some x ∧ N[j]? = some y ∧ i ≠ j ∧ sc.names.lookup x = some .local ∧ sc.names.lookup y = some .local ∧ chkE T N sc a u = true ∧ chkE T N sc b v = true ∧ noStar u = true ∧ noStar v = true ∧ x ≠ y ∧ (p1.line == p2.line) = true ∧
    (!([u, v].all (foldedForSure 8))) = true ∧ (!([u, v].all (constantsAlone 8))) = true := by
  cases py <;> first | (exact absurd h Bool.false_ne_true) | skip
  rename_i ts val pos
  replace h : chkPar T N sc i j a b ts val = true := h
  unfold chkPar at h
  split at h
  · rename_i x p1 y p2 k pt u v k2 pt2
    simp only [Bool.and_eq_true, decide_eq_true_eq] at h
    obtain ⟨⟨⟨⟨⟨⟨⟨⟨⟨⟨⟨⟨q1, q2⟩, q3⟩, q4⟩, q5⟩, q6⟩, q7⟩, q8⟩, q9⟩, q10⟩, q11⟩, q12⟩, q13⟩ := h
    exact ⟨x, y, p1, p2, k, pt, u, v, k2, pt2, pos, rfl, q1, q2, q3, q4, q5, q6, q7, q8, q9, q10, q11, q12, q13⟩
  · exact absurd h Bool.false_ne_true
mutual
theorem sS : ∀ (s : S) (X : Cx) (sc : Scope) (W : WX) (_ : CtxS T cls k X N sc W) (py : Stmt), chkS T N sc s py = true → PS X py (tS cls X.K W (evS (evF T.fns k) s))
  | .asg tg e, X, sc, W, C, py, h => by
    cases py <;> first | (exact absurd h Bool.false_ne_true) | skip
    rename_i ts v pos
    rcases ts with _ | ⟨t, _ | ⟨t2, ts⟩⟩ <;> first | (exact absurd h Bool.false_ne_true) | skip
    simp only [chkS, Bool.and_eq_true, Bool.or_eq_true] at h
    obtain ⟨⟨⟨h1, h2⟩, h3⟩, h4⟩ := h
    simp only [evS]
    have he := sE cls k e T N X sc W C.toCtxD v h2
    have hg : PG X t (gT X.K tg) := pg_T C.nEq C.nd C.scEq C.calm h1 h1 fun x _ => .inl (C.fnn x)
    rcases h4 with h4 | h4
    · exact PS.imp (ps_asg he hg (sole_no h4) (swapped_no (by rw [C.scEq]; exact h3)) (each_one N h1)) fun D σ H q => asg_imp q
    · unfold lcAsg at h4
      split at h4
      · rename_i m own tg2 it cond elt y p e2 gs scope p2
        obtain ⟨e3, t3, i3, ifs3, scope3, p3, q, c1, c2, c3, c4, c5, c6, c7, c8⟩ := inv_lc h2
        cases q
        simp only [Bool.and_eq_true, decide_eq_true_eq, Bool.not_eq_true'] at h4
        obtain ⟨⟨l1, l2⟩, l3⟩ := h4
        cases tg with
        | name i =>
          obtain ⟨x', p', e', a1, a2⟩ := chkN_ok (show chkN N sc i (Expr.Name y p) = true from h1)
          cases e'
          have C' := C.toCtxD
          refine PS.imp (ps_setLc (own := ownOf N own) (i := i) (g := gT X.K tg2) (tt := tT cls X.K (fun _ _ _ _ => False) (evC (evF T.fns k) cond)) (te := tE cls X.K (fun _ _ _ _ => False) (evE (evF T.fns k) elt)) C.calm (by rw [C.nEq]; exact C.nd) (by rw [C.nEq]; exact a1) (by rw [C.scEq]; exact l1) (sw_true (by rw [C.scEq]; exact C.kind) (by rw [C.scEq]; exact l1) l2 l3)
            (sI cls k it T N X sc W C' _ _ c5) (blkOk_by (by rw [C.nEq, C.scEq]; exact c1))
            (fun s H a cl fp => pg_T (X := X.blk s H scope (compEnvC scope cl a X.env) fp) (N := N) (sc := relS scope sc) (sc2 := scope) C.nEq C.nd (C'.blk (blk_kind c1) s H a cl fp).scEq C.calm c2 c3 (blk_st s H a cl fp))
            (fun s H a cl fp => sC cls k cond T N _ _ _ (C'.blk (blk_kind c1) s H a cl fp) _ c6) (fun s H a cl fp => sE cls k elt T N _ _ _ (C'.blk (blk_kind c1) s H a cl fp) _ c7) (noSet_folded c8)) fun D σ H q => ?_
          have q2 := asg_imp (tg := .name i) q
          simp only [evE] at q2
          rw [ownOf_slots]
          exact lc_imp (tnS c4) q2
        | tup is => simp [chkTn] at h1
      · cases h4
  | .par i j a b, X, sc, W, C, py, h => by
    obtain ⟨x, y, p1, p2, kk, pt, u, v, k2, pt2, pos, rfl, q1, q2, q3, q4, q5, q6, q7, q8, q9, q10, q11, q12, q13⟩ := inv_par T N h
    simp only [evS]
    exact PS.imp (ps_par C.calm (by rw [C.nEq]; exact C.nd) (by rw [C.nEq]; exact q1) (by rw [C.nEq]; exact q2) q3 (by rw [C.scEq]; exact q4) (by rw [C.scEq]; exact q5)
      (sa_cons (sE cls k a T N X sc W C.toCtxD u q6) (sa_cons (sE cls k b T N X sc W C.toCtxD v q7) sa_nil q9) q8)
      (swapped_par (by rw [C.scEq]; exact C.kind) (by rw [C.scEq]; exact q4) (by rw [C.scEq]; exact q5) q8 q9 q10 q11 q12 q13)) fun D σ H q => par_imp q
  | .seti o i e, X, sc, W, C, py, h => by
    cases py <;> first | (exact absurd h Bool.false_ne_true) | skip
    rename_i ts v pos
    replace h : chkSeti T N sc o i e ts v = true := h
    unfold chkSeti at h
    split at h
    · simp only [Bool.and_eq_true] at h
      obtain ⟨⟨⟨h1, h2⟩, h3⟩, h4⟩ := h
      simp only [evS]
      exact PS.imp (ps_asg (sE cls k e T N X sc W C.toCtxD _ h4) (pg_sub (sE cls k o T N X sc W C.toCtxD _ h1) (sE cls k i T N X sc W C.toCtxD _ h2) (set_D (cls := cls)) (assign_sub h3)) sole_sub (swapped_no (by cases v <;> rfl))) fun D σ H q => seti_imp q
    · exact absurd h Bool.false_ne_true
  | .aug i op e, X, sc, W, C, py, h => by
    cases py <;> first | (exact absurd h Bool.false_ne_true) | skip
    rename_i t o v pos
    cases t <;> first | (exact absurd h Bool.false_ne_true) | skip
    simp only [chkS, Bool.and_eq_true, decide_eq_true_eq] at h
    obtain ⟨⟨⟨h1, rfl⟩, h2⟩, h3⟩ := h
    obtain ⟨x', p', e', a1, a2⟩ := chkN_ok h1
    cases e'
    simp only [evS]
    exact PS.imp (ps_aug (by rw [C.nEq]; exact C.nd) (by rw [C.nEq]; exact a1) (by rw [C.scEq]; exact a2) (sE cls k e T N X sc W C.toCtxD v h3) (ip_D (cls := cls) op) (.inl (C.fnn _))) fun D σ H q => aug_imp q
  | .fset cn o f e, X, sc, W, C, py, h => by
    cases py <;> first | (exact absurd h Bool.false_ne_true) | skip
    rename_i ts v pos
    replace h : chkFset T N sc cn o f e ts v = true := h
    unfold chkFset at h
    split at h
    · simp only [Bool.and_eq_true, decide_eq_true_eq] at h
      obtain ⟨⟨⟨⟨rfl, h1⟩, h2⟩, h3⟩, h4⟩ := h
      simp only [evS]
      exact PS.imp (ps_fld (sE cls k o T N X sc W C.toCtxD _ h1) (sE cls k e T N X sc W C.toCtxD _ h3) (noComp_sw h4)) fun D σ H q => fset_imp C.toCtxD h2 q
    · exact absurd h Bool.false_ne_true
  | .faug cn o f op e, X, sc, W, C, py, h => by
    cases py <;> first | (exact absurd h Bool.false_ne_true) | skip
    rename_i t q v pos
    cases t <;> first | (exact absurd h Bool.false_ne_true) | skip
    simp only [chkS, Bool.and_eq_true, decide_eq_true_eq] at h
    obtain ⟨⟨⟨⟨⟨rfl, rfl⟩, h1⟩, h2⟩, h3⟩, h4⟩ := h
    simp only [evS]
    cases op <;> first | (exact absurd h4 Bool.false_ne_true) | skip
    · refine PS.imp (ps_fldaug (sE cls k o T N X sc W C.toCtxD _ h1) (sE cls k e T N X sc W C.toCtxD _ h3) in_add) fun D σ H q => faug_imp C.toCtxD h2 ?_ q
      intro G H ι η x y u v Q W0 S r1 r2 z
      cases r1 <;> first | (exact z.elim) | skip
      cases r2 <;> first | (exact z.elim) | skip
      exact ⟨_, _, rfl, rfl, PV.now z S (.int _)⟩
    · refine PS.imp (ps_fldaug (sE cls k o T N X sc W C.toCtxD _ h1) (sE cls k e T N X sc W C.toCtxD _ h3) in_sub) fun D σ H q => faug_imp C.toCtxD h2 ?_ q
      intro G H ι η x y u v Q W0 S r1 r2 z
      cases r1 <;> first | (exact z.elim) | skip
      cases r2 <;> first | (exact z.elim) | skip
      exact ⟨_, _, rfl, rfl, PV.now z S (.int _)⟩
  | .dset d i e, X, sc, W, C, py, h => by
    cases py <;> first | (exact absurd h Bool.false_ne_true) | skip
    rename_i ts v pos
    simp only [chkS, Bool.and_eq_true] at h
    obtain ⟨h, h9⟩ := h
    unfold chkSeti at h
    split at h
    · simp only [Bool.and_eq_true] at h
      obtain ⟨⟨⟨h1, h2⟩, h3⟩, h4⟩ := h
      simp only [evS]
      exact PS.imp (ps_dput (by have := C.toCtxD.room.un; omega) (sE cls k d T N X sc W C.toCtxD _ h1) (sE cls k i T N X sc W C.toCtxD _ h2) (sE cls k e T N X sc W C.toCtxD _ h4) (noComp_sw h9)) fun D σ H q => dset_imp q
    · exact absurd h Bool.false_ne_true
  | .sti2 o1 i1 o2 i2 a b, X, sc, W, C, py, h => by
    cases py <;> first | (exact absurd h Bool.false_ne_true) | skip
    rename_i ts v pos
    replace h : chkSti2 T N sc o1 i1 o2 i2 a b ts v = true := h
    unfold chkSti2 at h
    split at h
    · simp only [Bool.and_eq_true] at h
      obtain ⟨⟨⟨⟨⟨⟨⟨⟨⟨h1, h2⟩, h3⟩, h4⟩, h5⟩, h6⟩, h7⟩, h8⟩, h9⟩, h10⟩ := h
      simp only [evS]
      have hv := se_tup (cls := cls) (W := W) (x1 := 0) (pos := pos) (sa_cons (sE cls k a T N X sc W C.toCtxD _ h7) (sa_cons (sE cls k b T N X sc W C.toCtxD _ h8) sa_nil h10) h9)
      refine PS.imp (ps_asg (se_tup (sa_cons (sE cls k a T N X sc W C.toCtxD _ h7) (sa_cons (sE cls k b T N X sc W C.toCtxD _ h8) sa_nil h10) h9))
        (pg_tup (n := 2) C.calm (pgs_cons (pg_sub (sE cls k o1 T N X sc W C.toCtxD _ h1) (sE cls k i1 T N X sc W C.toCtxD _ h2) (set_D (cls := cls)) (assign_sub h3)) (pgs_cons (pg_sub (sE cls k o2 T N X sc W C.toCtxD _ h4) (sE cls k i2 T N X sc W C.toCtxD _ h5) (set_D (cls := cls)) (assign_sub h6)) pgs_nil)))
        ?_ ?_ ?_) fun D σ H q => sti2_imp q
      all_goals first | exact swapped_subs | rfl
    · exact absurd h Bool.false_ne_true
  | .ex e, X, sc, W, C, py, h => by
    cases py <;> first | (exact absurd h Bool.false_ne_true) | skip
    simp only [chkS, Bool.and_eq_true] at h
    simp only [evS]
    exact PS.imp (ps_expr (sE cls k e T N X sc W C.toCtxD _ h.1) (noComp_ok h.2)) fun D σ H q => drop_imp q
  | .if_ c a b, X, sc, W, C, py, h => by
    cases py <;> first | (exact absurd h Bool.false_ne_true) | skip
    simp only [chkS, Bool.and_eq_true] at h
    simp only [evS]
    exact PS.imp (ps_if (sT cls k c T N X sc W C.toCtxD _ h.1.1) (sSs a X sc W C _ h.1.2) (sSs b X sc W C _ h.2)) fun D σ H q => if_imp q
  | .for_ tg it body, X, sc, W, C, py, h => by
    cases py <;> first | (exact absurd h Bool.false_ne_true) | skip
    rename_i t i b o pos
    cases o <;> first | (exact absurd h Bool.false_ne_true) | skip
    simp only [chkS, Bool.and_eq_true] at h
    obtain ⟨⟨⟨h1, h2⟩, h3⟩, h4⟩ := h
    simp only [evS]
    exact PS.imp (ps_for C.pass C.calm (sI cls k it T N X sc W C.toCtxD _ _ h2) (pg_T C.nEq C.nd C.scEq C.calm h1 h1 fun x _ => .inl (C.fnn x)) (sSs body X sc W C _ h3) (noSet_folded h4)) fun D σ H q => for_imp q
  | .while_ c body, X, sc, W, C, py, h => by
    cases py <;> first | (exact absurd h Bool.false_ne_true) | skip
    rename_i t b o pos
    cases o <;> first | (exact absurd h Bool.false_ne_true) | skip
    simp only [chkS, Bool.and_eq_true] at h
    simp only [evS]
    exact PS.imp (ps_while C.pass (sT cls k c T N X sc W C.toCtxD _ h.1) (sSs body X sc W C _ h.2)) fun D σ H q => while_imp q
  | .ret e, X, sc, W, C, py, h => by
    cases py <;> first | (exact absurd h Bool.false_ne_true) | skip
    rename_i v pos
    cases v <;> first | (exact absurd h Bool.false_ne_true) | skip
    simp only [chkS] at h
    simp only [evS]
    exact PS.imp (ps_ret (sE cls k e T N X sc W C.toCtxD _ h)) fun D σ H q => ret_imp q
  | .retN, X, sc, W, C, py, h => by
    cases py <;> first | (exact absurd h Bool.false_ne_true) | skip
    rename_i v pos
    cases v <;> first | (exact absurd h Bool.false_ne_true) | skip
    simp only [evS]
    refine PS.imp ps_retN ?_
    rintro D σ H ⟨G, ι, η, ρ, S, sl, q⟩
    exact q G ι H (Stp.refl _ _ _) S _ .non
  | .pass, X, sc, W, C, py, h => by
    cases py <;> first | (exact absurd h Bool.false_ne_true) | skip
    simp only [evS]
    refine PS.imp ps_pass ?_
    rintro D σ H ⟨G, ι, η, ρ, S, sl, q⟩
    exact q G ι H (Stp.refl _ _ _) S _ sl
  | .never, X, sc, W, C, py, h => by
    simp only [evS]
    refine PS.imp ps_never ?_
    rintro D σ H ⟨G, ι, η, ρ, S, sl, q⟩
    exact q
  | .rais c fs es, X, sc, W, C, py, h => by
    cases py <;> first | (exact absurd h Bool.false_ne_true) | skip
    rename_i ex ca pos
    cases ex <;> first | (exact absurd h Bool.false_ne_true) | skip
    rename_i ex
    cases ex <;> first | (exact absurd h Bool.false_ne_true) | skip
    rename_i fn xs ks pos'
    cases fn <;> first | (exact absurd h Bool.false_ne_true) | skip
    cases ks <;> first | (exact absurd h Bool.false_ne_true) | skip
    cases ca <;> first | (exact absurd h Bool.false_ne_true) | skip
    simp only [chkS, Bool.and_eq_true, decide_eq_true_eq, Bool.not_eq_true'] at h
    obtain ⟨⟨⟨⟨⟨h1, h2⟩, h3⟩, h4⟩, h5⟩, h6⟩ := h
    simp only [evS]
    exact ss_rais C.toCtxD h1 h2 h3 (sA cls k es T N X sc W C.toCtxD _ h4) h5 (noStar_E h4) h6
theorem sSs : ∀ (ss : Ss) (X : Cx) (sc : Scope) (W : WX) (_ : CtxS T cls k X N sc W) (py : List Stmt), chkSs T N sc ss py = true → PSs X py (tS cls X.K W (evSs (evF T.fns k) ss))
  | .nil, X, sc, W, C, [], h => by
    simp only [evSs]
    refine PSs.imp pss_nil ?_
    rintro D σ H ⟨G, ι, η, ρ, S, sl, q⟩
    exact q G ι H (Stp.refl _ _ _) S _ sl
  | .cons s r, X, sc, W, C, x :: xs, h => by
    simp only [chkSs, Bool.and_eq_true] at h
    simp only [evSs]
    exact PSs.imp (pss_cons (sS s X sc W C x h.1) (sSs r X sc W C xs h.2)) fun D σ H q => seq_imp q
  | .nil, _, _, _, _, _ :: _, h => by exact absurd h Bool.false_ne_true
  | .cons _ _, _, _, _, _, [], h => by exact absurd h Bool.false_ne_true
end
end
end Ms
end
section
set_option Elab.async false
set_option linter.all false
set_option maxRecDepth 100000
set_option maxHeartbeats 4000000
/-! Every def keeps to its data. -/
namespace Ms
open PySem L2

section
variable {K : PySem.W.Frag} {G H : Hp} {ι ι' : List Addr} {η : List Cell}
mutual
theorem Rep.under {n : Nat} (e : ι'.take n = ι) : ∀ {v : V} {d : D}, dUnder n d = true → Rep K G ι' v d → Rep K G ι v d
  | _, _, _, .non => .non
  | _, _, _, .bl b => .bl b
  | _, _, _, .int i => .int i
  | _, _, _, .str s => .str s
  | _, _, u, .tup h t => .tup h (Reps.under e u t)
  | _, _, u, .fl h t => .fl h (Reps.under e u t)
  | _, _, u, .scr h t => .scr h (Reps.under e u t)
  | _, _, u, .ref q => .ref (by rw [← e, List.getElem?_take_of_lt (of_decide_eq_true u)]; exact q)
theorem Reps.under {n : Nat} (e : ι'.take n = ι) : ∀ {vs : List V} {ds : List D}, dUnders n ds = true → Reps K G ι' vs ds → Reps K G ι vs ds
  | _, _, _, .nil => .nil
  | _, _, u, .cons h t => by
    simp only [dUnders, Bool.and_eq_true] at u
    exact .cons (Rep.under e u.1 h) (Reps.under e u.2 t)
end
theorem CellOk.under {n : Nat} {a : Addr} {c : Cell} (e : ι'.take n = ι) (u : cUnder n c = true) (h : CellOk K G ι' H a c) : CellOk K G ι H a c := by
  cases c with
  | lst xs =>
    obtain ⟨vs, h1, h2⟩ := h
    exact ⟨vs, h1, h2.under e u⟩
  | dic kvs =>
    obtain ⟨vs, h1, h2⟩ := h
    exact ⟨vs, h1, h2.ks, h2.rs.under e u⟩
  | dit kvs =>
    obtain ⟨vs, h1, h2⟩ := h
    exact ⟨vs, h1, h2.ks, h2.rs.under e u⟩
  | ins C fs =>
    obtain ⟨dx, vs, h1, h2⟩ := h
    exact ⟨dx, vs, h1, h2.ks, h2.rs.under e u⟩
  | tab p q => exact h
  | dead => exact h
theorem RS.under {n : Nat} (e : ι'.take n = ι) (hn : n ≤ η.length) (u : (η.take n).all (cUnder n) = true) (S : RS K G H ι' η) : RS K G H ι (η.take n) := by
  have hsub : ∀ (m : Nat) (a : Addr), ι[m]? = some a → m < n ∧ ι'[m]? = some a := fun m a q => by
    have hm : m < n := by
      have := (List.getElem?_eq_some_iff.mp q).1
      rw [← e, List.length_take] at this
      omega
    rw [← e, List.getElem?_take_of_lt hm] at q
    exact ⟨hm, q⟩
  refine ⟨S.sub, ?_, ?_, fun m a c q q2 q3 => ?_, fun m a c q q2 => ?_, fun m a q => S.there m a (hsub m a q).2, S.ntb⟩
  · rw [← e, List.length_take, List.length_take, S.len]
  · rw [← e]
    exact S.nd.sublist (List.take_sublist _ _)
  · obtain ⟨hm, q'⟩ := hsub m a q
    rw [List.getElem?_take_of_lt hm] at q2
    exact S.out m a c q' q2 q3
  · obtain ⟨hm, q'⟩ := hsub m a q
    have uc : cUnder n c = true := List.all_eq_true.mp u c (List.mem_of_getElem? q2)
    rw [List.getElem?_take_of_lt hm] at q2
    exact (S.cells m a c q' q2).under e uc
theorem trunc_ok {cls : Nat → Addr} {r : Res D} {Q : VK} {W : Value → Option Addr → Hp → Prop} (h : PV cls K G H ι (trunc ι.length r) Q W) : PV cls K G H ι r Q W := by
  cases r with
  | bad => exact h
  | exc c fs η' => exact h
  | ok d η' =>
    unfold trunc at h
    dsimp only at h
    by_cases hc : ι.length ≤ η'.length ∧ dUnder ι.length d = true ∧ (η'.take ι.length).all (cUnder ι.length) = true
    · rw [if_pos hc] at h
      intro G' ι' H' st S v r
      have e : ι'.take ι.length = ι := by
        obtain ⟨t, rfl⟩ := st.x.i
        simp
      exact h G' ι H' ⟨⟨st.x.g, List.prefix_refl _⟩, st.fr, fun _ q => .inl q, st.gn⟩ (S.under e hc.1 hc.2.2) v (r.under e hc.2.1)
    · rw [if_neg hc] at h
      exact h
theorem runB_ok {cls : Nat → Addr} {r : Res Fl} {Q : VK} {W : Value → Option Addr → Hp → Prop} (h : PV cls K G H ι (runB r) Q W) : Post cls K G H ι r (fun fl G' ι' _ H' => flQ K { nx := fun _ H' => Q .non H', rt := Q } fl G' ι' H') W := by
  cases r with
  | bad => exact h
  | exc c fs η' => exact h
  | ok fl η' =>
    cases fl with
    | nx ρ => exact fun G' ι' H' st S σ sl => h G' ι' H' st S .non .non
    | rt d => exact fun G' ι' H' st S v r => h G' ι' H' st S v r
theorem slots_start {N : List Str} {vs : List V} {ds : List D} (r : Reps K G ι vs ds) : Slots K G ι (start N vs) (startD N.length ds) := by
  have l := r.length
  refine ⟨by simp [L2.start, startD, l], fun i d e => ?_⟩
  unfold startD at e
  by_cases hi : i < ds.length
  · rw [List.getElem?_append_left (by simpa using hi), List.getElem?_map] at e
    cases q : ds[i]? with
    | none => rw [q] at e; cases e
    | some d' =>
      rw [q] at e
      cases e
      obtain ⟨v, h1, h2⟩ := r.get q
      refine ⟨v, ?_, h2⟩
      unfold L2.start
      rw [List.getElem?_append_left (by simpa [l] using hi), List.getElem?_map, h1]
      rfl
  · rw [List.getElem?_append_right (by simpa using hi), List.getElem?_replicate] at e
    split at e <;> cases e
end

/-- what the module is like -/
structure Mod1 (P : Program) (w : World) (K : PySem.W.Frag) (mg : Str → Option Value) (base : Heap) (cls : Nat → Addr) (T : Tab) : Prop where
  glo : ∀ x c, (x, c) ∈ T.cs → ∃ u d, mg x = some u ∧ constD c = some d ∧ RelV (vOf d) u ∧ flatD d = true
  bl : ∀ x ∈ builtinNames, mg x = none
  fn : ∀ (f : Nat) (fd : FD), T.fns[f]? = some fd → ∃ a dt x q pr body sc, FnAt K mg fd a ∧ FunD K x q pr body sc [] [] a dt ∧ Binds K dt fd.ps [] ∧ FnScope fd.N fd.ps sc ∧ chkSs { T with lam := fd.lam } fd.N sc fd.code body = true ∧
    ∀ L, fd.lam = some L → a = He.fAd K L.p ∧ (∀ n f cd, (PyProof.Rows.envOfC q sc n f cd).qual ++ "<lambda>" = L.q) ∧ LamX.TabB base mg (He.cT K L.p).1 (He.cT K L.p).2
  cl : ∀ C fs, (C, fs) ∈ T.cls → ClsAt K mg C fs
  sh : ∀ x tb, (x, tb) ∈ T.shs → ShAt K w mg x tb
  xs : ∀ c x fs, (c, x, fs) ∈ T.xs → mg x = some (.ref (cls c)) ∧ (∀ f ∈ fs, PySem.W.findIn K (.ref (cls c)) f = some none) ∧ ExcF P w K mg base (cls c) fs
  told : ∀ L fd, fd ∈ T.fns → fd.lam = some L → ∀ X : Cx, X.prog = P → X.w = w → X.K = K → X.mg = mg → X.base = base → ToldF cls T.told X

theorem fn_all {P : Program} {w : World} {K : PySem.W.Frag} {mg : Str → Option Value} {base : Heap} {cls : Nat → Addr} {T : Tab} (Md : Mod1 P w K mg base cls T) : ∀ (k f : Nat) (fd : FD), T.fns[f]? = some fd → ∀ (a : Addr) (dt : FuncData) (x q : Str) (pr : Arguments) (body : List Stmt) (sc : Scope),
    FunD K x q pr body sc [] [] a dt → FnScope fd.N fd.ps sc → chkSs { T with lam := fd.lam } fd.N sc fd.code body = true → (∀ L, fd.lam = some L → a = He.fAd K L.p ∧ (∀ n f cd, (PyProof.Rows.envOfC q sc n f cd).qual ++ "<lambda>" = L.q) ∧ LamX.TabB base mg (He.cT K L.p).1 (He.cT K L.p).2) →
      FnOk P w K mg base (L2.CX P w) (4 * k + 2) a dt fd.ps (spF cls K fd.ps.length (evF T.fns k f))
  | 0, f, fd, hf, a, dt, x, q, pr, body, sc, F, S, hc, hL => by
    refine ⟨fun vs H Q E h => h.1, fun A outer s H args us vs Q E hr e0 hb r h => ?_⟩
    obtain ⟨_, G, ι, η, ds, _, _, h⟩ := h
    exact h.elim
  | k + 1, f, fd, hf, a, dt, x, q, pr, body, sc, F, S, hc, hL => by
    obtain ⟨oc, od, dV, kV, doc, pm, an, cdv, ct, osl, rfl, lk, hcd, _, _⟩ := F.ex
    refine fn_of (k := 4 * k + 5) lk hcd S (fun vs H Q E h => h.1) fun A outer s H vs Q E hr h => ⟨tS cls K (fun c d _ H => E c d H) (evSs (evF T.fns k) fd.code), ?_, ?_⟩
    · refine sSs { T with lam := fd.lam } cls k fd.N fd.code _ sc _ ⟨⟨rfl, S.nd, rfl, S.kind, rfl, hr.mono (by omega), takes_of rfl rfl rfl rfl, Md.glo, Md.bl, fun g gd hg => ?_, Md.cl, Md.sh, Md.xs, fun L hLe => ?_⟩, passes_of rfl, fun _ => rfl⟩ body hc
      · obtain ⟨b, dt2, x2, q2, pr2, body2, sc2, e1, F2, B2, S2, c2, l2⟩ := Md.fn g gd hg
        exact ⟨b, dt2, e1, B2, fn_all Md k g gd hg b dt2 x2 q2 pr2 body2 sc2 F2 S2 c2 l2⟩
      · obtain ⟨ea, eq, tb⟩ := hL L hLe
        obtain ⟨c, hcv⟩ := He.codeIn_ref hcd
        have ec : (He.cT K L.p).1 = c := He.codeOf_eq (by rw [← ea]; exact lk) hcv
        refine ⟨?_, eq _ _ _, tb, hr, Md.told L fd (List.mem_of_getElem? hf) hLe _ rfl rfl rfl rfl rfl⟩
        exact hcv.trans (congrArg Value.ref ec.symm)
    · obtain ⟨hl, G, ι, η, ds, R, r, h⟩ := h
      refine ⟨G, ι, η, startD fd.N.length ds, R, slots_start r, ?_⟩
      have e : evF T.fns (k + 1) f ds η = trunc η.length (runB (evSs (evF T.fns k) fd.code (startD fd.N.length ds) η)) := by
        have hl2 : ds.length = fd.ps.length := by rw [← r.length]; exact hl
        conv => lhs; unfold evF
        simp only [hf, hl2, if_true]
      rw [e, ← R.len] at h
      exact (runB_ok (trunc_ok h)).imp (fun _ _ _ _ _ _ _ z => z) fun _ _ _ z _ => z
end Ms
end
section
set_option Elab.async false
set_option linter.all false
set_option maxRecDepth 100000
set_option maxHeartbeats 4000000
/-! Errors: made, asked, told. -/
namespace PySem.W
open PySem PySem.Spec PySem.Calls PyProof.Rows
section
variable {prog : Program} {w : World} {A : Around} {E : Value → Shared → Prop} {s : Shared} {K : Frag} {x D : Addr} {ox : Obj}
/-- what stands in the class and takes stores is bound, whatever the instance holds -/
theorem ms_find {od : Option Obj} {C : Addr} {f : Str} {v g : Value} (q1 : (clsIn K C).isSome = true) (q2 : findIn K (.ref C) f = some (some v)) (q3 : specialIn K v "__get__" = some (some g)) (q4 : takesIn K v = some true) : findObj K C od f = some (.bind g v) := by
  cases e : clsIn K C with
  | none => rw [e] at q1; cases q1
  | some cd =>
    unfold findObj
    rw [e, Option.bind_some, q2, Option.bind_some]
    simp [q3, q4]
/-- what an error's class must say -/
structure MsExc (K : Frag) (D : Addr) : Prop where
  e1 : findIn K (.ref D) "__getattribute__" = some (some (.builtin "BaseException.__getattribute__"))
  e2 : findIn K (.ref D) "__getattr__" = some none
  e3 : subIn K (.ref D) (.type "BaseException") = some true
  e4 : hasDictIn K D = true
  e5 : findIn K (.ref D) "__class__" = some (some (.builtin "object.__class__"))
  e6 : specialIn K (.builtin "object.__class__") "__get__" = some (some (.builtin "getset_descriptor.__get__"))
  e7 : takesIn K (.builtin "object.__class__") = some true
  e8 : mroIn K D (.type "object") = some true
theorem ms_isC {K : Frag} {D : Addr} (c : MsExc K D) : (clsIn K D).isSome = true := by
  have h := c.e4
  unfold hasDictIn at h
  cases e : clsIn K D with
  | none => rw [e] at h; cases h
  | some cd => rfl
theorem ms_class {od : Option Obj} {Q : Option Value → Shared → Prop} (c : MsExc K D) (X : K.In s.heap) (I : InstAt s.heap x ox D od) (h : Q (some (.ref D)) { s with toks := s.toks + 1 }) : wpAny (model prog w) A (getAttr? (.ref x) "__class__") Q E s := by
  have hf := ms_find (od := od) (f := "__class__") (ms_isC c) c.e5 c.e6 c.e7
  obtain ⟨h0, gs, dr, tk, o0⟩ := s
  have a0 := I.type (M := model prog w)
  have a1 := looks_findIn (M := model prog w) X c.e1
  have a2 := looks_findIn (M := model prog w) X c.e2
  have a3 := looks_find (M := model prog w) X I hf
  have a4 : Looks (model prog w) h0 (isInstance (.ref x) (.type "BaseException")) true := a0.andThen (looks_subIn X c.e3)
  have b2 : (Value.builtin "BaseException.__getattribute__" == Value.builtin "object.__getattribute__") = false := by decide +kernel
  have b1 : (onTheHeap (Value.ref D) && Value.builtin "BaseException.__getattribute__" == Value.builtin "object.__getattribute__") = false := by rw [b2] <;> rfl
  unfold getAttr? getAttrBy? getAttrBy
  refine wpAny_bind (wpAny_mkText ?_)
  refine wpAny_bind (wpAny_attempt (wpAny_holding ?_))
  refine wpAny_bind (a0.at ?_)
  refine wpAny_bind (a1.at ?_)
  show wpAny _ _ (if (onTheHeap (Value.ref D) && Value.builtin "BaseException.__getattribute__" == Value.builtin "object.__getattribute__") = true then _ else _) _ _ _
  rw [b1, if_neg (by decide)]
  unfold getAttrByItsOwn hookBefore
  refine wpAny_bind ?_
  have on : onTheHeap (Value.ref D) = true := rfl
  rw [if_pos on]
  refine a2.at ?_
  refine wpAny_bind ?_
  refine wpAny_attempt (wpAny_holding ?_)
  unfold callGetattribute
  have b0 : (false && onTheHeap (Value.builtin "BaseException.__getattribute__")) = false := rfl
  rw [b0, if_neg (by decide)]
  unfold boundAndCalled
  rw [PySem.F.excAttr_ValueError.ga.bind (.ref x)]
  refine wpAny_bind (wpAny_pure ?_)
  show wpAny _ _ (call (.builtin "BaseException.__getattribute__") [.ref x, .str "__class__" tk]) _ _ _
  refine wpAny_call ?_
  refine codeAny_call_builtin PySem.F.excAttr_ValueError.ga.plain PySem.F.entry_bexc_ga ?_
  refine @check_slot (model prog w) _ _ ⟨h0, gs, dr, tk + 1, o0⟩ "BaseException.__getattribute__" "BaseException" "__getattribute__" (.ref x) [.str "__class__" tk] [] _ (by decide +kernel) (by decide +kernel) a4 (PySem.F.args_bexc_ga (.ref x) (.str "__class__" tk)) ?_
  unfold Builtin.«object.__getattribute__»
  refine wpAny_bind ?_
  refine wpAny_of_eq (a := ((Value.ref x : Value), [Value.str "__class__" tk])) ?_ ?_
  · first
    | rfl
    | (simp only [slotArgs]
       rfl)
  refine wpAny_bind (wpAny_pure ?_)
  refine wpAny_bind (a0.at ?_)
  refine wpAny_bind (a3.at ?_)
  show wpAny _ _ (holding [Value.builtin "object.__class__"] (call (.builtin "getset_descriptor.__get__") [.builtin "object.__class__", .ref x, .ref D]) >>= ret) _ _ _
  refine wpAny_bind (wpAny_holding (wpAny_call ?_))
  refine class_get (s := ⟨h0, gs, dr, tk + 1, o0⟩) (ox := ox) (od := od) X I c.e8 ?_
  refine wpAny_pure ?_
  show wpAny _ _ (handedOut (.ref D)) _ _ _
  rw [handedOut_of (v := .ref D) rfl]
  first
    | exact wpAny_pure (wpAny_pure h)
    | exact wpAny_pure h
    | exact wpAny_pure (wpAny_bind (wpAny_pure (wpAny_pure h)))
theorem ms_kitx (c : MsExc K D) : KitX K (.ref x) (.ref D) (fun h => ∃ od, InstAt h x ox D od) where
  ty := fun _ _ _ ⟨_, I⟩ => I.type
  it := fun _ _ X _ => by
    cases hc : clsIn K D with
    | none => have := ms_isC c; rw [hc] at this; cases this
    | some cd =>
      unfold clsIn at hc
      split at hc
      · rename_i ho
        intro A' Q' E' s' k q
        unfold isType loadHead
        exact wpAny_bind (wpAny_loadPart (k _ _ (X _ _ ho)) (wpAny_pure q))
      · cases hc
  ne := fun h tp dd its n sl X htp => by
    cases hc : clsIn K D with
    | none => have := ms_isC c; rw [hc] at this; cases this
    | some cd =>
      cases q : (Value.ref D == Value.ref tp) with
      | false => rfl
      | true =>
        have e : D = tp := Value.ref.inj (beq_iff_eq.mp q)
        subst e
        unfold clsIn at hc
        split at hc
        · rename_i ho
          have z := (X _ _ ho).symm.trans htp
          cases z
        · cases hc
  ca := fun X ⟨_, I⟩ k => ms_class c X I k
end
end PySem.W
namespace Ms
open PySem PySem.Spec PyProof.Rows L2
section
variable {X : Cx} {a D dx : Addr} {oe : Obj} {pn : List (Addr × Obj)}
/-- isinstance(e, c), e the error at hand, its dict at dx -/
theorem call_isX {C : V} {cv : Value} {b : Bool} (c : PySem.W.MsExc X.K D) (hz : Zc (.ref D) (some dx) oe) (hf : ∃ vs, oe.data = .fields vs) (hr : ∀ u, RelV C u → u = cv) (hk : PySem.W.kitOne X.K (.ref D) cv = some b) :
    CallR (X.suite a ((a, oe) :: pn)) (.builtin "isinstance") (fun xs H Q => xs = [.ref a, C] ∧ (∃ fs, H dx = some (.xd fs)) ∧ Q (.bl b) H) := by
  rintro pins s σ H xs us Q I r ⟨rfl, ⟨fs, hd⟩, q⟩
  cases r with
  | cons rx rr =>
    cases rr with
    | cons rt rr =>
      cases rr
      cases rx
      have ec := hr _ rt
      subst ec
      obtain ⟨hget, _⟩ := I.pin (a, oe) (List.mem_append.mpr (.inl List.mem_cons_self))
      obtain ⟨vs, hv⟩ := hf
      have ho : ObjOk X.prog X.w H s.heap dx (.xd fs) := I.hok dx _ hd
      obtain ⟨mA, hns, _⟩ := ho
      obtain ⟨od, ho, _⟩ := lookIn_ns hns
      have J : PySem.W.InstAt s.heap a oe D (some od) := ⟨hget, hz.1, by unfold PySem.W.notCls; rw [hv] <;> rfl, by rw [hz.2]; exact ho⟩
      exact PySem.W.kia_one (PySem.W.ms_kitx (ox := oe) c) I.kIn ⟨_, J⟩ hk (fun z => nomatch z) fun tk => ⟨.bl b, H, I.kept (t' := tk) fun _ _ z => z, rfl, q⟩
end
/-! ### list.count of flat items -/
theorem count_eqU {x : V} : ∀ {xs : List V} {us : List Value}, Vals xs us → xs.all flatV = true → us.countP (eqU x) = xs.countP fun y => eqV y x
  | _, _, .nil, _ => rfl
  | _, _, .cons r t, f => by
    rw [List.all_cons, Bool.and_eq_true] at f
    rw [List.countP_cons, List.countP_cons, count_eqU t f.2, eqU_of r f.1]
def rCntF (K : PySem.W.Frag) : V → List V → Hp → VK → Prop := fun x xs H Q => ∃ (p : Addr) (ys : List V) (y : V), x = .ref p ∧ xs = [y] ∧ flatV y = true ∧ ys.all flatV = true ∧ SqL K H p ys ∧ Q (.int (ys.countP fun z => eqV z y : Nat)) H
theorem mt_cntF {X : Cx} : MtR X "list.count" (rCntF X.K) := by
  rintro pins s σ H x xs v us Q I rx rxs ⟨p, ys, y, rfl, rfl, f1, f2, hs, q⟩
  cases rx
  obtain ⟨u, rfl, ru⟩ := rxs.one
  obtain ⟨its, rv, ⟨⟨oc, od, dt, sl⟩, n, ho, q1, q2, q3⟩, hl⟩ := I.list hs
  simp only at q1 q3
  subst q1 q3
  have ec : its.toArray.toList.countP (eqU y) = ys.countP fun z => eqV z y := count_eqU rv f2
  have road := SeqAt.list_countAt p its.toArray n od sl u (eqU y)
  refine call_meets PySem.F.slot_list_count ⟨_, ho, rfl⟩ PySem.F.entry_list_count (PySem.F.args_list_count_2 _ _) road ⟨ho, fun z hz => mem_eqAt ru f1 rv f2 z (by simpa using hz), ?_⟩
  refine ⟨.int (ys.countP fun z => eqV z y : Nat), H, I.tok _, ⟨s.toks, ?_⟩, q⟩
  show Value.int ((its.toArray.toList.countP (eqU y) : Nat) : Int) s.toks = _
  rw [ec]

/-! ### the base's __init__, named by an own class -/
/-- M: an own class of errors that has no __init__ of its own -/
structure BaseX (K : PySem.W.Frag) (M : Addr) : Prop where
  ga : PySem.W.specialIn K (.ref M) "__getattribute__" = some (some (.builtin "type.__getattribute__"))
  rd : PySem.W.readsIn K M (.type "type") = true
  at_ : PySem.W.findCls K (.ref M) (.type "type") "__init__" = some (.val (.builtin "ValueError.__init__"))
theorem pe_binit {X : Cx} {x : Str} {M : Addr} {e : Expr} {es : List Expr} {ta : TA} {p1 p2 pos : Pos} {pl : Sem Bool} (hg : Gl X x) (hm : X.mg x = some (.ref M)) (b : BaseX X.K M) (ha : PA X (e :: es) ta) (hdb : (x == ("__debug__" : Str)) = false)
    (hc : eval (.Call (.Attribute (.Name x p1) "__init__" p2) (e :: es) [] pos) X.env = (do
      let ov ← eval (.Name x p1) X.env
      standAt p2.atName
      let (f, first) ← holding [ov] (getMethod ov "__init__" pl)
      callWith pos f first (backTo pos (starEach (e :: es) X.env)) (backToKw pos (keywordEach [] X.env))))
    (he : starEach (e :: es) X.env = (false, eval e X.env) :: starEach es X.env) (hpl : (backTo pos (starEach es X.env)).any (·.1) = false) :
    PE X (.Call (.Attribute (.Name x p1) "__init__" p2) (e :: es) [] pos) (tVeI X.K ta) := by
  refine ⟨fun pins s σ H Q I h => ?_⟩
  refine PySem.W.methodCall_KW ?_ hc
  refine ld_glob I hg hm ?_ hdb
  refine PySem.W.method_cls I.kIn b.ga ?_
  refine PySem.W.cls_value I.kIn b.rd b.at_ (by rfl) ?_
  show wpAny _ _ (callWith pos (Value.builtin "ValueError.__init__") [] (backTo pos (starEach (e :: es) X.env)) []) _ _ _
  refine PyProof.Rows.callWith_method1 (thn (ha.run pos pins _ σ H _ ((I.tok _).tok _) h) fun us s1 ⟨vs, H1, I1, r1, a, C, ws, ev, hl, T, ea, q⟩ => ?_) he hpl
  subst ev
  cases r1 with
  | @cons _ u0 _ ur ra rw' =>
    cases (show u0 = Value.ref a from ra)
    refine oinit_ok T I1 ea ?_ fun s' J => ⟨.non, H1, J, rfl, q⟩
    rw [← Paired.length rw']
    exact Nat.le_trans hl (by decide)
end Ms
end
section
set_option Elab.async false
set_option linter.all false
set_option maxRecDepth 100000
set_option maxHeartbeats 4000000
/-! An error's __init__. -/
namespace Ms
open PySem PySem.Spec PyProof.Rows L2
section
variable {P : Program} {w : World} {K : PySem.W.Frag} {mg : Str → Option Value} {base : Heap} {x q nm self f g z : Str} {pr : Arguments} {sc : Scope} {a M C : Addr} {dt : FuncData} {j : Nat} {p1 p2 p3 p4 p5 p6 p7 p8 p9 p10 p11 p12 p13 p14 : Pos} {pl : PySem.Env → Sem Bool}
theorem vis_par {N ps : List Str} {sc : Scope} (S : FnScope N ps sc) {y : Str} (h : y ∈ ps) : Vis sc y := (S.par y h).elim .inl fun h => .inr (.inl h)
/-- one field -/
theorem init1 (F : FunD K nm q pr [.Expr (.Call (.Attribute (.Name x p1) "__init__" p2) [.Name self p3, .Constant (.str z) j p4] [] p5) p6, .Assign [.Attribute (.Name self p7) f p8] (.Name f p9) p10] sc [] [] a dt) (S : FnScope [self, f] [self, f] sc)
    (hx : sc.names.lookup x = some .globalImplicit) (hm : mg x = some (.ref M)) (b : BaseX K M) (T : OexC K C) (hno : PySem.W.findIn K (.ref C) f = some none)
    (hdx : (x == ("__debug__" : Str)) = false) (hs1 : nameB self = true) (hf1 : nameB f = true)
    (hc : ∀ env : PySem.Env, eval (.Call (.Attribute (.Name x p1) "__init__" p2) [.Name self p3, .Constant (.str z) j p4] [] p5) env = (do
      let ov ← eval (.Name x p1) env
      standAt p2.atName
      let (f, first) ← holding [ov] (getMethod ov "__init__" (pl env))
      callWith p5 f first (backTo p5 (starEach [.Name self p3, .Constant (.str z) j p4] env)) (backToKw p5 (keywordEach [] env)))) :
    FnOk P w K mg base (L2.CX P w) 1 a dt [self, f] (spX K C [f]) := by
  refine F.ok S (fun vs H Q E ⟨e, ws, h1, h2, _⟩ => by rw [h1]; simpa using h2) fun cdv A outer s H vs Q E hr h => ⟨_, pss_cons (ps_expr (pe_binit hx hm b (pa_cons (pe_var (i := 0) rfl (vis_par S (by simp)) (nameB_ok hs1).1 (nameB_ok hs1).2) (pa_cons pe_str pa_nil)) hdx (hc _) rfl rfl))
    (pss_one (ps_ost (pe_var (i := 0) rfl (vis_par S (by simp)) (nameB_ok hs1).1 (nameB_ok hs1).2) (pe_var (i := 1) rfl (vis_par S (by simp)) (nameB_ok hf1).1 (nameB_ok hf1).2))), ?_⟩
  obtain ⟨e, ws, rfl, h2, h3, h4⟩ := h
  match ws, h2 with
  | [y], _ => exact ⟨_, rfl, e, C, [.str z], rfl, by simp, T, h3, _, rfl, _, rfl, e, C, rfl, T, hno, .inl ⟨h3, fun dx hd hda => h4 dx hd hda⟩⟩
/-- two fields -/
theorem init2 (F : FunD K nm q pr [.Expr (.Call (.Attribute (.Name x p1) "__init__" p2) [.Name self p3, .Constant (.str z) j p4] [] p5) p6, .Assign [.Attribute (.Name self p7) f p8] (.Name f p9) p10, .Assign [.Attribute (.Name self p11) g p12] (.Name g p13) p14] sc [] [] a dt) (S : FnScope [self, f, g] [self, f, g] sc)
    (hx : sc.names.lookup x = some .globalImplicit) (hm : mg x = some (.ref M)) (b : BaseX K M) (T : OexC K C) (hno : PySem.W.findIn K (.ref C) f = some none) (hno2 : PySem.W.findIn K (.ref C) g = some none)
    (hdx : (x == ("__debug__" : Str)) = false) (hs1 : nameB self = true) (hf1 : nameB f = true) (hg1 : nameB g = true)
    (hc : ∀ env : PySem.Env, eval (.Call (.Attribute (.Name x p1) "__init__" p2) [.Name self p3, .Constant (.str z) j p4] [] p5) env = (do
      let ov ← eval (.Name x p1) env
      standAt p2.atName
      let (f, first) ← holding [ov] (getMethod ov "__init__" (pl env))
      callWith p5 f first (backTo p5 (starEach [.Name self p3, .Constant (.str z) j p4] env)) (backToKw p5 (keywordEach [] env)))) :
    FnOk P w K mg base (L2.CX P w) 1 a dt [self, f, g] (spX K C [f, g]) := by
  refine F.ok S (fun vs H Q E ⟨e, ws, h1, h2, _⟩ => by rw [h1]; simpa using h2) fun cdv A outer s H vs Q E hr h => ⟨_, pss_cons (ps_expr (pe_binit hx hm b (pa_cons (pe_var (i := 0) rfl (vis_par S (by simp)) (nameB_ok hs1).1 (nameB_ok hs1).2) (pa_cons pe_str pa_nil)) hdx (hc _) rfl rfl))
    (pss_cons (ps_ost (pe_var (i := 0) rfl (vis_par S (by simp)) (nameB_ok hs1).1 (nameB_ok hs1).2) (pe_var (i := 1) rfl (vis_par S (by simp)) (nameB_ok hf1).1 (nameB_ok hf1).2))
      (pss_one (ps_ost (pe_var (i := 0) rfl (vis_par S (by simp)) (nameB_ok hs1).1 (nameB_ok hs1).2) (pe_var (i := 2) rfl (vis_par S (by simp)) (nameB_ok hg1).1 (nameB_ok hg1).2)))), ?_⟩
  obtain ⟨e, ws, rfl, h2, h3, h4⟩ := h
  match ws, h2 with
  | [y, y2], _ =>
    refine ⟨_, rfl, e, C, [.str z], rfl, by simp, T, h3, _, rfl, _, rfl, e, C, rfl, T, hno, .inl ⟨h3, fun dx hd hda => ?_⟩⟩
    refine ⟨_, rfl, _, rfl, e, C, rfl, T, hno2, .inr ⟨dx, [(f, y)], upd_same, by rw [upd_ne hda, upd_same], by simp, ?_⟩⟩
    have eH : upd (upd (upd H dx (exd dx [(f, y)])) e (exo e C (some dx))) dx (exd dx [(g, y2), (f, y)]) = upd (upd H dx (exd dx [(g, y2), (f, y)])) e (exo e C (some dx)) := by
      funext b
      by_cases hb : b = dx
      · rw [hb, upd_same, upd_ne hda, upd_same]
      · rw [upd_ne hb]
        by_cases he : b = e
        · rw [he, upd_same, upd_same]
        · rw [upd_ne he, upd_ne he, upd_ne hb, upd_ne hb]
    show Q .non _
    rw [eH]
    exact h4 dx hd hda
end
end Ms
end
section
set_option Elab.async false
set_option linter.all false
set_option maxRecDepth 100000
set_option maxHeartbeats 4000000
/-! What is asked of the classes of errors. -/
namespace Ms
open PySem PySem.Spec PyProof.Rows L2
/-- the class of errors number c -/
def clsOf (K : PySem.W.Frag) (c : Nat) : Addr := He.ga K (excNames.getD c "")
def msxB (K : PySem.W.Frag) (D : Addr) : Bool :=
  decide (PySem.W.findIn K (.ref D) "__getattribute__" = some (some (.builtin "BaseException.__getattribute__"))) && decide (PySem.W.findIn K (.ref D) "__getattr__" = some none) && decide (PySem.W.subIn K (.ref D) (.type "BaseException") = some true) && PySem.W.hasDictIn K D &&
    decide (PySem.W.findIn K (.ref D) "__class__" = some (some (.builtin "object.__class__"))) && decide (PySem.W.specialIn K (.builtin "object.__class__") "__get__" = some (some (.builtin "getset_descriptor.__get__"))) && decide (PySem.W.takesIn K (.builtin "object.__class__") = some true) &&
    decide (PySem.W.mroIn K D (.type "object") = some true)
theorem msxB_ok {K : PySem.W.Frag} {D : Addr} (h : msxB K D = true) : PySem.W.MsExc K D := by
  simp only [msxB, Bool.and_eq_true, decide_eq_true_eq] at h
  obtain ⟨⟨⟨⟨⟨⟨⟨h1, h2⟩, h3⟩, h4⟩, h5⟩, h6⟩, h7⟩, h8⟩ := h
  exact ⟨h1, h2, h3, h4, h5, h6, h7, h8⟩
def oexB (K : PySem.W.Frag) (C : Addr) : Bool := (match K.lookup C with
  | some ⟨.type "type", _, .cls cd, sl⟩ => (match cd.mro, sl.toList with
    | .ref C' :: bm, [_, _, _, _, some (.builtin n), _] => C' == C && n == "ValueError.__new__" && !cd.hasDel && cd.hasDict && PySem.HandSPX.refsVE bm
    | _, _ => false)
  | _ => false) && decide (PySem.W.findIn K (.ref C) "__setattr__" = some (some (.builtin "object.__setattr__"))) && decide (PySem.W.subIn K (.ref C) (.type "BaseException") = some true) && decide (PySem.W.typeIn K (.ref C) = some (.type "type")) && PySem.W.keepIn K (.ref C)
theorem oexB_ok {K : PySem.W.Frag} {C : Addr} (h : oexB K C = true) : OexC K C := by
  simp only [oexB, Bool.and_eq_true, decide_eq_true_eq] at h
  obtain ⟨⟨⟨⟨q, h2⟩, h3⟩, h4⟩, h5⟩ := h
  refine ⟨?_, h2, h3, h4, h5⟩
  split at q
  · rename_i dd cd sl ho
    split at q
    · rename_i C' bm k0 k1 k2 k3 n k5 hm hs
      simp only [Bool.and_eq_true, beq_iff_eq, Bool.not_eq_true'] at q
      obtain ⟨⟨⟨⟨rfl, rfl⟩, hdel⟩, hdi⟩, hre⟩ := q
      obtain ⟨nm, bs, mro, ns, qn, hd, sn, sub, ab, col, del⟩ := cd
      dsimp only at hm hdel hdi
      subst hm hdel hdi
      have hsl : sl = #[k0, k1, k2, k3, some (.builtin "ValueError.__new__"), k5] := by
        obtain ⟨l⟩ := sl
        simp only at hs
        rw [hs]
      subst hsl
      exact ⟨nm, qn, ns, bs, bm, sn, sub, ab, col, dd, k0, k1, k2, k3, k5, ho, hre⟩
    · cases q
  · cases q
def baseB (K : PySem.W.Frag) (M : Addr) : Bool :=
  decide (PySem.W.specialIn K (.ref M) "__getattribute__" = some (some (.builtin "type.__getattribute__"))) && PySem.W.readsIn K M (.type "type") && (match PySem.W.findCls K (.ref M) (.type "type") "__init__" with
    | some (.val v) => decide (v = .builtin "ValueError.__init__")
    | _ => false)
theorem baseB_ok {K : PySem.W.Frag} {M : Addr} (h : baseB K M = true) : BaseX K M := by
  simp only [baseB, Bool.and_eq_true, decide_eq_true_eq] at h
  refine ⟨h.1.1, h.1.2, ?_⟩
  have q := h.2
  split at q
  · rename_i v e
    rw [e, of_decide_eq_true q]
  · cases q
def xFields : List Str := ["scheme", "place", "number"]
/-- one class -/
def oneB (K : PySem.W.Frag) (c : Nat) : Bool :=
  msxB K (clsOf K c) && ((List.range 6).all fun j => decide (PySem.W.kitOne K (.ref (clsOf K c)) (.ref (clsOf K j)) = some (decide (c = j)))) && decide (PySem.W.kitOne K (.ref (clsOf K c)) (.type "ValueError") = some true) &&
    decide (PySem.W.exmOne K (.ref (clsOf K c)) (.ref (He.ga K "MarkError")) = some true) && (xFields.all fun f => decide (PySem.W.findIn K (.ref (clsOf K c)) f = some none))
/-- all of it; own: those with fields -/
def exB (own : List Nat) (K : PySem.W.Frag) : Bool := ((List.range 6).all (oneB K)) && baseB K (He.ga K "MarkError") && own.all fun c => oexB K (clsOf K c)
structure XFacts (K : PySem.W.Frag) (own : List Nat) : Prop where
  msx : ∀ c, c < 6 → PySem.W.MsExc K (clsOf K c)
  kit : ∀ c j, c < 6 → j < 6 → PySem.W.kitOne K (.ref (clsOf K c)) (.ref (clsOf K j)) = some (decide (c = j))
  kitV : ∀ c, c < 6 → PySem.W.kitOne K (.ref (clsOf K c)) (.type "ValueError") = some true
  exm : ∀ c, c < 6 → PySem.W.exmOne K (.ref (clsOf K c)) (.ref (He.ga K "MarkError")) = some true
  noat : ∀ c, c < 6 → ∀ f ∈ xFields, PySem.W.findIn K (.ref (clsOf K c)) f = some none
  base : BaseX K (He.ga K "MarkError")
  oex : ∀ c ∈ own, OexC K (clsOf K c)
theorem exB_ok {K : PySem.W.Frag} {own : List Nat} (h : exB own K = true) : XFacts K own := by
  simp only [exB, Bool.and_eq_true] at h
  obtain ⟨⟨h1, h2⟩, h3⟩ := h
  have one : ∀ c, c < 6 → oneB K c = true := fun c hc => List.all_eq_true.mp h1 c (List.mem_range.mpr hc)
  have parts : ∀ c, c < 6 → _ := fun c hc => by
    have q := one c hc
    simp only [oneB, Bool.and_eq_true, decide_eq_true_eq] at q
    exact q
  exact ⟨fun c hc => msxB_ok (parts c hc).1.1.1.1, fun c j hc hj => of_decide_eq_true (List.all_eq_true.mp (parts c hc).1.1.1.2 j (List.mem_range.mpr hj)), fun c hc => (parts c hc).1.1.2, fun c hc => (parts c hc).1.2,
    fun c hc f hf => of_decide_eq_true (List.all_eq_true.mp (parts c hc).2 f hf), baseB_ok h2, fun c hc => oexB_ok (List.all_eq_true.mp h3 c hc)⟩
theorem XFacts.xf {K : PySem.W.Frag} {own : List Nat} (F : XFacts K own) {c : Nat} (hc : c < 6) : XfC K (clsOf K c) := ⟨(F.msx c hc).e1, (F.msx c hc).e2, (F.msx c hc).e3, (F.msx c hc).e4⟩
end Ms
end
section
set_option Elab.async false
set_option linter.all false
set_option maxRecDepth 100000
set_option maxHeartbeats 4000000
/-! The head's facts, the statics among them. -/
namespace Ms
open PySem PySem.Spec PyProof.Rows L2 He PySem.W
/-- what is read of the heap -/
def frY (g : Addr → Option Obj) (n : Nat) : PySem.W.Frag := frT g (cStatics :: asD g n)
def obsY (n : Nat) (fa : List Fa) (fn : List DefD) (ts : List He.Tab) (tf : List Defn) (ex : PySem.W.Frag → Bool) (g : Addr → Option Obj) : AlX :=
  let K := frY g n
  (obsT fa fn ts K, ex K && tabsB g tf K)
theorem saysY_of {n : Nat} {fa : List Fa} {fn : List DefD} {ts : List He.Tab} {tf : List Defn} {ex : PySem.W.Frag → Bool} {w : World} {h : Heap} (e : obsY n fa fn ts tf ex h.get? = valX fn ts w) : SaysX fa fn ts tf ex w h (frY h.get? n) := by
  obtain ⟨e1, e2⟩ := Prod.mk.inj (show (obsT fa fn ts (frY h.get? n), ex (frY h.get? n) && tabsB h.get? tf (frY h.get? n)) = (valT fn ts w, true) from e)
  obtain ⟨x1, x2⟩ := ba e2
  have tb : ∀ p ∈ tf, _ := fun p hp => ba (List.all_eq_true.mp x2 p hp)
  have obj : ∀ p ∈ tf, ∃ o, h.get? (cT (frY h.get? n) p).2 = some o ∧ emptyTab o = true := fun p hp => by
    have q := (tb p hp).2
    cases z : h.get? (cT (frY h.get? n) p).2 with
    | none => rw [z] at q; cases q
    | some o => rw [z] at q; exact ⟨o, rfl, q⟩
  refine ⟨e1, x1, fun p hp => (tb p hp).1, fun p hp => ?_, fun p hp => ?_⟩
  · obtain ⟨o, z1, z2⟩ := obj p hp
    exact frT_none z1 z2
  · obtain ⟨o, z1, z2⟩ := obj p hp
    rw [z1, emptyTab_eq z2]
def hookY (n : Nat) (fa : List Fa) (fn : List DefD) (ts : List He.Tab) (tf : List Defn) (ex : PySem.W.Frag → Bool) : PySem.W.Hook where
  α := AlX
  obs := fun s => obsY n fa fn ts tf ex s.heap.get?
  val := fun w => valX fn ts w
  says := fun w h => ∃ K : PySem.W.Frag, K.In h ∧ SaysX fa fn ts tf ex w h K
  of := fun _ _ e => ⟨_, frT_in, saysY_of e⟩
  keeps := fun _ _ _ ⟨K, hK, c⟩ k => ⟨K, PySem.W.Frag.In.keeps hK k, ⟨c.t, c.more, c.hd, c.out, fun p hp => k _ _ (c.empty p hp)⟩⟩
theorem obsY_eq {n : Nat} {fa : List Fa} {fn : List DefD} {ts : List He.Tab} {tf : List Defn} {ex : PySem.W.Frag → Bool} {g : Addr → Option Obj} {s : Shared} (h : ∀ a, g a = s.heap.get? a) : obsY n fa fn ts tf ex g = (hookY n fa fn ts tf ex).obs s := by
  have e : g = s.heap.get? := funext h
  rw [e] <;> rfl
end Ms
end
section
set_option Elab.async false
set_option linter.all false
set_option maxRecDepth 100000
set_option maxHeartbeats 4000000
/-! Defs, classes, tables found by the head's facts; the law's begin. -/
namespace Ms
open PySem PySem.Spec PyProof.Rows L2 PySem.W
/-- a def of the table -/
structure FdOk (K : PySem.W.Frag) (mg : Str → Option Value) (base : Heap) (T : Tab) (fd : FD) : Prop where
  ex : ∃ a dt x q pr body sc, FnAt K mg fd a ∧ FunD K x q pr body sc [] [] a dt ∧ Binds K dt fd.ps [] ∧ FnScope fd.N fd.ps sc ∧ chkSs { T with lam := fd.lam } fd.N sc fd.code body = true ∧
    ∀ L, fd.lam = some L → a = He.fAd K L.p ∧ (∀ n f cd, (PyProof.Rows.envOfC q sc n f cd).qual ++ "<lambda>" = L.q) ∧ LamX.TabB base mg (He.cT K L.p).1 (He.cT K L.p).2
theorem fn_of_all {K : PySem.W.Frag} {mg : Str → Option Value} {base : Heap} {T : Tab} (h : ∀ fd ∈ T.fns, FdOk K mg base T fd) (f : Nat) (fd : FD) (e : T.fns[f]? = some fd) :
    ∃ a dt x q pr body sc, FnAt K mg fd a ∧ FunD K x q pr body sc [] [] a dt ∧ Binds K dt fd.ps [] ∧ FnScope fd.N fd.ps sc ∧ chkSs { T with lam := fd.lam } fd.N sc fd.code body = true ∧
    ∀ L, fd.lam = some L → a = He.fAd K L.p ∧ (∀ n f cd, (PyProof.Rows.envOfC q sc n f cd).qual ++ "<lambda>" = L.q) ∧ LamX.TabB base mg (He.cT K L.p).1 (He.cT K L.p).2 := (h fd (List.mem_of_getElem? e)).ex
theorem FnAt.fun_ {K : PySem.W.Frag} {mg : Str → Option Value} {fd : FD} {a : Addr} (ho : fd.own = none) (h1 : mg fd.name = some (.ref a)) (h2 : keepIn K (.ref a) = true) : FnAt K mg fd a :=
  ⟨fun _ => ⟨h1, h2⟩, fun C m e => (nomatch ho.symm.trans e), fun C e => (nomatch ho.symm.trans e)⟩
theorem FnAt.meth_ {K : PySem.W.Frag} {mg : Str → Option Value} {fd : FD} {a : Addr} {C m : Str} (ho : fd.own = some (C, m)) (h1 : Meth K (He.ga K C) m a) (h2 : m = "__init__" → Mk K (He.ga K C) a) : FnAt K mg fd a :=
  by
  refine ⟨fun e => (nomatch e.symm.trans ho), fun C' m' e => ?_, fun C' e => ?_⟩
  · cases ho.symm.trans e
    exact h1
  · cases ho.symm.trans e
    exact h2 rfl
/-- names and scope, looked at at once -/
def scopeB (N ps : List Str) (sc : Scope) : Bool := (sc.kind == .function) && !sc.isCoroutine && !sc.isGenerator && decide N.Nodup && decide (N.take ps.length = ps) && (ps.all fun x => decide (sc.names.lookup x = some .local) || decide (sc.names.lookup x = some .cell)) && sc.names.all fun y => decide (y.2 ≠ .free)
theorem scopeB_ok {N ps : List Str} {sc : Scope} (h : scopeB N ps sc = true) : FnScope N ps sc := by
  simp only [scopeB, Bool.and_eq_true, Bool.not_eq_true', decide_eq_true_eq] at h
  obtain ⟨⟨⟨⟨⟨⟨h1, h2⟩, h3⟩, h4⟩, h5⟩, h6⟩, h7⟩ := h
  refine ⟨eq_of_beq h1, h2, h3, h4, h5, fun x hx => ?_, fun y hy => of_decide_eq_true (List.all_eq_true.mp h7 y hy)⟩
  have q := List.all_eq_true.mp h6 x hx
  rw [Bool.or_eq_true] at q
  exact q.imp of_decide_eq_true of_decide_eq_true
/-! ### a written dict of texts -/
def entB (es : List DictEntry) (tb : List (Str × Str)) : Bool := match es, tb with
  | [], [] => true
  | e :: r, p :: s => (match e.key, e.val with
    | .str x _, .str y _ => decide (x = p.1) && decide (y = p.2)
    | _, _ => false) && entB r s
  | _, _ => false
def shB (K : PySem.W.Frag) (x : Str) (tb : List (Str × Str)) : Bool := match K.lookup (He.ga K x) with
  | some ⟨_, _, .dict es _, _⟩ => entB es.toList tb
  | _ => false
theorem entB_find {z : Str} : ∀ {es : List DictEntry} {tb : List (Str × Str)}, entB es tb = true → (∀ y, tb.lookup z = some y → ∃ e t, es.find? (·.key.isStr z) = some e ∧ e.val = .str y t) ∧ (tb.lookup z = none → es.find? (·.key.isStr z) = none) ∧ es.any (·.refKey) = false
  | [], [], _ => ⟨fun y e => by simp at e, fun _ => rfl, rfl⟩
  | e :: r, [], h => by simp [entB] at h
  | [], p :: s, h => by simp [entB] at h
  | e :: r, p :: s, h => by
    simp only [entB, Bool.and_eq_true] at h
    obtain ⟨h1, h2⟩ := h
    obtain ⟨i1, i2, i3⟩ := entB_find (z := z) h2
    obtain ⟨a, b⟩ := p
    split at h1
    · rename_i x t y u ek ev
      simp only [Bool.and_eq_true, decide_eq_true_eq] at h1
      obtain ⟨rfl, rfl⟩ := h1
      have ky : e.key.isStr z = (z == x) := by
        rw [ek]
        by_cases hz : z = x
        · subst hz
          rw [beq_self_eq_true, PySem.W.isStr_of]
          simp [Value.isStrOf]
        · have : (z == x) = false := by simpa using hz
          rw [this, PySem.W.isStr_of]
          simp only [Value.isStrOf]
          simpa using fun q => hz q.symm
      have rk : e.refKey = false := by
        unfold DictEntry.refKey
        rw [ek]
      rw [List.lookup_cons, List.find?_cons, List.any_cons, ky, rk, i3]
      cases z == x with
      | true => exact ⟨fun w q => by
          cases q
          exact ⟨e, u, rfl, ev⟩, fun q => (by cases q), rfl⟩
      | false => exact ⟨i1, i2, rfl⟩
    · cases h1
theorem sh_ok {K : PySem.W.Frag} {w : World} {mg : Str → Option Value} {x : Str} {tb : List (Str × Str)} {es0 : Array DictEntry} {n0 : Nat} (hm : mg x = some (.ref (He.ga K x))) (hd : KDict K w (He.ga K x) es0 n0) (hb : shB K x tb = true) : ShAt K w mg x tb := by
  refine ⟨He.ga K x, es0, n0, hm, hd, fun z => ?_⟩
  unfold shB at hb
  rw [hd.at_] at hb
  obtain ⟨h1, h2, h3⟩ := entB_find (z := z) (show entB es0.toList tb = true from hb)
  have e : nsIn K (He.ga K x) z = (match es0.toList.find? (·.key.isStr z) with
      | some e => some (some e.val)
      | none => if es0.toList.any (·.refKey) then none else some none) := by
    unfold nsIn
    rw [hd.at_] <;> rfl
  rw [e, h3]
  cases q : tb.lookup z with
  | none =>
    rw [h2 q]
    exact ⟨none, rfl, fun y z => (by cases z), fun _ => rfl⟩
  | some y =>
    obtain ⟨e, t, f1, f2⟩ := h1 y q
    rw [f1]
    exact ⟨some e.val, rfl, fun y' z => (by
      cases z
      exact ⟨t, by rw [f2]⟩), fun z => (by cases z)⟩
/-! ### where a law without lambdas begins -/
theorem begin0 {F : List FD} {k f : Nat} {K : PySem.W.Frag} {H : Hp} {a : Addr} {ns : List Int} {cls : Nat → Addr} (hS : SqL K H a (ns.map V.int)) (ht : ∃ η, evF F k f [.scr (ns.map D.int)] [] = .ok (.bl true) η) :
    spF cls K 1 (evF F k f) [.ref a] H (fun v _ => v = .bl true) fun _ _ _ => False := by
  obtain ⟨η, hr⟩ := ht
  have inr : ∀ (G : Hp) (ι : List Addr) (ns : List Int), Reps K G ι (ns.map V.int) (ns.map D.int) := fun G ι ns => by
    induction ns with
    | nil => exact .nil
    | cons n ns ih => exact .cons (.int n) ih
  have fin : ∀ (G : Hp), Same G H → (∀ b ps, G b ≠ some (.tbl ps)) → SqL K G a (ns.map V.int) → spF cls K 1 (evF F k f) [.ref a] H (fun v _ => v = .bl true) fun _ _ _ => False := fun G sm nt sq => by
    refine ⟨rfl, G, [], [], [.scr (ns.map D.int)], ⟨sm, rfl, by simp, fun n a c q => by simp at q, fun n a c q => by simp at q, fun n a q => by simp at q, nt⟩, .cons (.scr sq (inr _ _ _)) .nil, ?_⟩
    rw [hr]
    intro G' ι' H' _ _ v rv
    cases rv
    rfl
  rcases hS with hS | hS
  · have ho : ∃ o, H a = some o ∧ (∀ ps, o ≠ .tbl ps) ∧ SqL K (upd (fun _ => none) a o) a (ns.map V.int) := by
      rcases hS with e | ⟨o, e⟩
      · exact ⟨_, e, fun ps z => (nomatch z), .inl (.inl upd_same)⟩
      · exact ⟨_, e, fun ps z => (nomatch z), .inl (.inr ⟨o, upd_same⟩)⟩
    obtain ⟨o, e, nt, sq⟩ := ho
    refine fin (upd (fun _ => none) a o) (fun b u q => ?_) (fun b ps q => ?_) sq
    · by_cases hb : b = a
      · rw [hb, upd_same] at q
        rw [hb, e, q]
      · rw [upd_ne hb] at q
        cases q
    · by_cases hb : b = a
      · rw [hb, upd_same] at q
        exact nt ps (Option.some.inj q)
      · rw [upd_ne hb] at q
        cases q
  · exact fin (fun _ => none) (fun _ _ q => nomatch q) (fun _ _ q => nomatch q) (.inr hS)
end Ms
end
section
set_option Elab.async false
set_option linter.all false
set_option maxRecDepth 100000
/-! The codes that the laws share; the def i of a table is GLOBAL[i]. -/
namespace Cod
open PySem L2 Ms
def shSHAPES : List (Str × Str) := [("step", "wp"), ("all", "m"), ("best", "m"), ("most", "ns"), ("half", "s"), ("seen", "ws"), ("behind", "ws"), ("carry", "s"), ("end", "wps"), ("use", "u")]
/-- 0, of 3 parameters, 3 slots -/
def c_is_number : Ss :=
  (.cons (.ret (.and_ (.cons (.isi (.loc 0) "int") (.cons (.not_ (.isi (.loc 0) "bool")) (.cons (.chain .le .le (.loc 1) (.loc 0) (.loc 2)) .nil)))))
    .nil)
/-- 1, of 1 parameters, 1 slots -/
def c_is_word : Ss :=
  (.cons (.ret (.and_ (.cons (.isi (.loc 0) "str") (.cons (.cmp .eq (.bi .len (.cons (.loc 0) .nil)) (.cst (.int 1))) (.cons (.cmp .in_ (.loc 0) (.glob "WORDS" (.str "abcdefgh"))) .nil)))))
    .nil)
/-- 2, of 1 parameters, 2 slots -/
def c_kids_of : Ss :=
  (.cons (.asg (.name 1) (.shp "SHAPES" shSHAPES (.sub (.loc 0) (.cst (.int 0)))))
    (.cons (.if_ (.cmp .eq (.loc 1) (.cst (.str "m"))) (.cons (.ret (.bi .list (.cons (.sub (.loc 0) (.cst (.int 1))) .nil)))
    .nil) .nil)
    (.cons (.ret (.ite (.cmp .eq (.sub (.loc 1) (.neg (.cst (.int 1)))) (.cst (.str "s"))) (.lst false (.cons (.sub (.loc 0) (.neg (.cst (.int 1)))) .nil)) (.lst false .nil)))
    .nil)))
/-- 3, of 4 parameters, 4 slots -/
def c_is_part : Ss :=
  (.cons (.if_ (.cmp .eq (.loc 1) (.cst (.str "w"))) (.cons (.ret (.call 1 (.cons (.loc 0) .nil)))
    .nil) .nil)
    (.cons (.if_ (.cmp .eq (.loc 1) (.cst (.str "p"))) (.cons (.ret (.call 0 (.cons (.loc 0) (.cons (.cst (.int 1)) (.cons (.glob "MOST_POINTS" (.int 9)) .nil)))))
    .nil) .nil)
    (.cons (.if_ (.cmp .eq (.loc 1) (.cst (.str "n"))) (.cons (.ret (.call 0 (.cons (.loc 0) (.cons (.cst (.int 0)) (.cons (.glob "MOST_MOST" (.int 30)) .nil)))))
    .nil) .nil)
    (.cons (.if_ (.cmp .eq (.loc 1) (.cst (.str "u"))) (.cons (.ret (.call 0 (.cons (.loc 0) (.cons (.bin .add (.loc 2) (.cst (.int 1))) (.cons (.bin .sub (.loc 3) (.cst (.int 1))) .nil)))))
    .nil) .nil)
    (.cons (.ret (.or_ (.cons (.cmp .eq (.loc 1) (.cst (.str "s"))) (.cons (.and_ (.cons (.isi (.loc 0) "tuple") (.cons (.chain .le .le (.cst (.int 1)) (.bi .len (.cons (.loc 0) .nil)) (.glob "MOST_PARTS" (.int 4))) .nil))) .nil))))
    .nil)))))
/-- 4, of 4 parameters, 7 slots -/
def c_is_scheme : Ss :=
  (.cons (.if_ (.or_ (.cons (.not_ (.isi (.loc 0) "tuple")) (.cons (.cmp .ge (.bi .len (.cons (.loc 1) .nil)) (.glob "MOST_DEEP" (.int 5))) (.cons (.cmp .eq (.bi .len (.cons (.loc 0) .nil)) (.cst (.int 0))) (.cons (.not_ (.isi (.sub (.loc 0) (.cst (.int 0))) "str")) .nil))))) (.cons (.ret (.cst (.bool false)))
    .nil) .nil)
    (.cons (.asg (.name 4) (.shpg "SHAPES" shSHAPES (.sub (.loc 0) (.cst (.int 0)))))
    (.cons (.if_ (.or_ (.cons (.cmp .is_ (.loc 4) (.cst .none)) (.cons (.cmp .ne (.bi .len (.cons (.loc 0) .nil)) (.bin .add (.bi .len (.cons (.loc 4) .nil)) (.cst (.int 1)))) .nil))) (.cons (.ret (.cst (.bool false)))
    .nil) .nil)
    (.cons (.ret (.bi .all (.cons (.lc false [5, 6] (.tup [5, 6]) (.zip (.slice (.loc 0) (.some (.cst (.int 1))) .none) (.loc 4)) .none (.call 3 (.cons (.loc 5) (.cons (.loc 6) (.cons (.loc 2) (.cons (.loc 3) .nil)))))) .nil)))
    .nil))))
/-- 5, of 3 parameters, 9 slots -/
def c_nodes_of : Ss :=
  (.cons (.asg (.name 3) (.lst true .nil))
    (.cons (.asg (.name 4) (.lst true (.cons (.tup (.cons (.tup .nil) (.cons (.loc 0) .nil))) .nil)))
    (.cons (.while_ (.cmp .ne (.loc 4) (.lst false .nil)) (.cons (.asg (.tup [5, 6]) (.mt .pop (.loc 4) .nil))
    (.cons (.if_ (.or_ (.cons (.cmp .eq (.bi .len (.cons (.loc 3) .nil)) (.glob "MOST_NODES" (.int 12))) (.cons (.not_ (.call 4 (.cons (.loc 6) (.cons (.loc 5) (.cons (.loc 1) (.cons (.loc 2) .nil)))))) .nil))) (.cons .never
    .nil) .nil)
    (.cons (.ex (.mt .append (.loc 3) (.cons (.tup (.cons (.loc 5) (.cons (.loc 6) .nil))) .nil)))
    (.cons (.aug 4 .add (.rev (.lc false [7, 8] (.tup [7, 8]) (.enum (.call 2 (.cons (.loc 6) .nil))) .none (.tup (.cons (.bin .add (.loc 5) (.tup (.cons (.loc 7) .nil))) (.cons (.loc 8) .nil))))))
    .nil)))))
    (.cons (.ret (.frz (.loc 3)))
    .nil))))
/-- 6, of 1 parameters, 10 slots -/
def c_need_paper : Ss :=
  (.cons (.if_ (.or_ (.cons (.not_ (.isi (.loc 0) "tuple")) (.cons (.cmp .eq (.loc 0) (.tup .nil)) .nil))) (.cons .never
    .nil) .nil)
    (.cons (.asg (.tup [1, 2]) (.tup (.cons (.dnew false) (.cons (.dnew false) .nil))))
    (.cons (.for_ (.tup [3, 4]) (.enum (.loc 0)) (.cons (.if_ (.cmp .ge (.loc 3) (.glob "MOST_SCHEMES" (.int 5))) (.cons .never
    .nil) .nil)
    (.cons (.ex (.call 5 (.cons (.loc 4) (.cons (.loc 3) (.cons (.bi .len (.cons (.loc 0) .nil)) .nil)))))
    .nil)))
    (.cons (.for_ (.name 3) (.rng3 (.bin .sub (.bi .len (.cons (.loc 0) .nil)) (.cst (.int 1))) (.neg (.cst (.int 1))) (.neg (.cst (.int 1)))) (.cons (.asg (.name 5) (.lc false [6, 7] (.tup [6, 7]) (.val (.call 5 (.cons (.sub (.loc 0) (.loc 3)) (.cons (.loc 3) (.cons (.bi .len (.cons (.loc 0) .nil)) .nil))))) .none (.loc 7)))
    (.cons (.asg (.name 8) (.lc false [7] (.name 7) (.val (.loc 5)) (.some (.cmp .eq (.sub (.loc 7) (.cst (.int 0))) (.glob "USE" (.str "use")))) (.sub (.loc 7) (.cst (.int 1)))))
    (.cons (.dset (.loc 1) (.loc 3) (.bin .add (.bi .len (.cons (.lc false [7] (.name 7) (.val (.loc 5)) (.some (.cmp .in_ (.sub (.loc 7) (.cst (.int 0))) (.tup (.cons (.glob "STEP" (.str "step")) (.cons (.glob "END" (.str "end")) .nil))))) (.loc 7)) .nil)) (.bi .sum (.cons (.lc false [9] (.name 9) (.val (.loc 8)) .none (.dget (.loc 1) (.loc 9))) .nil))))
    (.cons (.dset (.loc 2) (.loc 3) (.bin .add (.bi .len (.cons (.lc false [7] (.name 7) (.val (.loc 5)) (.some (.cmp .in_ (.sub (.loc 7) (.cst (.int 0))) (.tup (.cons (.glob "SEEN" (.str "seen")) (.cons (.glob "BEHIND" (.str "behind")) .nil))))) (.loc 7)) .nil)) (.bi .sum (.cons (.lc false [9] (.name 9) (.val (.loc 8)) .none (.dget (.loc 2) (.loc 9))) .nil))))
    .nil)))))
    (.cons (.if_ (.or_ (.cons (.cmp .gt (.dget (.loc 1) (.cst (.int 0))) (.glob "MOST_STEPS_TOLD" (.int 7))) (.cons (.cmp .gt (.dget (.loc 2) (.cst (.int 0))) (.glob "MOST_GATES" (.int 3))) .nil))) (.cons .never
    .nil) .nil)
    .nil)))))
/-- 7, of 1 parameters, 1 slots -/
def c_is_step : Ss :=
  (.cons (.ret (.and_ (.cons (.isi (.loc 0) "str") (.cons (.cmp .eq (.bi .len (.cons (.loc 0) .nil)) (.cst (.int 2))) (.cons (.call 1 (.cons (.sub (.loc 0) (.cst (.int 0))) .nil)) (.cons (.cmp .in_ (.sub (.loc 0) (.cst (.int 1))) (.tup (.cons (.glob "RIGHT" (.str "r")) (.cons (.glob "CARRIED" (.str "c")) (.cons (.glob "WRONG" (.str "w")) .nil))))) .nil))))))
    .nil)
/-- 8, of 2 parameters, 2 slots -/
def c_is_next : Ss :=
  (.cons (.ret (.and_ (.cons (.call 7 (.cons (.loc 0) .nil)) (.cons (.or_ (.cons (.cmp .ne (.sub (.loc 0) (.cst (.int 1))) (.glob "CARRIED" (.str "c"))) (.cons (.loc 1) .nil))) .nil))))
    .nil)
/-- 9, of 1 parameters, 4 slots -/
def c_need_work : Ss :=
  (.cons (.asg (.name 1) (.cst (.bool false)))
    (.cons (.for_ (.tup [2, 3]) (.enum (.loc 0)) (.cons (.if_ (.or_ (.cons (.cmp .ge (.loc 2) (.glob "MOST_STEPS" (.int 12))) (.cons (.not_ (.call 8 (.cons (.loc 3) (.cons (.loc 1) .nil)))) .nil))) (.cons .never
    .nil) .nil)
    (.cons (.asg (.name 1) (.or_ (.cons (.loc 1) (.cons (.cmp .eq (.sub (.loc 3) (.cst (.int 1))) (.glob "WRONG" (.str "w"))) .nil))))
    .nil)))
    .nil))
/-- 22, of 1 parameters, 3 slots -/
def c_law_begun : Ss :=
  (.cons (.asg (.name 1) (.cst (.int 0)))
    (.cons (.for_ (.name 2) (.val (.loc 0)) (.cons (.asg (.name 1) (.bin .mod (.bin .add (.bin .add (.bin .mul (.loc 1) (.cst (.int 48271))) (.bin .mul (.loc 2) (.cst (.int 69621)))) (.cst (.int 11))) (.cst (.int 2147483647))))
    .nil))
    (.cons (.ret (.lst true (.cons (.bi .listM (.cons (.loc 0) .nil)) (.cons (.bin .mul (.loc 1) (.bi .int (.cons (.cmp .gt (.bi .len (.cons (.loc 0) .nil)) (.cst (.int 2))) .nil))) .nil))))
    .nil)))
/-- 23, of 2 parameters, 3 slots -/
def c_law_take : Ss :=
  (.cons (.if_ (.cmp .eq (.sub (.loc 0) (.cst (.int 0))) (.lst false .nil)) (.cons (.seti (.loc 0) (.cst (.int 1)) (.bin .mod (.bin .mul (.sub (.loc 0) (.cst (.int 1))) (.cst (.int 48271))) (.cst (.int 2147483647))))
    (.cons (.ret (.bin .mod (.bin .fdiv (.sub (.loc 0) (.cst (.int 1))) (.cst (.int 7))) (.loc 1)))
    .nil)) .nil)
    (.cons (.asg (.name 2) (.sub (.sub (.loc 0) (.cst (.int 0))) (.cst (.int 0))))
    (.cons (.seti (.sub (.loc 0) (.cst (.int 0))) (.cst (.int 0)) (.bin .fdiv (.loc 2) (.loc 1)))
    (.cons (.if_ (.or_ (.cons (.cmp .eq (.sub (.sub (.loc 0) (.cst (.int 0))) (.cst (.int 0))) (.cst (.int 0))) (.cons (.cmp .eq (.sub (.sub (.loc 0) (.cst (.int 0))) (.cst (.int 0))) (.neg (.cst (.int 1)))) .nil))) (.cons (.ex (.mt .popAt (.sub (.loc 0) (.cst (.int 0))) (.cons (.cst (.int 0)) .nil)))
    .nil) .nil)
    (.cons (.ret (.bin .mod (.loc 2) (.loc 1)))
    .nil)))))
/-- 24, of 2 parameters, 3 slots -/
def c_law_alike : Ss :=
  (.cons (.if_ (.cmp .is_ (.loc 1) (.cst .none)) (.cons (.ret (.cmp .is_ (.loc 0) (.cst .none)))
    .nil) .nil)
    (.cons (.if_ (.isi (.loc 1) "bool") (.cons (.ret (.and_ (.cons (.isi (.loc 0) "bool") (.cons (.cmp .eq (.loc 0) (.loc 1)) .nil))))
    .nil) .nil)
    (.cons (.if_ (.isi (.loc 1) "int") (.cons (.ret (.and_ (.cons (.isi (.loc 0) "int") (.cons (.not_ (.isi (.loc 0) "bool")) (.cons (.cmp .eq (.loc 0) (.loc 1)) .nil)))))
    .nil) .nil)
    (.cons (.if_ (.isi (.loc 1) "str") (.cons (.ret (.and_ (.cons (.isi (.loc 0) "str") (.cons (.cmp .eq (.loc 0) (.loc 1)) .nil))))
    .nil) .nil)
    (.cons (.if_ (.or_ (.cons (.cmp .ne (.isi (.loc 1) "tuple") (.isi (.loc 0) "tuple")) (.cons (.cmp .ne (.isi (.loc 1) "list") (.isi (.loc 0) "list")) .nil))) (.cons (.ret (.cst (.bool false)))
    .nil) .nil)
    (.cons (.if_ (.cmp .ne (.bi .len (.cons (.loc 0) .nil)) (.bi .len (.cons (.loc 1) .nil))) (.cons (.ret (.cst (.bool false)))
    .nil) .nil)
    (.cons (.for_ (.name 2) (.rng1 (.bi .len (.cons (.loc 1) .nil))) (.cons (.if_ (.not_ (.call 24 (.cons (.sub (.loc 0) (.loc 2)) (.cons (.sub (.loc 1) (.loc 2)) .nil)))) (.cons (.ret (.cst (.bool false)))
    .nil) .nil)
    .nil))
    (.cons (.ret (.cst (.bool true)))
    .nil))))))))
/-- 25, of 1 parameters, 4 slots -/
def c_law_letters : Ss :=
  (.cons (.par 1 2 (.bi .listM (.cons (.cst (.str "abcdefgh")) .nil)) (.lst true .nil))
    (.cons (.for_ (.name 3) (.rng1 (.bin .add (.cst (.int 2)) (.sub (.lst false (.cons (.call 23 (.cons (.loc 0) (.cons (.cst (.int 2)) .nil))) (.cons (.call 23 (.cons (.loc 0) (.cons (.cst (.int 7)) .nil))) .nil))) (.call 23 (.cons (.loc 0) (.cons (.cst (.int 2)) .nil)))))) (.cons (.ex (.mt .append (.loc 2) (.cons (.mt .popAt (.loc 1) (.cons (.call 23 (.cons (.loc 0) (.cons (.bi .len (.cons (.loc 1) .nil)) .nil))) .nil)) .nil)))
    .nil))
    (.cons (.ret (.frz (.loc 2)))
    .nil)))
/-- 26, of 5 parameters, 11 slots -/
def c_law_scheme : Ss :=
  (.cons (.seti (.loc 2) (.cst (.int 0)) (.bin .sub (.sub (.loc 2) (.cst (.int 0))) (.cst (.int 1))))
    (.cons (.asg (.name 5) (.sub (.loc 1) (.call 23 (.cons (.loc 0) (.cons (.bi .len (.cons (.loc 1) .nil)) .nil)))))
    (.cons (.asg (.name 6) (.call 23 (.cons (.loc 0) (.cons (.cst (.int 16)) .nil))))
    (.cons (.if_ (.or_ (.cons (.cmp .eq (.loc 3) (.cst (.int 0))) (.cons (.cmp .lt (.sub (.loc 2) (.cst (.int 0))) (.cst (.int 2))) (.cons (.cmp .lt (.sub (.loc 2) (.cst (.int 1))) (.cst (.int 2))) (.cons (.cmp .lt (.loc 6) (.cst (.int 3))) .nil))))) (.cons (.seti (.loc 2) (.cst (.int 1)) (.bin .sub (.sub (.loc 2) (.cst (.int 1))) (.cst (.int 1))))
    (.cons (.ret (.tup (.cons (.cst (.str "step")) (.cons (.loc 5) (.cons (.bin .add (.cst (.int 1)) (.call 23 (.cons (.loc 0) (.cons (.cst (.int 9)) .nil)))) .nil)))))
    .nil)) .nil)
    (.cons (.if_ (.cmp .eq (.loc 6) (.cst (.int 3))) (.cons (.asg (.name 7) (.lc false [8] (.name 8) (.val (.loc 4)) (.some (.and_ (.cons (.cmp .le (.sub (.loc 8) (.cst (.int 1))) (.sub (.loc 2) (.cst (.int 1)))) (.cons (.cmp .le (.sub (.loc 8) (.cst (.int 2))) (.sub (.loc 2) (.cst (.int 2)))) .nil)))) (.loc 8)))
    (.cons (.if_ (.cmp .ne (.loc 7) (.lst false .nil)) (.cons (.asg (.name 8) (.sub (.loc 7) (.call 23 (.cons (.loc 0) (.cons (.bi .len (.cons (.loc 7) .nil)) .nil)))))
    (.cons (.sti2 (.loc 2) (.cst (.int 1)) (.loc 2) (.cst (.int 2)) (.bin .sub (.sub (.loc 2) (.cst (.int 1))) (.sub (.loc 8) (.cst (.int 1)))) (.bin .sub (.sub (.loc 2) (.cst (.int 2))) (.sub (.loc 8) (.cst (.int 2)))))
    (.cons (.ret (.tup (.cons (.cst (.str "use")) (.cons (.sub (.loc 8) (.cst (.int 0))) .nil))))
    .nil))) .nil)
    .nil)) .nil)
    (.cons (.if_ (.cmp .lt (.loc 6) (.cst (.int 9))) (.cons (.asg (.name 9) (.lst true .nil))
    (.cons (.for_ (.name 10) (.rng1 (.bin .add (.cst (.int 1)) (.call 23 (.cons (.loc 0) (.cons (.cst (.int 4)) .nil))))) (.cons (.if_ (.and_ (.cons (.cmp .gt (.sub (.loc 2) (.cst (.int 0))) (.cst (.int 0))) (.cons (.cmp .gt (.sub (.loc 2) (.cst (.int 1))) (.cst (.int 0))) .nil))) (.cons (.ex (.mt .append (.loc 9) (.cons (.call 26 (.cons (.loc 0) (.cons (.loc 1) (.cons (.loc 2) (.cons (.bin .sub (.loc 3) (.cst (.int 1))) (.cons (.loc 4) .nil)))))) .nil)))
    .nil) .nil)
    .nil))
    (.cons (.ret (.tup (.cons (.sub (.lst false (.cons (.cst (.str "all")) (.cons (.cst (.str "best")) .nil))) (.bin .mod (.loc 6) (.cst (.int 2)))) (.cons (.bi .tuple (.cons (.loc 9) .nil)) .nil))))
    .nil))) .nil)
    (.cons (.if_ (.and_ (.cons (.cmp .lt (.loc 6) (.cst (.int 12))) (.cons (.cmp .gt (.sub (.loc 2) (.cst (.int 2))) (.cst (.int 0))) .nil))) (.cons (.seti (.loc 2) (.cst (.int 2)) (.bin .sub (.sub (.loc 2) (.cst (.int 2))) (.cst (.int 1))))
    (.cons (.ret (.tup (.cons (.sub (.lst false (.cons (.cst (.str "seen")) (.cons (.cst (.str "behind")) .nil))) (.bin .mod (.loc 6) (.cst (.int 2)))) (.cons (.loc 5) (.cons (.call 26 (.cons (.loc 0) (.cons (.loc 1) (.cons (.loc 2) (.cons (.bin .sub (.loc 3) (.cst (.int 1))) (.cons (.loc 4) .nil)))))) .nil)))))
    .nil)) .nil)
    (.cons (.if_ (.and_ (.cons (.cmp .eq (.loc 6) (.cst (.int 12))) (.cons (.cmp .gt (.sub (.loc 2) (.cst (.int 1))) (.cst (.int 1))) .nil))) (.cons (.seti (.loc 2) (.cst (.int 1)) (.bin .sub (.sub (.loc 2) (.cst (.int 1))) (.cst (.int 1))))
    (.cons (.ret (.tup (.cons (.cst (.str "end")) (.cons (.loc 5) (.cons (.bin .add (.cst (.int 1)) (.call 23 (.cons (.loc 0) (.cons (.cst (.int 9)) .nil)))) (.cons (.call 26 (.cons (.loc 0) (.cons (.loc 1) (.cons (.loc 2) (.cons (.bin .sub (.loc 3) (.cst (.int 1))) (.cons (.loc 4) .nil)))))) .nil))))))
    .nil)) .nil)
    (.cons (.if_ (.cmp .eq (.loc 6) (.cst (.int 13))) (.cons (.ret (.tup (.cons (.cst (.str "most")) (.cons (.call 23 (.cons (.loc 0) (.cons (.sub (.lst false (.cons (.cst (.int 4)) (.cons (.cst (.int 12)) (.cons (.cst (.int 31)) .nil)))) (.call 23 (.cons (.loc 0) (.cons (.cst (.int 3)) .nil)))) .nil))) (.cons (.call 26 (.cons (.loc 0) (.cons (.loc 1) (.cons (.loc 2) (.cons (.bin .sub (.loc 3) (.cst (.int 1))) (.cons (.loc 4) .nil)))))) .nil)))))
    .nil) .nil)
    (.cons (.ret (.tup (.cons (.sub (.lst false (.cons (.cst (.str "half")) (.cons (.cst (.str "carry")) .nil))) (.bin .mod (.loc 6) (.cst (.int 2)))) (.cons (.call 26 (.cons (.loc 0) (.cons (.loc 1) (.cons (.loc 2) (.cons (.bin .sub (.loc 3) (.cst (.int 1))) (.cons (.loc 4) .nil)))))) .nil))))
    .nil))))))))))
/-- 27, of 2 parameters, 6 slots -/
def c_law_counted : Ss :=
  (.cons (.if_ (.cmp .eq (.sub (.loc 0) (.cst (.int 0))) (.cst (.str "use"))) (.cons (.ret (.sub (.lc false [2] (.name 2) (.val (.loc 1)) (.some (.cmp .eq (.sub (.loc 2) (.cst (.int 0))) (.sub (.loc 0) (.cst (.int 1))))) (.slice (.loc 2) (.some (.cst (.int 1))) .none)) (.cst (.int 0))))
    .nil) .nil)
    (.cons (.asg (.name 3) (.lst false (.cons (.bi .int (.cons (.cmp .in_ (.sub (.loc 0) (.cst (.int 0))) (.tup (.cons (.cst (.str "step")) (.cons (.cst (.str "end")) .nil)))) .nil)) (.cons (.bi .int (.cons (.cmp .in_ (.sub (.loc 0) (.cst (.int 0))) (.tup (.cons (.cst (.str "seen")) (.cons (.cst (.str "behind")) .nil)))) .nil)) .nil))))
    (.cons (.for_ (.name 4) (.val (.ite (.cmp .in_ (.sub (.loc 0) (.cst (.int 0))) (.tup (.cons (.cst (.str "all")) (.cons (.cst (.str "best")) .nil)))) (.sub (.loc 0) (.cst (.int 1))) (.slice (.loc 0) (.some (.neg (.cst (.int 1)))) .none))) (.cons (.if_ (.isi (.loc 4) "tuple") (.cons (.asg (.name 5) (.call 27 (.cons (.loc 4) (.cons (.loc 1) .nil))))
    (.cons (.asg (.name 3) (.lst false (.cons (.bin .add (.sub (.loc 3) (.cst (.int 0))) (.sub (.loc 5) (.cst (.int 0)))) (.cons (.bin .add (.sub (.loc 3) (.cst (.int 1))) (.sub (.loc 5) (.cst (.int 1)))) .nil))))
    .nil)) .nil)
    .nil))
    (.cons (.ret (.bi .tuple (.cons (.loc 3) .nil)))
    .nil))))
/-- 28, of 2 parameters, 13 slots -/
def c_law_paper : Ss :=
  (.cons (.if_ (.cmp .eq (.call 23 (.cons (.loc 0) (.cons (.cst (.int 12)) .nil))) (.cst (.int 11))) (.cons (.par 2 3 (.bi .listM (.cons (.cst (.str "abcdefgh")) .nil)) (.lst true .nil))
    (.cons (.for_ (.name 4) (.rng1 (.bin .add (.cst (.int 6)) (.call 23 (.cons (.loc 0) (.cons (.cst (.int 3)) .nil))))) (.cons (.ex (.mt .append (.loc 3) (.cons (.mt .popAt (.loc 2) (.cons (.call 23 (.cons (.loc 0) (.cons (.bi .len (.cons (.loc 2) .nil)) .nil))) .nil)) .nil)))
    .nil))
    (.cons (.asg (.name 5) (.lc false [6] (.name 6) (.val (.slice (.loc 3) .none (.some (.cst (.int 7))))) .none (.tup (.cons (.cst (.str "step")) (.cons (.loc 6) (.cons (.bin .add (.cst (.int 1)) (.call 23 (.cons (.loc 0) (.cons (.cst (.int 9)) .nil)))) .nil))))))
    (.cons (.asg (.name 7) (.tup (.cons (.cst (.str "all")) (.cons (.tup (.cons (.tup (.cons (.cst (.str "all")) (.cons (.bi .tuple (.cons (.slice (.loc 5) .none (.some (.cst (.int 4)))) .nil)) .nil))) (.cons (.tup (.cons (.cst (.str "best")) (.cons (.bi .tuple (.cons (.slice (.loc 5) (.some (.cst (.int 4))) .none) .nil)) .nil))) .nil))) .nil))))
    (.cons (.ret (.tup (.cons (.ite (.cmp .gt (.bi .len (.cons (.loc 3) .nil)) (.cst (.int 7))) (.tup (.cons (.cst (.str "seen")) (.cons (.sub (.loc 3) (.cst (.int 7))) (.cons (.loc 7) .nil)))) (.loc 7)) .nil)))
    .nil))))) .nil)
    (.cons (.asg (.name 8) (.bin .add (.cst (.int 1)) (.sub (.lst false (.cons (.cst (.int 0)) (.cons (.call 23 (.cons (.loc 0) (.cons (.cst (.int 3)) .nil))) (.cons (.call 23 (.cons (.loc 0) (.cons (.cst (.int 5)) .nil))) .nil)))) (.call 23 (.cons (.loc 0) (.cons (.cst (.int 3)) .nil))))))
    (.cons (.par 9 10 (.lst false .nil) (.lst false .nil))
    (.cons (.for_ (.name 11) (.rng3 (.bin .sub (.loc 8) (.cst (.int 1))) (.neg (.cst (.int 1))) (.neg (.cst (.int 1)))) (.cons (.asg (.name 2) (.lst true (.cons (.sub (.lst false (.cons (.cst (.int 4)) (.cons (.cst (.int 8)) (.cons (.cst (.int 12)) .nil)))) (.call 23 (.cons (.loc 0) (.cons (.cst (.int 3)) .nil)))) (.cons (.sub (.lst false (.cons (.cst (.int 2)) (.cons (.cst (.int 4)) (.cons (.cst (.int 7)) .nil)))) (.call 23 (.cons (.loc 0) (.cons (.cst (.int 3)) .nil)))) (.cons (.sub (.lst false (.cons (.cst (.int 1)) (.cons (.cst (.int 3)) .nil))) (.call 23 (.cons (.loc 0) (.cons (.cst (.int 2)) .nil)))) .nil)))))
    (.cons (.asg (.name 12) (.call 26 (.cons (.loc 0) (.cons (.loc 1) (.cons (.loc 2) (.cons (.cst (.int 4)) (.cons (.loc 10) .nil)))))))
    (.cons (.asg (.name 9) (.bin .add (.lst false (.cons (.loc 12) .nil)) (.loc 9)))
    (.cons (.asg (.name 10) (.bin .add (.loc 10) (.lst false (.cons (.bin .add (.tup (.cons (.loc 11) .nil)) (.bi .tuple (.cons (.call 27 (.cons (.loc 12) (.cons (.loc 10) .nil))) .nil))) .nil))))
    .nil)))))
    (.cons (.ret (.bi .tuple (.cons (.loc 9) .nil)))
    .nil)))))
/-- 29, of 3 parameters, 4 slots -/
def c_law_step : Ss :=
  (.cons (.asg (.name 3) (.sub (.lst false (.cons (.cst (.str "r")) (.cons (.cst (.str "w")) (.cons (.cst (.str "r")) (.cons (.cst (.str "c")) .nil))))) (.call 23 (.cons (.loc 0) (.cons (.cst (.int 4)) .nil)))))
    (.cons (.ret (.bin .add (.sub (.loc 1) (.call 23 (.cons (.loc 0) (.cons (.bi .len (.cons (.loc 1) .nil)) .nil)))) (.ite (.or_ (.cons (.cmp .ne (.loc 3) (.cst (.str "c"))) (.cons (.loc 2) .nil))) (.loc 3) (.cst (.str "w")))))
    .nil))
/-- 30, of 3 parameters, 6 slots -/
def c_law_work : Ss :=
  (.cons (.asg (.name 3) (.lst true .nil))
    (.cons (.for_ (.name 4) (.rng1 (.call 23 (.cons (.loc 0) (.cons (.bin .add (.loc 2) (.cst (.int 1))) .nil)))) (.cons (.ex (.mt .append (.loc 3) (.cons (.call 29 (.cons (.loc 0) (.cons (.loc 1) (.cons (.bi .any (.cons (.lc false [5] (.name 5) (.val (.loc 3)) .none (.cmp .eq (.sub (.loc 5) (.cst (.int 1))) (.cst (.str "w")))) .nil)) .nil)))) .nil)))
    .nil))
    (.cons (.ret (.frz (.loc 3)))
    .nil)))
/-- 31, of 1 parameters, 5 slots -/
def c_words_by : Ss :=
  (.cons (.asg (.name 1) (.lst true (.cons (.sub (.loc 0) (.cst (.int 0))) .nil)))
    (.cons (.for_ (.tup [2, 3]) (.zip (.slice (.loc 0) (.some (.cst (.int 1))) .none) (.shp "SHAPES" shSHAPES (.sub (.loc 0) (.cst (.int 0))))) (.cons (.if_ (.cmp .eq (.loc 3) (.cst (.str "m"))) (.cons (.ex (.mt .append (.loc 1) (.cons (.bi .str (.cons (.bi .len (.cons (.loc 2) .nil)) .nil)) .nil)))
    (.cons (.for_ (.name 4) (.val (.loc 2)) (.cons (.aug 1 .add (.call 31 (.cons (.loc 4) .nil)))
    .nil))
    .nil)) (.cons (.if_ (.cmp .eq (.loc 3) (.cst (.str "s"))) (.cons (.aug 1 .add (.call 31 (.cons (.loc 2) .nil)))
    .nil) (.cons (.ex (.mt .append (.loc 1) (.cons (.bi .str (.cons (.loc 2) .nil)) .nil)))
    .nil))
    .nil))
    .nil))
    (.cons (.ret (.frz (.loc 1)))
    .nil)))
/-- 32, of 1 parameters, 2 slots -/
def c_written : Ss :=
  (.cons (.ex (.call 6 (.cons (.loc 0) .nil)))
    (.cons (.ret (.mt .join (.glob "LINE" (.str "\n")) (.cons (.lc false [1] (.name 1) (.val (.loc 0)) .none (.mt .join (.cst (.str " ")) (.cons (.call 31 (.cons (.loc 1) .nil)) .nil))) .nil)))
    .nil))
/-- 33, of 3 parameters, 3 slots -/
def c_Words___init : Ss :=
  (.cons (.fset "Words" (.loc 0) "words" (.mt .split (.loc 1) (.cons (.cst (.str " ")) .nil)))
    (.cons (.fset "Words" (.loc 0) "at" (.cst (.int 0)))
    (.cons (.fset "Words" (.loc 0) "ahead" (.loc 2))
    .nil)))
/-- 34, of 1 parameters, 1 slots -/
def c_Words_next_one : Ss :=
  (.cons (.if_ (.cmp .eq (.fld "Words" (.loc 0) "at") (.bi .len (.cons (.fld "Words" (.loc 0) "words") .nil))) (.cons .never
    .nil) .nil)
    (.cons (.faug "Words" (.loc 0) "at" .add (.cst (.int 1)))
    (.cons (.ret (.sub (.fld "Words" (.loc 0) "words") (.bin .sub (.fld "Words" (.loc 0) "at") (.cst (.int 1)))))
    .nil)))
/-- 35, of 1 parameters, 1 slots -/
def c_Words_spot : Ss :=
  (.cons (.ret (.bin .sub (.bin .add (.fld "Words" (.loc 0) "ahead") (.fld "Words" (.loc 0) "at")) (.cst (.int 1))))
    .nil)
/-- 36, of 1 parameters, 3 slots -/
def c_Words_figures : Ss :=
  (.cons (.asg (.name 1) (.meth 34 "Words" "next_one" (.loc 0) .nil))
    (.cons (.if_ (.or_ (.cons (.not_ (.chain .le .le (.cst (.int 1)) (.bi .len (.cons (.loc 1) .nil)) (.cst (.int 2)))) (.cons (.not_ (.bi .all (.cons (.lc false [2] (.name 2) (.val (.loc 1)) .none (.cmp .in_ (.loc 2) (.glob "FIGURES" (.str "0123456789")))) .nil))) (.cons (.and_ (.cons (.cmp .eq (.sub (.loc 1) (.cst (.int 0))) (.cst (.str "0"))) (.cons (.cmp .ne (.loc 1) (.cst (.str "0"))) .nil))) .nil)))) (.cons .never
    .nil) .nil)
    (.cons (.ret (.bi .int (.cons (.loc 1) .nil)))
    .nil)))
/-- 37, of 1 parameters, 6 slots -/
def c_Words_next_scheme : Ss :=
  (.cons (.asg (.name 1) (.meth 34 "Words" "next_one" (.loc 0) .nil))
    (.cons (.if_ (.shpin true "SHAPES" shSHAPES (.loc 1)) (.cons .never
    .nil) .nil)
    (.cons (.asg (.name 2) (.lst true (.cons (.loc 1) .nil)))
    (.cons (.for_ (.name 3) (.val (.shp "SHAPES" shSHAPES (.loc 1))) (.cons (.if_ (.cmp .eq (.loc 3) (.cst (.str "w"))) (.cons (.ex (.mt .append (.loc 2) (.cons (.meth 34 "Words" "next_one" (.loc 0) .nil) .nil)))
    (.cons (.if_ (.not_ (.call 1 (.cons (.sub (.loc 2) (.neg (.cst (.int 1)))) .nil))) (.cons .never
    .nil) .nil)
    .nil)) (.cons (.if_ (.cmp .eq (.loc 3) (.cst (.str "m"))) (.cons (.asg (.name 4) (.meth 36 "Words" "figures" (.loc 0) .nil))
    (.cons (.ex (.mt .append (.loc 2) (.cons (.bi .tuple (.cons (.lc false [5] (.name 5) (.rng1 (.loc 4)) .none (.meth 37 "Words" "next_scheme" (.loc 0) .nil)) .nil)) .nil)))
    .nil)) (.cons (.ex (.mt .append (.loc 2) (.cons (.ite (.cmp .eq (.loc 3) (.cst (.str "s"))) (.meth 37 "Words" "next_scheme" (.loc 0) .nil) (.meth 36 "Words" "figures" (.loc 0) .nil)) .nil)))
    .nil))
    .nil))
    .nil))
    (.cons (.ret (.bi .tuple (.cons (.loc 2) .nil)))
    .nil)))))
/-- 38, of 1 parameters, 2 slots -/
def c_Words_whole : Ss :=
  (.cons (.asg (.name 1) (.meth 37 "Words" "next_scheme" (.loc 0) .nil))
    (.cons (.if_ (.cmp .lt (.fld "Words" (.loc 0) "at") (.bi .len (.cons (.fld "Words" (.loc 0) "words") .nil))) (.cons .never
    .nil) .nil)
    (.cons (.ret (.loc 1))
    .nil)))
/-- 39, of 1 parameters, 5 slots -/
def c_read : Ss :=
  (.cons (.asg (.name 1) (.lst true .nil))
    (.cons (.asg (.name 2) (.cst (.int 0)))
    (.cons (.for_ (.name 3) (.val (.mt .split (.loc 0) (.cons (.glob "LINE" (.str "\n")) .nil))) (.cons (.asg (.name 4) (.make 33 "Words" (.cons (.loc 3) (.cons (.loc 2) .nil))))
    (.cons (.ex (.mt .append (.loc 1) (.cons (.meth 38 "Words" "whole" (.loc 4) .nil) .nil)))
    (.cons (.aug 2 .add (.bi .len (.cons (.fld "Words" (.loc 4) "words") .nil)))
    .nil))))
    (.cons (.ex (.call 6 (.cons (.bi .tuple (.cons (.loc 1) .nil)) .nil)))
    (.cons (.ret (.bi .tuple (.cons (.loc 1) .nil)))
    .nil)))))
/-- 40, of 1 parameters, 1 slots -/
def c_written_work : Ss :=
  (.cons (.ex (.call 9 (.cons (.loc 0) .nil)))
    (.cons (.ret (.mt .join (.cst (.str " ")) (.cons (.loc 0) .nil)))
    .nil))
/-- 41, of 1 parameters, 4 slots -/
def c_read_work : Ss :=
  (.cons (.asg (.name 1) (.lst true .nil))
    (.cons (.for_ (.tup [2, 3]) (.enum (.ite (.cmp .ne (.loc 0) (.cst (.str ""))) (.mt .split (.loc 0) (.cons (.cst (.str " ")) .nil)) (.lst false .nil))) (.cons (.if_ (.not_ (.call 7 (.cons (.loc 3) .nil))) (.cons .never
    .nil) .nil)
    (.cons (.ex (.mt .append (.loc 1) (.cons (.loc 3) .nil)))
    .nil)))
    (.cons (.ex (.call 9 (.cons (.loc 1) .nil)))
    (.cons (.ret (.loc 1))
    .nil))))
end Cod
end
section
set_option Elab.async false
set_option linter.all false
set_option maxRecDepth 100000
set_option maxHeartbeats 1000000
/-! Plain laws over the interpreter: what code comes to, the box of draws hidden. -/
namespace Ev
open PySem L2 Ms
theorem bnd_ok {α β : Type} {m : M α} {k : α → M β} {η η' : List Cell} {a : α} (h : m η = .ok a η') : bnd m k η = k a η' := by
  unfold bnd
  rw [h]
  rfl
theorem bnd_ret {α β : Type} (a : α) (k : α → M β) : bnd (Ms.ret a) k = k a := rfl
theorem fromO_some (d : D) : fromO (some d) = Ms.ret d := rfl
theorem asB_bl (b : Bool) : asB (Ms.ret (.bl b)) = Ms.ret b := rfl
theorem asB_bnd {α : Type} (m : M α) (k : α → M D) : asB (bnd m k) = bnd m fun a => asB (k a) := bnd_assoc _ _ _
theorem asB_ite (b : Bool) (m n : M D) : asB (if b = true then m else n) = if b = true then asB m else asB n := by
  cases b <;> rfl
theorem evSs_step (cf : Nat → List D → M D) (st : S) (r : Ss) (ρ : Ms.Env) : evSs cf (.cons st r) ρ = bnd (evS cf st ρ) fun fl => match fl with
    | .nx ρ' => evSs cf r ρ'
    | .rt d => Ms.ret (.rt d) := by
  conv => lhs; unfold evSs
  all_goals congr 1
theorem evSs_nil (cf : Nat → List D → M D) (ρ : Ms.Env) : evSs cf .nil ρ = Ms.ret (.nx ρ) := by simp only [evSs]
/-! ### the box -/
def intsD (l : List Int) : List D := l.map D.int
structure Seed (s : Int) : Prop where
  lo : 0 ≤ s
  hi : s < 2147483647
structure OkB (l : List Int) (s : Int) : Prop extends Seed s where
  len : l.length ≤ 64
/-- p: what stands ahead of the box -/
def boxed (p : List Cell) (l : List Int) (s : Int) (rest : List Cell) : List Cell := p ++ (.lst (intsD l) :: .lst [.ref p.length, .int s] :: rest)
abbrev bx (p : List Cell) : D := .ref (p.length + 1)
theorem boxed_0 {p : List Cell} {l : List Int} {s : Int} {rest : List Cell} : (boxed p l s rest)[p.length]? = some (.lst (intsD l)) := by
  unfold boxed
  rw [List.getElem?_append_right (Nat.le_refl _), Nat.sub_self]
  rfl
theorem boxed_1 {p : List Cell} {l : List Int} {s : Int} {rest : List Cell} : (boxed p l s rest)[p.length + 1]? = some (.lst [.ref p.length, .int s]) := by
  unfold boxed
  rw [List.getElem?_append_right (Nat.le_succ _), show p.length + 1 - p.length = 1 by omega]
  rfl
theorem boxed_n {p : List Cell} {l : List Int} {s : Int} {rest : List Cell} (n : Nat) : (boxed p l s rest)[p.length + 2 + n]? = rest[n]? := by
  unfold boxed
  rw [List.getElem?_append_right (by omega)]
  have e : p.length + 2 + n - p.length = n + 2 := by omega
  rw [e]
  rfl
theorem boxed_len {p : List Cell} {l : List Int} {s : Int} {rest : List Cell} : (boxed p l s rest).length = p.length + 2 + rest.length := by
  simp [boxed]
  omega
theorem boxed_snoc {p : List Cell} {l : List Int} {s : Int} {rest : List Cell} {c : Cell} : boxed p l s rest ++ [c] = boxed p l s (rest ++ [c]) := by
  simp [boxed]
theorem boxed_app {p : List Cell} {l : List Int} {s : Int} {rest ex : List Cell} : boxed p l s rest ++ ex = boxed p l s (rest ++ ex) := by
  simp [boxed]
theorem boxed_set {p : List Cell} {l : List Int} {s : Int} {rest : List Cell} {n : Nat} {c : Cell} : (boxed p l s rest).set (p.length + 2 + n) c = boxed p l s (rest.set n c) := by
  unfold boxed
  rw [List.set_append_right _ _ (by omega)]
  have e : p.length + 2 + n - p.length = n + 2 := by omega
  rw [e]
  rfl
theorem boxed_set0 {p : List Cell} {l l2 : List Int} {s : Int} {rest : List Cell} : (boxed p l s rest).set p.length (.lst (intsD l2)) = boxed p l2 s rest := by
  unfold boxed
  rw [List.set_append_right _ _ (Nat.le_refl _), Nat.sub_self]
  rfl
theorem boxed_set1 {p : List Cell} {l : List Int} {s s2 : Int} {rest : List Cell} : (boxed p l s rest).set (p.length + 1) (.lst [.ref p.length, .int s2]) = boxed p l s2 rest := by
  unfold boxed
  rw [List.set_append_right _ _ (Nat.le_succ _), show p.length + 1 - p.length = 1 by omega]
  rfl
/-! ### what it comes to -/
def Ev {α : Type} (p : List Cell) (m : M α) (rest : List Cell) (Q : α → List Cell → Prop) : Prop :=
  ∀ l s, OkB l s → ∃ a l2 s2 rest2, OkB l2 s2 ∧ m (boxed p l s rest) = .ok a (boxed p l2 s2 rest2) ∧ Q a rest2
section
variable {α β : Type} {p rest : List Cell}
theorem Ev.ret {a : α} {Q : α → List Cell → Prop} (h : Q a rest) : Ev p (Ms.ret a) rest Q := fun l s o => ⟨a, l, s, rest, o, rfl, h⟩
theorem Ev.bnd {m : M α} {k : α → M β} {Q : β → List Cell → Prop} (h : Ev p m rest fun a r => Ev p (k a) r Q) : Ev p (Ms.bnd m k) rest Q := fun l s o => by
  obtain ⟨a, l2, s2, r2, o2, e, q⟩ := h l s o
  obtain ⟨b, l3, s3, r3, o3, e3, q3⟩ := q l2 s2 o2
  exact ⟨b, l3, s3, r3, o3, (bnd_ok e).trans e3, q3⟩
theorem Ev.imp {m : M α} {Q Q' : α → List Cell → Prop} (h : Ev p m rest Q) (hi : ∀ a r, Q a r → Q' a r) : Ev p m rest Q' := fun l s o => by
  obtain ⟨a, l2, s2, r2, o2, e, q⟩ := h l s o
  exact ⟨a, l2, s2, r2, o2, e, hi _ _ q⟩
/-- then -/
theorem Ev.then {m : M α} {k : α → M β} {R : α → List Cell → Prop} {Q : β → List Cell → Prop} (h : Ev p m rest R) (hk : ∀ a r, R a r → Ev p (k a) r Q) : Ev p (Ms.bnd m k) rest Q := .bnd (h.imp hk)
/-- a step that only looks, or changes what is behind the box -/
theorem Ev.at_ {m : M α} {a : α} {rest2 : List Cell} {Q : α → List Cell → Prop} (h : ∀ l s, m (boxed p l s rest) = .ok a (boxed p l s rest2)) (q : Q a rest2) : Ev p m rest Q := fun l s o => ⟨a, l, s, rest2, o, h l s, q⟩
theorem Ev.step {m : M α} {a : α} {k : α → M β} {rest2 : List Cell} {Q : β → List Cell → Prop} (h : ∀ l s, m (boxed p l s rest) = .ok a (boxed p l s rest2)) (q : Ev p (k a) rest2 Q) : Ev p (Ms.bnd m k) rest Q := .bnd (.at_ h q)
theorem Ev.asB {m : M D} {R : D → List Cell → Prop} {Q : Bool → List Cell → Prop} (h : Ev p m rest fun d r => ∃ b, d = .bl b ∧ Q b r) : Ev p (Ms.asB m) rest Q := by
  refine .bnd (h.imp fun d r q => ?_)
  obtain ⟨b, rfl, q⟩ := q
  exact .ret q
end
/-! ### data without cells -/
mutual
def frozen : D → Bool
  | .tup xs => frozens xs
  | .fl xs => frozens xs
  | .scr xs => frozens xs
  | .ref _ => false
  | _ => true
def frozens : List D → Bool
  | [] => true
  | d :: r => frozen d && frozens r
end
mutual
theorem frozen_under (n : Nat) : ∀ {d : D}, frozen d = true → dUnder n d = true
  | .tup xs, h => by
    rw [dUnder]
    exact frozens_under n (by simpa [frozen] using h)
  | .fl xs, h => by
    rw [dUnder]
    exact frozens_under n (by simpa [frozen] using h)
  | .scr xs, h => by
    rw [dUnder]
    exact frozens_under n (by simpa [frozen] using h)
  | .ref _, h => by simp [frozen] at h
  | .non, _ => rfl
  | .bl _, _ => rfl
  | .int _, _ => rfl
  | .str _, _ => rfl
theorem frozens_under (n : Nat) : ∀ {ds : List D}, frozens ds = true → dUnders n ds = true
  | [], _ => rfl
  | d :: r, h => by
    simp only [frozens, Bool.and_eq_true] at h
    rw [dUnders, frozen_under n h.1, frozens_under n h.2]
    rfl
end
theorem frozens_app : ∀ {a b : List D}, frozens (a ++ b) = (frozens a && frozens b)
  | [], b => by simp [frozens]
  | d :: r, b => by simp [frozens, frozens_app (a := r), Bool.and_assoc]
theorem frozens_map {α : Type} {f : α → D} (h : ∀ a, frozen (f a) = true) : ∀ l : List α, frozens (l.map f) = true
  | [] => rfl
  | a :: l => by rw [List.map_cons, frozens, h a, frozens_map h l]; rfl
theorem frozens_mapM {α : Type} {f : α → D} : ∀ {l : List α}, (∀ a ∈ l, frozen (f a) = true) → frozens (l.map f) = true
  | [], _ => rfl
  | a :: l, h => by rw [List.map_cons, frozens, h a List.mem_cons_self, frozens_mapM fun b hb => h b (List.mem_cons_of_mem _ hb)]; rfl
/-- cells that name no cell -/
def flatC : Cell → Bool
  | .lst xs => frozens xs
  | .dic kvs => frozens (kvs.map (·.2))
  | .dit kvs => frozens (kvs.map (·.2))
  | .ins _ fs => frozens (fs.map (·.2))
  | .tab _ _ => true
  | .dead => true
def flatCs (r : List Cell) : Bool := r.all flatC
theorem flatC_under (n : Nat) {c : Cell} (h : flatC c = true) : cUnder n c = true := by
  cases c <;> first | rfl | exact frozens_under n h
theorem flatCs_app {a b : List Cell} : flatCs (a ++ b) = (flatCs a && flatCs b) := List.all_append
/-- what a call gives: data without cells, the cells that were there -/
structure At (T : List FD) (f : Nat) (code : Ss) (np nN : Nat) : Prop where
  ex : ∃ fd, T[f]? = some fd ∧ fd.code = code ∧ fd.ps.length = np ∧ fd.N.length = nN
theorem evF_at {T : List FD} {k f np nN : Nat} {code : Ss} {ds : List D} {η : List Cell} (h : At T f code np nN) (hl : ds.length = np) : evF T (k + 1) f ds η = trunc η.length (runB (evSs (evF T k) code (startD nN ds) η)) := by
  obtain ⟨fd, h1, h2, h3, h4⟩ := h.ex
  conv => lhs; unfold evF
  simp only [h1, h3, hl, if_true, h2, h4]
/-- behind a def's body -/
def retD : Fl → D
  | .nx _ => .non
  | .rt d => d
theorem runB_ok {fl : Fl} {η : List Cell} : runB (.ok fl η) = .ok (retD fl) η := by cases fl <;> rfl
theorem Ev.call {T : List FD} {p rest : List Cell} {k f np nN : Nat} {code : Ss} {ds : List D} {Q : D → List Cell → Prop} (h : At T f code np nN) (hl : ds.length = np) (hp : flatCs p = true)
    (b : Ev p (evSs (evF T k) code (startD nN ds)) rest fun fl r => ∃ r1 ex, r = r1 ++ ex ∧ r1.length = rest.length ∧ flatCs r1 = true ∧ frozen (retD fl) = true ∧ Q (retD fl) r1) : Ev p (evF T (k + 1) f ds) rest Q := fun l s o => by
  obtain ⟨fl, l2, s2, r2, o2, e, r1, ex, rfl, hn, hf, hd, q⟩ := b l s o
  refine ⟨retD fl, l2, s2, r1, o2, ?_, q⟩
  rw [evF_at h hl, e, runB_ok, boxed_len]
  have e2 : (boxed p l2 s2 (r1 ++ ex)).take (p.length + 2 + rest.length) = boxed p l2 s2 r1 := by
    rw [← boxed_app, ← hn, ← boxed_len (p := p) (l := l2) (s := s2) (rest := r1)]
    exact List.take_left
  have u : ((boxed p l2 s2 (r1 ++ ex)).take (p.length + 2 + rest.length)).all (cUnder (p.length + 2 + rest.length)) = true := by
    rw [e2]
    unfold boxed
    rw [List.all_append, List.all_cons, List.all_cons]
    have h1 : p.all (cUnder (p.length + 2 + rest.length)) = true := List.all_eq_true.mpr fun c hc => flatC_under _ (List.all_eq_true.mp hp c hc)
    have h2 : r1.all (cUnder (p.length + 2 + rest.length)) = true := List.all_eq_true.mpr fun c hc => flatC_under _ (List.all_eq_true.mp hf c hc)
    have h3 : cUnder (p.length + 2 + rest.length) (.lst (intsD l2)) = true := frozens_under _ (frozens_map (fun _ => rfl) l2)
    have h4 : cUnder (p.length + 2 + rest.length) (.lst [.ref p.length, .int s2]) = true := by
      simp only [cUnder, dUnders, dUnder, Bool.and_true, decide_eq_true_eq]
      omega
    rw [h1, h2, h3, h4]
    rfl
  unfold trunc
  try dsimp only
  rw [if_pos ⟨by rw [boxed_len, List.length_append]; omega, frozen_under _ hd, u⟩, e2]
/-- a def that changes nothing -/
theorem Ev.call0 {T : List FD} {p rest : List Cell} {k f np nN : Nat} {code : Ss} {ds : List D} {Q : D → List Cell → Prop} (h : At T f code np nN) (hl : ds.length = np) (hp : flatCs p = true) (hr : flatCs rest = true)
    (b : Ev p (evSs (evF T k) code (startD nN ds)) rest fun fl r => rest <+: r ∧ frozen (retD fl) = true ∧ Q (retD fl) rest) : Ev p (evF T (k + 1) f ds) rest Q := by
  refine .call h hl hp (b.imp fun fl r q => ?_)
  obtain ⟨⟨ex, rfl⟩, hd, q⟩ := q
  exact ⟨rest, ex, rfl, rfl, hr, hd, q⟩
/-! ### walks -/
theorem Ev.forN {p : List Cell} {bind : D → Ms.Env → Option Ms.Env} {body : Ms.Env → M Fl} {Q : Fl → List Cell → Prop} (I : List D → Ms.Env → List Cell → Prop) : ∀ {xs : List D} {ρ : Ms.Env} {rest : List Cell}, I xs ρ rest →
    (∀ d xs ρ r, I (d :: xs) ρ r → ∃ ρ2, bind d ρ = some ρ2 ∧ Ev p (body ρ2) r fun fl r2 => match fl with
      | .nx ρ3 => I xs ρ3 r2
      | .rt v => Q (.rt v) r2) → (∀ ρ r, I [] ρ r → Q (.nx ρ) r) → Ev p (forL [] bind body xs ρ) rest Q
  | [], ρ, rest, h0, hs, he => by
    unfold forL
    exact .step (fun l s => rfl) (.ret (he _ _ h0))
  | d :: xs, ρ, rest, h0, hs, he => by
    obtain ⟨ρ2, h1, h2⟩ := hs d xs ρ rest h0
    unfold forL
    refine .step (fun l s => rfl) ?_
    rw [h1]
    refine .bnd (h2.imp fun fl r q => ?_)
    cases fl with
    | nx ρ3 => exact Ev.forN I q hs he
    | rt v => exact .ret q
/-- a comprehension over what can't change: each turn gives one, or none -/
theorem Ev.lcN {p : List Cell} {bind : D → Option Ms.Env} {cond : Ms.Env → M Bool} {elt : Ms.Env → M D} {Q : List D → List Cell → Prop} (I : List D → List D → List Cell → Prop) : ∀ {xs acc : List D} {rest : List Cell}, I xs acc rest → acc.length + xs.length ≤ 100000 →
    (∀ d xs acc r, I (d :: xs) acc r → ∃ ρ, bind d = some ρ ∧ Ev p (cond ρ) r fun b r2 => if b = true then Ev p (elt ρ) r2 fun y r3 => I xs (acc ++ [y]) r3 else I xs acc r2) → (∀ acc r, I [] acc r → Q acc r) → Ev p (lcL [] bind cond elt xs acc) rest Q
  | [], acc, rest, h0, hl, hs, he => by
    unfold lcL
    exact .step (fun l s => rfl) (.ret (he _ _ h0))
  | d :: xs, acc, rest, h0, hl, hs, he => by
    obtain ⟨ρ, h1, h2⟩ := hs d xs acc rest h0
    simp only [List.length_cons] at hl
    have nx : ∀ {α : Type} {m : M α} {r : List Cell} {R : α → List Cell → Prop}, Ev p m r R → Ev p (noX m) r R := fun h l s o => by
      obtain ⟨a, l2, s2, r2, o2, e, q⟩ := h l s o
      refine ⟨a, l2, s2, r2, o2, ?_, q⟩
      unfold noX
      rw [e]
    have lim : LIM = 1000000 := rfl
    unfold lcL
    refine .step (fun l s => rfl) ?_
    rw [h1]
    refine .bnd ((nx h2).imp fun b r q => ?_)
    cases b with
    | true =>
      rw [if_pos rfl] at q ⊢
      refine .bnd ((nx q).imp fun y r2 q2 => ?_)
      rw [if_pos (by omega)]
      exact Ev.lcN I q2 (by simp; omega) hs he
    | false =>
      rw [if_neg Bool.false_ne_true] at q ⊢
      exact Ev.lcN I q (by omega) hs he
end Ev
end
section
set_option Elab.async false
set_option linter.all false
set_option maxRecDepth 100000
set_option maxHeartbeats 1000000
/-! Draws. -/
namespace Ev
open PySem L2 Ms Cod
/-! ### operators on data without cells -/
theorem eq_int (a b : Int) : eqD (.int a) (.int b) = Ms.ret (.bl (a == b)) := by
  funext η
  simp [eqD, derP, toP, SeqAt.shaped, PyData.eqv, Ms.ret, PyData.canLay0, PyData.depth]
theorem ne_int (a b : Int) : neD (.int a) (.int b) = Ms.ret (.bl (!(a == b))) := by
  funext η
  simp [neD, derP, toP, SeqAt.shaped, PyData.eqv, Ms.ret, PyData.canLay0, PyData.depth]
theorem eq_str {a b : Str} (ha : PyData.strOk a = true) (hb : PyData.strOk b = true) : eqD (.str a) (.str b) = Ms.ret (.bl (a == b)) := by
  funext η
  simp [eqD, derP, toP, SeqAt.shaped, PyData.eqv, Ms.ret, PyData.canLay0, PyData.depth, ha, hb]
theorem ne_str {a b : Str} (ha : PyData.strOk a = true) (hb : PyData.strOk b = true) : neD (.str a) (.str b) = Ms.ret (.bl (!(a == b))) := by
  funext η
  simp [neD, derP, toP, SeqAt.shaped, PyData.eqv, Ms.ret, PyData.canLay0, PyData.depth, ha, hb]
theorem add_int (a b : Int) : addD (.int a) (.int b) = Ms.ret (.int (a + b)) := rfl
theorem sub_int (a b : Int) : subD (.int a) (.int b) = Ms.ret (.int (a - b)) := rfl
theorem lt_int (a b : Int) : ltD (.int a) (.int b) = Ms.ret (.bl (decide (a < b))) := rfl
theorem le_int (a b : Int) : leD (.int a) (.int b) = Ms.ret (.bl (decide (a ≤ b))) := rfl
theorem gt_int (a b : Int) : gtD (.int a) (.int b) = Ms.ret (.bl (decide (b < a))) := rfl
theorem ge_int (a b : Int) : geD (.int a) (.int b) = Ms.ret (.bl (decide (b ≤ a))) := rfl
theorem neg_int (a : Int) : negD (.int a) = Ms.ret (.int (-a)) := rfl
theorem mod_int {a b : Int} (h : 0 < b) : modD (.int a) (.int b) = Ms.ret (.int (a % b)) := by
  show (if 0 < b then Ms.ret (D.int (a % b)) else bad) = _
  rw [if_pos h]
theorem fdiv_int {a b : Int} (h : 0 < b) (h2 : b < 1073741824) : fdivD (.int a) (.int b) = Ms.ret (.int (a / b)) := by
  show (if 0 < b ∧ b < 1073741824 then Ms.ret (D.int (a / b)) else bad) = _
  rw [if_pos ⟨h, h2⟩]
theorem mul_right {a b : Int} (h : smallI b = true) : mulD (.int a) (.int b) = Ms.ret (.int (a * b)) := by
  show (if smallI a || smallI b then Ms.ret (D.int (a * b)) else bad) = _
  rw [if_pos (by rw [h, Bool.or_true])]
theorem add_str {a b : Str} (h : a.length + b.length ≤ LIM) : addD (.str a) (.str b) = Ms.ret (.str (a ++ b)) := by
  show (if a.length + b.length ≤ LIM then Ms.ret (D.str (a ++ b)) else bad) = _
  rw [if_pos h]
theorem add_tup {a b : List D} (h : a.length + b.length ≤ LIM) : addD (.tup a) (.tup b) = Ms.ret (.tup (a ++ b)) := by
  show (if a.length + b.length ≤ LIM then Ms.ret (D.tup (a ++ b)) else bad) = _
  rw [if_pos h]
theorem add_fl {a b : List D} (h : a.length + b.length ≤ LIM) : addD (.fl a) (.fl b) = Ms.ret (.fl (a ++ b)) := by
  funext η
  show (if a.length + b.length ≤ LIM then Res.ok (D.fl (a ++ b)) η else .bad) = _
  rw [if_pos h]
  rfl
theorem ix_tup (xs : List D) (i : Int) : idxD (.tup xs) (.int i) = fromO (atI xs i) := rfl
theorem ix_fl (xs : List D) (i : Int) : idxD (.fl xs) (.int i) = fromO (atI xs i) := by
  funext η
  show fromO ((some xs).bind fun xs => atI xs i) η = _
  rfl
theorem at_nat {ds : List D} {i : Nat} {x : D} (h : ds[i]? = some x) : atI ds (i : Int) = some x := by
  have hi := (List.getElem?_eq_some_iff.mp h).1
  unfold atI ixN
  have h1 : (0 : Int) ≤ (i : Int) := by omega
  have h2 : (i : Int) < (ds.length : Int) := by omega
  simp [h1, h2, h]
theorem at_last {ds : List D} {x : D} : atI (ds ++ [x]) (-1) = some x := by
  have z : ixN (ds ++ [x]).length (-1) = some ds.length := by
    unfold ixN
    rw [List.length_append, List.length_singleton, if_neg (by decide), if_pos (by omega)]
    congr 1
    omega
  unfold atI
  rw [z]
  simp
theorem len_fl (xs : List D) : lenD [.fl xs] = Ms.ret (.int xs.length) := rfl
theorem len_tup (xs : List D) : lenD [.tup xs] = Ms.ret (.int xs.length) := rfl
theorem len_str {w : Str} (h : w.length ≤ LIM) : lenD [.str w] = Ms.ret (.int w.length) := by
  show (if w.length ≤ LIM then Ms.ret (D.int w.length) else bad) = _
  rw [if_pos h]
theorem newL_f {ds : List D} (h : ds.length ≤ LIM) : newL false ds = Ms.ret (.fl ds) := by
  funext η
  unfold newL
  rw [if_pos h, if_neg Bool.false_ne_true]
  rfl
theorem tup_f {ds : List D} (h : ds.length ≤ LIM) : (if ds.length ≤ LIM then Ms.ret (D.tup ds) else bad) = Ms.ret (.tup ds) := if_pos h
theorem sl_tup (xs : List D) (lo hi : Option Int) : sliceD (.tup xs) lo hi = Ms.ret (.tup (cutD xs lo hi)) := rfl
theorem sl_fl (xs : List D) (lo hi : Option Int) : sliceD (.fl xs) lo hi = Ms.ret (.fl (cutD xs lo hi)) := rfl
theorem asI_int (i : Int) : asI (.int i) = Ms.ret (some i) := rfl
theorem it_fl (xs : List D) : itVal (.fl xs) = Ms.ret (xs, []) := rfl
theorem it_tup (xs : List D) : itVal (.tup xs) = Ms.ret (xs, []) := rfl
theorem enum_fl (xs : List D) : itEnum (.fl xs) = Ms.ret (enumL 0 xs, []) := rfl
theorem enum_tup (xs : List D) : itEnum (.tup xs) = Ms.ret (enumL 0 xs, []) := rfl
theorem tuple_fl (xs : List D) : tupleD [.fl xs] = Ms.ret (.tup xs) := rfl
theorem list_tup (xs : List D) : listD [.tup xs] = Ms.ret (.fl xs) := rfl
theorem list_fl (xs : List D) : listD [.fl xs] = Ms.ret (.fl xs) := rfl
theorem rng1 {n : Nat} (hn : n ≤ 1000000) : itR1 (.int n) = Ms.ret ((List.range n).map fun i => .int ((i : Nat) : Int), []) := by
  show (if -1000000 ≤ (n : Int) ∧ (n : Int) ≤ 1000000 then Ms.ret ((List.range (n : Int).toNat).map fun k => D.int ((k : Nat) : Int), []) else bad) = _
  rw [if_pos ⟨by omega, by omega⟩, Int.toNat_natCast]
theorem isi_at {T t : String} {d : D} (h : ∀ η, tyOf η d = some t) (hT : ["bool", "int", "str", "tuple", "list"].contains T = true) : isiD T d = Ms.ret (.bl (isSub t T)) := by
  funext η
  unfold isiD
  rw [h η]
  try dsimp only
  rw [if_pos hT]
  rfl
/-! ### a draw -/
theorem intsP : ∀ l : List Int, toPs (intsD l) = some (l.map PyData.int)
  | [] => rfl
  | y :: r => by
    show (match toP (.int y), toPs (intsD r) with | some p, some ps => some (p :: ps) | _, _ => none) = _
    rw [intsP r]
    rfl
theorem intsLay : ∀ l : List Int, PyData.canLayAll0 (l.map PyData.int) = true
  | [] => rfl
  | y :: r => by
    show (PyData.canLay0 (.int y) && PyData.canLayAll0 (r.map PyData.int)) = true
    rw [intsLay r]
    rfl
theorem intsDeep : ∀ l : List Int, PyData.depthAll (l.map PyData.int) = 0
  | [] => rfl
  | y :: r => by
    show max (PyData.depth (.int y)) (PyData.depthAll (r.map PyData.int)) = 0
    rw [intsDeep r]
    rfl
theorem shaped_ints (l : List Int) : SeqAt.shaped (.list (l.map PyData.int)) = true := by
  simp only [SeqAt.shaped, PyData.canLay0, intsLay l, PyData.depth, intsDeep l]
  decide
theorem eq_box {p rest : List Cell} {l : List Int} {s : Int} : eqD (.ref p.length) (.fl []) (boxed p l s rest) = .ok (.bl l.isEmpty) (boxed p l s rest) := by
  have d1 : derP (boxed p l s rest) (.ref p.length) = some (.list (l.map PyData.int)) := by
    unfold derP
    simp only [boxed_0, intsP, Option.map_some]
  have d2 : derP (boxed p l s rest) (.fl []) = some (.list ([].map PyData.int)) := rfl
  unfold eqD
  rw [d1, d2]
  try dsimp only
  rw [if_pos ⟨shaped_ints l, shaped_ints []⟩]
  cases l <;> simp [PyData.eqv, PyData.eqvAll]
section
variable {T : List FD} {p rest : List Cell} {k : Nat}
theorem bx_0 {l : List Int} {s : Int} : idxD (bx p) (.int 0) (boxed p l s rest) = .ok (.ref p.length) (boxed p l s rest) := by
  show fromO ((asL (boxed p l s rest) (bx p)).bind fun xs => atI xs 0) _ = _
  unfold asL
  simp only [boxed_1, Option.bind_some]
  rfl
theorem bx_1 {l : List Int} {s : Int} : idxD (bx p) (.int 1) (boxed p l s rest) = .ok (.int s) (boxed p l s rest) := by
  show fromO ((asL (boxed p l s rest) (bx p)).bind fun xs => atI xs 1) _ = _
  unfold asL
  simp only [boxed_1, Option.bind_some]
  rfl
theorem bx_00 {x : Int} {l : List Int} {s : Int} : idxD (.ref p.length) (.int 0) (boxed p (x :: l) s rest) = .ok (.int x) (boxed p (x :: l) s rest) := by
  show fromO ((asL (boxed p (x :: l) s rest) (.ref p.length)).bind fun xs => atI xs 0) _ = _
  unfold asL
  simp only [boxed_0, Option.bind_some]
  have a : atI (intsD (x :: l)) 0 = some (.int x) := at_nat (i := 0) rfl
  rw [a]
  rfl
theorem bx_set1 {l : List Int} {s z : Int} : setD (bx p) (.int 1) (.int z) (boxed p l s rest) = .ok () (boxed p l z rest) := by
  unfold setD
  simp only [boxed_1]
  show Res.ok () ((boxed p l s rest).set (p.length + 1) (.lst [.ref p.length, .int z])) = _
  rw [boxed_set1]
theorem bx_set0 {x y : Int} {l : List Int} {s : Int} : setD (.ref p.length) (.int 0) (.int y) (boxed p (x :: l) s rest) = .ok () (boxed p (y :: l) s rest) := by
  unfold setD
  simp only [boxed_0]
  have z : ixN (intsD (x :: l)).length 0 = some 0 := by
    have h2 : (0 : Int) < (l.length : Int) + 1 := by omega
    simp [ixN, intsD, h2]
  rw [z]
  show Res.ok () ((boxed p (x :: l) s rest).set p.length (.lst (intsD (y :: l)))) = _
  rw [boxed_set0]
theorem bx_pop {x : Int} {l : List Int} {s : Int} (hl : l.length ≤ 1000) : mtD .popAt (.ref p.length) [.int 0] (boxed p (x :: l) s rest) = .ok (.int x) (boxed p l s rest) := by
  have z : ixN (intsD (x :: l)).length 0 = some 0 := by
    have h2 : (0 : Int) < (l.length : Int) + 1 := by omega
    simp [ixN, intsD, h2]
  have le : (intsD (x :: l)).length ≤ LIM := by
    have : LIM = 1000000 := rfl
    simp [intsD]
    omega
  unfold mtD
  simp only [boxed_0, z]
  show (if (intsD (x :: l)).length ≤ LIM then Res.ok (D.int x) ((boxed p (x :: l) s rest).set p.length (.lst (intsD l))) else .bad) = _
  rw [if_pos le, boxed_set0]
theorem bx_rec {l : List Int} {s : Int} : recvOk .popAt (.ref p.length) (boxed p l s rest) = true := by
  show (asL (boxed p l s rest) (.ref p.length)).isSome = true
  unfold asL
  simp only [boxed_0]
  rfl
theorem asB_at {m : M D} {η η' : List Cell} {b : Bool} (h : m η = .ok (.bl b) η') : asB m η = .ok b η' := by
  unfold asB
  rw [bnd_ok h]
  rfl
theorem take_run (h : At T 23 c_law_take 2 3) (hp : flatCs p = true) {m : Int} (h0 : 0 < m) (h1 : m < 1073741824) : Ev p (evSs (evF T k) c_law_take (startD 3 [bx p, .int m])) rest fun fl r => r = rest ∧ ∃ n : Nat, fl = .rt (.int n) ∧ (n : Int) < m := by
  intro l s o
  have sm := o.lo
  have sh := o.hi
  have s4 : smallI 48271 = true := by decide
  cases l with
  | nil =>
    have hr0 : 0 ≤ s * 48271 % 2147483647 / 7 % m := Int.emod_nonneg _ (by omega)
    refine ⟨_, [], s * 48271 % 2147483647, rest, ⟨⟨Int.emod_nonneg _ (by omega), Int.emod_lt_of_pos _ (by omega)⟩, o.len⟩, ?_, rfl, (s * 48271 % 2147483647 / 7 % m).toNat, rfl, by
      have := Int.emod_lt_of_pos (s * 48271 % 2147483647 / 7) h0
      omega⟩
    rw [Int.toNat_of_nonneg hr0]
    simp only [c_law_take, evSs, evS, evE, evEs, startD, List.map_cons, List.map_nil, List.length_cons, List.length_nil, List.cons_append, List.nil_append, List.getElem?_cons_zero, List.getElem?_cons_succ, Option.join_some, fromO_some, bnd_ret, constD, cmpD, binD, bnd_assoc, asB_bnd, asB_bl, newL_f (show ([] : List D).length ≤ LIM from Nat.zero_le _)]
    rw [bnd_ok bx_0, bnd_ok (asB_at eq_box)]
    simp only [List.isEmpty_nil, if_true, bnd_assoc]
    rw [bnd_ok bx_1]
    simp only [mul_right s4, mod_int (show (0 : Int) < 2147483647 by decide), bnd_ret]
    rw [bnd_ok bx_set1]
    refine (bnd_ok bx_1).trans ?_
    simp only [fdiv_int (show (0 : Int) < 7 by decide) (by decide), mod_int h0, bnd_ret]
    rfl
  | cons x l =>
    have hl : l.length ≤ 63 := by have := o.len; simp at this; omega
    have hr0 : 0 ≤ x % m := Int.emod_nonneg _ (by omega)
    refine ⟨_, if ((x / m == 0) || (x / m == -1)) = true then l else x / m :: l, s, rest, ⟨o.toSeed, by
      split
      · omega
      · simp; omega⟩, ?_, rfl, (x % m).toNat, rfl, by
      have := Int.emod_lt_of_pos x h0
      omega⟩
    rw [Int.toNat_of_nonneg hr0]
    simp only [c_law_take, evSs, evS, evE, evEs, evOr, startD, List.map_cons, List.map_nil, List.length_cons, List.length_nil, List.cons_append, List.nil_append, List.getElem?_cons_zero, List.getElem?_cons_succ, Option.join_some, fromO_some, bnd_ret, constD, cmpD, binD, bnd_assoc, asB_bnd, asB_bl, newL_f (show ([] : List D).length ≤ LIM from Nat.zero_le _)]
    rw [bnd_ok bx_0, bnd_ok (asB_at eq_box)]
    simp only [List.isEmpty_cons, Bool.false_eq_true, if_false, bnd_ret, bnd_assoc, List.getElem?_cons_zero, List.getElem?_cons_succ, Option.join_some, fromO_some]
    rw [bnd_ok bx_0, bnd_ok bx_00]
    simp only [bindT, List.replicate, List.set_cons_zero, List.set_cons_succ, bnd_ret, List.getElem?_cons_zero, List.getElem?_cons_succ, Option.join_some, fromO_some, fdiv_int h0 h1, bnd_assoc]
    rw [bnd_ok bx_0, bnd_ok bx_set0, bnd_ok bx_0, bnd_ok bx_00]
    simp only [eq_int, asB_bl, bnd_ret, neg_int, bnd_assoc]
    cases h9 : (x / m == 0) with
    | true =>
      simp only [if_true, asB_bl, bnd_ret, bnd_assoc, Bool.true_or]
      rw [bnd_ok bx_0, bnd_ok (a := ()) (η' := boxed p (x / m :: l) s rest) (by simp only [bx_rec, if_true]), bnd_ok (bx_pop (by omega))]
      simp only [bnd_ret, List.getElem?_cons_zero, List.getElem?_cons_succ, Option.join_some, fromO_some, mod_int h0]
      rfl
    | false =>
      simp only [Bool.false_eq_true, if_false, asB_bnd, bnd_assoc, Bool.false_or]
      rw [bnd_ok bx_0, bnd_ok bx_00]
      simp only [eq_int, asB_bl, bnd_ret, bnd_assoc]
      cases h8 : (x / m == -1) with
      | true =>
        simp only [if_true, bnd_assoc]
        rw [bnd_ok bx_0, bnd_ok (a := ()) (η' := boxed p (x / m :: l) s rest) (by simp only [bx_rec, if_true]), bnd_ok (bx_pop (by omega))]
        simp only [bnd_ret, List.getElem?_cons_zero, List.getElem?_cons_succ, Option.join_some, fromO_some, mod_int h0]
        rfl
      | false =>
        simp only [Bool.false_eq_true, if_false, bnd_ret, List.getElem?_cons_zero, List.getElem?_cons_succ, Option.join_some, fromO_some, mod_int h0]
        rfl
/-- a draw below m -/
theorem take_ev (h : At T 23 c_law_take 2 3) (hp : flatCs p = true) {m : Int} (h0 : 0 < m) (h1 : m < 1073741824) {Q : D → List Cell → Prop} (q : ∀ n : Nat, (n : Int) < m → Q (.int n) rest) (hr : flatCs rest = true) : Ev p (evF T (k + 1) 23 [bx p, .int m]) rest Q := by
  refine .call0 h rfl hp hr ((take_run h hp h0 h1).imp fun fl r z => ?_)
  obtain ⟨rfl, n, rfl, hn⟩ := z
  exact ⟨List.prefix_refl _, rfl, q n hn⟩
end
end Ev
end
section
set_option Elab.async false
set_option linter.all false
set_option maxRecDepth 100000
set_option maxHeartbeats 1000000
/-! Works: steps, words, what is asked of them. -/
namespace Ev
open PySem L2 Ms Cod
/-! ### defs that change no cell -/
theorem trunc_same {d : D} {η : List Cell} : trunc η.length (.ok d η) = .ok d η := by
  unfold trunc
  try dsimp only
  split
  · rw [List.take_length]
  · rfl
theorem evF_ret {T : List FD} {k f np nN : Nat} {code : Ss} {ds : List D} {fl : Fl} (h : At T f code np nN) (hl : ds.length = np) (b : evSs (evF T k) code (startD nN ds) = Ms.ret fl) : evF T (k + 1) f ds = Ms.ret (retD fl) := by
  funext η
  rw [evF_at h hl, b]
  show trunc η.length (runB (.ok fl η)) = _
  rw [runB_ok, trunc_same]
  rfl
/-- what was laid for the time being is forgotten -/
theorem evF_tmp {T : List FD} {k f np nN : Nat} {code : Ss} {ds : List D} {fl : Fl} {η ex : List Cell} (h : At T f code np nN) (hl : ds.length = np) (hη : η.all (cUnder η.length) = true) (hd : dUnder η.length (retD fl) = true)
    (b : evSs (evF T k) code (startD nN ds) η = .ok fl (η ++ ex)) : evF T (k + 1) f ds η = .ok (retD fl) η := by
  rw [evF_at h hl, b, runB_ok]
  unfold trunc
  try dsimp only
  have e : (η ++ ex).take η.length = η := List.take_left
  rw [if_pos ⟨by simp, hd, by rw [e]; exact hη⟩, e]
/-- a call that leaves the cells as they are -/
theorem evF_same {T : List FD} {k f np nN : Nat} {code : Ss} {ds : List D} {fl : Fl} {η : List Cell} (h : At T f code np nN) (hl : ds.length = np) (b : evSs (evF T k) code (startD nN ds) η = .ok fl η) : evF T (k + 1) f ds η = .ok (retD fl) η := by
  rw [evF_at h hl, b, runB_ok, trunc_same]
structure Works (T : List FD) : Prop where
  word : At T 1 c_is_word 1 1
  step : At T 7 c_is_step 1 1
  next : At T 8 c_is_next 2 2
  need : At T 9 c_need_work 1 4
section
variable {T : List FD}
theorem isi_str (w : Str) : isiD "str" (.str w) = Ms.ret (.bl true) := by
  funext η
  rfl
theorem in_str (x z : Str) : inD false (.str x) (.str z) = Ms.ret (.bl (inStr x z)) := rfl
def wordB (w : Str) : Bool := ((w.length : Int) == 1) && inStr w ("abcdefgh" : Str)
theorem is_word_ok (h : Works T) {k : Nat} {w : Str} (hw : w.length ≤ LIM) : evF T (k + 1) 1 [.str w] = Ms.ret (.bl (wordB w)) := by
  have e : evSs (evF T k) c_is_word (startD 1 [.str w]) = Ms.ret (.rt (.bl (wordB w))) := by
    simp only [c_is_word, evSs, evS, evE, evAnd, evEs, startD, List.map_cons, List.map_nil, List.length_cons, List.length_nil, List.cons_append, List.nil_append, List.getElem?_cons_zero, Option.join_some, fromO_some, bnd_ret, isi_str, asB_bl, if_true, biD, len_str hw, constD, cmpD, eq_int, in_str, bnd_assoc]
    unfold wordB
    cases ((w.length : Int) == 1) <;> rfl
  exact evF_ret h.word rfl e
/-- a word that is not too long, of signs that are signs -/
structure OkW (w : Str) : Prop where
  ok : PyData.strOk w = true
  len : w.length ≤ 1000
theorem OkW.lim {w : Str} (h : OkW w) : w.length ≤ LIM := Nat.le_trans h.len (by decide)
abbrev S1 (c : Nat) : Str := ⟨#[c]⟩
theorem str_of {w : Str} {l : List Nat} (h : w.cps.toList = l) : w = ⟨l.toArray⟩ := by
  obtain ⟨a⟩ := w
  simp only at h
  rw [← h]
theorem ix0 {w : Str} {c : Nat} {l : List Nat} (h : w.cps.toList = c :: l) (hl : w.length ≤ LIM) : idxD (.str w) (.int 0) = Ms.ret (.str (S1 c)) := by
  show (if w.length ≤ LIM then fromO _ else bad) = _
  rw [if_pos hl, h]
  simp [atI, ixN, fromO_some]
theorem ix1 {w : Str} {c d : Nat} {l : List Nat} (h : w.cps.toList = c :: d :: l) (hl : w.length ≤ LIM) : idxD (.str w) (.int 1) = Ms.ret (.str (S1 d)) := by
  show (if w.length ≤ LIM then fromO _ else bad) = _
  rw [if_pos hl, h]
  have h1 : (1 : Int) < (l.length : Int) + 1 + 1 := by omega
  simp [atI, ixN, h1, fromO_some]
theorem S1_beq (a b : Nat) : (S1 a == S1 b) = (a == b) := by
  by_cases h : a = b
  · subst h
    simp
  · have : S1 a ≠ S1 b := fun z => h (by
      have q := congrArg (fun s : Str => s.cps.toList) z
      simpa using q)
    rw [beq_eq_false_iff_ne.mpr h, beq_eq_false_iff_ne.mpr this]
theorem S1_ok {c : Nat} (h : c < 1114112) : OkW (S1 c) := ⟨by simp [PyData.strOk, h], by simp [Str.length]⟩
theorem ok_char {w : Str} (h : OkW w) {c : Nat} (hc : c ∈ w.cps.toList) : c < 1114112 := by
  have q := h.ok
  unfold PyData.strOk at q
  rw [Array.all_eq_true_iff_forall_mem] at q
  exact of_decide_eq_true (q c (by simpa using hc))
def letters : List Nat := [97, 98, 99, 100, 101, 102, 103, 104]
theorem wordB_one (c : Nat) : wordB (S1 c) = decide (c ∈ letters) := by
  unfold wordB inStr
  have e : ("abcdefgh" : Str).cps.toList = letters := by decide +kernel
  rw [StrLaws.found_one, e]
  simp [Str.length]
def signB (c : Nat) : Bool := c == 114 || c == 99 || c == 119
theorem in_signs (c : Nat) : inD false (.str (S1 c)) (.tup [.str "r", .str "c", .str "w"]) = Ms.ret (.bl (signB c)) := by
  funext η
  have e1 : ("r" : Str) = S1 114 := by decide +kernel
  have e2 : ("c" : Str) = S1 99 := by decide +kernel
  have e3 : ("w" : Str) = S1 119 := by decide +kernel
  rw [e1, e2, e3]
  simp [inD, asQ, flatD, inFlat, vOf, eqV, Ms.ret, signB]
  rw [S1_beq, S1_beq, S1_beq, Bool.beq_comm (a := 114), Bool.beq_comm (a := 99), Bool.beq_comm (a := 119)]
  cases (c == 114) <;> cases (c == 99) <;> rfl
def stepB (w : Str) : Bool := match w.cps.toList with
  | [c1, c2] => decide (c1 ∈ letters) && signB c2
  | _ => false
theorem is_step_ok (h : Works T) {k : Nat} {w : Str} (hw : OkW w) : evF T (k + 2) 7 [.str w] = Ms.ret (.bl (stepB w)) := by
  have e : evSs (evF T (k + 1)) c_is_step (startD 1 [.str w]) = Ms.ret (.rt (.bl (stepB w))) := by
    simp only [c_is_step, evSs, evS, evE, evAnd, evEs, startD, List.map_cons, List.map_nil, List.length_cons, List.length_nil, List.cons_append, List.nil_append, List.getElem?_cons_zero, Option.join_some, fromO_some, bnd_ret, isi_str, asB_bl, if_true, biD, len_str hw.lim, constD, cmpD, eq_int, bnd_assoc]
    by_cases h2 : w.length = 2
    · have hl : w.cps.toList.length = 2 := by simpa [Str.length] using h2
      match hq : w.cps.toList, hl with
      | [c1, c2], _ =>
        have i0 := ix0 hq hw.lim
        have i1 := ix1 hq hw.lim
        have o1 : OkW (S1 c1) := S1_ok (ok_char hw (by rw [hq]; simp))
        have e22 : (((2 : Nat) : Int) == 2) = true := rfl
        have l3 : 0 + 1 + 1 + 1 ≤ LIM := by decide
        simp only [h2, e22, l3, if_true, i0, i1, bnd_ret, is_word_ok h o1.lim, asB_bl, wordB_one, in_signs, stepB, hq]
        cases decide (c1 ∈ letters) <;> rfl
    · have hs : stepB w = false := by
        unfold stepB
        split
        · rename_i c1 c2 hq
          exact absurd (by simp [Str.length, ← Array.length_toList, hq]) h2
        · rfl
      have : ((w.length : Int) == 2) = false := by
        rw [beq_eq_false_iff_ne]
        omega
      rw [hs]
      simp only [this, Bool.false_eq_true, if_false, bnd_ret]
  exact evF_ret h.step rfl e
def sg (w : Str) : Nat := w.cps.toList.getD 1 0
def nextB (w : Str) (b : Bool) : Bool := stepB w && (!(sg w == 99) || b)
theorem step_two {w : Str} (h : stepB w = true) : ∃ c1 c2, w.cps.toList = [c1, c2] ∧ signB c2 = true ∧ sg w = c2 := by
  unfold stepB at h
  split at h
  · rename_i c1 c2 hq
    simp only [Bool.and_eq_true] at h
    exact ⟨c1, c2, hq, h.2, by simp [sg, hq]⟩
  · cases h
theorem is_next_ok (h : Works T) {k : Nat} {w : Str} {b : Bool} (hw : OkW w) : evF T (k + 3) 8 [.str w, .bl b] = Ms.ret (.bl (nextB w b)) := by
  have e : evSs (evF T (k + 2)) c_is_next (startD 2 [.str w, .bl b]) = Ms.ret (.rt (.bl (nextB w b))) := by
    simp only [c_is_next, evSs, evS, evE, evAnd, evOr, evEs, startD, List.map_cons, List.map_nil, List.length_cons, List.length_nil, List.cons_append, List.nil_append, List.getElem?_cons_zero, List.getElem?_cons_succ, Option.join_some, fromO_some, bnd_ret, is_step_ok h hw, asB_bl, constD, cmpD, bnd_assoc]
    cases hs : stepB w with
    | false => simp only [Bool.false_eq_true, if_false, bnd_ret, nextB, hs, Bool.false_and]
    | true =>
      obtain ⟨c1, c2, hq, _, hg⟩ := step_two hs
      have o2 : OkW (S1 c2) := S1_ok (ok_char hw (by rw [hq]; simp))
      have eC : ("c" : Str) = S1 99 := by decide +kernel
      have oC : OkW (S1 99) := S1_ok (by decide)
      simp only [if_true, ix1 hq hw.lim, bnd_ret, eC, ne_str o2.ok oC.ok, asB_bl, nextB, hs, hg, S1_beq, Bool.true_and]
      cases (c2 == 99) <;> rfl
  exact evF_ret h.next rfl e
/-- the first step that can't be -/
def nw : Nat → Bool → List Str → Option Nat
  | _, _, [] => none
  | i, b, w :: r => if decide (12 ≤ i) || !nextB w b then some i else nw (i + 1) (b || sg w == 119) r
theorem LE0 : (0 ≤ LIM) ↔ True := iff_of_true (Nat.zero_le _) trivial
theorem LE1 : (0 + 1 ≤ LIM) ↔ True := iff_of_true (by decide) trivial
theorem LE2 : (0 + 1 + 1 ≤ LIM) ↔ True := iff_of_true (by decide) trivial
theorem LE3 : (0 + 1 + 1 + 1 ≤ LIM) ↔ True := iff_of_true (by decide) trivial
theorem LE4 : (0 + 1 + 1 + 1 + 1 ≤ LIM) ↔ True := iff_of_true (by decide) trivial
def needBody : Ss := match c_need_work with
  | .cons _ (.cons (.for_ _ _ b) _) => b
  | _ => .nil
theorem need_body (h : Works T) {k i : Nat} {d : D} {b : Bool} {w : Str} (hw : OkW w) (hc : (decide (12 ≤ i) || !nextB w b) = false) : evSs (evF T (k + 3)) needBody [some d, some (.bl b), some (.int i), some (.str w)] =
    Ms.ret (.nx [some d, some (.bl (b || sg w == 119)), some (.int i), some (.str w)]) := by
  have g1 : geD (.int i) (.int 12) = Ms.ret (.bl (decide (12 ≤ i))) := by
    show Ms.ret (D.bl (decide ((12 : Int) ≤ (i : Int)))) = _
    congr 2
    simp
    omega
  simp only [Bool.or_eq_false_iff, Bool.not_eq_false'] at hc
  obtain ⟨h1, h2⟩ := hc
  simp only [needBody, c_need_work, evSs, evS, evE, evOr, evEs, List.getElem?_cons_zero, List.getElem?_cons_succ, Option.join_some, fromO_some, bnd_ret, constD, cmpD, g1, asB_bl, is_next_ok h hw, bnd_assoc, h1, h2]
  have hs : stepB w = true := by
    unfold nextB at h2
    simp only [Bool.and_eq_true] at h2
    exact h2.1
  obtain ⟨c1, c2, hq, _, hg⟩ := step_two hs
  have o2 : OkW (S1 c2) := S1_ok (ok_char hw (by rw [hq]; simp))
  have eW : ("w" : Str) = S1 119 := by decide +kernel
  have oW : OkW (S1 119) := S1_ok (by decide)
  cases b with
  | true => simp only [Bool.false_eq_true, if_false, if_true, Bool.not_true, Bool.or_false, bnd_ret, asB_bl, bnd_assoc, List.getElem?_cons_zero, List.getElem?_cons_succ, Option.join_some, fromO_some, bindT, Bool.true_or, List.set_cons_zero, List.set_cons_succ]
  | false => simp only [Bool.false_eq_true, if_false, if_true, Bool.not_true, Bool.or_false, bnd_ret, asB_bl, bnd_assoc, List.getElem?_cons_zero, List.getElem?_cons_succ, Option.join_some, fromO_some, bindT, Bool.false_or, List.set_cons_zero, List.set_cons_succ, ix1 hq hw.lim, eW, eq_str o2.ok oW.ok, S1_beq, hg]
theorem gd_one {n : Nat} {xs : List D} {η : List Cell} (h : η[n]? = some (.lst xs)) : chkG [(n, xs)] η = .ok () η := by
  unfold chkG
  rw [if_pos (gdB_ok.mpr fun p hp => by
    simp only [List.mem_singleton] at hp
    rw [hp]
    exact h)]
theorem need_loop (h : Works T) {k : Nat} {d : D} {g : Gd} {η : List Cell} (hg : chkG g η = .ok () η) : ∀ (ws : List Str) (i : Nat) (b : Bool) (x y : Option D), (∀ w ∈ ws, OkW w) → nw i b ws = none →
    ∃ ρ, forL g (bindT (.tup [2, 3])) (evSs (evF T (k + 3)) needBody) (enumL i (txts ws)) [some d, some (.bl b), x, y] η = .ok (.nx ρ) η
  | [], i, b, x, y, _, _ => ⟨_, by unfold txts enumL forL; exact bnd_ok hg⟩
  | w :: ws, i, b, x, y, hw, hn => by
    have ow := hw w List.mem_cons_self
    have hr : ∀ v ∈ ws, OkW v := fun v hv => hw v (List.mem_cons_of_mem _ hv)
    unfold nw at hn
    by_cases hc : (decide (12 ≤ i) || !nextB w b) = true
    · rw [if_pos hc] at hn
      cases hn
    rw [if_neg hc] at hn
    obtain ⟨ρ, q⟩ := need_loop h (k := k) (d := d) hg ws (i + 1) (b || sg w == 119) (some (.int i)) (some (.str w)) hr hn
    refine ⟨ρ, ?_⟩
    show forL _ _ _ (.tup [.int i, .str w] :: enumL (i + 1) (txts ws)) _ η = _
    conv => lhs; unfold forL
    refine (bnd_ok hg).trans ?_
    show bnd (evSs (evF T (k + 3)) needBody [some d, some (.bl b), some (.int i), some (.str w)]) _ η = _
    rw [need_body h ow (Bool.eq_false_iff.mpr hc)]
    exact q
theorem need_ok (h : Works T) {k : Nat} {d : D} {g : Gd} {η : List Cell} {ws : List Str} (he : itEnum d η = .ok (enumL 0 (txts ws), g) η) (hg : chkG g η = .ok () η) (hw : ∀ w ∈ ws, OkW w) (hn : nw 0 false ws = none) : evF T (k + 4) 9 [d] η = .ok .non η := by
  obtain ⟨ρ, q⟩ := need_loop (k := k) h (d := d) hg ws 0 false none none hw hn
  refine evF_same (fl := .nx ρ) h.need rfl ?_
  rw [show c_need_work = .cons (.asg (.name 1) (.cst (.bool false))) (.cons (.for_ (.tup [2, 3]) (.enum (.loc 0)) needBody) .nil) from rfl]
  simp only [evSs, evS, startD, evE, constD, fromO_some, bnd_ret, bnd_assoc, bindT, List.map_cons, List.map_nil, List.length_cons, List.length_nil, List.cons_append, List.nil_append, List.set_cons_zero, List.set_cons_succ, evIt, List.getElem?_cons_zero, Option.join_some, List.replicate]
  rw [bnd_ok he]
  exact (bnd_ok q).trans rfl
theorem need_ref (h : Works T) {k n : Nat} {η : List Cell} {ws : List Str} (hn : η[n]? = some (.lst (txts ws))) (hw : ∀ w ∈ ws, OkW w) (hk : nw 0 false ws = none) : evF T (k + 4) 9 [.ref n] η = .ok .non η :=
  need_ok h (g := [(n, txts ws)]) (by simp [itEnum, zItems, isScr, itemsG, hn]) (gd_one hn) hw hk
theorem need_fl (h : Works T) {k : Nat} {η : List Cell} {ws : List Str} (hw : ∀ w ∈ ws, OkW w) (hk : nw 0 false ws = none) : evF T (k + 4) 9 [.fl (txts ws)] η = .ok .non η :=
  need_ok h (g := []) rfl rfl hw hk
end
end Ev
end
section
set_option Elab.async false
set_option linter.all false
set_option maxRecDepth 100000
set_option maxHeartbeats 1000000
/-! The box begun, letters, steps, works. -/
namespace Ev
open PySem L2 Ms Cod
/-! ### cells behind the box -/
abbrev rf (p : List Cell) (n : Nat) : D := .ref (p.length + 2 + n)
section
variable {p rest : List Cell} {l : List Int} {s : Int} {n : Nat} {xs : List D}
theorem rf_asL (h : rest[n]? = some (.lst xs)) : asL (boxed p l s rest) (rf p n) = some xs := by
  show (match (boxed p l s rest)[p.length + 2 + n]? with | some (.lst xs) => some xs | _ => none) = _
  rw [boxed_n, h]
theorem rf_ix (h : rest[n]? = some (.lst xs)) (i : Int) : idxD (rf p n) (.int i) (boxed p l s rest) = fromO (atI xs i) (boxed p l s rest) := by
  show fromO ((asL (boxed p l s rest) (rf p n)).bind fun xs => atI xs i) _ = _
  rw [rf_asL h]
  rfl
theorem rf_at (h : rest[n]? = some (.lst xs)) {i : Int} {x : D} (hx : atI xs i = some x) : idxD (rf p n) (.int i) (boxed p l s rest) = .ok x (boxed p l s rest) := by
  rw [rf_ix h, hx]
  rfl
theorem rf_len (h : rest[n]? = some (.lst xs)) : lenD [rf p n] (boxed p l s rest) = .ok (.int xs.length) (boxed p l s rest) := by
  show (match asQ (boxed p l s rest) (rf p n) with | some xs => Res.ok (D.int xs.length) _ | none => Res.bad) = _
  rw [show asQ (boxed p l s rest) (rf p n) = some xs from rf_asL h]
theorem rf_set (h : rest[n]? = some (.lst xs)) {i : Int} {j : Nat} (hj : ixN xs.length i = some j) (y : D) : setD (rf p n) (.int i) y (boxed p l s rest) = .ok () (boxed p l s (rest.set n (.lst (xs.set j y)))) := by
  unfold setD
  try dsimp only
  rw [boxed_n, h]
  try dsimp only
  rw [hj]
  try dsimp only
  rw [boxed_set]
theorem rf_rec {m : Mt} (hm : m.ty = "list") (h : rest[n]? = some (.lst xs)) : (fun η => if recvOk m (rf p n) η = true then Res.ok () η else Res.bad) (boxed p l s rest) = .ok () (boxed p l s rest) := by
  have e : recvOk m (rf p n) (boxed p l s rest) = true := by
    unfold recvOk
    simp only [hm, rf_asL h, Option.isSome_some]
  simp only [e, if_true]
theorem rf_app (h : rest[n]? = some (.lst xs)) (hl : xs.length < LIM) (y : D) : mtD .append (rf p n) [y] (boxed p l s rest) = .ok .non (boxed p l s (rest.set n (.lst (xs ++ [y])))) := by
  unfold mtD
  try dsimp only
  rw [boxed_n, h]
  try dsimp only
  rw [if_pos hl, boxed_set]
theorem rf_pop (h : rest[n]? = some (.lst xs)) {i : Int} {j : Nat} {y : D} (hl : xs.length ≤ LIM) (hj : ixN xs.length i = some j) (hy : xs[j]? = some y) : mtD .popAt (rf p n) [.int i] (boxed p l s rest) = .ok y (boxed p l s (rest.set n (.lst (xs.eraseIdx j)))) := by
  unfold mtD
  try dsimp only
  rw [boxed_n, h]
  try dsimp only
  rw [hj]
  try dsimp only
  rw [hy]
  try dsimp only
  rw [if_pos hl, boxed_set]
theorem rf_frz (h : rest[n]? = some (.lst xs)) : frzD (rf p n) (boxed p l s rest) = .ok (.fl xs) (boxed p l s (rest.set n .dead)) := by
  unfold frzD
  try dsimp only
  rw [boxed_n, h]
  try dsimp only
  rw [boxed_set]
theorem rf_new {ds : List D} (hl : ds.length ≤ LIM) : newL true ds (boxed p l s rest) = .ok (rf p rest.length) (boxed p l s (rest ++ [.lst ds])) := by
  unfold newL
  rw [if_pos hl, if_pos rfl, boxed_len, boxed_snoc]
theorem rf_it (h : rest[n]? = some (.lst xs)) : itVal (rf p n) (boxed p l s rest) = .ok (xs, [(p.length + 2 + n, xs)]) (boxed p l s rest) := by
  unfold itVal itemsG
  try dsimp only
  rw [boxed_n, h]
theorem rf_gd (h : rest[n]? = some (.lst xs)) : chkG [(p.length + 2 + n, xs)] (boxed p l s rest) = .ok () (boxed p l s rest) :=
  gd_one (by rw [boxed_n, h])
theorem nix {m i : Nat} (h : i < m) : ixN m (i : Int) = some i := by
  unfold ixN
  rw [if_pos (by omega), if_pos (by omega), Int.toNat_natCast]
end
theorem flat_set {rest : List Cell} {n : Nat} {c : Cell} (h : flatCs rest = true) (hc : flatC c = true) : flatCs (rest.set n c) = true := by
  unfold flatCs at *
  rw [List.all_eq_true] at *
  intro x hx
  rcases List.mem_or_eq_of_mem_set hx with z | z
  · exact h x z
  · rw [z]; exact hc
theorem flat_snoc {rest : List Cell} {c : Cell} (h : flatCs rest = true) (hc : flatC c = true) : flatCs (rest ++ [c]) = true := by
  rw [flatCs_app, h]
  simp [flatCs, hc]
/-! ### draws -/
section
variable {T : List FD} {p rest : List Cell} {k : Nat}
theorem Ev.take {β : Type} (h : At T 23 c_law_take 2 3) (hp : flatCs p = true) (hr : flatCs rest = true) {m : Int} (h0 : 0 < m) (h1 : m < 1073741824) {kf : D → M β} {Q : β → List Cell → Prop} (q : ∀ n : Nat, (n : Int) < m → Ev p (kf (.int n)) rest Q) : Ev p (Ms.bnd (evF T (k + 1) 23 [bx p, .int m]) kf) rest Q :=
  .bnd (take_ev h hp h0 h1 (fun n hn => q n hn) hr)
/-! ### the box begun -/
def stirBody : Ss := match c_law_begun with
  | .cons _ (.cons (.for_ _ _ b) _) => b
  | _ => .nil
theorem stir_loop {d : D} {η : List Cell} : ∀ (ns : List Int) (s : Int) (x : Option D), Seed s → ∃ s2 x2, Seed s2 ∧ forL [] (bindT (.name 2)) (evSs (evF T k) stirBody) (intsD ns) [some d, some (.int s), x] η = .ok (.nx [some d, some (.int s2), x2]) η
  | [], s, x, hs => ⟨s, x, hs, rfl⟩
  | n :: ns, s, x, _ => by
    have h1 : smallI 48271 = true := by decide
    have h2 : smallI 69621 = true := by decide
    have m1 : ∀ a : Int, modD (.int a) (.int 2147483647) = Ms.ret (.int (a % 2147483647)) := fun a => rfl
    have b : evSs (evF T k) stirBody [some d, some (.int s), some (.int n)] = Ms.ret (.nx [some d, some (.int ((s * 48271 + n * 69621 + 11) % 2147483647)), some (.int n)]) := by
      simp only [stirBody, c_law_begun, evSs, evS, evE, evEs, evAnd, evOr, evO, evC, evIt, startD, List.map_cons, List.map_nil, List.length_cons, List.length_nil, List.cons_append, List.nil_append, List.replicate, List.getElem?_cons_zero, List.getElem?_cons_succ, Option.join_some, List.set_cons_zero, List.set_cons_succ, fromO_some, bnd_ret, bnd_assoc, constD, cmpD, binD, biD, bindT, setAll, asB_bnd, asB_bl, if_true, if_false, Bool.false_eq_true, Bool.not_true, Bool.not_false, LE0, LE1, LE2, LE3, LE4, mul_right h1, mul_right h2, add_int, m1]
    obtain ⟨s2, x2, q1, q2⟩ := stir_loop (d := d) (η := η) ns ((s * 48271 + n * 69621 + 11) % 2147483647) (some (.int n)) ⟨Int.emod_nonneg _ (by omega), Int.emod_lt_of_pos _ (by omega)⟩
    refine ⟨s2, x2, q1, ?_⟩
    show forL [] _ _ (.int n :: intsD ns) _ η = _
    conv => lhs; unfold forL
    have g0 : chkG [] η = .ok () η := rfl
    rw [bnd_ok g0]
    show bnd (evSs (evF T k) stirBody [some d, some (.int s), some (.int n)]) _ η = _
    rw [b, bnd_ret]
    exact q2
theorem begun_ok (h : At T 22 c_law_begun 1 3) {ns : List Int} : ∃ s, Seed s ∧ evF T (k + 1) 22 [.scr (intsD ns)] p = .ok (bx p) (boxed p ns s []) := by
  obtain ⟨s2, x2, h1, h2⟩ := stir_loop (T := T) (k := k) (d := .scr (intsD ns)) (η := p) ns 0 none ⟨by decide, by decide⟩
  have iv : itVal (.scr (intsD ns)) p = .ok (intsD ns, []) p := rfl
  have lm : listMD [.scr (intsD ns)] p = .ok (.ref p.length) (p ++ [.lst (intsD ns)]) := rfl
  have ln : lenD [.scr (intsD ns)] = Ms.ret (.int (intsD ns).length) := rfl
  have tb : ∀ b : Bool, ∃ s3, Seed s3 ∧ bnd (intD [.bl b]) (fun y => mulD (.int s2) y) = Ms.ret (.int s3) := fun b => by
    have lo := h1.lo
    have hi := h1.hi
    cases b with
    | false => exact ⟨s2 * 0, ⟨by omega, by omega⟩, mul_right (by decide)⟩
    | true => exact ⟨s2 * 1, ⟨by omega, by omega⟩, mul_right (by decide)⟩
  obtain ⟨s3, h3, h4⟩ := tb (decide ((2 : Int) < (intsD ns).length))
  refine ⟨s3, h3, ?_⟩
  have e : evSs (evF T k) c_law_begun (startD 3 [.scr (intsD ns)]) p = .ok (.rt (bx p)) (boxed p ns s3 []) := by
    rw [show c_law_begun = .cons (.asg (.name 1) (.cst (.int 0))) (.cons (.for_ (.name 2) (.val (.loc 0)) stirBody) (.cons (.ret (.lst true (.cons (.bi .listM (.cons (.loc 0) .nil)) (.cons (.bin .mul (.loc 1) (.bi .int (.cons (.cmp .gt (.bi .len (.cons (.loc 0) .nil)) (.cst (.int 2))) .nil))) .nil)))) .nil)) from rfl]
    simp only [evSs, evS, evE, evEs, evAnd, evOr, evO, evC, evIt, startD, List.map_cons, List.map_nil, List.length_cons, List.length_nil, List.cons_append, List.nil_append, List.replicate, List.getElem?_cons_zero, List.getElem?_cons_succ, Option.join_some, List.set_cons_zero, List.set_cons_succ, fromO_some, bnd_ret, bnd_assoc, constD, cmpD, binD, biD, bindT, setAll, asB_bnd, asB_bl, if_true, if_false, Bool.false_eq_true, Bool.not_true, Bool.not_false, LE0, LE1, LE2, LE3, LE4, ln, gt_int]
    rw [bnd_ok iv]
    refine (bnd_ok h2).trans ?_
    simp only [evSs, evS, evE, evEs, evAnd, evOr, evO, evC, evIt, startD, List.map_cons, List.map_nil, List.length_cons, List.length_nil, List.cons_append, List.nil_append, List.replicate, List.getElem?_cons_zero, List.getElem?_cons_succ, Option.join_some, List.set_cons_zero, List.set_cons_succ, fromO_some, bnd_ret, bnd_assoc, constD, cmpD, binD, biD, bindT, setAll, asB_bnd, asB_bl, if_true, if_false, Bool.false_eq_true, Bool.not_true, Bool.not_false, LE0, LE1, LE2, LE3, LE4, ln, gt_int]
    rw [bnd_ok lm]
    have h5 : ∀ (kk : D → M Fl), bnd (intD [.bl (decide ((2 : Int) < (intsD ns).length))]) (fun y => bnd (mulD (.int s2) y) kk) = kk (.int s3) := fun kk => by
      rw [← bnd_assoc, h4, bnd_ret]
    rw [h5]
    have nl : newL true [.ref p.length, .int s3] (p ++ [.lst (intsD ns)]) = .ok (bx p) (boxed p ns s3 []) := by
      unfold newL boxed
      rw [if_pos (show [D.ref p.length, D.int s3].length ≤ LIM from (by decide : 2 ≤ LIM)), if_pos rfl]
      simp
    rw [bnd_ok nl]
    rfl
  rw [evF_at h rfl, e]
  show trunc p.length (.ok (bx p) _) = _
  unfold trunc
  try dsimp only
  rw [if_neg]
  rintro ⟨_, z2, _⟩
  simp [dUnder] at z2
  omega
/-! ### letters -/
def ltrs (cs : List Nat) : List D := cs.map fun c => .str (S1 c)
theorem ltrs_flat (cs : List Nat) : frozens (ltrs cs) = true := frozens_map (fun _ => rfl) cs
def popBody (a b : Nat) : Ss := .cons (.ex (.mt .append (.loc b) (.cons (.mt .popAt (.loc a) (.cons (.call 23 (.cons (.loc 0) (.cons (.bi .len (.cons (.loc a) .nil)) .nil))) .nil)) .nil))) .nil
theorem abc_signs : signs ("abcdefgh" : Str) = ltrs letters := by
  have e : ("abcdefgh" : Str).cps.toList = letters := by decide +kernel
  unfold signs ltrs
  rw [e]
theorem pop_perm {cs left : List Nat} {j c : Nat} (h : (cs ++ left).Perm letters) (hj : left[j]? = some c) : ((cs ++ [c]) ++ left.eraseIdx j).Perm letters := by
  refine List.Perm.trans ?_ h
  rw [List.append_assoc]
  refine List.Perm.append_left _ ?_
  obtain ⟨hi, rfl⟩ := List.getElem?_eq_some_iff.mp hj
  rw [List.eraseIdx_eq_take_drop_succ]
  have q := (List.perm_middle (a := left[j]) (l₁ := left.take j) (l₂ := left.drop (j + 1))).symm
  rw [List.getElem_cons_drop hi, List.take_append_drop] at q
  exact q
end
end Ev
end
section
set_option Elab.async false
set_option linter.all false
set_option maxRecDepth 100000
set_option maxHeartbeats 1000000
/-! Letters, steps, works. -/
namespace Ev
open PySem L2 Ms Cod
section
variable {T : List FD} {p rest : List Cell} {k : Nat}
theorem set_same {α : Type} {xs : List α} {n : Nat} {x : α} (h : xs[n]? = some x) : xs.set n x = xs := by
  obtain ⟨hi, rfl⟩ := List.getElem?_eq_some_iff.mp h
  exact List.set_getElem_self hi
/-- a turn: a letter goes from the cell n to the cell n + 1 -/
theorem pop_turn (h : At T 23 c_law_take 2 3) (hp : flatCs p = true) {a b n : Nat} {ρ : Ms.Env} {cs left : List Nat} (hr : flatCs rest = true) (e0 : ρ[0]?.join = some (bx p)) (ea : ρ[a]?.join = some (rf p n)) (eb : ρ[b]?.join = some (rf p (n + 1)))
    (ha : rest[n]? = some (.lst (ltrs left))) (hb : rest[n + 1]? = some (.lst (ltrs cs))) (pm : (cs ++ left).Perm letters) (hl : 0 < left.length) {Q : Fl → List Cell → Prop}
    (q : ∀ cs2 left2, (cs2 ++ left2).Perm letters → cs2.length = cs.length + 1 → left2.length + 1 = left.length → Q (.nx ρ) ((rest.set n (.lst (ltrs left2))).set (n + 1) (.lst (ltrs cs2)))) : Ev p (evSs (evF T (k + 1)) (popBody a b) ρ) rest Q := by
  have len8 : cs.length + left.length = 8 := by rw [← List.length_append]; exact pm.length_eq
  have lim : LIM = 1000000 := rfl
  have ll : (ltrs left).length = left.length := by simp [ltrs]
  simp only [popBody, evSs, evS, evE, evEs, evAnd, evOr, evO, evC, evIt, startD, List.map_cons, List.map_nil, List.length_cons, List.length_nil, List.cons_append, List.nil_append, List.replicate, List.getElem?_cons_zero, List.getElem?_cons_succ, Option.join_some, List.set_cons_zero, List.set_cons_succ, fromO_some, bnd_ret, bnd_assoc, constD, cmpD, binD, biD, bindT, setAll, asB_bnd, asB_bl, if_true, if_false, Bool.false_eq_true, Bool.not_true, Bool.not_false, LE0, LE1, LE2, LE3, LE4, e0, ea, eb]
  refine .step (fun l s => rf_rec rfl hb) ?_
  refine .step (fun l s => rf_rec rfl ha) ?_
  refine .step (fun l s => rf_len ha) ?_
  refine .take h hp hr (by omega) (by omega) fun i hi => ?_
  rw [ll] at hi
  have hi2 : i < left.length := by omega
  have ej : (ltrs left)[i]? = some (.str (S1 left[i])) := by simp [ltrs, hi2]
  try simp only [evSs, evS, evE, evEs, evAnd, evOr, evO, evC, evIt, startD, List.map_cons, List.map_nil, List.length_cons, List.length_nil, List.cons_append, List.nil_append, List.replicate, List.getElem?_cons_zero, List.getElem?_cons_succ, Option.join_some, List.set_cons_zero, List.set_cons_succ, fromO_some, bnd_ret, bnd_assoc, constD, cmpD, binD, biD, bindT, setAll, asB_bnd, asB_bl, if_true, if_false, Bool.false_eq_true, Bool.not_true, Bool.not_false, LE0, LE1, LE2, LE3, LE4]
  refine .step (fun l s => rf_pop ha (by omega) (nix (by omega)) ej) ?_
  have hb2 : (rest.set n (.lst ((ltrs left).eraseIdx i)))[n + 1]? = some (.lst (ltrs cs)) := by
    rw [List.getElem?_set_ne (by omega)]
    exact hb
  have lc : (ltrs cs).length < LIM := by simp [ltrs]; omega
  refine .step (fun l s => rf_app hb2 lc _) (.ret ?_)
  have e1 : (ltrs left).eraseIdx i = ltrs (left.eraseIdx i) := by
    unfold ltrs
    rw [List.eraseIdx_eq_take_drop_succ, List.eraseIdx_eq_take_drop_succ, List.map_append, List.map_take, List.map_drop]
  have e2 : ltrs cs ++ [.str (S1 left[i])] = ltrs (cs ++ [left[i]]) := by simp [ltrs]
  rw [e1, e2]
  refine q _ _ (pop_perm pm (List.getElem?_eq_getElem hi2)) (by simp) ?_
  rw [List.length_eraseIdx]
  rw [if_pos hi2]
  omega
theorem pop_loop (h : At T 23 c_law_take 2 3) (hp : flatCs p = true) {a b c n : Nat} {Q : Fl → List Cell → Prop} : ∀ (ts : List D) (ρ : Ms.Env) (rest : List Cell) (cs left : List Nat), flatCs rest = true → ρ[0]?.join = some (bx p) → ρ[a]?.join = some (rf p n) → ρ[b]?.join = some (rf p (n + 1)) →
    0 ≠ c → a ≠ c → b ≠ c → rest[n]? = some (.lst (ltrs left)) → rest[n + 1]? = some (.lst (ltrs cs)) → (cs ++ left).Perm letters → ts.length ≤ left.length →
    (∀ x cs2 left2, (cs2 ++ left2).Perm letters → cs2.length = cs.length + ts.length → Q (.nx (if ts = [] then ρ else ρ.set c x)) ((rest.set n (.lst (ltrs left2))).set (n + 1) (.lst (ltrs cs2)))) → Ev p (forL [] (bindT (.name c)) (evSs (evF T (k + 1)) (popBody a b)) ts ρ) rest Q
  | [], ρ, rest, cs, left, hr, e0, ea, eb, _, _, _, ha, hb, pm, hl, q => by
    have z := q none cs left pm rfl
    rw [if_pos rfl] at z
    have e : (rest.set n (.lst (ltrs left))).set (n + 1) (.lst (ltrs cs)) = rest := by
      rw [set_same ha, set_same hb]
    rw [e] at z
    unfold forL
    exact .step (fun l s => rfl) (.ret z)
  | d :: ts, ρ, rest, cs, left, hr, e0, ea, eb, n0, na, nb, ha, hb, pm, hl, q => by
    simp only [List.length_cons] at hl q
    unfold forL
    refine .step (fun l s => rfl) ?_
    show Ev p (Ms.bnd (evSs (evF T (k + 1)) (popBody a b) (ρ.set c (some d))) _) rest Q
    have g : ∀ {i : Nat} {v : D}, i ≠ c → ρ[i]?.join = some v → (ρ.set c (some d))[i]?.join = some v := fun hi hv => by
      rw [List.getElem?_set_ne (Ne.symm hi)]
      exact hv
    refine .bnd (pop_turn h hp hr (g n0 e0) (g na ea) (g nb eb) ha hb pm (by omega) fun cs2 left2 pm2 l1 l2 => ?_)
    have lt : n + 1 < rest.length := (List.getElem?_eq_some_iff.mp hb).1
    refine pop_loop h hp ts _ _ cs2 left2 (flat_set (flat_set hr (ltrs_flat _)) (ltrs_flat _)) (g n0 e0) (g na ea) (g nb eb) n0 na nb ?_ ?_ pm2 (by omega) fun x cs3 left3 pm3 l3 => ?_
    · rw [List.getElem?_set_ne (by omega), List.getElem?_set_self (by omega)]
    · rw [List.getElem?_set_self (by simpa using lt)]
    · have z := q (if ts = [] then some d else x) cs3 left3 pm3 (by omega)
      rw [if_neg (by simp)] at z
      have e : ((((rest.set n (.lst (ltrs left2))).set (n + 1) (.lst (ltrs cs2))).set n (.lst (ltrs left3))).set (n + 1) (.lst (ltrs cs3))) = (rest.set n (.lst (ltrs left3))).set (n + 1) (.lst (ltrs cs3)) := by
        rw [List.set_comm _ _ (show n + 1 ≠ n by omega), List.set_set, List.set_set]
      rw [e]
      split
      · rename_i ht
        rw [if_pos ht] at z
        exact z
      · rename_i ht
        rw [if_neg ht] at z
        rw [List.set_set]
        exact z
/-- two to eight letters, each once -/
structure Ltrs (cs : List Nat) : Prop where
  lo : 2 ≤ cs.length
  hi : cs.length ≤ 8
  mem : ∀ c ∈ cs, c ∈ letters
  nodup : cs.Nodup
theorem Ltrs.of {cs left : List Nat} (pm : (cs ++ left).Perm letters) (h : 2 ≤ cs.length) : Ltrs cs := by
  refine ⟨h, ?_, fun c hc => pm.subset (List.mem_append_left _ hc), ?_⟩
  · have := pm.length_eq
    simp [letters] at this
    omega
  · have : letters.Nodup := by decide
    exact (List.nodup_append.mp (pm.nodup_iff.mpr this)).1
theorem letters_ev (h : At T 23 c_law_take 2 3) (h2 : At T 25 c_law_letters 1 4) (hp : flatCs p = true) (hr : flatCs rest = true) {Q : D → List Cell → Prop} (q : ∀ cs, Ltrs cs → Q (.fl (ltrs cs)) rest) : Ev p (evF T (k + 2) 25 [bx p]) rest Q := by
  refine .call h2 rfl hp ?_
  have lm : ∀ l s, listMD [.str "abcdefgh"] (boxed p l s rest) = .ok (rf p rest.length) (boxed p l s (rest ++ [.lst (ltrs letters)])) := fun l s => by
    show (if ("abcdefgh" : Str).length ≤ LIM then (fun η : List Cell => Res.ok (D.ref η.length) (η ++ [Cell.lst (signs ("abcdefgh" : Str))])) else bad) _ = _
    rw [if_pos (by decide +kernel), abc_signs]
    show Res.ok (D.ref (boxed p l s rest).length) _ = _
    rw [boxed_len, boxed_snoc]
  have f1 : flatCs (rest ++ [.lst (ltrs letters)]) = true := flat_snoc hr (ltrs_flat _)
  have f2 : flatCs (rest ++ [.lst (ltrs letters)] ++ [.lst []]) = true := flat_snoc f1 rfl
  rw [show c_law_letters = .cons (.par 1 2 (.bi .listM (.cons (.cst (.str "abcdefgh")) .nil)) (.lst true .nil)) (.cons (.for_ (.name 3) (.rng1 (.bin .add (.cst (.int 2)) (.sub (.lst false (.cons (.call 23 (.cons (.loc 0) (.cons (.cst (.int 2)) .nil))) (.cons (.call 23 (.cons (.loc 0) (.cons (.cst (.int 7)) .nil))) .nil))) (.call 23 (.cons (.loc 0) (.cons (.cst (.int 2)) .nil)))))) (popBody 1 2)) (.cons (.ret (.frz (.loc 2))) .nil)) from rfl]
  try simp only [evSs, evS, evE, evEs, evAnd, evOr, evO, evC, evIt, startD, List.map_cons, List.map_nil, List.length_cons, List.length_nil, List.cons_append, List.nil_append, List.replicate, List.getElem?_cons_zero, List.getElem?_cons_succ, Option.join_some, List.set_cons_zero, List.set_cons_succ, fromO_some, bnd_ret, bnd_assoc, constD, cmpD, binD, biD, bindT, setAll, asB_bnd, asB_bl, if_true, if_false, Bool.false_eq_true, Bool.not_true, Bool.not_false, LE0, LE1, LE2, LE3, LE4]
  refine .step lm ?_
  refine .step (fun l s => rf_new (Nat.zero_le _)) ?_
  try simp only [evSs, evS, evE, evEs, evAnd, evOr, evO, evC, evIt, startD, List.map_cons, List.map_nil, List.length_cons, List.length_nil, List.cons_append, List.nil_append, List.replicate, List.getElem?_cons_zero, List.getElem?_cons_succ, Option.join_some, List.set_cons_zero, List.set_cons_succ, fromO_some, bnd_ret, bnd_assoc, constD, cmpD, binD, biD, bindT, setAll, asB_bnd, asB_bl, if_true, if_false, Bool.false_eq_true, Bool.not_true, Bool.not_false, LE0, LE1, LE2, LE3, LE4]
  refine .take h hp f2 (by decide) (by decide) fun x hx => ?_
  refine .take h hp f2 (by decide) (by decide) fun y hy => ?_
  simp only [newL_f (show [D.int x, D.int y].length ≤ LIM from (by decide : 2 ≤ LIM)), evSs, evS, evE, evEs, evAnd, evOr, evO, evC, evIt, startD, List.map_cons, List.map_nil, List.length_cons, List.length_nil, List.cons_append, List.nil_append, List.replicate, List.getElem?_cons_zero, List.getElem?_cons_succ, Option.join_some, List.set_cons_zero, List.set_cons_succ, fromO_some, bnd_ret, bnd_assoc, constD, cmpD, binD, biD, bindT, setAll, asB_bnd, asB_bl, if_true, if_false, Bool.false_eq_true, Bool.not_true, Bool.not_false, LE0, LE1, LE2, LE3, LE4]
  refine .take h hp f2 (by decide) (by decide) fun i hi => ?_
  obtain ⟨z, hz, hz2⟩ : ∃ z : Nat, idxD (.fl [.int x, .int y]) (.int i) = Ms.ret (.int z) ∧ z ≤ 6 := by
    have : i = 0 ∨ i = 1 := by omega
    rcases this with rfl | rfl
    · exact ⟨x, ix_fl _ _, by omega⟩
    · exact ⟨y, ix_fl _ _, by omega⟩
  simp only [hz, evSs, evS, evE, evEs, evAnd, evOr, evO, evC, evIt, startD, List.map_cons, List.map_nil, List.length_cons, List.length_nil, List.cons_append, List.nil_append, List.replicate, List.getElem?_cons_zero, List.getElem?_cons_succ, Option.join_some, List.set_cons_zero, List.set_cons_succ, fromO_some, bnd_ret, bnd_assoc, constD, cmpD, binD, biD, bindT, setAll, asB_bnd, asB_bl, if_true, if_false, Bool.false_eq_true, Bool.not_true, Bool.not_false, LE0, LE1, LE2, LE3, LE4, add_int]
  have e2 : (2 : Int) + (z : Int) = ((2 + z : Nat) : Int) := by omega
  rw [e2, rng1 (by omega)]
  try simp only [evSs, evS, evE, evEs, evAnd, evOr, evO, evC, evIt, startD, List.map_cons, List.map_nil, List.length_cons, List.length_nil, List.cons_append, List.nil_append, List.replicate, List.getElem?_cons_zero, List.getElem?_cons_succ, Option.join_some, List.set_cons_zero, List.set_cons_succ, fromO_some, bnd_ret, bnd_assoc, constD, cmpD, binD, biD, bindT, setAll, asB_bnd, asB_bl, if_true, if_false, Bool.false_eq_true, Bool.not_true, Bool.not_false, LE0, LE1, LE2, LE3, LE4]
  refine .bnd ?_
  have g0 : (rest ++ [.lst (ltrs letters)] ++ [.lst []])[rest.length]? = some (.lst (ltrs letters)) := by simp
  have g1 : (rest ++ [.lst (ltrs letters)] ++ [.lst []])[rest.length + 1]? = some (.lst (ltrs [])) := by simp [ltrs]
  refine pop_loop h hp _ _ _ [] letters f2 rfl rfl ?_ (by decide) (by decide) (by decide) g0 g1 (by simp) (by simp [letters]; omega) fun w cs left pm hl => ?_
  · simp [rf]
  simp only [List.length_map, List.length_range, List.length_nil, Nat.zero_add] at hl
  rw [if_neg (by intro z2; have := congrArg List.length z2; simp at this)]
  try simp only [evSs, evS, evE, evEs, evAnd, evOr, evO, evC, evIt, startD, List.map_cons, List.map_nil, List.length_cons, List.length_nil, List.cons_append, List.nil_append, List.replicate, List.getElem?_cons_zero, List.getElem?_cons_succ, Option.join_some, List.set_cons_zero, List.set_cons_succ, fromO_some, bnd_ret, bnd_assoc, constD, cmpD, binD, biD, bindT, setAll, asB_bnd, asB_bl, if_true, if_false, Bool.false_eq_true, Bool.not_true, Bool.not_false, LE0, LE1, LE2, LE3, LE4]
  have gl : (((rest ++ [Cell.lst (ltrs letters)] ++ [Cell.lst []]).set rest.length (Cell.lst (ltrs left))).set (rest.length + 1) (Cell.lst (ltrs cs)))[rest.length + 1]? = some (.lst (ltrs cs)) := by
    rw [List.getElem?_set_self (by simp)]
  have ei : (rf p (rest ++ [Cell.lst (ltrs letters)]).length) = rf p (rest.length + 1) := by simp [rf]
  rw [ei]
  refine .step (fun l s => rf_frz gl) (.ret ⟨rest, [.lst (ltrs left), .dead], ?_, rfl, hr, ltrs_flat _, q cs (.of pm (by omega))⟩)
  simp [List.set_append]
end
end Ev
end
section
set_option Elab.async false
set_option linter.all false
set_option maxRecDepth 100000
set_option maxHeartbeats 1000000
/-! Steps, works. -/
namespace Ev
open PySem L2 Ms Cod
/-- a step that may come -/
structure Stp (cs : List Nat) (b : Bool) (w : Str) : Prop where
  at_ : ∃ c g, w = ⟨#[c, g]⟩ ∧ c ∈ cs ∧ signB g = true ∧ (g = 99 → b = true)
theorem letter_lt {c : Nat} (h : c ∈ letters) : c < 1000 := by
  simp [letters] at h
  omega
theorem sign_lt {g : Nat} (h : signB g = true) : g < 1000 := by
  simp [signB] at h
  omega
theorem Stp.ok {cs : List Nat} {b : Bool} {w : Str} (h : Stp cs b w) (hc : ∀ c ∈ cs, c ∈ letters) : OkW w := by
  obtain ⟨c, g, rfl, h1, h2, _⟩ := h.at_
  have := letter_lt (hc c h1)
  have := sign_lt h2
  exact ⟨by simp [PyData.strOk]; omega, by simp [Str.length]⟩
theorem Stp.next {cs : List Nat} {b : Bool} {w : Str} (h : Stp cs b w) (hc : ∀ c ∈ cs, c ∈ letters) : nextB w b = true := by
  obtain ⟨c, g, rfl, h1, h2, h3⟩ := h.at_
  have h4 := hc c h1
  simp only [nextB, stepB, sg, h2, Bool.and_eq_true, Bool.or_eq_true, Bool.not_eq_true', List.getD_cons_succ, List.getD_cons_zero]
  refine ⟨⟨decide_eq_true h4, trivial⟩, ?_⟩
  by_cases hg : g = 99
  · exact .inr (h3 hg)
  · exact .inl (beq_eq_false_iff_ne.mpr hg)
section
variable {T : List FD} {p rest : List Cell} {k : Nat}
theorem step_ev (h : At T 23 c_law_take 2 3) (h2 : At T 29 c_law_step 3 4) (hp : flatCs p = true) (hr : flatCs rest = true) {cs : List Nat} (hc : Ltrs cs) {b : Bool} {Q : D → List Cell → Prop} (q : ∀ w, Stp cs b w → Q (.str w) rest) : Ev p (evF T (k + 2) 29 [bx p, .fl (ltrs cs), .bl b]) rest Q := by
  refine .call0 h2 rfl hp hr ?_
  have eR : ("r" : Str) = S1 114 := by decide +kernel
  have eW : ("w" : Str) = S1 119 := by decide +kernel
  have eC : ("c" : Str) = S1 99 := by decide +kernel
  have ll : (ltrs cs).length = cs.length := by simp [ltrs]
  have hi := hc.hi
  have lo := hc.lo
  simp only [c_law_step, evSs, evS, evE, evEs, evAnd, evOr, evO, evC, evIt, startD, List.map_cons, List.map_nil, List.length_cons, List.length_nil, List.cons_append, List.nil_append, List.replicate, List.getElem?_cons_zero, List.getElem?_cons_succ, Option.join_some, List.set_cons_zero, List.set_cons_succ, fromO_some, bnd_ret, bnd_assoc, constD, cmpD, binD, biD, bindT, setAll, asB_bnd, asB_bl, if_true, if_false, Bool.false_eq_true, Bool.not_true, Bool.not_false, LE0, LE1, LE2, LE3, LE4, eR, eW, eC, newL_f (show [D.str (S1 114), D.str (S1 119), D.str (S1 114), D.str (S1 99)].length ≤ LIM from (by decide : 4 ≤ LIM))]
  refine .take h hp hr (by decide) (by decide) fun i hi4 => ?_
  obtain ⟨g, hg, hg2⟩ : ∃ g, idxD (.fl [D.str (S1 114), D.str (S1 119), D.str (S1 114), D.str (S1 99)]) (.int i) = Ms.ret (.str (S1 g)) ∧ signB g = true := by
    have : i = 0 ∨ i = 1 ∨ i = 2 ∨ i = 3 := by omega
    rcases this with rfl | rfl | rfl | rfl
    · exact ⟨114, ix_fl _ _, rfl⟩
    · exact ⟨119, ix_fl _ _, rfl⟩
    · exact ⟨114, ix_fl _ _, rfl⟩
    · exact ⟨99, ix_fl _ _, rfl⟩
  simp only [hg, evSs, evS, evE, evEs, evAnd, evOr, evO, evC, evIt, startD, List.map_cons, List.map_nil, List.length_cons, List.length_nil, List.cons_append, List.nil_append, List.replicate, List.getElem?_cons_zero, List.getElem?_cons_succ, Option.join_some, List.set_cons_zero, List.set_cons_succ, fromO_some, bnd_ret, bnd_assoc, constD, cmpD, binD, biD, bindT, setAll, asB_bnd, asB_bl, if_true, if_false, Bool.false_eq_true, Bool.not_true, Bool.not_false, LE0, LE1, LE2, LE3, LE4, len_fl, ll]
  refine .take h hp hr (by omega) (by omega) fun j hj => ?_
  have hj2 : j < cs.length := by omega
  have ej : atI (ltrs cs) (j : Int) = some (.str (S1 cs[j])) := at_nat (by simp [ltrs, hj2])
  have oG : OkW (S1 g) := S1_ok (by have := sign_lt hg2; omega)
  have oC : OkW (S1 99) := S1_ok (by decide)
  have ad : ∀ x y : Nat, addD (.str (S1 x)) (.str (S1 y)) = Ms.ret (.str ⟨#[x, y]⟩) := fun x y => by
    show (if (S1 x).length + (S1 y).length ≤ LIM then Ms.ret (D.str (S1 x ++ S1 y)) else bad) = _
    rw [if_pos (by
      show 1 + 1 ≤ LIM
      decide)]
    rfl
  simp only [ix_fl, ej, evSs, evS, evE, evEs, evAnd, evOr, evO, evC, evIt, startD, List.map_cons, List.map_nil, List.length_cons, List.length_nil, List.cons_append, List.nil_append, List.replicate, List.getElem?_cons_zero, List.getElem?_cons_succ, Option.join_some, List.set_cons_zero, List.set_cons_succ, fromO_some, bnd_ret, bnd_assoc, constD, cmpD, binD, biD, bindT, setAll, asB_bnd, asB_bl, if_true, if_false, Bool.false_eq_true, Bool.not_true, Bool.not_false, LE0, LE1, LE2, LE3, LE4, ne_str oG.ok oC.ok, S1_beq]
  by_cases h9 : g = 99
  · subst h9
    cases b with
    | true =>
      simp only [beq_self_eq_true, evSs, evS, evE, evEs, evAnd, evOr, evO, evC, evIt, startD, List.map_cons, List.map_nil, List.length_cons, List.length_nil, List.cons_append, List.nil_append, List.replicate, List.getElem?_cons_zero, List.getElem?_cons_succ, Option.join_some, List.set_cons_zero, List.set_cons_succ, fromO_some, bnd_ret, bnd_assoc, constD, cmpD, binD, biD, bindT, setAll, asB_bnd, asB_bl, if_true, if_false, Bool.false_eq_true, Bool.not_true, Bool.not_false, LE0, LE1, LE2, LE3, LE4, ad]
      exact .ret ⟨List.prefix_refl _, rfl, q _ ⟨_, _, rfl, List.getElem_mem hj2, hg2, fun _ => rfl⟩⟩
    | false =>
      simp only [beq_self_eq_true, evSs, evS, evE, evEs, evAnd, evOr, evO, evC, evIt, startD, List.map_cons, List.map_nil, List.length_cons, List.length_nil, List.cons_append, List.nil_append, List.replicate, List.getElem?_cons_zero, List.getElem?_cons_succ, Option.join_some, List.set_cons_zero, List.set_cons_succ, fromO_some, bnd_ret, bnd_assoc, constD, cmpD, binD, biD, bindT, setAll, asB_bnd, asB_bl, if_true, if_false, Bool.false_eq_true, Bool.not_true, Bool.not_false, LE0, LE1, LE2, LE3, LE4, ad]
      exact .ret ⟨List.prefix_refl _, rfl, q _ ⟨_, _, rfl, List.getElem_mem hj2, rfl, fun z => by omega⟩⟩
  · simp only [beq_eq_false_iff_ne.mpr h9, evSs, evS, evE, evEs, evAnd, evOr, evO, evC, evIt, startD, List.map_cons, List.map_nil, List.length_cons, List.length_nil, List.cons_append, List.nil_append, List.replicate, List.getElem?_cons_zero, List.getElem?_cons_succ, Option.join_some, List.set_cons_zero, List.set_cons_succ, fromO_some, bnd_ret, bnd_assoc, constD, cmpD, binD, biD, bindT, setAll, asB_bnd, asB_bl, if_true, if_false, Bool.false_eq_true, Bool.not_true, Bool.not_false, LE0, LE1, LE2, LE3, LE4, ad]
    exact .ret ⟨List.prefix_refl _, rfl, q _ ⟨_, _, rfl, List.getElem_mem hj2, hg2, fun z => absurd z h9⟩⟩
/-! ### works -/
/-- a work of letters -/
def wrong (ws : List Str) : Bool := ws.any fun w => sg w == 119
structure Wk (cs : List Nat) (ws : List Str) : Prop where
  ok : ∀ i w, ws[i]? = some w → Stp cs (wrong (ws.take i)) w
theorem Wk.nil {cs : List Nat} : Wk cs [] := ⟨fun i w h => by simp at h⟩
theorem Wk.snoc {cs : List Nat} {ws : List Str} {w : Str} (h : Wk cs ws) (hw : Stp cs (wrong ws) w) : Wk cs (ws ++ [w]) := by
  refine ⟨fun i v hv => ?_⟩
  by_cases hi : i < ws.length
  · rw [List.getElem?_append_left hi] at hv
    rw [List.take_append_of_le_length (by omega)]
    exact h.ok i v hv
  · have : i = ws.length := by
      have := (List.getElem?_eq_some_iff.mp hv).1
      simp at this
      omega
    subst this
    simp at hv
    subst hv
    rw [List.take_append_of_le_length (Nat.le_refl _), List.take_length]
    exact hw
theorem Wk.stp {cs : List Nat} {ws : List Str} (h : Wk cs ws) {w : Str} (hw : w ∈ ws) : ∃ b, Stp cs b w := by
  obtain ⟨i, hi⟩ := List.getElem?_of_mem hw
  exact ⟨_, h.ok i w hi⟩
theorem Wk.okW {cs : List Nat} {ws : List Str} (h : Wk cs ws) (hc : ∀ c ∈ cs, c ∈ letters) : ∀ w ∈ ws, OkW w := fun w hw => by
  obtain ⟨b, z⟩ := h.stp hw
  exact z.ok hc
theorem nw_none : ∀ (ws : List Str) (i : Nat) (b : Bool), i + ws.length ≤ 12 → (∀ j w, ws[j]? = some w → nextB w (b || wrong (ws.take j)) = true) → nw i b ws = none
  | [], i, b, _, _ => rfl
  | w :: ws, i, b, hl, h => by
    simp only [List.length_cons] at hl
    have h0 := h 0 w rfl
    simp only [List.take_zero, wrong, List.any_nil, Bool.or_false] at h0
    unfold nw
    rw [if_neg (by rw [h0]; simp; omega)]
    refine nw_none ws (i + 1) _ (by omega) fun j v hv => ?_
    have := h (j + 1) v hv
    simp only [List.take_succ_cons, wrong, List.any_cons] at this
    rw [Bool.or_assoc]
    exact this
theorem Wk.nw {cs : List Nat} {ws : List Str} (h : Wk cs ws) (hc : ∀ c ∈ cs, c ∈ letters) (hl : ws.length ≤ 12) : nw 0 false ws = none :=
  nw_none ws 0 false (by omega) fun j w hw => by rw [Bool.false_or]; exact (h.ok j w hw).next hc
def bls (ws : List Str) : List D := ws.map fun w => .bl (sg w == 119)
theorem any_loop {cf : Nat → List D → M D} {p0 p1 p2 p3 p4 p5 : Option D} {g : Gd} {η : List Cell} (hg : chkG g η = .ok () η) : ∀ (us acc : List Str), (∀ w ∈ us, ∃ cs b, Stp cs b w ∧ ∀ c ∈ cs, c ∈ letters) → acc.length + us.length < LIM →
    lcL g (fun d => bindT (.name 5) d (wipeD [p0, p1, p2, p3, p4, p5] [5])) (evC cf .none) (evE cf (.cmp .eq (.sub (.loc 5) (.cst (.int 1))) (.cst (.str "w")))) (txts us) (bls acc) η = .ok (bls (acc ++ us)) η
  | [], acc, _, _ => by
    rw [List.append_nil]
    show lcL _ _ _ _ [] _ η = _
    conv => lhs; unfold lcL
    exact bnd_ok hg
  | w :: us, acc, h, hl => by
    obtain ⟨cs, b0, sp, hcs⟩ := h w List.mem_cons_self
    have ow := sp.ok hcs
    obtain ⟨c1, c2, rfl, _, sg2, _⟩ := sp.at_
    have hq : (⟨#[c1, c2]⟩ : Str).cps.toList = [c1, c2] := rfl
    have o2 : OkW (S1 c2) := S1_ok (by have := sign_lt sg2; omega)
    have hg2 : sg ⟨#[c1, c2]⟩ = c2 := rfl
    have eW : ("w" : Str) = S1 119 := by decide +kernel
    have oW : OkW (S1 119) := S1_ok (by decide)
    have hr : ∀ v ∈ us, ∃ cs b, Stp cs b v ∧ ∀ c ∈ cs, c ∈ letters := fun v hv => h v (List.mem_cons_of_mem _ hv)
    simp only [List.length_cons] at hl
    have la : (bls acc).length < LIM := by
      have : (bls acc).length = acc.length := by simp [bls]
      omega
    have x : evE cf (.cmp .eq (.sub (.loc 5) (.cst (.int 1))) (.cst (.str "w"))) [p0, p1, p2, p3, p4, some (.str ⟨#[c1, c2]⟩)] = Ms.ret (.bl (sg ⟨#[c1, c2]⟩ == 119)) := by
      simp only [evSs, evS, evE, evEs, evAnd, evOr, evO, evC, evIt, startD, List.map_cons, List.map_nil, List.length_cons, List.length_nil, List.cons_append, List.nil_append, List.replicate, List.getElem?_cons_zero, List.getElem?_cons_succ, Option.join_some, List.set_cons_zero, List.set_cons_succ, fromO_some, bnd_ret, bnd_assoc, constD, cmpD, binD, biD, bindT, setAll, asB_bnd, asB_bl, if_true, if_false, Bool.false_eq_true, Bool.not_true, Bool.not_false, LE0, LE1, LE2, LE3, LE4, ix1 hq ow.lim, eW, eq_str o2.ok oW.ok, S1_beq, hg2]
    have nx1 : ∀ {α : Type} (v : α), noX (Ms.ret v) = Ms.ret v := fun v => rfl
    have c : evC cf .none [p0, p1, p2, p3, p4, some (.str ⟨#[c1, c2]⟩)] = Ms.ret true := by simp only [evC]
    show lcL _ _ _ _ (.str ⟨#[c1, c2]⟩ :: txts us) (bls acc) η = _
    conv => lhs; unfold lcL
    rw [bnd_ok hg]
    show bnd (noX (evC cf .none [p0, p1, p2, p3, p4, some (.str ⟨#[c1, c2]⟩)])) (fun b => if b = true then bnd (noX (evE cf (.cmp .eq (.sub (.loc 5) (.cst (.int 1))) (.cst (.str "w"))) [p0, p1, p2, p3, p4, some (.str ⟨#[c1, c2]⟩)])) fun y => if (bls acc).length < LIM then lcL _ _ _ _ (txts us) (bls acc ++ [y]) else bad else lcL _ _ _ _ (txts us) (bls acc)) η = _
    rw [c, x, nx1, nx1, bnd_ret, if_pos rfl, bnd_ret, if_pos la]
    have e : bls acc ++ [D.bl (sg ⟨#[c1, c2]⟩ == 119)] = bls (acc ++ [⟨#[c1, c2]⟩]) := by simp [bls]
    rw [e]
    have q := any_loop (cf := cf) (p0 := p0) (p1 := p1) (p2 := p2) (p3 := p3) (p4 := p4) (p5 := p5) hg us (acc ++ [⟨#[c1, c2]⟩]) hr (by simp; omega)
    rw [List.append_assoc] at q
    exact q
theorem asBs_bls : ∀ ws : List Str, asBs (bls ws) = some (ws.map fun w => sg w == 119)
  | [] => rfl
  | w :: ws => by
    have ih := asBs_bls ws
    show asBs (.bl (sg w == 119) :: bls ws) = _
    simp only [asBs, ih, Option.map_some, List.map_cons]
theorem any_wrong (ws : List Str) : anyD [.fl (bls ws)] = Ms.ret (.bl (wrong ws)) := by
  funext η
  show (match asBs (bls ws) with | some bs => Res.ok (D.bl (bs.any id)) _ | none => Res.bad) = _
  rw [asBs_bls]
  show Res.ok (D.bl ((ws.map fun w => sg w == 119).any id)) η = _
  unfold wrong
  rw [List.any_map]
  rfl
def workBody : Ss := match c_law_work with
  | .cons _ (.cons (.for_ _ _ b) _) => b
  | _ => .nil
theorem txts_flat (ws : List Str) : frozens (txts ws) = true := frozens_map (fun _ => rfl) ws
theorem work_turn (h : At T 23 c_law_take 2 3) (h2 : At T 29 c_law_step 3 4) (hp : flatCs p = true) (hr : flatCs rest = true) {cs : List Nat} (hc : Ltrs cs) {ws : List Str} {m t x : Option D} (hw : Wk cs ws) (hn : ws.length ≤ 1000) {Q : Fl → List Cell → Prop}
    (q : ∀ w, Stp cs (wrong ws) w → Q (.nx [some (bx p), some (.fl (ltrs cs)), m, some (rf p rest.length), t, x]) (rest ++ [.lst (txts (ws ++ [w]))])) :
    Ev p (evSs (evF T (k + 2)) workBody [some (bx p), some (.fl (ltrs cs)), m, some (rf p rest.length), t, x]) (rest ++ [.lst (txts ws)]) Q := by
  have lim : LIM = 1000000 := rfl
  have gl : (rest ++ [Cell.lst (txts ws)])[rest.length]? = some (.lst (txts ws)) := by simp
  have f : flatCs (rest ++ [.lst (txts ws)]) = true := flat_snoc hr (txts_flat _)
  have lb : (bls ws).length ≤ LIM := by simp [bls]; omega
  simp only [workBody, c_law_work, evSs, evS, evE, evEs, evAnd, evOr, evO, evC, evIt, startD, List.map_cons, List.map_nil, List.length_cons, List.length_nil, List.cons_append, List.nil_append, List.replicate, List.getElem?_cons_zero, List.getElem?_cons_succ, Option.join_some, List.set_cons_zero, List.set_cons_succ, fromO_some, bnd_ret, bnd_assoc, constD, cmpD, binD, biD, bindT, setAll, asB_bnd, asB_bl, if_true, if_false, Bool.false_eq_true, Bool.not_true, Bool.not_false, LE0, LE1, LE2, LE3, LE4]
  refine .step (fun l s => rf_rec rfl gl) ?_
  refine .step (fun l s => rf_it gl) ?_
  refine .step (a := bls ([] ++ ws)) (rest2 := rest ++ [.lst (txts ws)]) (fun l s => ?_) ?_
  · have lp := any_loop (cf := evF T (k + 2)) (p0 := some (bx p)) (p1 := some (.fl (ltrs cs))) (p2 := m) (p3 := some (rf p rest.length)) (p4 := t) (p5 := x) (rf_gd (p := p) (l := l) (s := s) gl) ws [] (fun w hw2 => by
      obtain ⟨b, z⟩ := hw.stp hw2
      exact ⟨cs, b, z, hc.mem⟩) (by simp; omega)
    simp only [evSs, evS, evE, evEs, evAnd, evOr, evO, evC, evIt, startD, List.map_cons, List.map_nil, List.length_cons, List.length_nil, List.cons_append, List.nil_append, List.replicate, List.getElem?_cons_zero, List.getElem?_cons_succ, Option.join_some, List.set_cons_zero, List.set_cons_succ, fromO_some, bnd_ret, bnd_assoc, constD, cmpD, binD, biD, bindT, setAll, asB_bnd, asB_bl, if_true, if_false, Bool.false_eq_true, Bool.not_true, Bool.not_false, LE0, LE1, LE2, LE3, LE4] at lp
    exact lp
  rw [List.nil_append, newL_f lb]
  simp only [evSs, evS, evE, evEs, evAnd, evOr, evO, evC, evIt, startD, List.map_cons, List.map_nil, List.length_cons, List.length_nil, List.cons_append, List.nil_append, List.replicate, List.getElem?_cons_zero, List.getElem?_cons_succ, Option.join_some, List.set_cons_zero, List.set_cons_succ, fromO_some, bnd_ret, bnd_assoc, constD, cmpD, binD, biD, bindT, setAll, asB_bnd, asB_bl, if_true, if_false, Bool.false_eq_true, Bool.not_true, Bool.not_false, LE0, LE1, LE2, LE3, LE4, any_wrong]
  refine .bnd (step_ev h h2 hp f hc fun w sw => ?_)
  have la : (txts ws).length < LIM := by simp [txts]; omega
  refine .step (fun l s => rf_app gl la _) (.ret ?_)
  have e : (rest ++ [Cell.lst (txts ws)]).set rest.length (.lst (txts ws ++ [.str w])) = rest ++ [.lst (txts (ws ++ [w]))] := by
    simp [txts]
  rw [e]
  exact q w sw
theorem work_loop (h : At T 23 c_law_take 2 3) (h2 : At T 29 c_law_step 3 4) (hp : flatCs p = true) (hr : flatCs rest = true) {cs : List Nat} (hc : Ltrs cs) {m x : Option D} {Q : Fl → List Cell → Prop} : ∀ (ts : List D) (ws : List Str) (t : Option D), Wk cs ws → ws.length + ts.length ≤ 1000 →
    (∀ ws2 t2, Wk cs ws2 → ws2.length = ws.length + ts.length → Q (.nx [some (bx p), some (.fl (ltrs cs)), m, some (rf p rest.length), t2, x]) (rest ++ [.lst (txts ws2)])) →
    Ev p (forL [] (bindT (.name 4)) (evSs (evF T (k + 2)) workBody) ts [some (bx p), some (.fl (ltrs cs)), m, some (rf p rest.length), t, x]) (rest ++ [.lst (txts ws)]) Q
  | [], ws, t, hw, hn, q => by
    unfold forL
    exact .step (fun l s => rfl) (.ret (q ws t hw rfl))
  | d :: ts, ws, t, hw, hn, q => by
    simp only [List.length_cons] at hn q
    unfold forL
    refine .step (fun l s => rfl) ?_
    show Ev p (Ms.bnd (evSs (evF T (k + 2)) workBody [some (bx p), some (.fl (ltrs cs)), m, some (rf p rest.length), some d, x]) _) _ Q
    refine .bnd (work_turn h h2 hp hr hc hw (by omega) fun w sw => ?_)
    exact work_loop h h2 hp hr hc ts (ws ++ [w]) (some d) (hw.snoc sw) (by simp; omega) fun ws2 t2 w2 l2 => q ws2 t2 w2 (by simp at l2; omega)
theorem work_ev (h : At T 23 c_law_take 2 3) (h2 : At T 29 c_law_step 3 4) (h3 : At T 30 c_law_work 3 6) (hp : flatCs p = true) (hr : flatCs rest = true) {cs : List Nat} (hc : Ltrs cs) {m : Nat} (hm : m ≤ 100) {Q : D → List Cell → Prop} (q : ∀ ws, Wk cs ws → ws.length ≤ m → Q (.fl (txts ws)) rest) : Ev p (evF T (k + 3) 30 [bx p, .fl (ltrs cs), .int m]) rest Q := by
  refine .call h3 rfl hp ?_
  rw [show c_law_work = .cons (.asg (.name 3) (.lst true .nil)) (.cons (.for_ (.name 4) (.rng1 (.call 23 (.cons (.loc 0) (.cons (.bin .add (.loc 2) (.cst (.int 1))) .nil)))) workBody) (.cons (.ret (.frz (.loc 3))) .nil)) from rfl]
  simp only [evSs, evS, evE, evEs, evAnd, evOr, evO, evC, evIt, startD, List.map_cons, List.map_nil, List.length_cons, List.length_nil, List.cons_append, List.nil_append, List.replicate, List.getElem?_cons_zero, List.getElem?_cons_succ, Option.join_some, List.set_cons_zero, List.set_cons_succ, fromO_some, bnd_ret, bnd_assoc, constD, cmpD, binD, biD, bindT, setAll, asB_bnd, asB_bl, if_true, if_false, Bool.false_eq_true, Bool.not_true, Bool.not_false, LE0, LE1, LE2, LE3, LE4]
  refine .step (fun l s => rf_new (Nat.zero_le _)) ?_
  simp only [evSs, evS, evE, evEs, evAnd, evOr, evO, evC, evIt, startD, List.map_cons, List.map_nil, List.length_cons, List.length_nil, List.cons_append, List.nil_append, List.replicate, List.getElem?_cons_zero, List.getElem?_cons_succ, Option.join_some, List.set_cons_zero, List.set_cons_succ, fromO_some, bnd_ret, bnd_assoc, constD, cmpD, binD, biD, bindT, setAll, asB_bnd, asB_bl, if_true, if_false, Bool.false_eq_true, Bool.not_true, Bool.not_false, LE0, LE1, LE2, LE3, LE4, add_int]
  have f : flatCs (rest ++ [.lst []]) = true := flat_snoc hr rfl
  refine .take h hp f (by omega) (by omega) fun n hn => ?_
  rw [rng1 (by omega)]
  simp only [evSs, evS, evE, evEs, evAnd, evOr, evO, evC, evIt, startD, List.map_cons, List.map_nil, List.length_cons, List.length_nil, List.cons_append, List.nil_append, List.replicate, List.getElem?_cons_zero, List.getElem?_cons_succ, Option.join_some, List.set_cons_zero, List.set_cons_succ, fromO_some, bnd_ret, bnd_assoc, constD, cmpD, binD, biD, bindT, setAll, asB_bnd, asB_bl, if_true, if_false, Bool.false_eq_true, Bool.not_true, Bool.not_false, LE0, LE1, LE2, LE3, LE4]
  refine .bnd (work_loop (k := k) h h2 hp hr hc _ [] none .nil (by simp; omega) fun ws t hw hl => ?_)
  simp only [List.length_map, List.length_range, List.length_nil, Nat.zero_add] at hl
  simp only [evSs, evS, evE, evEs, evAnd, evOr, evO, evC, evIt, startD, List.map_cons, List.map_nil, List.length_cons, List.length_nil, List.cons_append, List.nil_append, List.replicate, List.getElem?_cons_zero, List.getElem?_cons_succ, Option.join_some, List.set_cons_zero, List.set_cons_succ, fromO_some, bnd_ret, bnd_assoc, constD, cmpD, binD, biD, bindT, setAll, asB_bnd, asB_bl, if_true, if_false, Bool.false_eq_true, Bool.not_true, Bool.not_false, LE0, LE1, LE2, LE3, LE4]
  have gl : (rest ++ [Cell.lst (txts ws)])[rest.length]? = some (.lst (txts ws)) := by simp
  refine .step (fun l s => rf_frz gl) (.ret ⟨rest, [.dead], by simp, rfl, hr, txts_flat _, q ws hw (by omega)⟩)
end
end Ev
end
section
set_option Elab.async false
set_option linter.all false
set_option maxRecDepth 100000
set_option maxHeartbeats 2000000
/-! Schemes. -/
namespace Ev
open PySem L2 Ms Cod
inductive Sch where
  | step (w n : Nat)
  | many (b : Bool) (ks : List Sch)
  | gate (b : Bool) (w : Nat) (s : Sch)
  | fin (w n : Nat) (s : Sch)
  | most (n : Nat) (s : Sch)
  | hc (b : Bool) (s : Sch)
  | use (k : Nat)
def Sch.kind : Sch → Fin 10
  | .step .. => 0
  | .many b _ => if b then 2 else 1
  | .gate b .. => if b then 6 else 5
  | .fin .. => 8
  | .most .. => 3
  | .hc b _ => if b then 7 else 4
  | .use _ => 9
def headK (k : Fin 10) : Str := (shSHAPES.getD k.val ("", "")).1
def shapeK (k : Fin 10) : Str := (shSHAPES.getD k.val ("", "")).2
abbrev Sch.head (s : Sch) : Str := headK s.kind
abbrev Sch.shape (s : Sch) : Str := shapeK s.kind
mutual
def Sch.toD : Sch → D
  | .step w n => .tup [.str "step", .str (S1 w), .int n]
  | .many b ks => .tup [.str (if b then "best" else "all"), .tup (Sch.toDs ks)]
  | .gate b w s => .tup [.str (if b then "behind" else "seen"), .str (S1 w), s.toD]
  | .fin w n s => .tup [.str "end", .str (S1 w), .int n, s.toD]
  | .most n s => .tup [.str "most", .int n, s.toD]
  | .hc b s => .tup [.str (if b then "carry" else "half"), s.toD]
  | .use k => .tup [.str "use", .int k]
def Sch.toDs : List Sch → List D
  | [] => []
  | s :: r => s.toD :: Sch.toDs r
end
theorem toDs_map : ∀ ks : List Sch, Sch.toDs ks = ks.map Sch.toD
  | [] => by rw [Sch.toDs]; rfl
  | s :: r => by rw [Sch.toDs, toDs_map r]; rfl
def Sch.kids : Sch → List Sch
  | .step .. => []
  | .many _ ks => ks
  | .gate _ _ s => [s]
  | .fin _ _ s => [s]
  | .most _ s => [s]
  | .hc _ s => [s]
  | .use _ => []
/-- it can be where it stands -/
def Sch.here (num many : Nat) : Sch → Prop
  | .step w n => w ∈ letters ∧ 1 ≤ n ∧ n ≤ 9
  | .many _ ks => 1 ≤ ks.length ∧ ks.length ≤ 4
  | .gate _ w _ => w ∈ letters
  | .fin w n _ => w ∈ letters ∧ 1 ≤ n ∧ n ≤ 9
  | .most n _ => n ≤ 30
  | .hc _ _ => True
  | .use k => num < k ∧ k < many
inductive Good (num many : Nat) : Nat → Sch → Prop where
  | mk {d : Nat} {s : Sch} (h : s.here num many) (ks : ∀ k ∈ s.kids, Good num many d k) : Good num many (d + 1) s
structure Papers (T : List FD) : Prop where
  number : At T 0 c_is_number 3 3
  word : At T 1 c_is_word 1 1
  kids : At T 2 c_kids_of 1 2
  part : At T 3 c_is_part 4 4
  scheme : At T 4 c_is_scheme 4 7
  nodes : At T 5 c_nodes_of 3 9
  need : At T 6 c_need_paper 1 10
theorem isi_int (T : String) (i : Int) (h : ["bool", "int", "str", "tuple", "list"].contains T = true) : isiD T (.int i) = Ms.ret (.bl (isSub "int" T)) := isi_at (t := "int") (fun _ => rfl) h
theorem isi_tup (T : String) (xs : List D) (h : ["bool", "int", "str", "tuple", "list"].contains T = true) : isiD T (.tup xs) = Ms.ret (.bl (isSub "tuple" T)) := isi_at (t := "tuple") (fun _ => rfl) h
theorem isi_st (T : String) (w : Str) (h : ["bool", "int", "str", "tuple", "list"].contains T = true) : isiD T (.str w) = Ms.ret (.bl (isSub "str" T)) := isi_at (t := "str") (fun _ => rfl) h
section
variable {T : List FD} {k : Nat}
theorem is_number_ok (h : Papers T) {i lo hi : Int} (h1 : lo ≤ i) (h2 : i ≤ hi) : evF T (k + 1) 0 [.int i, .int lo, .int hi] = Ms.ret (.bl true) := by
  refine evF_ret (fl := .rt (.bl true)) h.number rfl ?_
  simp only [c_is_number, evSs, evS, evE, evEs, evAnd, evOr, evO, evC, evIt, startD, List.map_cons, List.map_nil, List.length_cons, List.length_nil, List.cons_append, List.nil_append, List.replicate, List.getElem?_cons_zero, List.getElem?_cons_succ, Option.join_some, List.set_cons_zero, List.set_cons_succ, fromO_some, bnd_ret, bnd_assoc, constD, cmpD, binD, biD, bindT, setAll, asB_bnd, asB_bl, if_true, if_false, Bool.false_eq_true, Bool.not_true, Bool.not_false, LE0, LE1, LE2, LE3, LE4, isi_int "int" i rfl, isi_int "bool" i rfl, le_int, decide_eq_true h1, decide_eq_true h2, show isSub "int" "int" = true from rfl, show isSub "int" "bool" = false from rfl]
theorem is_word_one (h : Papers T) {c : Nat} (hc : c ∈ letters) : evF T (k + 1) 1 [.str (S1 c)] = Ms.ret (.bl true) := by
  refine evF_ret (fl := .rt (.bl true)) h.word rfl ?_
  have hw := wordB_one c
  have lt := letter_lt hc
  have ow : OkW (S1 c) := S1_ok (by omega)
  unfold wordB at hw
  rw [decide_eq_true hc, Bool.and_eq_true] at hw
  simp only [c_is_word, evSs, evS, evE, evEs, evAnd, evOr, evO, evC, evIt, startD, List.map_cons, List.map_nil, List.length_cons, List.length_nil, List.cons_append, List.nil_append, List.replicate, List.getElem?_cons_zero, List.getElem?_cons_succ, Option.join_some, List.set_cons_zero, List.set_cons_succ, fromO_some, bnd_ret, bnd_assoc, constD, cmpD, binD, biD, bindT, setAll, asB_bnd, asB_bl, if_true, if_false, Bool.false_eq_true, Bool.not_true, Bool.not_false, LE0, LE1, LE2, LE3, LE4, isi_st "str" _ rfl, len_str ow.lim, eq_int, in_str, hw.1, hw.2, show isSub "str" "str" = true from rfl]
theorem sg_eq {a b : Nat} (ha : a < 1000) (hb : b < 1000) : eqD (.str (S1 a)) (.str (S1 b)) = Ms.ret (.bl (a == b)) := by
  rw [eq_str (S1_ok (by omega)).ok (S1_ok (by omega)).ok, S1_beq]
theorem eM : ("m" : Str) = S1 109 := by decide +kernel
theorem eS : ("s" : Str) = S1 115 := by decide +kernel
theorem eW : ("w" : Str) = S1 119 := by decide +kernel
theorem eP : ("p" : Str) = S1 112 := by decide +kernel
theorem eN : ("n" : Str) = S1 110 := by decide +kernel
theorem eU : ("u" : Str) = S1 117 := by decide +kernel
/-- a part of a sort -/
inductive Part (num many : Nat) : D → Nat → Prop where
  | w {c : Nat} (h : c ∈ letters) : Part num many (.str (S1 c)) 119
  | p {n : Nat} (h1 : 1 ≤ n) (h2 : n ≤ 9) : Part num many (.int n) 112
  | n {n : Nat} (h : n ≤ 30) : Part num many (.int n) 110
  | u {n : Nat} (h1 : num < n) (h2 : n < many) : Part num many (.int n) 117
  | s {d : D} : Part num many d 115
  | m {xs : List D} (h1 : 1 ≤ xs.length) (h2 : xs.length ≤ 4) : Part num many (.tup xs) 109
theorem is_part_ok (h : Papers T) {num many : Nat} {d : D} {c : Nat} (hp : Part num many d c) : evF T (k + 2) 3 [d, .str (S1 c), .int num, .int many] = Ms.ret (.bl true) := by
  refine evF_ret (fl := .rt (.bl true)) h.part rfl ?_
  cases hp with
  | w hc => simp only [c_is_part, evSs, evS, evE, evEs, evAnd, evOr, evO, evC, evIt, startD, List.map_cons, List.map_nil, List.length_cons, List.length_nil, List.cons_append, List.nil_append, List.replicate, List.getElem?_cons_zero, List.getElem?_cons_succ, Option.join_some, List.set_cons_zero, List.set_cons_succ, fromO_some, bnd_ret, bnd_assoc, constD, cmpD, binD, biD, bindT, setAll, asB_bnd, asB_bl, if_true, if_false, Bool.false_eq_true, Bool.not_true, Bool.not_false, LE0, LE1, LE2, LE3, LE4, eM, eS, eW, eP, eN, eU, sg_eq (show 119 < 1000 by decide) (show 119 < 1000 by decide), beq_self_eq_true, is_word_one h hc]
  | @p n h1 h2 =>
    have q : evF T (k + 1) 0 [.int n, .int 1, .int 9] = Ms.ret (.bl true) := is_number_ok h (by omega) (by omega)
    simp only [c_is_part, evSs, evS, evE, evEs, evAnd, evOr, evO, evC, evIt, startD, List.map_cons, List.map_nil, List.length_cons, List.length_nil, List.cons_append, List.nil_append, List.replicate, List.getElem?_cons_zero, List.getElem?_cons_succ, Option.join_some, List.set_cons_zero, List.set_cons_succ, fromO_some, bnd_ret, bnd_assoc, constD, cmpD, binD, biD, bindT, setAll, asB_bnd, asB_bl, if_true, if_false, Bool.false_eq_true, Bool.not_true, Bool.not_false, LE0, LE1, LE2, LE3, LE4, eM, eS, eW, eP, eN, eU, sg_eq (show 112 < 1000 by decide) (show 119 < 1000 by decide), sg_eq (show 112 < 1000 by decide) (show 112 < 1000 by decide), show ((112 : Nat) == 119) = false from rfl, beq_self_eq_true, q]
  | @n n h1 =>
    have q : evF T (k + 1) 0 [.int n, .int 0, .int 30] = Ms.ret (.bl true) := is_number_ok h (by omega) (by omega)
    simp only [c_is_part, evSs, evS, evE, evEs, evAnd, evOr, evO, evC, evIt, startD, List.map_cons, List.map_nil, List.length_cons, List.length_nil, List.cons_append, List.nil_append, List.replicate, List.getElem?_cons_zero, List.getElem?_cons_succ, Option.join_some, List.set_cons_zero, List.set_cons_succ, fromO_some, bnd_ret, bnd_assoc, constD, cmpD, binD, biD, bindT, setAll, asB_bnd, asB_bl, if_true, if_false, Bool.false_eq_true, Bool.not_true, Bool.not_false, LE0, LE1, LE2, LE3, LE4, eM, eS, eW, eP, eN, eU, sg_eq (show 110 < 1000 by decide) (show 119 < 1000 by decide), sg_eq (show 110 < 1000 by decide) (show 112 < 1000 by decide), sg_eq (show 110 < 1000 by decide) (show 110 < 1000 by decide), show ((110 : Nat) == 119) = false from rfl, show ((110 : Nat) == 112) = false from rfl, beq_self_eq_true, q]
  | @u n h1 h2 =>
    have q : evF T (k + 1) 0 [.int n, .int (num + 1), .int (many - 1)] = Ms.ret (.bl true) := is_number_ok h (by omega) (by omega)
    simp only [c_is_part, evSs, evS, evE, evEs, evAnd, evOr, evO, evC, evIt, startD, List.map_cons, List.map_nil, List.length_cons, List.length_nil, List.cons_append, List.nil_append, List.replicate, List.getElem?_cons_zero, List.getElem?_cons_succ, Option.join_some, List.set_cons_zero, List.set_cons_succ, fromO_some, bnd_ret, bnd_assoc, constD, cmpD, binD, biD, bindT, setAll, asB_bnd, asB_bl, if_true, if_false, Bool.false_eq_true, Bool.not_true, Bool.not_false, LE0, LE1, LE2, LE3, LE4, eM, eS, eW, eP, eN, eU, sg_eq (show 117 < 1000 by decide) (show 119 < 1000 by decide), sg_eq (show 117 < 1000 by decide) (show 112 < 1000 by decide), sg_eq (show 117 < 1000 by decide) (show 110 < 1000 by decide), sg_eq (show 117 < 1000 by decide) (show 117 < 1000 by decide), show ((117 : Nat) == 119) = false from rfl, show ((117 : Nat) == 112) = false from rfl, show ((117 : Nat) == 110) = false from rfl, beq_self_eq_true, add_int, sub_int, q]
  | s => simp only [c_is_part, evSs, evS, evE, evEs, evAnd, evOr, evO, evC, evIt, startD, List.map_cons, List.map_nil, List.length_cons, List.length_nil, List.cons_append, List.nil_append, List.replicate, List.getElem?_cons_zero, List.getElem?_cons_succ, Option.join_some, List.set_cons_zero, List.set_cons_succ, fromO_some, bnd_ret, bnd_assoc, constD, cmpD, binD, biD, bindT, setAll, asB_bnd, asB_bl, if_true, if_false, Bool.false_eq_true, Bool.not_true, Bool.not_false, LE0, LE1, LE2, LE3, LE4, eM, eS, eW, eP, eN, eU, sg_eq (show 115 < 1000 by decide) (show 119 < 1000 by decide), sg_eq (show 115 < 1000 by decide) (show 112 < 1000 by decide), sg_eq (show 115 < 1000 by decide) (show 110 < 1000 by decide), sg_eq (show 115 < 1000 by decide) (show 117 < 1000 by decide), sg_eq (show 115 < 1000 by decide) (show 115 < 1000 by decide), show ((115 : Nat) == 119) = false from rfl, show ((115 : Nat) == 112) = false from rfl, show ((115 : Nat) == 110) = false from rfl, show ((115 : Nat) == 117) = false from rfl, beq_self_eq_true]
  | @m xs h1 h2 => simp only [c_is_part, evSs, evS, evE, evEs, evAnd, evOr, evO, evC, evIt, startD, List.map_cons, List.map_nil, List.length_cons, List.length_nil, List.cons_append, List.nil_append, List.replicate, List.getElem?_cons_zero, List.getElem?_cons_succ, Option.join_some, List.set_cons_zero, List.set_cons_succ, fromO_some, bnd_ret, bnd_assoc, constD, cmpD, binD, biD, bindT, setAll, asB_bnd, asB_bl, if_true, if_false, Bool.false_eq_true, Bool.not_true, Bool.not_false, LE0, LE1, LE2, LE3, LE4, eM, eS, eW, eP, eN, eU, sg_eq (show 109 < 1000 by decide) (show 119 < 1000 by decide), sg_eq (show 109 < 1000 by decide) (show 112 < 1000 by decide), sg_eq (show 109 < 1000 by decide) (show 110 < 1000 by decide), sg_eq (show 109 < 1000 by decide) (show 117 < 1000 by decide), sg_eq (show 109 < 1000 by decide) (show 115 < 1000 by decide), show ((109 : Nat) == 119) = false from rfl, show ((109 : Nat) == 112) = false from rfl, show ((109 : Nat) == 110) = false from rfl, show ((109 : Nat) == 117) = false from rfl, show ((109 : Nat) == 115) = false from rfl, isi_tup "tuple" _ rfl, show isSub "tuple" "tuple" = true from rfl, len_tup, le_int, decide_eq_true (show (1 : Int) ≤ xs.length by omega), decide_eq_true (show (xs.length : Int) ≤ 4 by omega)]
end
end Ev
end
section
set_option Elab.async false
set_option linter.all false
set_option maxRecDepth 100000
set_option maxHeartbeats 2000000
/-! Schemes: kids, is_scheme, nodes_of. -/
namespace Ev
open PySem L2 Ms Cod
/-! ### data that can be compared -/
def Sh (n : Nat) (d : D) : Prop := ∃ p, toP d = some p ∧ p.canLay0 = true ∧ p.depth ≤ n
theorem Sh.int {n : Nat} {i : Int} : Sh n (.int i) := ⟨_, rfl, rfl, Nat.zero_le _⟩
theorem Sh.bl {n : Nat} {b : Bool} : Sh n (.bl b) := ⟨_, rfl, rfl, Nat.zero_le _⟩
theorem Sh.str {n : Nat} {w : Str} (h : PyData.strOk w = true) : Sh n (.str w) := ⟨_, rfl, h, Nat.zero_le _⟩
theorem Sh.mono {n m : Nat} {d : D} (h : Sh n d) (hm : n ≤ m) : Sh m d := by
  obtain ⟨p, h1, h2, h3⟩ := h
  exact ⟨p, h1, h2, Nat.le_trans h3 hm⟩
theorem shs_of {n : Nat} : ∀ {ds : List D}, (∀ d ∈ ds, Sh n d) → ∃ ps, toPs ds = some ps ∧ PyData.canLayAll0 ps = true ∧ PyData.depthAll ps ≤ n ∧ ps.length = ds.length
  | [], _ => ⟨[], rfl, rfl, Nat.zero_le _, rfl⟩
  | d :: ds, h => by
    obtain ⟨p, h1, h2, h3⟩ := h d List.mem_cons_self
    obtain ⟨ps, h4, h5, h6, h7⟩ := shs_of fun e he => h e (List.mem_cons_of_mem _ he)
    refine ⟨p :: ps, by simp only [toPs, h1, h4], by simp only [PyData.canLayAll0, h2, h5, Bool.and_true], ?_, by simp [h7]⟩
    simp only [PyData.depthAll]
    omega
theorem Sh.tup {n : Nat} {ds : List D} (h : ∀ d ∈ ds, Sh n d) : Sh (n + 1) (.tup ds) := by
  obtain ⟨ps, h1, h2, h3, _⟩ := shs_of h
  exact ⟨.tuple ps, by simp only [toP, h1, Option.map_some], h2, by simp only [PyData.depth]; omega⟩
theorem Sh.fl {n : Nat} {ds : List D} (h : ∀ d ∈ ds, Sh n d) : Sh (n + 1) (.fl ds) := by
  obtain ⟨ps, h1, h2, h3, _⟩ := shs_of h
  exact ⟨.list ps, by simp only [toP, h1, Option.map_some], h2, by simp only [PyData.depth]; omega⟩
theorem derP_cell {η : List Cell} {n : Nat} {xs : List D} (h : η[n]? = some (.lst xs)) : derP η (.ref n) = derP η (.fl xs) := by
  simp only [derP, h, toP]
theorem ne_nil {η : List Cell} {n : Nat} {xs : List D} (h : η[n]? = some (.lst xs)) (hs : ∀ x ∈ xs, Sh 60 x) : neD (.ref n) (.fl []) η = .ok (.bl (!xs.isEmpty)) η := by
  obtain ⟨ps, h1, h2, h3, h4⟩ := shs_of hs
  have d1 : derP η (.ref n) = some (.list ps) := by simp only [derP, h, h1, Option.map_some]
  have d2 : derP η (.fl []) = some (.list []) := rfl
  have s1 : SeqAt.shaped (.list ps) = true := by
    unfold SeqAt.shaped
    simp only [PyData.canLay0, h2, PyData.depth, Bool.true_and]
    exact decide_eq_true (by omega)
  unfold neD
  rw [d1, d2]
  try dsimp only
  rw [if_pos ⟨s1, by decide⟩]
  have e : PyData.eqv (.list ps) (.list []) = xs.isEmpty := by
    cases ps with
    | nil =>
      cases xs with
      | nil => simp [PyData.eqv, PyData.eqvAll]
      | cons => simp at h4
    | cons =>
      cases xs with
      | nil => simp at h4
      | cons => simp [PyData.eqv, PyData.eqvAll]
  rw [e]
/-! ### cells anywhere -/
section
variable {η : List Cell} {n : Nat} {xs : List D}
theorem cl_asL (h : η[n]? = some (.lst xs)) : asL η (.ref n) = some xs := by simp only [asL, h]
theorem cl_rec {m : Mt} (hm : m.ty = "list") (h : η[n]? = some (.lst xs)) : (fun η => if recvOk m (.ref n) η = true then Res.ok () η else Res.bad) η = .ok () η := by
  have e : recvOk m (.ref n) η = true := by
    unfold recvOk
    simp only [hm, cl_asL h, Option.isSome_some]
  simp only [e, if_true]
theorem cl_app (h : η[n]? = some (.lst xs)) (hl : xs.length < LIM) (y : D) : mtD .append (.ref n) [y] η = .ok .non (η.set n (.lst (xs ++ [y]))) := by
  unfold mtD
  try dsimp only
  rw [h]
  try dsimp only
  rw [if_pos hl]
theorem cl_popL {y : D} (h : η[n]? = some (.lst (xs ++ [y]))) : mtD .pop (.ref n) [] η = .ok y (η.set n (.lst xs)) := by
  unfold mtD
  try dsimp only
  rw [h]
  have e : (xs ++ [y])[(xs ++ [y]).length - 1]? = some y := by simp
  try dsimp only
  rw [e]
  try dsimp only
  rw [List.dropLast_concat]
theorem cl_aug (h : η[n]? = some (.lst xs)) {ys : List D} (hl : xs.length + ys.length ≤ LIM) : augD .add (.ref n) (.fl ys) η = .ok (.ref n) (η.set n (.lst (xs ++ ys))) := by
  unfold augD
  try dsimp only
  rw [h]
  show (if xs.length + ys.length ≤ LIM then _ else _) = _
  rw [if_pos hl]
theorem cl_frz (h : η[n]? = some (.lst xs)) : frzD (.ref n) η = .ok (.fl xs) (η.set n .dead) := by
  unfold frzD
  try dsimp only
  rw [h]
theorem cl_len (h : η[n]? = some (.lst xs)) : lenD [.ref n] η = .ok (.int xs.length) η := by
  show (match asQ η (D.ref n) with | some xs => Res.ok (D.int xs.length) _ | none => Res.bad) = _
  rw [show asQ η (.ref n) = some xs from cl_asL h]
theorem cl_ix (h : η[n]? = some (.lst xs)) {i : Int} {x : D} (hx : atI xs i = some x) : idxD (.ref n) (.int i) η = .ok x η := by
  show fromO ((asL η (.ref n)).bind fun xs => atI xs i) η = _
  rw [cl_asL h]
  show fromO (atI xs i) η = _
  rw [hx]
  rfl
theorem cl_new {ds : List D} (hl : ds.length ≤ LIM) : newL true ds η = .ok (.ref η.length) (η ++ [.lst ds]) := by
  unfold newL
  rw [if_pos hl, if_pos rfl]
end
/-! ### parts -/
def Sch.parts : Sch → List (D × Nat)
  | .step w n => [(.str (S1 w), 119), (.int n, 112)]
  | .many _ ks => [(.tup (Sch.toDs ks), 109)]
  | .gate _ w s => [(.str (S1 w), 119), (s.toD, 115)]
  | .fin w n s => [(.str (S1 w), 119), (.int n, 112), (s.toD, 115)]
  | .most n s => [(.int n, 110), (s.toD, 115)]
  | .hc _ s => [(s.toD, 115)]
  | .use k => [(.int k, 117)]
theorem toD_parts (s : Sch) : s.toD = .tup (.str s.head :: s.parts.map (·.1)) := by
  cases s with
  | step w n => rw [Sch.toD]; rfl
  | many b ks => rw [Sch.toD]; cases b <;> rfl
  | gate b w s => rw [Sch.toD]; cases b <;> rfl
  | fin w n s => rw [Sch.toD]; rfl
  | most n s => rw [Sch.toD]; rfl
  | hc b s => rw [Sch.toD]; cases b <;> rfl
  | use k => rw [Sch.toD]; rfl
theorem head_ok (s : Sch) : PyData.strOk s.head = true := (show ∀ k : Fin 10, PyData.strOk (headK k) = true by decide +kernel) s.kind
theorem shape_ok (s : Sch) : PyData.strOk s.shape = true := (show ∀ k : Fin 10, PyData.strOk (shapeK k) = true by decide +kernel) s.kind
theorem look_ok (s : Sch) : shSHAPES.lookup s.head = some s.shape := (show ∀ k : Fin 10, shSHAPES.lookup (headK k) = some (shapeK k) by decide +kernel) s.kind
theorem shape_cps (s : Sch) : s.shape.cps.toList = s.parts.map (·.2) := by
  have e : ∀ k : Fin 10, (shapeK k).cps.toList = [[119, 112], [109], [109], [110, 115], [115], [119, 115], [119, 115], [115], [119, 112, 115], [117]].getD k.val [] := by decide +kernel
  rw [e]
  cases s with
  | many b ks => cases b <;> rfl
  | gate b w s => cases b <;> rfl
  | hc b s => cases b <;> rfl
  | _ => rfl
theorem shape_len (s : Sch) : s.shape.length = s.parts.length := by
  have := congrArg List.length (shape_cps s)
  simpa [Str.length] using this
theorem shp_ok (s : Sch) : shpD shSHAPES (.str s.head) = Ms.ret (.str s.shape) := by
  unfold shpD
  try dsimp only
  rw [look_ok]
  rfl
theorem shpg_ok (s : Sch) : shpG shSHAPES (.str s.head) = Ms.ret (.str s.shape) := by
  unfold shpG
  try dsimp only
  rw [look_ok]
theorem shape_signs (s : Sch) : signs s.shape = s.parts.map fun q => .str (S1 q.2) := by
  unfold signs
  rw [shape_cps, List.map_map]
  rfl
theorem parts_len (s : Sch) : s.parts.length ≤ 3 := by
  cases s <;> simp [Sch.parts]
theorem parts_ok {num many : Nat} {s : Sch} (h : s.here num many) : ∀ q ∈ s.parts, Part num many q.1 q.2 := by
  have tl : ∀ ks : List Sch, (Sch.toDs ks).length = ks.length := fun ks => by rw [toDs_map, List.length_map]
  cases s with
  | step w n =>
    intro q hq
    simp only [Sch.parts, List.mem_cons, List.mem_nil_iff, or_false] at hq
    rcases hq with rfl | rfl
    · exact .w h.1
    · exact .p h.2.1 h.2.2
  | many b ks =>
    intro q hq
    simp only [Sch.parts, List.mem_cons, List.mem_nil_iff, or_false] at hq
    subst hq
    exact .m (by rw [tl]; exact h.1) (by rw [tl]; exact h.2)
  | gate b w s =>
    intro q hq
    simp only [Sch.parts, List.mem_cons, List.mem_nil_iff, or_false] at hq
    rcases hq with rfl | rfl
    · exact .w h
    · exact .s
  | fin w n s =>
    intro q hq
    simp only [Sch.parts, List.mem_cons, List.mem_nil_iff, or_false] at hq
    rcases hq with rfl | rfl | rfl
    · exact .w h.1
    · exact .p h.2.1 h.2.2
    · exact .s
  | most n s =>
    intro q hq
    simp only [Sch.parts, List.mem_cons, List.mem_nil_iff, or_false] at hq
    rcases hq with rfl | rfl
    · exact .n h
    · exact .s
  | hc b s =>
    intro q hq
    simp only [Sch.parts, List.mem_cons, List.mem_nil_iff, or_false] at hq
    subst hq
    exact .s
  | use k =>
    intro q hq
    simp only [Sch.parts, List.mem_cons, List.mem_nil_iff, or_false] at hq
    subst hq
    exact .u h.1 h.2
/-! ### comprehensions that change no cell -/
theorem noX_ret {α : Type} (a : α) : noX (Ms.ret a) = Ms.ret a := rfl
theorem chk_nil : chkG [] = Ms.ret () := rfl
theorem lc_map {bind : D → Option Ms.Env} {cond : Ms.Env → M Bool} {elt : Ms.Env → M D} {f : D → D} : ∀ {xs acc : List D}, acc.length + xs.length ≤ 100000 → (∀ d ∈ xs, ∃ ρ, bind d = some ρ ∧ cond ρ = Ms.ret true ∧ elt ρ = Ms.ret (f d)) → lcL [] bind cond elt xs acc = Ms.ret (acc ++ xs.map f)
  | [], acc, _, _ => by
    unfold lcL
    rw [chk_nil, bnd_ret, List.map_nil, List.append_nil]
  | d :: xs, acc, hl, h => by
    simp only [List.length_cons] at hl
    have lim : LIM = 1000000 := rfl
    obtain ⟨ρ, h1, h2, h3⟩ := h d List.mem_cons_self
    unfold lcL
    rw [chk_nil, bnd_ret, h1]
    try dsimp only
    rw [h2, noX_ret, bnd_ret, if_pos rfl, h3, noX_ret, bnd_ret, if_pos (by omega), lc_map (f := f) (by simp; omega) fun e he => h e (List.mem_cons_of_mem _ he)]
    rw [List.append_assoc]
    rfl
theorem asBs_true : ∀ n : Nat, asBs (List.replicate n (.bl true)) = some (List.replicate n true)
  | 0 => rfl
  | n + 1 => by
    rw [List.replicate_succ, asBs, asBs_true n]
    rfl
theorem all_true {ds : List D} (h : ∀ d ∈ ds, d = .bl true) : allD [.fl ds] = Ms.ret (.bl true) := by
  have e : ds = List.replicate ds.length (.bl true) := List.eq_replicate_iff.mpr ⟨rfl, h⟩
  funext η
  show (match asBs ds with | some bs => Res.ok (D.bl (bs.all id)) η | none => Res.bad) = _
  rw [e, asBs_true]
  show Res.ok (D.bl ((List.replicate ds.length true).all id)) η = _
  have : (List.replicate ds.length true).all id = true := by
    rw [List.all_eq_true]
    intro b hb
    exact (List.mem_replicate.mp hb).2
  rw [this]
  rfl
theorem cut_tail (d : D) (ds : List D) : cutD (d :: ds) (some 1) none = ds := by
  unfold cutD
  rw [HT.sIx_none, show HT.sIx (d :: ds).length 0 (some 1) = min 1 (d :: ds).length from HT.sIx_nat _ _ 1]
  simp
theorem ix_head (d : D) (ds : List D) : idxD (.tup (d :: ds)) (.int 0) = Ms.ret d := by
  rw [ix_tup, show (0 : Int) = ((0 : Nat) : Int) from rfl, at_nat (ds := d :: ds) (i := 0) rfl]
  rfl
section
variable {T : List FD} {k : Nat}
theorem zip_parts (s : Sch) : itZip (.tup (s.parts.map (·.1))) (.str s.shape) = Ms.ret (s.parts.map fun q => .tup [q.1, .str (S1 q.2)], []) := by
  have hl := parts_len s
  have ls : s.shape.length ≤ LIM := by
    rw [shape_len]
    exact Nat.le_trans hl (by decide)
  have z : ∀ qs : List (D × Nat), List.zipWith (fun x y => D.tup [x, y]) (qs.map (·.1)) (qs.map fun q => D.str (S1 q.2)) = qs.map fun q => .tup [q.1, .str (S1 q.2)] := fun qs => by
    induction qs with
    | nil => rfl
    | cons q qs ih => simp only [List.map_cons, List.zipWith_cons_cons, ih]
  funext η
  unfold itZip zItems isScr itemsG itemsOf
  simp only [Bool.false_eq_true, if_false, ls, if_true, Option.map_some]
  rw [shape_signs, z]
  rfl
theorem is_scheme_ok (h : Papers T) {s : Sch} {pl : List D} {num many : Nat} (hp : pl.length < 5) (hs : s.here num many) : evF T (k + 3) 4 [s.toD, .tup pl, .int num, .int many] = Ms.ret (.bl true) := by
  refine evF_ret (fl := .rt (.bl true)) h.scheme rfl ?_
  have l3 := parts_len s
  have e1 : decide ((5 : Int) ≤ (pl.length : Int)) = false := decide_eq_false (by omega)
  have e2 : (((s.parts.length + 1 : Nat) : Int) == 0) = false := beq_eq_false_iff_ne.mpr (by omega)
  have ls : s.shape.length ≤ LIM := by
    rw [shape_len]
    exact Nat.le_trans l3 (by decide)
  have e3 : ((((s.parts.length + 1 : Nat) : Int)) == (s.shape.length : Int) + 1) = true := by
    rw [shape_len]
    simp
  have is1 : isND (.str s.shape) .non = Ms.ret (.bl false) := by
    funext η
    rfl
  have lp := lc_map (bind := fun d => bindT (.tup [5, 6]) d (wipeD [some s.toD, some (.tup pl), some (.int num), some (.int many), some (.str s.shape), none, none] [5, 6])) (cond := evC (evF T (k + 2)) .none)
    (elt := evE (evF T (k + 2)) (.call 3 (.cons (.loc 5) (.cons (.loc 6) (.cons (.loc 2) (.cons (.loc 3) .nil)))))) (f := fun _ => .bl true) (xs := s.parts.map fun q => .tup [q.1, .str (S1 q.2)]) (acc := []) (by simp; omega) fun d hd => by
      obtain ⟨q, hq, rfl⟩ := List.mem_map.mp hd
      refine ⟨_, rfl, by simp only [evSs, evS, evE, evEs, evAnd, evOr, evO, evC, evIt, startD, List.map_cons, List.map_nil, List.length_cons, List.length_nil, List.cons_append, List.nil_append, List.replicate, List.getElem?_cons_zero, List.getElem?_cons_succ, Option.join_some, List.set_cons_zero, List.set_cons_succ, fromO_some, bnd_ret, bnd_assoc, constD, cmpD, binD, biD, bindT, setAll, asB_bnd, asB_bl, if_true, if_false, Bool.false_eq_true, Bool.not_true, Bool.not_false, LE0, LE1, LE2, LE3, LE4], ?_⟩
      simp only [evSs, evS, evE, evEs, evAnd, evOr, evO, evC, evIt, startD, List.map_cons, List.map_nil, List.length_cons, List.length_nil, List.cons_append, List.nil_append, List.replicate, List.getElem?_cons_zero, List.getElem?_cons_succ, Option.join_some, List.set_cons_zero, List.set_cons_succ, fromO_some, bnd_ret, bnd_assoc, constD, cmpD, binD, biD, bindT, setAll, asB_bnd, asB_bl, if_true, if_false, Bool.false_eq_true, Bool.not_true, Bool.not_false, LE0, LE1, LE2, LE3, LE4, wipeD, is_part_ok h (parts_ok hs q hq)]
  rw [show c_is_scheme = .cons (.if_ (.or_ (.cons (.not_ (.isi (.loc 0) "tuple")) (.cons (.cmp .ge (.bi .len (.cons (.loc 1) .nil)) (.glob "MOST_DEEP" (.int 5))) (.cons (.cmp .eq (.bi .len (.cons (.loc 0) .nil)) (.cst (.int 0))) (.cons (.not_ (.isi (.sub (.loc 0) (.cst (.int 0))) "str")) .nil))))) (.cons (.ret (.cst (.bool false))) .nil) .nil)
    (.cons (.asg (.name 4) (.shpg "SHAPES" shSHAPES (.sub (.loc 0) (.cst (.int 0)))))
    (.cons (.if_ (.or_ (.cons (.cmp .is_ (.loc 4) (.cst .none)) (.cons (.cmp .ne (.bi .len (.cons (.loc 0) .nil)) (.bin .add (.bi .len (.cons (.loc 4) .nil)) (.cst (.int 1)))) .nil))) (.cons (.ret (.cst (.bool false))) .nil) .nil)
    (.cons (.ret (.bi .all (.cons (.lc false [5, 6] (.tup [5, 6]) (.zip (.slice (.loc 0) (.some (.cst (.int 1))) .none) (.loc 4)) .none (.call 3 (.cons (.loc 5) (.cons (.loc 6) (.cons (.loc 2) (.cons (.loc 3) .nil)))))) .nil))) .nil))) from rfl]
  simp only [evSs, evS, evE, evEs, evAnd, evOr, evO, evC, evIt, startD, List.map_cons, List.map_nil, List.length_cons, List.length_nil, List.cons_append, List.nil_append, List.replicate, List.getElem?_cons_zero, List.getElem?_cons_succ, Option.join_some, List.set_cons_zero, List.set_cons_succ, fromO_some, bnd_ret, bnd_assoc, constD, cmpD, binD, biD, bindT, setAll, asB_bnd, asB_bl, if_true, if_false, Bool.false_eq_true, Bool.not_true, Bool.not_false, LE0, LE1, LE2, LE3, LE4] at lp
  have hd : s.toD = .tup (.str s.head :: s.parts.map (·.1)) := toD_parts s
  simp only [hd] at lp ⊢
  simp only [evSs, evS, evE, evEs, evAnd, evOr, evO, evC, evIt, startD, List.map_cons, List.map_nil, List.length_cons, List.length_nil, List.cons_append, List.nil_append, List.replicate, List.getElem?_cons_zero, List.getElem?_cons_succ, Option.join_some, List.set_cons_zero, List.set_cons_succ, fromO_some, bnd_ret, bnd_assoc, constD, cmpD, binD, biD, bindT, setAll, asB_bnd, asB_bl, if_true, if_false, Bool.false_eq_true, Bool.not_true, Bool.not_false, LE0, LE1, LE2, LE3, LE4, isi_tup "tuple" _ rfl, isi_st "str" _ rfl, show isSub "tuple" "tuple" = true from rfl, show isSub "str" "str" = true from rfl, len_tup, List.length_map, ge_int, e1, eq_int, e2, ix_head, shpg_ok, is1, len_str ls, add_int, ne_int, e3, sl_tup, asI_int, cut_tail, zip_parts, lp]
  rw [newL_f (by simp; exact Nat.le_trans l3 (by decide))]
  simp only [evSs, evS, evE, evEs, evAnd, evOr, evO, evC, evIt, startD, List.map_cons, List.map_nil, List.length_cons, List.length_nil, List.cons_append, List.nil_append, List.replicate, List.getElem?_cons_zero, List.getElem?_cons_succ, Option.join_some, List.set_cons_zero, List.set_cons_succ, fromO_some, bnd_ret, bnd_assoc, constD, cmpD, binD, biD, bindT, setAll, asB_bnd, asB_bl, if_true, if_false, Bool.false_eq_true, Bool.not_true, Bool.not_false, LE0, LE1, LE2, LE3, LE4]
  rw [all_true fun d hd => by
    obtain ⟨_, _, rfl⟩ := List.mem_map.mp hd
    rfl]
  rfl
end
end Ev
end
section
set_option Elab.async false
set_option linter.all false
set_option maxRecDepth 100000
set_option maxHeartbeats 2000000
/-! kids_of, nodes_of. -/
namespace Ev
open PySem L2 Ms Cod
theorem str_last {w : Str} {l : List Nat} {c : Nat} (h : w.cps.toList = l ++ [c]) (hl : w.length ≤ LIM) : idxD (.str w) (.int (-1)) = Ms.ret (.str (S1 c)) := by
  show (if w.length ≤ LIM then fromO ((atI w.cps.toList (-1)).map fun c => D.str ⟨#[c]⟩) else bad) = _
  have z : ixN (l ++ [c]).length (-1) = some l.length := by
    unfold ixN
    rw [List.length_append, List.length_singleton, if_neg (by decide), if_pos (by omega)]
    congr 1
    omega
  rw [if_pos hl, h]
  unfold atI
  rw [z]
  simp
  rfl
theorem tup_last (xs : List D) (d : D) : idxD (.tup (xs ++ [d])) (.int (-1)) = Ms.ret d := by
  rw [ix_tup, at_last]
  rfl
section
variable {T : List FD} {k : Nat}
theorem shape_lim (s : Sch) : s.shape.length ≤ LIM := by
  rw [shape_len]
  exact Nat.le_trans (parts_len s) (by decide)
theorem kids_ok (h : Papers T) (s : Sch) : evF T (k + 1) 2 [s.toD] = Ms.ret (.fl (s.kids.map Sch.toD)) := by
  refine evF_ret (fl := .rt (.fl (s.kids.map Sch.toD))) h.kids rfl ?_
  have hd := toD_parts s
  have e0 : idxD s.toD (.int 0) = Ms.ret (.str s.head) := by rw [hd, ix_head]
  have oM : PyData.strOk ("m" : Str) = true := by decide +kernel
  have n0 : newL false [] = Ms.ret (.fl []) := newL_f (Nat.zero_le _)
  have n1 : ∀ d : D, newL false [d] = Ms.ret (.fl [d]) := fun d => newL_f (show [d].length ≤ LIM from (by decide : 1 ≤ LIM))
  simp only [c_kids_of, evSs, evS, evE, evEs, evAnd, evOr, evO, evC, evIt, startD, List.map_cons, List.map_nil, List.length_cons, List.length_nil, List.cons_append, List.nil_append, List.replicate, List.getElem?_cons_zero, List.getElem?_cons_succ, Option.join_some, List.set_cons_zero, List.set_cons_succ, fromO_some, bnd_ret, bnd_assoc, constD, cmpD, binD, biD, bindT, setAll, asB_bnd, asB_bl, if_true, if_false, Bool.false_eq_true, Bool.not_true, Bool.not_false, LE0, LE1, LE2, LE3, LE4, e0, shp_ok, eq_str (shape_ok s) oM, neg_int, n0, n1]
  by_cases hm : ∃ b ks, s = .many b ks
  · obtain ⟨b, ks, rfl⟩ := hm
    have e1 : (Sch.shape (.many b ks) == ("m" : Str)) = true := by
      cases b
      · exact (show (shapeK 1 == ("m" : Str)) = true by decide +kernel)
      · exact (show (shapeK 2 == ("m" : Str)) = true by decide +kernel)
    have e2 : idxD (Sch.many b ks).toD (.int 1) = Ms.ret (.tup (Sch.toDs ks)) := by
      rw [Sch.toD, ix_tup, show (1 : Int) = ((1 : Nat) : Int) from rfl, at_nat (i := 1) rfl]
      rfl
    simp only [e1, evSs, evS, evE, evEs, evAnd, evOr, evO, evC, evIt, startD, List.map_cons, List.map_nil, List.length_cons, List.length_nil, List.cons_append, List.nil_append, List.replicate, List.getElem?_cons_zero, List.getElem?_cons_succ, Option.join_some, List.set_cons_zero, List.set_cons_succ, fromO_some, bnd_ret, bnd_assoc, constD, cmpD, binD, biD, bindT, setAll, asB_bnd, asB_bl, if_true, if_false, Bool.false_eq_true, Bool.not_true, Bool.not_false, LE0, LE1, LE2, LE3, LE4, e2, list_tup, Sch.kids, toDs_map]
  · have e1 : (s.shape == ("m" : Str)) = false := by
      cases s with
      | many b ks => exact absurd ⟨b, ks, rfl⟩ hm
      | gate b w s =>
        cases b
        · exact (show (shapeK 5 == ("m" : Str)) = false by decide +kernel)
        · exact (show (shapeK 6 == ("m" : Str)) = false by decide +kernel)
      | hc b s =>
        cases b
        · exact (show (shapeK 4 == ("m" : Str)) = false by decide +kernel)
        · exact (show (shapeK 7 == ("m" : Str)) = false by decide +kernel)
      | step w n => exact (show (shapeK 0 == ("m" : Str)) = false by decide +kernel)
      | fin w n s => exact (show (shapeK 8 == ("m" : Str)) = false by decide +kernel)
      | most n s => exact (show (shapeK 3 == ("m" : Str)) = false by decide +kernel)
      | use k => exact (show (shapeK 9 == ("m" : Str)) = false by decide +kernel)
    have yes : ∀ (ps : List (D × Nat)) (kid : Sch), s.parts = ps ++ [(kid.toD, 115)] → s.kids = [kid] → (bnd (bnd (idxD (.str s.shape) (.int (-1))) fun x => asB (eqD x (.str "s"))) fun a => bnd (if a = true then bnd (idxD s.toD (.int (-1))) fun d => Ms.ret (.fl [d]) else Ms.ret (.fl [])) fun d => Ms.ret (Fl.rt d)) = Ms.ret (.rt (.fl (s.kids.map Sch.toD))) := fun ps kid hp hk => by
      have c1 : s.shape.cps.toList = ps.map (·.2) ++ [115] := by rw [shape_cps, hp]; simp
      have e3 : idxD s.toD (.int (-1)) = Ms.ret kid.toD := by
        rw [hd, hp, List.map_append, ← List.cons_append]
        exact tup_last _ _
      rw [str_last c1 (shape_lim s), bnd_ret, eS, sg_eq (by decide) (by decide), asB_bl, bnd_ret, e3, hk]
      rfl
    have no : ∀ (l : List Nat) (c : Nat), c ≠ 115 → c < 1000 → s.parts.map (·.2) = l ++ [c] → s.kids = [] → (bnd (bnd (idxD (.str s.shape) (.int (-1))) fun x => asB (eqD x (.str "s"))) fun a => bnd (if a = true then bnd (idxD s.toD (.int (-1))) fun d => Ms.ret (.fl [d]) else Ms.ret (.fl [])) fun d => Ms.ret (Fl.rt d)) = Ms.ret (.rt (.fl (s.kids.map Sch.toD))) := fun l c hc lt hp hk => by
      have c1 : s.shape.cps.toList = l ++ [c] := by rw [shape_cps, hp]
      rw [str_last c1 (shape_lim s), bnd_ret, eS, sg_eq lt (by decide), beq_eq_false_iff_ne.mpr hc, asB_bl, bnd_ret, hk]
      rfl
    simp only [e1, evSs, evS, evE, evEs, evAnd, evOr, evO, evC, evIt, startD, List.map_cons, List.map_nil, List.length_cons, List.length_nil, List.cons_append, List.nil_append, List.replicate, List.getElem?_cons_zero, List.getElem?_cons_succ, Option.join_some, List.set_cons_zero, List.set_cons_succ, fromO_some, bnd_ret, bnd_assoc, constD, cmpD, binD, biD, bindT, setAll, asB_bnd, asB_bl, if_true, if_false, Bool.false_eq_true, Bool.not_true, Bool.not_false, LE0, LE1, LE2, LE3, LE4]
    simp only [bnd_assoc] at yes no
    cases s with
    | many b ks => exact absurd ⟨b, ks, rfl⟩ hm
    | step w n => exact no [119] 112 (by decide) (by decide) rfl rfl
    | use k => exact no [] 117 (by decide) (by decide) rfl rfl
    | gate b w s => exact yes [_] s rfl rfl
    | fin w n s => exact yes [_, _] s rfl rfl
    | most n s => exact yes [_] s rfl rfl
    | hc b s => exact yes [] s rfl rfl
/-! ### sums over a scheme -/
end
mutual
def cost (f : Sch → Nat) : Sch → Nat
  | .step w n => f (.step w n)
  | .many b ks => f (.many b ks) + costs f ks
  | .gate b w s => f (.gate b w s) + cost f s
  | .fin w n s => f (.fin w n s) + cost f s
  | .most n s => f (.most n s) + cost f s
  | .hc b s => f (.hc b s) + cost f s
  | .use k => f (.use k)
def costs (f : Sch → Nat) : List Sch → Nat
  | [] => 0
  | s :: r => cost f s + costs f r
end
theorem cost_kids (f : Sch → Nat) (s : Sch) : cost f s = f s + costs f s.kids := by
  cases s <;> simp [cost, costs, Sch.kids]
theorem costs_map (f : Sch → Nat) : ∀ ks : List Sch, costs f ks = (ks.map (cost f)).sum
  | [] => by rw [costs]; rfl
  | s :: r => by rw [costs, costs_map f r]; rfl
/-! ### the walk -/
abbrev Pd := List D × Sch
def kidsAt (pl : List D) : Nat → List Sch → List Pd
  | _, [] => []
  | i, s :: r => (pl ++ [.int i], s) :: kidsAt pl (i + 1) r
def walk : Nat → List Pd → List Pd
  | 0, _ => []
  | _ + 1, [] => []
  | n + 1, (pl, s) :: r => (pl, s) :: walk n (kidsAt pl 0 s.kids ++ r)
def itemD (q : Pd) : D := .tup [.tup q.1, q.2.toD]
def sumP (f : Sch → Nat) (r : List Pd) : Nat := (r.map fun q => cost f q.2).sum
theorem sumP_kids (f : Sch → Nat) (pl : List D) : ∀ (i : Nat) (ks : List Sch), sumP f (kidsAt pl i ks) = costs f ks
  | _, [] => by rw [costs]; rfl
  | i, s :: r => by
    rw [costs, ← sumP_kids f pl (i + 1) r]
    rfl
theorem sumP_app (f : Sch → Nat) (a b : List Pd) : sumP f (a ++ b) = sumP f a + sumP f b := by
  unfold sumP
  rw [List.map_append, List.sum_append]
theorem walk_sum (f : Sch → Nat) : ∀ (n : Nat) (r : List Pd), sumP (fun _ => 1) r ≤ n → ((walk n r).map fun q => f q.2).sum = sumP f r
  | 0, [], _ => rfl
  | 0, (pl, s) :: r, h => by
    have : sumP (fun _ => 1) ((pl, s) :: r) = cost (fun _ => 1) s + sumP (fun _ => 1) r := rfl
    rw [this, cost_kids] at h
    omega
  | n + 1, [], _ => rfl
  | n + 1, (pl, s) :: r, h => by
    have e : ∀ g, sumP g ((pl, s) :: r) = cost g s + sumP g r := fun g => rfl
    have h2 := h
    rw [e, cost_kids] at h2
    have q := walk_sum f n (kidsAt pl 0 s.kids ++ r) (by rw [sumP_app, sumP_kids]; omega)
    show f s + ((walk n (kidsAt pl 0 s.kids ++ r)).map fun q => f q.2).sum = _
    rw [q, sumP_app, sumP_kids, e, cost_kids]
    omega
theorem kidsAt_mem {pl : List D} : ∀ {i : Nat} {ks : List Sch} {q : Pd}, q ∈ kidsAt pl i ks → q.2 ∈ ks ∧ ∃ j : Nat, q.1 = pl ++ [.int j]
  | _, [], _, h => by cases h
  | i, s :: r, q, h => by
    rcases List.mem_cons.mp h with rfl | h
    · exact ⟨List.mem_cons_self, i, rfl⟩
    · obtain ⟨h1, h2⟩ := kidsAt_mem h
      exact ⟨List.mem_cons_of_mem _ h1, h2⟩
/-- what waits is good where it stands -/
def Pend (num many : Nat) (q : Pd) : Prop := (∃ ps : List Nat, q.1 = ps.map fun i => .int ((i : Nat) : Int)) ∧ ∃ d, q.1.length + d = 5 ∧ Good num many d q.2
theorem Pend.lt {num many : Nat} {q : Pd} (h : Pend num many q) : q.1.length < 5 ∧ q.2.here num many := by
  obtain ⟨_, d, h1, h2⟩ := h
  cases h2 with
  | mk h3 h4 => exact ⟨by omega, h3⟩
theorem Pend.kids {num many : Nat} {pl : List D} {s : Sch} (h : Pend num many (pl, s)) : ∀ q ∈ kidsAt pl 0 s.kids, Pend num many q := fun q hq => by
  obtain ⟨⟨ps, h0⟩, d, h1, h2⟩ := h
  obtain ⟨g1, j, g2⟩ := kidsAt_mem hq
  cases h2 with
  | @mk d s h3 h4 =>
    refine ⟨⟨ps ++ [j], by rw [g2, show pl = _ from h0]; simp⟩, d, ?_, h4 _ g1⟩
    rw [g2]
    simp only [List.length_append, List.length_singleton]
    have : pl.length + (d + 1) = 5 := h1
    omega
/-! ### shapes -/
theorem good_sh {num many : Nat} : ∀ {d : Nat} {s : Sch}, Good num many d s → Sh (2 * d) s.toD := fun {d s} h => by
  induction h with
  | @mk d s h3 h4 ih =>
    have lt : ∀ {c : Nat} {m : Nat}, c ∈ letters → Sh m (.str (S1 c)) := fun hc => .str (S1_ok (by have := letter_lt hc; omega)).ok
    have hh : ∀ m, Sh m (.str s.head) := fun m => .str (head_ok s)
    rw [toD_parts]
    have e : 2 * (d + 1) = (2 * d + 1) + 1 := by omega
    rw [e]
    refine .tup fun x hx => ?_
    rcases List.mem_cons.mp hx with rfl | hx
    · exact hh _
    · obtain ⟨q, hq, rfl⟩ := List.mem_map.mp hx
      cases s with
      | step w n =>
        simp only [Sch.parts, List.mem_cons, List.mem_nil_iff, or_false] at hq
        rcases hq with rfl | rfl
        · exact lt h3.1
        · exact .int
      | many b ks =>
        simp only [Sch.parts, List.mem_cons, List.mem_nil_iff, or_false] at hq
        subst hq
        refine .tup fun x hx => ?_
        rw [toDs_map] at hx
        obtain ⟨kd, hk, rfl⟩ := List.mem_map.mp hx
        exact ih kd hk
      | gate b w s =>
        simp only [Sch.parts, List.mem_cons, List.mem_nil_iff, or_false] at hq
        rcases hq with rfl | rfl
        · exact lt h3
        · exact (ih s List.mem_cons_self).mono (by omega)
      | fin w n s =>
        simp only [Sch.parts, List.mem_cons, List.mem_nil_iff, or_false] at hq
        rcases hq with rfl | rfl | rfl
        · exact lt h3.1
        · exact .int
        · exact (ih s List.mem_cons_self).mono (by omega)
      | most n s =>
        simp only [Sch.parts, List.mem_cons, List.mem_nil_iff, or_false] at hq
        rcases hq with rfl | rfl
        · exact .int
        · exact (ih s List.mem_cons_self).mono (by omega)
      | hc b s =>
        simp only [Sch.parts, List.mem_cons, List.mem_nil_iff, or_false] at hq
        subst hq
        exact (ih s List.mem_cons_self).mono (by omega)
      | use k =>
        simp only [Sch.parts, List.mem_cons, List.mem_nil_iff, or_false] at hq
        subst hq
        exact .int
theorem Pend.sh {num many : Nat} {q : Pd} (h : Pend num many q) : Sh 60 (itemD q) := by
  obtain ⟨⟨ps, h0⟩, d, h1, h2⟩ := h
  refine (Sh.tup (n := 30) fun x hx => ?_).mono (by decide)
  simp only [List.mem_cons, List.mem_nil_iff, or_false] at hx
  rcases hx with rfl | rfl
  · refine (Sh.tup (n := 0) fun y hy => ?_).mono (by decide)
    rw [h0] at hy
    obtain ⟨i, _, rfl⟩ := List.mem_map.mp hy
    exact .int
  · exact (good_sh h2).mono (by omega)
end Ev
end
section
set_option Elab.async false
set_option linter.all false
set_option maxRecDepth 100000
set_option maxHeartbeats 2000000
/-! nodes_of. -/
namespace Ev
open PySem L2 Ms Cod
section
variable {η : List Cell} {a b c : Cell}
theorem two_0 : (η ++ [a, b])[η.length]? = some a := by simp
theorem two_1 : (η ++ [a, b])[η.length + 1]? = some b := by simp
theorem two_s0 : (η ++ [a, b]).set η.length c = η ++ [c, b] := by
  rw [List.set_append_right _ _ (Nat.le_refl _), Nat.sub_self]
  rfl
theorem two_s1 : (η ++ [a, b]).set (η.length + 1) c = η ++ [a, c] := by
  rw [List.set_append_right _ _ (by omega), show η.length + 1 - η.length = 1 by omega]
  rfl
end
def nodesBody : Ss := match c_nodes_of with
  | .cons _ (.cons _ (.cons (.while_ _ b) _)) => b
  | _ => .nil
def kidF (pl : List D) : D → D
  | .tup [.int i, kd] => .tup [.tup (pl ++ [.int i]), kd]
  | d => d
theorem enum_kids (pl : List D) : ∀ (i : Nat) (ks : List Sch), (enumL i (ks.map Sch.toD)).map (kidF pl) = (kidsAt pl i ks).map itemD
  | _, [] => rfl
  | i, s :: r => by
    show kidF pl (.tup [.int i, s.toD]) :: (enumL (i + 1) (r.map Sch.toD)).map (kidF pl) = _
    rw [enum_kids pl (i + 1) r]
    rfl
theorem enum_mem : ∀ {i : Nat} {ds : List D} {d : D}, d ∈ enumL i ds → ∃ (j : Nat) (x : D), x ∈ ds ∧ d = .tup [.int j, x]
  | _, [], _, h => by cases h
  | i, x :: ds, d, h => by
    rcases List.mem_cons.mp h with rfl | h
    · exact ⟨i, x, List.mem_cons_self, rfl⟩
    · obtain ⟨j, y, h1, h2⟩ := enum_mem h
      exact ⟨j, y, List.mem_cons_of_mem _ h1, h2⟩
theorem enum_len : ∀ {i : Nat} {ds : List D}, (enumL i ds).length = ds.length
  | _, [] => rfl
  | i, x :: ds => by
    show (enumL (i + 1) ds).length + 1 = _
    rw [enum_len]
    rfl
theorem kids_len {num many : Nat} {s : Sch} (h : s.here num many) : s.kids.length ≤ 4 := by
  cases s with
  | many b ks => exact h.2
  | _ => simp [Sch.kids]
section
variable {T : List FD} {k : Nat}
theorem nodes_turn (h : Papers T) {η : List Cell} {num many : Nat} {pl : List D} {s : Sch} {r : List Pd} {F : List D} {x0 x5 x6 x7 x8 : Option D} (hF : F.length < 12) (hr : r.length ≤ 1000) (hp : Pend num many (pl, s)) :
    evSs (evF T (k + 3)) nodesBody [x0, some (.int num), some (.int many), some (.ref η.length), some (.ref (η.length + 1)), x5, x6, x7, x8] (η ++ [.lst F, .lst (((pl, s) :: r).reverse.map itemD)]) =
      .ok (.nx [x0, some (.int num), some (.int many), some (.ref η.length), some (.ref (η.length + 1)), some (.tup pl), some s.toD, x7, x8]) (η ++ [.lst (F ++ [itemD (pl, s)]), .lst ((kidsAt pl 0 s.kids ++ r).reverse.map itemD)]) := by
  have lim : LIM = 1000000 := rfl
  have lt5 : pl.length < 5 := hp.lt.1
  have hh : s.here num many := hp.lt.2
  have e0 : ((pl, s) :: r).reverse.map itemD = r.reverse.map itemD ++ [.tup [.tup pl, s.toD]] := by simp [itemD]
  have e1 : ((F.length : Int) == 12) = false := beq_eq_false_iff_ne.mpr (by omega)
  have sc := is_scheme_ok (k := k) h (num := num) (many := many) (s := s) (pl := pl) lt5 hh
  have kd := kids_ok (k := k + 2) h s
  have kl := kids_len hh
  have lp := lc_map (bind := fun d => bindT (.tup [7, 8]) d (wipeD [x0, some (.int num), some (.int many), some (.ref η.length), some (.ref (η.length + 1)), some (.tup pl), some s.toD, x7, x8] [7, 8])) (cond := evC (evF T (k + 3)) .none)
    (elt := evE (evF T (k + 3)) (.tup (.cons (.bin .add (.loc 5) (.tup (.cons (.loc 7) .nil))) (.cons (.loc 8) .nil)))) (f := kidF pl) (xs := enumL 0 (s.kids.map Sch.toD)) (acc := []) (by rw [enum_len]; simp; omega) fun d hd => by
      obtain ⟨j, x, _, rfl⟩ := enum_mem hd
      have a1 : addD (.tup pl) (.tup [.int j]) = Ms.ret (.tup (pl ++ [.int j])) := add_tup (by simp; omega)
      refine ⟨_, rfl, by simp only [evSs, evS, evE, evEs, evAnd, evOr, evO, evC, evIt, startD, List.map_cons, List.map_nil, List.length_cons, List.length_nil, List.cons_append, List.nil_append, List.replicate, List.getElem?_cons_zero, List.getElem?_cons_succ, Option.join_some, List.set_cons_zero, List.set_cons_succ, fromO_some, bnd_ret, bnd_assoc, constD, cmpD, binD, biD, bindT, setAll, asB_bnd, asB_bl, if_true, if_false, Bool.false_eq_true, Bool.not_true, Bool.not_false, LE0, LE1, LE2, LE3, LE4], ?_⟩
      simp only [evSs, evS, evE, evEs, evAnd, evOr, evO, evC, evIt, startD, List.map_cons, List.map_nil, List.length_cons, List.length_nil, List.cons_append, List.nil_append, List.replicate, List.getElem?_cons_zero, List.getElem?_cons_succ, Option.join_some, List.set_cons_zero, List.set_cons_succ, fromO_some, bnd_ret, bnd_assoc, constD, cmpD, binD, biD, bindT, setAll, asB_bnd, asB_bl, if_true, if_false, Bool.false_eq_true, Bool.not_true, Bool.not_false, LE0, LE1, LE2, LE3, LE4, wipeD, a1]
      rfl
  rw [enum_kids, List.nil_append] at lp
  have kal : (kidsAt pl 0 s.kids).length ≤ 4 := by
    have : ∀ (i : Nat) (ks : List Sch), (kidsAt pl i ks).length = ks.length := fun i ks => by
      induction ks generalizing i with
      | nil => rfl
      | cons s r ih => show (kidsAt pl (i + 1) r).length + 1 = _; rw [ih]; rfl
    rw [this]
    exact kl
  simp only [evSs, evS, evE, evEs, evAnd, evOr, evO, evC, evIt, startD, List.map_cons, List.map_nil, List.length_cons, List.length_nil, List.cons_append, List.nil_append, List.replicate, List.getElem?_cons_zero, List.getElem?_cons_succ, Option.join_some, List.set_cons_zero, List.set_cons_succ, fromO_some, bnd_ret, bnd_assoc, constD, cmpD, binD, biD, bindT, setAll, asB_bnd, asB_bl, if_true, if_false, Bool.false_eq_true, Bool.not_true, Bool.not_false, LE0, LE1, LE2, LE3, LE4] at lp
  rw [show nodesBody = .cons (.asg (.tup [5, 6]) (.mt .pop (.loc 4) .nil)) (.cons (.if_ (.or_ (.cons (.cmp .eq (.bi .len (.cons (.loc 3) .nil)) (.glob "MOST_NODES" (.int 12))) (.cons (.not_ (.call 4 (.cons (.loc 6) (.cons (.loc 5) (.cons (.loc 1) (.cons (.loc 2) .nil)))))) .nil))) (.cons .never .nil) .nil)
    (.cons (.ex (.mt .append (.loc 3) (.cons (.tup (.cons (.loc 5) (.cons (.loc 6) .nil))) .nil)))
    (.cons (.aug 4 .add (.rev (.lc false [7, 8] (.tup [7, 8]) (.enum (.call 2 (.cons (.loc 6) .nil))) .none (.tup (.cons (.bin .add (.loc 5) (.tup (.cons (.loc 7) .nil))) (.cons (.loc 8) .nil)))))) .nil))) from rfl]
  simp only [evSs, evS, evE, evEs, evAnd, evOr, evO, evC, evIt, startD, List.map_cons, List.map_nil, List.length_cons, List.length_nil, List.cons_append, List.nil_append, List.replicate, List.getElem?_cons_zero, List.getElem?_cons_succ, Option.join_some, List.set_cons_zero, List.set_cons_succ, fromO_some, bnd_ret, bnd_assoc, constD, cmpD, binD, biD, bindT, setAll, asB_bnd, asB_bl, if_true, if_false, Bool.false_eq_true, Bool.not_true, Bool.not_false, LE0, LE1, LE2, LE3, LE4, e0]
  rw [bnd_ok (cl_rec rfl two_1), bnd_ok (cl_popL two_1), two_s1]
  simp only [evSs, evS, evE, evEs, evAnd, evOr, evO, evC, evIt, startD, List.map_cons, List.map_nil, List.length_cons, List.length_nil, List.cons_append, List.nil_append, List.replicate, List.getElem?_cons_zero, List.getElem?_cons_succ, Option.join_some, List.set_cons_zero, List.set_cons_succ, fromO_some, bnd_ret, bnd_assoc, constD, cmpD, binD, biD, bindT, setAll, asB_bnd, asB_bl, if_true, if_false, Bool.false_eq_true, Bool.not_true, Bool.not_false, LE0, LE1, LE2, LE3, LE4]
  rw [bnd_ok (cl_len two_0)]
  simp only [evSs, evS, evE, evEs, evAnd, evOr, evO, evC, evIt, startD, List.map_cons, List.map_nil, List.length_cons, List.length_nil, List.cons_append, List.nil_append, List.replicate, List.getElem?_cons_zero, List.getElem?_cons_succ, Option.join_some, List.set_cons_zero, List.set_cons_succ, fromO_some, bnd_ret, bnd_assoc, constD, cmpD, binD, biD, bindT, setAll, asB_bnd, asB_bl, if_true, if_false, Bool.false_eq_true, Bool.not_true, Bool.not_false, LE0, LE1, LE2, LE3, LE4, eq_int, e1, sc]
  rw [bnd_ok (cl_rec rfl two_0), bnd_ok (cl_app two_0 (by omega) _), two_s0]
  simp only [evSs, evS, evE, evEs, evAnd, evOr, evO, evC, evIt, startD, List.map_cons, List.map_nil, List.length_cons, List.length_nil, List.cons_append, List.nil_append, List.replicate, List.getElem?_cons_zero, List.getElem?_cons_succ, Option.join_some, List.set_cons_zero, List.set_cons_succ, fromO_some, bnd_ret, bnd_assoc, constD, cmpD, binD, biD, bindT, setAll, asB_bnd, asB_bl, if_true, if_false, Bool.false_eq_true, Bool.not_true, Bool.not_false, LE0, LE1, LE2, LE3, LE4, kd, enum_fl, lp]
  rw [newL_f (by simp; omega)]
  simp only [evSs, evS, evE, evEs, evAnd, evOr, evO, evC, evIt, startD, List.map_cons, List.map_nil, List.length_cons, List.length_nil, List.cons_append, List.nil_append, List.replicate, List.getElem?_cons_zero, List.getElem?_cons_succ, Option.join_some, List.set_cons_zero, List.set_cons_succ, fromO_some, bnd_ret, bnd_assoc, constD, cmpD, binD, biD, bindT, setAll, asB_bnd, asB_bl, if_true, if_false, Bool.false_eq_true, Bool.not_true, Bool.not_false, LE0, LE1, LE2, LE3, LE4]
  have rv : ∀ η2 : List Cell, revD (.fl ((kidsAt pl 0 s.kids).map itemD)) η2 = .ok (.fl ((kidsAt pl 0 s.kids).map itemD).reverse) η2 := fun _ => rfl
  rw [bnd_ok (rv _), bnd_ok (cl_aug two_1 (by simp; omega)), two_s1]
  simp [itemD, Ms.ret]
theorem nodes_loop (h : Papers T) {η : List Cell} {num many : Nat} {x0 : Option D} : ∀ (n : Nat) (pend : List Pd) (F : List D) (m : Nat) (x5 x6 x7 x8 : Option D), sumP (fun _ => 1) pend = n → n < m → F.length + n ≤ 12 → (∀ q ∈ pend, Pend num many q) →
    ∃ y5 y6 y7 y8, whileL (fun ρ => asB (evE (evF T (k + 3)) (.cmp .ne (.loc 4) (.lst false .nil)) ρ)) (evSs (evF T (k + 3)) nodesBody) m [x0, some (.int num), some (.int many), some (.ref η.length), some (.ref (η.length + 1)), x5, x6, x7, x8] (η ++ [.lst F, .lst (pend.reverse.map itemD)]) =
      .ok (.nx [x0, some (.int num), some (.int many), some (.ref η.length), some (.ref (η.length + 1)), y5, y6, y7, y8]) (η ++ [.lst (F ++ (walk n pend).map itemD), .lst []])
  | n, pend, F, 0, _, _, _, _, _, hm, _, _ => absurd hm (Nat.not_lt_zero _)
  | n, pend, F, m + 1, x5, x6, x7, x8, hn, hm, hF, hp => by
    have n0 : newL false [] = Ms.ret (.fl []) := newL_f (Nat.zero_le _)
    have test : asB (evE (evF T (k + 3)) (.cmp .ne (.loc 4) (.lst false .nil)) [x0, some (.int num), some (.int many), some (.ref η.length), some (.ref (η.length + 1)), x5, x6, x7, x8]) (η ++ [.lst F, .lst (pend.reverse.map itemD)]) = .ok (!pend.isEmpty) (η ++ [.lst F, .lst (pend.reverse.map itemD)]) := by
      simp only [evSs, evS, evE, evEs, evAnd, evOr, evO, evC, evIt, startD, List.map_cons, List.map_nil, List.length_cons, List.length_nil, List.cons_append, List.nil_append, List.replicate, List.getElem?_cons_zero, List.getElem?_cons_succ, Option.join_some, List.set_cons_zero, List.set_cons_succ, fromO_some, bnd_ret, bnd_assoc, constD, cmpD, binD, biD, bindT, setAll, asB_bnd, asB_bl, if_true, if_false, Bool.false_eq_true, Bool.not_true, Bool.not_false, LE0, LE1, LE2, LE3, LE4, n0]
      refine asB_at ?_
      rw [ne_nil two_1 fun x hx => ?_]
      · cases pend <;> simp
      · obtain ⟨q, hq, rfl⟩ := List.mem_map.mp hx
        exact (hp q (List.mem_reverse.mp hq)).sh
    unfold whileL
    rw [bnd_ok test]
    match pend, hn, hp with
    | [], hn, hp =>
      have : n = 0 := hn.symm
      subst this
      refine ⟨x5, x6, x7, x8, ?_⟩
      simp [walk, Ms.ret]
    | (pl, s) :: r, hn, hp =>
      have e : ∀ g, sumP g ((pl, s) :: r) = cost g s + sumP g r := fun g => rfl
      rw [e, cost_kids] at hn
      obtain ⟨n', rfl⟩ : ∃ n', n = n' + 1 := ⟨n - 1, by omega⟩
      have rl : r.length ≤ sumP (fun _ => 1) r := by
        unfold sumP
        clear hp hn test e
        induction r with
        | nil => exact Nat.zero_le _
        | cons q r ih =>
          simp only [List.map_cons, List.sum_cons, List.length_cons]
          have := cost_kids (fun _ => 1) q.2
          omega
      obtain ⟨y5, y6, y7, y8, q⟩ := nodes_loop h (η := η) (num := num) (many := many) (x0 := x0) n' (kidsAt pl 0 s.kids ++ r) (F ++ [itemD (pl, s)]) m (some (.tup pl)) (some s.toD) x7 x8 (by rw [sumP_app, sumP_kids]; omega) (by omega) (by simp; omega) fun q hq => by
        rcases List.mem_append.mp hq with hq | hq
        · exact (hp _ List.mem_cons_self).kids q hq
        · exact hp q (List.mem_cons_of_mem _ hq)
      refine ⟨y5, y6, y7, y8, ?_⟩
      simp only [List.isEmpty_cons, Bool.not_false, if_true]
      rw [bnd_ok (nodes_turn h (by omega) (by omega) (hp _ List.mem_cons_self))]
      try dsimp only
      rw [q]
      simp [walk]
/-- the places of a scheme, in turn -/
def nodesL (s : Sch) : List Pd := walk (cost (fun _ => 1) s) [([], s)]
theorem toD_under (n : Nat) : ∀ s : Sch, dUnder n s.toD = true := fun s => by
  have := @Sch.rec (fun s => dUnder n s.toD = true) (fun ks => dUnders n (Sch.toDs ks) = true)
  refine this ?_ ?_ ?_ ?_ ?_ ?_ ?_ ?_ ?_ s
  · intro w m; simp [Sch.toD, dUnder, dUnders]
  · intro b ks ih; simp [Sch.toD, dUnder, dUnders, ih]
  · intro b w s ih; simp [Sch.toD, dUnder, dUnders, ih]
  · intro w m s ih; simp [Sch.toD, dUnder, dUnders, ih]
  · intro m s ih; simp [Sch.toD, dUnder, dUnders, ih]
  · intro b s ih; simp [Sch.toD, dUnder, dUnders, ih]
  · intro k; simp [Sch.toD, dUnder, dUnders]
  · simp [Sch.toDs, dUnders]
  · intro s r ih1 ih2; simp [Sch.toDs, dUnders, ih1, ih2]
theorem toD_frozen : ∀ s : Sch, frozen s.toD = true := fun s => by
  have := @Sch.rec (fun s => frozen s.toD = true) (fun ks => frozens (Sch.toDs ks) = true)
  refine this ?_ ?_ ?_ ?_ ?_ ?_ ?_ ?_ ?_ s
  · intro w m; simp [Sch.toD, frozen, frozens]
  · intro b ks ih; simp [Sch.toD, frozen, frozens, ih]
  · intro b w s ih; simp [Sch.toD, frozen, frozens, ih]
  · intro w m s ih; simp [Sch.toD, frozen, frozens, ih]
  · intro m s ih; simp [Sch.toD, frozen, frozens, ih]
  · intro b s ih; simp [Sch.toD, frozen, frozens, ih]
  · intro k; simp [Sch.toD, frozen, frozens]
  · simp [Sch.toDs, frozens]
  · intro s r ih1 ih2; simp [Sch.toDs, frozens, ih1, ih2]
theorem walk_pl : ∀ (n : Nat) (pend : List Pd), (∀ q ∈ pend, ∃ ps : List Nat, q.1 = ps.map fun i => D.int ((i : Nat) : Int)) → ∀ q ∈ walk n pend, ∃ ps : List Nat, q.1 = ps.map fun i => D.int ((i : Nat) : Int)
  | 0, _, _, q, h => by cases h
  | n + 1, [], _, q, h => by cases h
  | n + 1, (pl, s) :: r, hp, q, h => by
    rcases List.mem_cons.mp h with rfl | h
    · exact hp _ List.mem_cons_self
    · refine walk_pl n _ (fun q hq => ?_) q h
      rcases List.mem_append.mp hq with hq | hq
      · obtain ⟨ps, h0⟩ := hp _ List.mem_cons_self
        obtain ⟨_, j, g2⟩ := kidsAt_mem hq
        exact ⟨ps ++ [j], by rw [g2, show pl = _ from h0]; simp⟩
      · exact hp q (List.mem_cons_of_mem _ hq)
theorem nodesL_frozen (s : Sch) : frozens ((nodesL s).map itemD) = true := by
  refine frozens_mapM fun q hq => ?_
  obtain ⟨ps, h⟩ := walk_pl _ _ (fun q hq => ⟨[], by rw [List.mem_singleton.mp hq]; rfl⟩) q hq
  simp only [itemD, frozen, frozens, toD_frozen, Bool.and_true]
  rw [h]
  exact frozens_map (fun _ => rfl) _
theorem nodes_ok (h : Papers T) {η : List Cell} {num many : Nat} {s : Sch} (hs : Good num many 5 s) (hn : cost (fun _ => 1) s ≤ 12) (hη : η.all (cUnder η.length) = true) : evF T (k + 4) 5 [s.toD, .int num, .int many] η = .ok (.fl ((nodesL s).map itemD)) η := by
  have hd : dUnder η.length (.fl ((nodesL s).map itemD)) = true := frozen_under _ (nodesL_frozen s)
  have one : sumP (fun _ => 1) [(([] : List D), s)] = cost (fun _ => 1) s := by simp [sumP]
  obtain ⟨y5, y6, y7, y8, q⟩ := nodes_loop (k := k) h (η := η) (num := num) (many := many) (x0 := some s.toD) (cost (fun _ => 1) s) [([], s)] [] WF none none none none one (by have : WF = 1000000 := rfl; omega) (by simpa using hn) fun q hq => by
    rw [List.mem_singleton.mp hq]
    exact ⟨⟨[], rfl⟩, 5, rfl, hs⟩
  refine evF_tmp (fl := .rt (.fl ((nodesL s).map itemD))) (ex := [.dead, .lst []]) h.nodes rfl hη hd ?_
  rw [show c_nodes_of = .cons (.asg (.name 3) (.lst true .nil)) (.cons (.asg (.name 4) (.lst true (.cons (.tup (.cons (.tup .nil) (.cons (.loc 0) .nil))) .nil))) (.cons (.while_ (.cmp .ne (.loc 4) (.lst false .nil)) nodesBody) (.cons (.ret (.frz (.loc 3))) .nil))) from rfl]
  simp only [evSs, evS, evE, evEs, evAnd, evOr, evO, evC, evIt, startD, List.map_cons, List.map_nil, List.length_cons, List.length_nil, List.cons_append, List.nil_append, List.replicate, List.getElem?_cons_zero, List.getElem?_cons_succ, Option.join_some, List.set_cons_zero, List.set_cons_succ, fromO_some, bnd_ret, bnd_assoc, constD, cmpD, binD, biD, bindT, setAll, asB_bnd, asB_bl, if_true, if_false, Bool.false_eq_true, Bool.not_true, Bool.not_false, LE0, LE1, LE2, LE3, LE4] at q
  simp only [evSs, evS, evE, evEs, evAnd, evOr, evO, evC, evIt, startD, List.map_cons, List.map_nil, List.length_cons, List.length_nil, List.cons_append, List.nil_append, List.replicate, List.getElem?_cons_zero, List.getElem?_cons_succ, Option.join_some, List.set_cons_zero, List.set_cons_succ, fromO_some, bnd_ret, bnd_assoc, constD, cmpD, binD, biD, bindT, setAll, asB_bnd, asB_bl, if_true, if_false, Bool.false_eq_true, Bool.not_true, Bool.not_false, LE0, LE1, LE2, LE3, LE4]
  rw [bnd_ok (cl_new (Nat.zero_le _))]
  try simp only [evSs, evS, evE, evEs, evAnd, evOr, evO, evC, evIt, startD, List.map_cons, List.map_nil, List.length_cons, List.length_nil, List.cons_append, List.nil_append, List.replicate, List.getElem?_cons_zero, List.getElem?_cons_succ, Option.join_some, List.set_cons_zero, List.set_cons_succ, fromO_some, bnd_ret, bnd_assoc, constD, cmpD, binD, biD, bindT, setAll, asB_bnd, asB_bl, if_true, if_false, Bool.false_eq_true, Bool.not_true, Bool.not_false, LE0, LE1, LE2, LE3, LE4]
  rw [bnd_ok (cl_new (show [D.tup [D.tup [], s.toD]].length ≤ LIM from (by decide : 1 ≤ LIM)))]
  try simp only [evSs, evS, evE, evEs, evAnd, evOr, evO, evC, evIt, startD, List.map_cons, List.map_nil, List.length_cons, List.length_nil, List.cons_append, List.nil_append, List.replicate, List.getElem?_cons_zero, List.getElem?_cons_succ, Option.join_some, List.set_cons_zero, List.set_cons_succ, fromO_some, bnd_ret, bnd_assoc, constD, cmpD, binD, biD, bindT, setAll, asB_bnd, asB_bl, if_true, if_false, Bool.false_eq_true, Bool.not_true, Bool.not_false, LE0, LE1, LE2, LE3, LE4]
  have e : η ++ [Cell.lst []] ++ [Cell.lst [D.tup [D.tup [], s.toD]]] = η ++ [Cell.lst [], Cell.lst ([(([] : List D), s)].reverse.map itemD)] := by simp [itemD]
  have el : (η ++ [Cell.lst []]).length = η.length + 1 := by simp
  rw [e, el, bnd_ok q]
  simp only [evSs, evS, evE, evEs, evAnd, evOr, evO, evC, evIt, startD, List.map_cons, List.map_nil, List.length_cons, List.length_nil, List.cons_append, List.nil_append, List.replicate, List.getElem?_cons_zero, List.getElem?_cons_succ, Option.join_some, List.set_cons_zero, List.set_cons_succ, fromO_some, bnd_ret, bnd_assoc, constD, cmpD, binD, biD, bindT, setAll, asB_bnd, asB_bl, if_true, if_false, Bool.false_eq_true, Bool.not_true, Bool.not_false, LE0, LE1, LE2, LE3, LE4]
  rw [bnd_ok (cl_frz two_0), two_s0]
  rfl
end
end Ev
end
section
set_option Elab.async false
set_option linter.all false
set_option maxRecDepth 100000
set_option maxHeartbeats 2000000
/-! need_paper. -/
namespace Ev
open PySem L2 Ms Cod
/-- a step's or an end's, or what a use brings -/
def own1 (u : Nat → Nat) : Sch → Nat
  | .step .. => 1
  | .fin .. => 1
  | .use k => u k
  | _ => 0
def own2 (u : Nat → Nat) : Sch → Nat
  | .gate .. => 1
  | .use k => u k
  | _ => 0
structure Paper (ss : List Sch) (u1 u2 : Nat → Nat) : Prop where
  lo : 1 ≤ ss.length
  hi : ss.length ≤ 5
  good : ∀ i s, ss[i]? = some s → Good i ss.length 5 s
  size : ∀ s ∈ ss, cost (fun _ => 1) s ≤ 12
  c1 : ∀ i s, ss[i]? = some s → cost (own1 u1) s = u1 i
  c2 : ∀ i s, ss[i]? = some s → cost (own2 u2) s = u2 i
  m1 : u1 0 ≤ 7
  m2 : u2 0 ≤ 3
/-- the paper as data -/
def paperD (ss : List Sch) : D := .tup (ss.map Sch.toD)
theorem lc_fm {α : Type} {bind : D → Option Ms.Env} {cond : Ms.Env → M Bool} {elt : Ms.Env → M D} {e : α → D} {g : α → Option D} {η : List Cell} : ∀ {xs : List α} {acc : List D}, acc.length + xs.length ≤ 100000 →
    (∀ x ∈ xs, ∃ ρ, bind (e x) = some ρ ∧ cond ρ η = .ok (g x).isSome η ∧ ∀ y, g x = some y → elt ρ η = .ok y η) → lcL [] bind cond elt (xs.map e) acc η = .ok (acc ++ xs.filterMap g) η
  | [], acc, _, _ => by
    rw [List.map_nil, List.filterMap_nil, List.append_nil]
    unfold lcL
    rw [chk_nil, bnd_ret]
    rfl
  | x :: xs, acc, hl, h => by
    simp only [List.length_cons] at hl
    have lim : LIM = 1000000 := rfl
    obtain ⟨ρ, h1, h2, h3⟩ := h x List.mem_cons_self
    have nx : ∀ {β : Type} {m : M β} {a : β}, m η = .ok a η → noX m η = .ok a η := fun hm => by
      unfold noX
      rw [hm]
    rw [List.map_cons]
    unfold lcL
    rw [chk_nil, bnd_ret, h1]
    try dsimp only
    rw [bnd_ok (nx h2)]
    cases hg : g x with
    | none =>
      rw [List.filterMap_cons_none hg]
      rw [Option.isSome_none, if_neg Bool.false_ne_true]
      exact lc_fm (by omega) fun y hy => h y (List.mem_cons_of_mem _ hy)
    | some y =>
      rw [List.filterMap_cons_some hg]
      rw [Option.isSome_some, if_pos rfl, bnd_ok (nx (h3 y hg)), if_pos (by omega)]
      have q := lc_fm (bind := bind) (cond := cond) (elt := elt) (e := e) (g := g) (η := η) (xs := xs) (acc := acc ++ [y]) (by simp; omega) fun y hy => h y (List.mem_cons_of_mem _ hy)
      rw [q, List.append_assoc]
      rfl
theorem asIs_ints : ∀ l : List Int, asIs (l.map D.int) = some l
  | [] => rfl
  | i :: l => by
    rw [List.map_cons, asIs, asIs_ints l]
    rfl
theorem sum_ints (l : List Int) : sumD [.fl (l.map D.int)] = Ms.ret (.int l.sum) := by
  funext η
  show (match asIs (l.map D.int) with | some bs => Res.ok (D.int bs.sum) η | none => Res.bad) = _
  rw [asIs_ints]
  rfl
/-! ### heads -/
theorem head_eq (s : Sch) (w : Str) (hw : PyData.strOk w = true) : eqD (.str s.head) (.str w) = Ms.ret (.bl (s.head == w)) := eq_str (head_ok s) hw
def isUse : Sch → Option Nat
  | .use k => some k
  | _ => none
theorem use_head (s : Sch) : (s.head == ("use" : Str)) = (isUse s).isSome := by
  have e : ∀ k : Fin 10, (headK k == ("use" : Str)) = decide (k = 9) := by decide +kernel
  rw [e]
  cases s with
  | many b ks => cases b <;> rfl
  | gate b w s => cases b <;> rfl
  | hc b s => cases b <;> rfl
  | _ => rfl
theorem in_two (a b : Str) (w : Str) : inD false (.str w) (.tup [.str a, .str b]) = Ms.ret (.bl (inFlat (.str w) [.str a, .str b])) := by
  funext η
  unfold inD
  simp only [asQ]
  rw [if_pos ⟨rfl, rfl⟩]
  rfl
def isLeaf : Sch → Bool
  | .step .. => true
  | .fin .. => true
  | _ => false
def isGate : Sch → Bool
  | .gate .. => true
  | _ => false
theorem leaf_head (s : Sch) : inFlat (.str s.head) [.str "step", .str "end"] = isLeaf s := by
  have e : ∀ k : Fin 10, inFlat (.str (headK k)) [.str "step", .str "end"] = decide (k = 0 ∨ k = 8) := by decide +kernel
  rw [e]
  cases s with
  | many b ks => cases b <;> rfl
  | gate b w s => cases b <;> rfl
  | hc b s => cases b <;> rfl
  | _ => rfl
theorem gate_head (s : Sch) : inFlat (.str s.head) [.str "seen", .str "behind"] = isGate s := by
  have e : ∀ k : Fin 10, inFlat (.str (headK k)) [.str "seen", .str "behind"] = decide (k = 5 ∨ k = 6) := by decide +kernel
  rw [e]
  cases s with
  | many b ks => cases b <;> rfl
  | gate b w s => cases b <;> rfl
  | hc b s => cases b <;> rfl
  | _ => rfl
theorem ix0_toD (s : Sch) : idxD s.toD (.int 0) = Ms.ret (.str s.head) := by rw [toD_parts, ix_head]
theorem ix1_use {s : Sch} {k : Nat} (h : isUse s = some k) : idxD s.toD (.int 1) = Ms.ret (.int k) := by
  cases s with
  | use j =>
    cases h
    rw [Sch.toD, ix_tup, show (1 : Int) = ((1 : Nat) : Int) from rfl, at_nat (i := 1) rfl]
    rfl
  | _ => cases h
/-! ### the two tables -/
abbrev KV := List (Key × D)
structure Dk (kvs : KV) (u : Nat → Nat) (j m : Nat) : Prop where
  get : ∀ i, j ≤ i → i < m → valG kvs (.inl ((i : Nat) : Int)) = some (.int (u i))
  keys : ∀ p ∈ kvs, ∃ i : Nat, j ≤ i ∧ p.1 = .inl ((i : Nat) : Int)
  len : kvs.length + j ≤ m
  vals : ∀ p ∈ kvs, ∃ i : Int, p.2 = .int i
theorem Dk.nil {u : Nat → Nat} {m : Nat} : Dk [] u m m := ⟨fun i h1 h2 => by omega, (fun p h => nomatch h), by simp, fun p h => nomatch h⟩
theorem Dk.put {kvs : KV} {u : Nat → Nat} {j m : Nat} (h : Dk kvs u (j + 1) m) : Dk (putG kvs (.inl ((j : Nat) : Int)) (.int (u j))) u j m := by
  have no : ∀ p ∈ kvs, decide (p.1 = (.inl ((j : Nat) : Int) : Key)) = false := fun p hp => by
    obtain ⟨i, h1, h2⟩ := h.keys p hp
    rw [h2]
    refine decide_eq_false fun z => ?_
    have := Sum.inl.inj z
    omega
  have e : putG kvs (.inl ((j : Nat) : Int)) (.int (u j)) = kvs ++ [(.inl ((j : Nat) : Int), .int (u j))] := by
    unfold putG
    rw [if_neg]
    rw [Bool.not_eq_true, List.any_eq_false]
    intro p hp
    rw [no p hp]
    exact Bool.false_ne_true
  rw [e]
  refine ⟨fun i h1 h2 => ?_, fun p hp => ?_, ?_, fun p hp => ?_⟩
  · unfold valG
    rw [List.find?_append]
    by_cases hi : i = j
    · subst hi
      have : kvs.find? (fun p => decide (p.1 = (.inl ((i : Nat) : Int) : Key))) = none := List.find?_eq_none.mpr fun p hp => by
        rw [no p hp]
        exact Bool.false_ne_true
      rw [this]
      simp
    · have q := h.get i (by omega) h2
      unfold valG at q
      cases z : kvs.find? (fun p => decide (p.1 = (.inl ((i : Nat) : Int) : Key))) with
      | none => rw [z] at q; cases q
      | some x =>
        rw [z] at q
        simpa using q
  · rcases List.mem_append.mp hp with hp | hp
    · obtain ⟨i, h1, h2⟩ := h.keys p hp
      exact ⟨i, by omega, h2⟩
    · simp at hp
      exact ⟨j, Nat.le_refl _, by rw [hp]⟩
  · have := h.len
    simp
    omega
  · rcases List.mem_append.mp hp with hp | hp
    · exact h.vals p hp
    · simp at hp
      exact ⟨_, by rw [hp]⟩
theorem dget_ok {η : List Cell} {n i j m : Nat} {kvs : KV} {u : Nat → Nat} (hn : η[n]? = some (.dic kvs)) (h : Dk kvs u j m) (h1 : j ≤ i) (h2 : i < m) : dgetD (.ref n) (.int i) η = .ok (.int (u i)) η := by
  unfold dgetD lookD
  simp only [hn, keyD, Option.map_some, h.get i h1 h2]
theorem dset_ok {η : List Cell} {n j : Nat} {kvs : KV} {y : D} (hn : η[n]? = some (.dic kvs)) (hl : kvs.length < LIM) : dsetD (.ref n) (.int j) y η = .ok () (η.set n (.dic (putG kvs (.inl ((j : Nat) : Int)) y))) := by
  unfold dsetD
  simp only [hn, keyD, if_pos hl]
/-! ### counts -/
theorem own1_split (u : Nat → Nat) (l : List Sch) : (l.map (own1 u)).sum = (l.filter isLeaf).length + ((l.filterMap isUse).map u).sum := by
  induction l with
  | nil => rfl
  | cons s l ih =>
    rw [List.map_cons, List.sum_cons, ih]
    cases s <;> simp only [own1, isLeaf, isUse, List.filter_cons, List.filterMap_cons, List.length_cons, List.map_cons, List.sum_cons, if_true, if_false, Bool.false_eq_true] <;> omega
theorem own2_split (u : Nat → Nat) (l : List Sch) : (l.map (own2 u)).sum = (l.filter isGate).length + ((l.filterMap isUse).map u).sum := by
  induction l with
  | nil => rfl
  | cons s l ih =>
    rw [List.map_cons, List.sum_cons, ih]
    cases s <;> simp only [own2, isGate, isUse, List.filter_cons, List.filterMap_cons, List.length_cons, List.map_cons, List.sum_cons, if_true, if_false, Bool.false_eq_true] <;> omega
theorem nodes_sum (f : Sch → Nat) (s : Sch) : (((nodesL s).map (·.2)).map f).sum = cost f s := by
  have q := walk_sum f (cost (fun _ => 1) s) [([], s)] (by simp [sumP])
  rw [List.map_map]
  exact q.trans (by simp [sumP])
theorem walk_len : ∀ (n : Nat) (r : List Pd), (walk n r).length ≤ n
  | 0, _ => Nat.le_refl _
  | n + 1, [] => Nat.zero_le _
  | n + 1, (pl, s) :: r => by
    show (walk n _).length + 1 ≤ n + 1
    have := walk_len n (kidsAt pl 0 s.kids ++ r)
    omega
/-- what a use names lies behind -/
theorem good_use {num many : Nat} : ∀ (n : Nat) (r : List Pd), (∀ q ∈ r, ∃ d, Good num many d q.2) → ∀ q ∈ walk n r, q.2.here num many
  | 0, _, _, q, h => by cases h
  | n + 1, [], _, q, h => by cases h
  | n + 1, (pl, s) :: r, hp, q, h => by
    obtain ⟨d, hd⟩ := hp _ List.mem_cons_self
    cases hd with
    | @mk d _ h3 h4 =>
      rcases List.mem_cons.mp h with rfl | h
      · exact h3
      · refine good_use n _ (fun q hq => ?_) q h
        rcases List.mem_append.mp hq with hq | hq
        · exact ⟨d, h4 _ (kidsAt_mem hq).1⟩
        · exact hp q (List.mem_cons_of_mem _ hq)
end Ev
end
section
set_option Elab.async false
set_option linter.all false
set_option maxRecDepth 100000
set_option maxHeartbeats 2000000
/-! need_paper. -/
namespace Ev
open PySem L2 Ms Cod
mutual
theorem dUnder_mono {n m : Nat} (h : n ≤ m) : ∀ {d : D}, dUnder n d = true → dUnder m d = true
  | .tup xs, e => by
    rw [dUnder] at e ⊢
    exact dUnders_mono h e
  | .fl xs, e => by
    rw [dUnder] at e ⊢
    exact dUnders_mono h e
  | .scr xs, e => by
    rw [dUnder] at e ⊢
    exact dUnders_mono h e
  | .ref k, e => by
    rw [dUnder] at e ⊢
    exact decide_eq_true (Nat.lt_of_lt_of_le (of_decide_eq_true e) h)
  | .non, _ => rfl
  | .bl _, _ => rfl
  | .int _, _ => rfl
  | .str _, _ => rfl
theorem dUnders_mono {n m : Nat} (h : n ≤ m) : ∀ {ds : List D}, dUnders n ds = true → dUnders m ds = true
  | [], _ => rfl
  | d :: r, e => by
    rw [dUnders, Bool.and_eq_true] at e
    rw [dUnders, dUnder_mono h e.1, dUnders_mono h e.2]
    rfl
end
theorem cUnder_mono {n m : Nat} (h : n ≤ m) {c : Cell} (e : cUnder n c = true) : cUnder m c = true := by
  cases c <;> first | rfl | exact dUnders_mono h e
/-- no cell names what isn't there -/
def Wf (η : List Cell) : Prop := η.all (cUnder η.length) = true
theorem Wf.app {η ex : List Cell} (h : Wf η) (he : ∀ c ∈ ex, cUnder (η.length + ex.length) c = true) : Wf (η ++ ex) := by
  unfold Wf at *
  rw [List.all_eq_true] at *
  intro c hc
  rw [List.length_append]
  rcases List.mem_append.mp hc with hc | hc
  · exact cUnder_mono (by omega) (h c hc)
  · exact he c hc
theorem unders_ints {n : Nat} : ∀ {ds : List D}, (∀ d ∈ ds, ∃ i : Int, d = .int i) → dUnders n ds = true
  | [], _ => rfl
  | d :: r, h => by
    obtain ⟨i, rfl⟩ := h d List.mem_cons_self
    rw [dUnders, unders_ints fun x hx => h x (List.mem_cons_of_mem _ hx)]
    rfl
theorem Dk.under {kvs : KV} {u : Nat → Nat} {j m n : Nat} (h : Dk kvs u j m) : cUnder n (.dic kvs) = true := by
  rw [cUnder]
  refine unders_ints fun d hd => ?_
  obtain ⟨p, hp, rfl⟩ := List.mem_map.mp hd
  exact h.vals p hp
theorem Wf.dics {η : List Cell} (h : Wf η) {k1 k2 : KV} {u1 u2 : Nat → Nat} {j m : Nat} (h1 : Dk k1 u1 j m) (h2 : Dk k2 u2 j m) : Wf (η ++ [.dic k1, .dic k2]) := h.app fun c hc => by
  simp only [List.mem_cons, List.mem_nil_iff, or_false] at hc
  rcases hc with rfl | rfl
  · exact h1.under
  · exact h2.under
theorem fm_if (P : Sch → Bool) : ∀ ws : List Sch, ws.filterMap (fun v => if P v = true then some v.toD else none) = (ws.filter P).map Sch.toD
  | [] => rfl
  | v :: ws => by
    have ih := fm_if P ws
    cases h : P v with
    | true => simp [h, ih]
    | false => simp [h, ih]
def needB1 : Ss := match c_need_paper with
  | .cons _ (.cons _ (.cons (.for_ _ _ b) _)) => b
  | _ => .nil
def needB2 : Ss := match c_need_paper with
  | .cons _ (.cons _ (.cons _ (.cons (.for_ _ _ b) _))) => b
  | _ => .nil
theorem need_code : c_need_paper = .cons (.if_ (.or_ (.cons (.not_ (.isi (.loc 0) "tuple")) (.cons (.cmp .eq (.loc 0) (.tup .nil)) .nil))) (.cons .never .nil) .nil)
    (.cons (.asg (.tup [1, 2]) (.tup (.cons (.dnew false) (.cons (.dnew false) .nil))))
    (.cons (.for_ (.tup [3, 4]) (.enum (.loc 0)) needB1)
    (.cons (.for_ (.name 3) (.rng3 (.bin .sub (.bi .len (.cons (.loc 0) .nil)) (.cst (.int 1))) (.neg (.cst (.int 1))) (.neg (.cst (.int 1)))) needB2)
    (.cons (.if_ (.or_ (.cons (.cmp .gt (.dget (.loc 1) (.cst (.int 0))) (.glob "MOST_STEPS_TOLD" (.int 7))) (.cons (.cmp .gt (.dget (.loc 2) (.cst (.int 0))) (.glob "MOST_GATES" (.int 3))) .nil))) (.cons .never .nil) .nil) .nil)))) := rfl
section
variable {T : List FD} {k : Nat} {ss : List Sch} {u1 u2 : Nat → Nat}
theorem paper_len (ss : List Sch) : lenD [paperD ss] = Ms.ret (.int ss.length) := by
  rw [paperD, len_tup, List.length_map]
theorem need1_loop (h : Papers T) (P : Paper ss u1 u2) {η : List Cell} (hη : Wf η) {x1 x2 x5 x6 x7 x8 x9 : Option D} : ∀ (r : List Sch) (i : Nat) (x3 x4 : Option D), ss.drop i = r →
    ∃ y3 y4, forL [] (bindT (.tup [3, 4])) (evSs (evF T (k + 4)) needB1) (enumL i (r.map Sch.toD)) [some (paperD ss), x1, x2, x3, x4, x5, x6, x7, x8, x9] η = .ok (.nx [some (paperD ss), x1, x2, y3, y4, x5, x6, x7, x8, x9]) η
  | [], i, x3, x4, _ => ⟨x3, x4, rfl⟩
  | s :: r, i, x3, x4, hd => by
    have hi : ss[i]? = some s := by
      have := congrArg List.head? hd
      rwa [List.head?_drop] at this
    have hd2 : ss.drop (i + 1) = r := by
      have := congrArg List.tail hd
      rwa [List.tail_drop] at this
    have lt := (List.getElem?_eq_some_iff.mp hi).1
    have hi5 := P.hi
    obtain ⟨y3, y4, q⟩ := need1_loop h P hη (x1 := x1) (x2 := x2) (x5 := x5) (x6 := x6) (x7 := x7) (x8 := x8) (x9 := x9) r (i + 1) (some (.int i)) (some s.toD) hd2
    refine ⟨y3, y4, ?_⟩
    have e1 : decide ((5 : Int) ≤ ((i : Nat) : Int)) = false := decide_eq_false (by omega)
    have nd := nodes_ok (k := k) h (P.good i s hi) (P.size s (List.mem_of_getElem? hi)) hη
    have b : evSs (evF T (k + 4)) needB1 [some (paperD ss), x1, x2, some (.int i), some s.toD, x5, x6, x7, x8, x9] η = .ok (.nx [some (paperD ss), x1, x2, some (.int i), some s.toD, x5, x6, x7, x8, x9]) η := by
      simp only [needB1, c_need_paper, evSs, evS, evE, evEs, evAnd, evOr, evO, evC, evIt, startD, List.map_cons, List.map_nil, List.length_cons, List.length_nil, List.cons_append, List.nil_append, List.replicate, List.getElem?_cons_zero, List.getElem?_cons_succ, Option.join_some, List.set_cons_zero, List.set_cons_succ, fromO_some, bnd_ret, bnd_assoc, constD, cmpD, binD, biD, bindT, setAll, asB_bnd, asB_bl, if_true, if_false, Bool.false_eq_true, Bool.not_true, Bool.not_false, LE0, LE1, LE2, LE3, LE4, ge_int, e1, paper_len]
      rw [bnd_ok nd]
      rfl
    show forL [] _ _ (.tup [.int i, s.toD] :: enumL (i + 1) (r.map Sch.toD)) _ η = _
    conv => lhs; unfold forL
    rw [chk_nil, bnd_ret]
    show bnd (evSs (evF T (k + 4)) needB1 [some (paperD ss), x1, x2, some (.int i), some s.toD, x5, x6, x7, x8, x9]) _ η = _
    rw [bnd_ok b]
    exact q
def dicS1 (η : List Cell) {a b c : Cell} : (η ++ [a, b]).set η.length c = η ++ [c, b] := two_s0
theorem need2_turn (h : Papers T) (P : Paper ss u1 u2) {η : List Cell} (hη : Wf η) {j : Nat} {s : Sch} {k1 k2 : KV} {x4 x5 x6 x7 x8 x9 : Option D} (hs : ss[j]? = some s) (d1 : Dk k1 u1 (j + 1) ss.length) (d2 : Dk k2 u2 (j + 1) ss.length) :
    ∃ y5 y8, evSs (evF T (k + 4)) needB2 [some (paperD ss), some (.ref η.length), some (.ref (η.length + 1)), some (.int j), x4, x5, x6, x7, x8, x9] (η ++ [.dic k1, .dic k2]) =
      .ok (.nx [some (paperD ss), some (.ref η.length), some (.ref (η.length + 1)), some (.int j), x4, y5, x6, x7, y8, x9]) (η ++ [.dic (putG k1 (.inl ((j : Nat) : Int)) (.int (u1 j))), .dic (putG k2 (.inl ((j : Nat) : Int)) (.int (u2 j)))]) := by
  have lim : LIM = 1000000 := rfl
  have lt := (List.getElem?_eq_some_iff.mp hs).1
  have hi5 := P.hi
  have gs := P.good j s hs
  have sz := P.size s (List.mem_of_getElem? hs)
  have nd := nodes_ok (k := k) h gs sz (hη.dics d1 d2)
  have ix : idxD (paperD ss) (.int j) = Ms.ret s.toD := by
    rw [paperD, ix_tup, at_nat (x := s.toD) (by rw [List.getElem?_map, hs]; rfl)]
    rfl
  obtain ⟨ws, hws⟩ : ∃ ws, ws = (nodesL s).map (·.2) := ⟨_, rfl⟩
  have nl : (nodesL s).length ≤ 12 := Nat.le_trans (walk_len _ _) sz
  have wl : ws.length ≤ 12 := by rw [hws, List.length_map]; exact nl
  have c1 : u1 j = (ws.filter isLeaf).length + ((ws.filterMap isUse).map u1).sum := by rw [← own1_split, hws, nodes_sum, P.c1 j s hs]
  have c2 : u2 j = (ws.filter isGate).length + ((ws.filterMap isUse).map u2).sum := by rw [← own2_split, hws, nodes_sum, P.c2 j s hs]
  have us : ∀ i ∈ ws.filterMap isUse, j < i ∧ i < ss.length := fun i hi => by
    obtain ⟨v, hv, h2⟩ := List.mem_filterMap.mp hi
    rw [hws] at hv
    obtain ⟨q, hq, rfl⟩ := List.mem_map.mp hv
    have hh := good_use _ _ (fun q hq => ⟨5, by rw [List.mem_singleton.mp hq]; exact gs⟩) q hq
    cases hq2 : q.2 with
    | use i2 =>
      rw [hq2] at hh h2
      cases h2
      exact hh
    | _ => rw [hq2] at h2; cases h2
  have ul : (ws.filterMap isUse).length ≤ 12 := Nat.le_trans (List.length_filterMap_le _ _) wl
  obtain ⟨ui, hui⟩ : ∃ ui, ui = ws.filterMap isUse := ⟨_, rfl⟩
  rw [← hui] at us ul c1 c2
  have oU : PyData.strOk ("use" : Str) = true := by decide +kernel
  -- the words
  have lp1 : ∀ η2, lcL [] (fun d => bindT (.tup [6, 7]) d (wipeD [some (paperD ss), some (.ref η.length), some (.ref (η.length + 1)), some (.int j), x4, x5, x6, x7, x8, x9] [6, 7])) (evC (evF T (k + 4)) .none) (evE (evF T (k + 4)) (.loc 7)) ((nodesL s).map itemD) [] η2 = .ok (ws.map Sch.toD) η2 := fun η2 => by
    have q := lc_fm (bind := fun d => bindT (.tup [6, 7]) d (wipeD [some (paperD ss), some (.ref η.length), some (.ref (η.length + 1)), some (.int j), x4, x5, x6, x7, x8, x9] [6, 7])) (cond := evC (evF T (k + 4)) .none) (elt := evE (evF T (k + 4)) (.loc 7)) (e := itemD) (g := fun q => some q.2.toD) (η := η2) (xs := nodesL s) (acc := []) (by simp; omega) fun q hq => ⟨_, rfl, by simp only [evSs, evS, evE, evEs, evAnd, evOr, evO, evC, evIt, startD, List.map_cons, List.map_nil, List.length_cons, List.length_nil, List.cons_append, List.nil_append, List.replicate, List.getElem?_cons_zero, List.getElem?_cons_succ, Option.join_some, List.set_cons_zero, List.set_cons_succ, fromO_some, bnd_ret, bnd_assoc, constD, cmpD, binD, biD, bindT, setAll, asB_bnd, asB_bl, if_true, if_false, Bool.false_eq_true, Bool.not_true, Bool.not_false, LE0, LE1, LE2, LE3, LE4]; rfl, fun y hy => by
      cases hy
      simp only [evSs, evS, evE, evEs, evAnd, evOr, evO, evC, evIt, startD, List.map_cons, List.map_nil, List.length_cons, List.length_nil, List.cons_append, List.nil_append, List.replicate, List.getElem?_cons_zero, List.getElem?_cons_succ, Option.join_some, List.set_cons_zero, List.set_cons_succ, fromO_some, bnd_ret, bnd_assoc, constD, cmpD, binD, biD, bindT, setAll, asB_bnd, asB_bl, if_true, if_false, Bool.false_eq_true, Bool.not_true, Bool.not_false, LE0, LE1, LE2, LE3, LE4, wipeD]
      rfl⟩
    rw [q, List.nil_append, hws, List.map_map]
    congr 1
    simp
  have lp2 : ∀ η2, lcL [] (fun d => bindT (.name 7) d (wipeD [some (paperD ss), some (.ref η.length), some (.ref (η.length + 1)), some (.int j), x4, some (.fl (ws.map Sch.toD)), x6, x7, x8, x9] [7])) (evC (evF T (k + 4)) (.some (.cmp .eq (.sub (.loc 7) (.cst (.int 0))) (.glob "USE" (.str "use"))))) (evE (evF T (k + 4)) (.sub (.loc 7) (.cst (.int 1)))) (ws.map Sch.toD) [] η2 = .ok (ui.map fun i => .int ((i : Nat) : Int)) η2 := fun η2 => by
    have q := lc_fm (bind := fun d => bindT (.name 7) d (wipeD [some (paperD ss), some (.ref η.length), some (.ref (η.length + 1)), some (.int j), x4, some (.fl (ws.map Sch.toD)), x6, x7, x8, x9] [7])) (cond := evC (evF T (k + 4)) (.some (.cmp .eq (.sub (.loc 7) (.cst (.int 0))) (.glob "USE" (.str "use"))))) (elt := evE (evF T (k + 4)) (.sub (.loc 7) (.cst (.int 1)))) (e := Sch.toD) (g := fun v => (isUse v).map fun i => D.int ((i : Nat) : Int)) (η := η2) (xs := ws) (acc := []) (by simp; omega) fun v hv => ⟨_, rfl, by
        simp only [evSs, evS, evE, evEs, evAnd, evOr, evO, evC, evIt, startD, List.map_cons, List.map_nil, List.length_cons, List.length_nil, List.cons_append, List.nil_append, List.replicate, List.getElem?_cons_zero, List.getElem?_cons_succ, Option.join_some, List.set_cons_zero, List.set_cons_succ, fromO_some, bnd_ret, bnd_assoc, constD, cmpD, binD, biD, bindT, setAll, asB_bnd, asB_bl, if_true, if_false, Bool.false_eq_true, Bool.not_true, Bool.not_false, LE0, LE1, LE2, LE3, LE4, wipeD, ix0_toD, head_eq _ _ oU, use_head, Option.isSome_map]
        rfl, fun y hy => by
        cases hu : isUse v with
        | none => rw [hu] at hy; cases hy
        | some i =>
          rw [hu] at hy
          cases hy
          simp only [evSs, evS, evE, evEs, evAnd, evOr, evO, evC, evIt, startD, List.map_cons, List.map_nil, List.length_cons, List.length_nil, List.cons_append, List.nil_append, List.replicate, List.getElem?_cons_zero, List.getElem?_cons_succ, Option.join_some, List.set_cons_zero, List.set_cons_succ, fromO_some, bnd_ret, bnd_assoc, constD, cmpD, binD, biD, bindT, setAll, asB_bnd, asB_bl, if_true, if_false, Bool.false_eq_true, Bool.not_true, Bool.not_false, LE0, LE1, LE2, LE3, LE4, wipeD, ix1_use hu]
          rfl⟩
    rw [q, List.nil_append, hui, List.map_filterMap]
  have lp3 : ∀ (x8 : Option D) (a b : Str) (P : Sch → Bool) (x y : Str) (η2 : List Cell), (∀ s : Sch, inFlat (.str s.head) [.str a, .str b] = P s) → lcL [] (fun d => bindT (.name 7) d (wipeD [some (paperD ss), some (.ref η.length), some (.ref (η.length + 1)), some (.int j), x4, some (.fl (ws.map Sch.toD)), x6, x7, x8, x9] [7])) (evC (evF T (k + 4)) (.some (.cmp .in_ (.sub (.loc 7) (.cst (.int 0))) (.tup (.cons (.glob x (.str a)) (.cons (.glob y (.str b)) .nil)))))) (evE (evF T (k + 4)) (.loc 7)) (ws.map Sch.toD) [] η2 = .ok ((ws.filter P).map Sch.toD) η2 := fun x8 a b P x y η2 hP => by
    have q := lc_fm (bind := fun d => bindT (.name 7) d (wipeD [some (paperD ss), some (.ref η.length), some (.ref (η.length + 1)), some (.int j), x4, some (.fl (ws.map Sch.toD)), x6, x7, x8, x9] [7])) (cond := evC (evF T (k + 4)) (.some (.cmp .in_ (.sub (.loc 7) (.cst (.int 0))) (.tup (.cons (.glob x (.str a)) (.cons (.glob y (.str b)) .nil)))))) (elt := evE (evF T (k + 4)) (.loc 7)) (e := Sch.toD) (g := fun v => if P v then some v.toD else none) (η := η2) (xs := ws) (acc := []) (by simp; omega) fun v hv => ⟨_, rfl, by
        simp only [evSs, evS, evE, evEs, evAnd, evOr, evO, evC, evIt, startD, List.map_cons, List.map_nil, List.length_cons, List.length_nil, List.cons_append, List.nil_append, List.replicate, List.getElem?_cons_zero, List.getElem?_cons_succ, Option.join_some, List.set_cons_zero, List.set_cons_succ, fromO_some, bnd_ret, bnd_assoc, constD, cmpD, binD, biD, bindT, setAll, asB_bnd, asB_bl, if_true, if_false, Bool.false_eq_true, Bool.not_true, Bool.not_false, LE0, LE1, LE2, LE3, LE4, wipeD, ix0_toD, in_two, hP]
        cases P v <;> rfl, fun y hy => by
        cases hu : P v with
        | false => rw [hu] at hy; cases hy
        | true =>
          rw [hu] at hy
          cases hy
          simp only [evSs, evS, evE, evEs, evAnd, evOr, evO, evC, evIt, startD, List.map_cons, List.map_nil, List.length_cons, List.length_nil, List.cons_append, List.nil_append, List.replicate, List.getElem?_cons_zero, List.getElem?_cons_succ, Option.join_some, List.set_cons_zero, List.set_cons_succ, fromO_some, bnd_ret, bnd_assoc, constD, cmpD, binD, biD, bindT, setAll, asB_bnd, asB_bl, if_true, if_false, Bool.false_eq_true, Bool.not_true, Bool.not_false, LE0, LE1, LE2, LE3, LE4, wipeD]
          rfl⟩
    rw [q, List.nil_append]
    congr 1
    exact fm_if P ws
  have lp4 : ∀ (x8 : Option D) (n slot : Nat) (kvs : KV) (u : Nat → Nat) (η2 : List Cell), η2[n]? = some (.dic kvs) → Dk kvs u (j + 1) ss.length → ([some (paperD ss), some (.ref η.length), some (.ref (η.length + 1)), some (.int j), x4, some (.fl (ws.map Sch.toD)), x6, x7, x8] : List (Option D))[slot]?.join = some (.ref n) → slot < 9 →
      lcL [] (fun d => bindT (.name 9) d (wipeD [some (paperD ss), some (.ref η.length), some (.ref (η.length + 1)), some (.int j), x4, some (.fl (ws.map Sch.toD)), x6, x7, x8, x9] [9])) (evC (evF T (k + 4)) .none) (evE (evF T (k + 4)) (.dget (.loc slot) (.loc 9))) (ui.map fun i => .int ((i : Nat) : Int)) [] η2 = .ok ((ui.map fun i => ((u i : Nat) : Int)).map D.int) η2 := fun x8 n slot kvs u η2 hn hk hsl hlt => by
    have q := lc_fm (bind := fun d => bindT (.name 9) d (wipeD [some (paperD ss), some (.ref η.length), some (.ref (η.length + 1)), some (.int j), x4, some (.fl (ws.map Sch.toD)), x6, x7, x8, x9] [9])) (cond := evC (evF T (k + 4)) .none) (elt := evE (evF T (k + 4)) (.dget (.loc slot) (.loc 9))) (e := fun i : Nat => D.int ((i : Nat) : Int)) (g := fun i => some (D.int ((u i : Nat) : Int))) (η := η2) (xs := ui) (acc := []) (by simp; omega) fun i hi => ⟨_, rfl, by simp only [evSs, evS, evE, evEs, evAnd, evOr, evO, evC, evIt, startD, List.map_cons, List.map_nil, List.length_cons, List.length_nil, List.cons_append, List.nil_append, List.replicate, List.getElem?_cons_zero, List.getElem?_cons_succ, Option.join_some, List.set_cons_zero, List.set_cons_succ, fromO_some, bnd_ret, bnd_assoc, constD, cmpD, binD, biD, bindT, setAll, asB_bnd, asB_bl, if_true, if_false, Bool.false_eq_true, Bool.not_true, Bool.not_false, LE0, LE1, LE2, LE3, LE4]; rfl, fun y hy => by
        cases hy
        have hs2 : ([some (paperD ss), some (.ref η.length), some (.ref (η.length + 1)), some (.int j), x4, some (.fl (ws.map Sch.toD)), x6, x7, x8, some (.int ((i : Nat) : Int))] : List (Option D))[slot]?.join = some (.ref n) := by
          have : ([some (paperD ss), some (.ref η.length), some (.ref (η.length + 1)), some (.int j), x4, some (.fl (ws.map Sch.toD)), x6, x7, x8, some (.int ((i : Nat) : Int))] : List (Option D))[slot]? = ([some (paperD ss), some (.ref η.length), some (.ref (η.length + 1)), some (.int j), x4, some (.fl (ws.map Sch.toD)), x6, x7, x8] : List (Option D))[slot]? := by
            match slot, hlt with
            | 0, _ => rfl
            | 1, _ => rfl
            | 2, _ => rfl
            | 3, _ => rfl
            | 4, _ => rfl
            | 5, _ => rfl
            | 6, _ => rfl
            | 7, _ => rfl
            | 8, _ => rfl
          rw [this]
          exact hsl
        simp only [evSs, evS, evE, evEs, evAnd, evOr, evO, evC, evIt, startD, List.map_cons, List.map_nil, List.length_cons, List.length_nil, List.cons_append, List.nil_append, List.replicate, List.getElem?_cons_zero, List.getElem?_cons_succ, Option.join_some, List.set_cons_zero, List.set_cons_succ, fromO_some, bnd_ret, bnd_assoc, constD, cmpD, binD, biD, bindT, setAll, asB_bnd, asB_bl, if_true, if_false, Bool.false_eq_true, Bool.not_true, Bool.not_false, LE0, LE1, LE2, LE3, LE4, wipeD, hs2]
        exact dget_ok hn hk (us i hi).1 (us i hi).2⟩
    rw [q, List.nil_append, List.map_map]
    congr 1
    simp [Function.comp_def]
  have sm : ∀ (u : Nat → Nat) (c : Nat), (c : Int) + (ui.map fun i => ((u i : Nat) : Int)).sum = ((c + (ui.map u).sum : Nat) : Int) := fun u c => by
    have : ∀ l : List Nat, (l.map fun i => ((u i : Nat) : Int)).sum = (((l.map u).sum : Nat) : Int) := fun l => by
      induction l with
      | nil => rfl
      | cons a l ih => simp only [List.map_cons, List.sum_cons, ih]; omega
    rw [this]
    omega
  refine ⟨some (.fl (ws.map Sch.toD)), some (.fl (ui.map fun i => .int ((i : Nat) : Int))), ?_⟩
  rw [show needB2 = .cons (.asg (.name 5) (.lc false [6, 7] (.tup [6, 7]) (.val (.call 5 (.cons (.sub (.loc 0) (.loc 3)) (.cons (.loc 3) (.cons (.bi .len (.cons (.loc 0) .nil)) .nil))))) .none (.loc 7)))
    (.cons (.asg (.name 8) (.lc false [7] (.name 7) (.val (.loc 5)) (.some (.cmp .eq (.sub (.loc 7) (.cst (.int 0))) (.glob "USE" (.str "use")))) (.sub (.loc 7) (.cst (.int 1)))))
    (.cons (.dset (.loc 1) (.loc 3) (.bin .add (.bi .len (.cons (.lc false [7] (.name 7) (.val (.loc 5)) (.some (.cmp .in_ (.sub (.loc 7) (.cst (.int 0))) (.tup (.cons (.glob "STEP" (.str "step")) (.cons (.glob "END" (.str "end")) .nil))))) (.loc 7)) .nil)) (.bi .sum (.cons (.lc false [9] (.name 9) (.val (.loc 8)) .none (.dget (.loc 1) (.loc 9))) .nil))))
    (.cons (.dset (.loc 2) (.loc 3) (.bin .add (.bi .len (.cons (.lc false [7] (.name 7) (.val (.loc 5)) (.some (.cmp .in_ (.sub (.loc 7) (.cst (.int 0))) (.tup (.cons (.glob "SEEN" (.str "seen")) (.cons (.glob "BEHIND" (.str "behind")) .nil))))) (.loc 7)) .nil)) (.bi .sum (.cons (.lc false [9] (.name 9) (.val (.loc 8)) .none (.dget (.loc 2) (.loc 9))) .nil))))
    .nil))) from rfl]
  have f1 := lp3 (some (.fl (ui.map fun i => .int ((i : Nat) : Int)))) "step" "end" isLeaf "STEP" "END" (η ++ [.dic k1, .dic k2]) leaf_head
  have f2 := lp3 (some (.fl (ui.map fun i => .int ((i : Nat) : Int)))) "seen" "behind" isGate "SEEN" "BEHIND" (η ++ [.dic (putG k1 (.inl ((j : Nat) : Int)) (.int (u1 j))), .dic k2]) gate_head
  have f3 := lp4 (some (.fl (ui.map fun i => .int ((i : Nat) : Int)))) η.length 1 k1 u1 (η ++ [.dic k1, .dic k2]) two_0 d1 rfl (by decide)
  have f4 := lp4 (some (.fl (ui.map fun i => .int ((i : Nat) : Int)))) (η.length + 1) 2 k2 u2 (η ++ [.dic (putG k1 (.inl ((j : Nat) : Int)) (.int (u1 j))), .dic k2]) two_1 d2 rfl (by decide)
  have l1 := d1.len
  have l2 := d2.len
  have fl1 : ((ws.filter isLeaf).map Sch.toD).length ≤ LIM := by
    have := List.length_filter_le isLeaf ws
    simp
    omega
  have fl2 : ((ws.filter isGate).map Sch.toD).length ≤ LIM := by
    have := List.length_filter_le isGate ws
    simp
    omega
  have ulen : ∀ u : Nat → Nat, ((ui.map fun i => ((u i : Nat) : Int)).map D.int).length ≤ LIM := fun u => by simp; omega
  clear lp3 lp4
  simp only [evSs, evS, evE, evEs, evAnd, evOr, evO, evC, evIt, startD, List.map_cons, List.map_nil, List.length_cons, List.length_nil, List.cons_append, List.nil_append, List.replicate, List.getElem?_cons_zero, List.getElem?_cons_succ, Option.join_some, List.set_cons_zero, List.set_cons_succ, fromO_some, bnd_ret, bnd_assoc, constD, cmpD, binD, biD, bindT, setAll, asB_bnd, asB_bl, if_true, if_false, Bool.false_eq_true, Bool.not_true, Bool.not_false, LE0, LE1, LE2, LE3, LE4] at lp1 lp2 f1 f2 f3 f4
  simp only [evSs, evS, evE, evEs, evAnd, evOr, evO, evC, evIt, startD, List.map_cons, List.map_nil, List.length_cons, List.length_nil, List.cons_append, List.nil_append, List.replicate, List.getElem?_cons_zero, List.getElem?_cons_succ, Option.join_some, List.set_cons_zero, List.set_cons_succ, fromO_some, bnd_ret, bnd_assoc, constD, cmpD, binD, biD, bindT, setAll, asB_bnd, asB_bl, if_true, if_false, Bool.false_eq_true, Bool.not_true, Bool.not_false, LE0, LE1, LE2, LE3, LE4, ix, paper_len]
  rw [bnd_ok nd]
  try simp only [evSs, evS, evE, evEs, evAnd, evOr, evO, evC, evIt, startD, List.map_cons, List.map_nil, List.length_cons, List.length_nil, List.cons_append, List.nil_append, List.replicate, List.getElem?_cons_zero, List.getElem?_cons_succ, Option.join_some, List.set_cons_zero, List.set_cons_succ, fromO_some, bnd_ret, bnd_assoc, constD, cmpD, binD, biD, bindT, setAll, asB_bnd, asB_bl, if_true, if_false, Bool.false_eq_true, Bool.not_true, Bool.not_false, LE0, LE1, LE2, LE3, LE4, it_fl]
  rw [bnd_ok (lp1 _), newL_f (by simp; omega)]
  try simp only [evSs, evS, evE, evEs, evAnd, evOr, evO, evC, evIt, startD, List.map_cons, List.map_nil, List.length_cons, List.length_nil, List.cons_append, List.nil_append, List.replicate, List.getElem?_cons_zero, List.getElem?_cons_succ, Option.join_some, List.set_cons_zero, List.set_cons_succ, fromO_some, bnd_ret, bnd_assoc, constD, cmpD, binD, biD, bindT, setAll, asB_bnd, asB_bl, if_true, if_false, Bool.false_eq_true, Bool.not_true, Bool.not_false, LE0, LE1, LE2, LE3, LE4, it_fl]
  rw [bnd_ok (lp2 _), newL_f (by simp; omega)]
  try simp only [evSs, evS, evE, evEs, evAnd, evOr, evO, evC, evIt, startD, List.map_cons, List.map_nil, List.length_cons, List.length_nil, List.cons_append, List.nil_append, List.replicate, List.getElem?_cons_zero, List.getElem?_cons_succ, Option.join_some, List.set_cons_zero, List.set_cons_succ, fromO_some, bnd_ret, bnd_assoc, constD, cmpD, binD, biD, bindT, setAll, asB_bnd, asB_bl, if_true, if_false, Bool.false_eq_true, Bool.not_true, Bool.not_false, LE0, LE1, LE2, LE3, LE4, it_fl]
  rw [bnd_ok f1, newL_f fl1]
  try simp only [evSs, evS, evE, evEs, evAnd, evOr, evO, evC, evIt, startD, List.map_cons, List.map_nil, List.length_cons, List.length_nil, List.cons_append, List.nil_append, List.replicate, List.getElem?_cons_zero, List.getElem?_cons_succ, Option.join_some, List.set_cons_zero, List.set_cons_succ, fromO_some, bnd_ret, bnd_assoc, constD, cmpD, binD, biD, bindT, setAll, asB_bnd, asB_bl, if_true, if_false, Bool.false_eq_true, Bool.not_true, Bool.not_false, LE0, LE1, LE2, LE3, LE4, it_fl, len_fl]
  rw [bnd_ok f3, newL_f (ulen u1)]
  try simp only [evSs, evS, evE, evEs, evAnd, evOr, evO, evC, evIt, startD, List.map_cons, List.map_nil, List.length_cons, List.length_nil, List.cons_append, List.nil_append, List.replicate, List.getElem?_cons_zero, List.getElem?_cons_succ, Option.join_some, List.set_cons_zero, List.set_cons_succ, fromO_some, bnd_ret, bnd_assoc, constD, cmpD, binD, biD, bindT, setAll, asB_bnd, asB_bl, if_true, if_false, Bool.false_eq_true, Bool.not_true, Bool.not_false, LE0, LE1, LE2, LE3, LE4, sum_ints, add_int, List.length_map, sm, ← c1]
  rw [bnd_ok (dset_ok two_0 (by omega)), two_s0]
  try simp only [evSs, evS, evE, evEs, evAnd, evOr, evO, evC, evIt, startD, List.map_cons, List.map_nil, List.length_cons, List.length_nil, List.cons_append, List.nil_append, List.replicate, List.getElem?_cons_zero, List.getElem?_cons_succ, Option.join_some, List.set_cons_zero, List.set_cons_succ, fromO_some, bnd_ret, bnd_assoc, constD, cmpD, binD, biD, bindT, setAll, asB_bnd, asB_bl, if_true, if_false, Bool.false_eq_true, Bool.not_true, Bool.not_false, LE0, LE1, LE2, LE3, LE4, it_fl]
  rw [bnd_ok f2, newL_f fl2]
  try simp only [evSs, evS, evE, evEs, evAnd, evOr, evO, evC, evIt, startD, List.map_cons, List.map_nil, List.length_cons, List.length_nil, List.cons_append, List.nil_append, List.replicate, List.getElem?_cons_zero, List.getElem?_cons_succ, Option.join_some, List.set_cons_zero, List.set_cons_succ, fromO_some, bnd_ret, bnd_assoc, constD, cmpD, binD, biD, bindT, setAll, asB_bnd, asB_bl, if_true, if_false, Bool.false_eq_true, Bool.not_true, Bool.not_false, LE0, LE1, LE2, LE3, LE4, it_fl, len_fl]
  rw [bnd_ok f4, newL_f (ulen u2)]
  try simp only [evSs, evS, evE, evEs, evAnd, evOr, evO, evC, evIt, startD, List.map_cons, List.map_nil, List.length_cons, List.length_nil, List.cons_append, List.nil_append, List.replicate, List.getElem?_cons_zero, List.getElem?_cons_succ, Option.join_some, List.set_cons_zero, List.set_cons_succ, fromO_some, bnd_ret, bnd_assoc, constD, cmpD, binD, biD, bindT, setAll, asB_bnd, asB_bl, if_true, if_false, Bool.false_eq_true, Bool.not_true, Bool.not_false, LE0, LE1, LE2, LE3, LE4, sum_ints, add_int, List.length_map, sm, ← c2]
  rw [bnd_ok (dset_ok two_1 (by omega)), two_s1]
  rfl
end
end Ev
end
section
set_option Elab.async false
set_option linter.all false
set_option maxRecDepth 100000
set_option maxHeartbeats 2000000
/-! need_paper, whole. -/
namespace Ev
open PySem L2 Ms Cod
def downTo : Nat → List D
  | 0 => []
  | j + 1 => .int ((j : Nat) : Int) :: downTo j
theorem down_eq : ∀ n : Nat, ((List.range n).map fun k => D.int ((n : Int) - 1 + (k : Nat) * -1)) = downTo n
  | 0 => rfl
  | n + 1 => by
    rw [List.range_succ_eq_map, List.map_cons, List.map_map, downTo, ← down_eq n]
    congr 1
    · congr 1
      omega
    · refine List.map_congr_left fun k _ => ?_
      simp only [Function.comp_apply]
      congr 1
      omega
theorem rng_down {n : Nat} (hn : n ≤ 1000) : itR3 (.int ((n : Int) - 1)) (.int (-1)) (.int (-1)) = Ms.ret (downTo n, []) := by
  show (if (-1 : Int) = -1 ∧ -1000000 ≤ (n : Int) - 1 ∧ (n : Int) - 1 ≤ 1000000 ∧ -1000000 ≤ (-1 : Int) ∧ (-1 : Int) ≤ 1000000 then Ms.ret ((List.range ((n : Int) - 1 - -1).toNat).map fun k => D.int ((n : Int) - 1 + (k : Nat) * -1), []) else bad) = _
  rw [if_pos (by omega), show ((n : Int) - 1 - -1).toNat = n by omega, down_eq]
theorem eq_tup_nil {xs : List D} (hs : ∀ x ∈ xs, Sh 60 x) : eqD (.tup xs) (.tup []) = Ms.ret (.bl xs.isEmpty) := by
  obtain ⟨ps, h1, h2, h3, h4⟩ := shs_of hs
  have s1 : SeqAt.shaped (.tuple ps) = true := by
    unfold SeqAt.shaped
    simp only [PyData.canLay0, h2, PyData.depth, Bool.true_and]
    exact decide_eq_true (by omega)
  funext η
  have d1 : derP η (.tup xs) = some (.tuple ps) := by simp only [derP, toP, h1, Option.map_some]
  have d2 : derP η (.tup []) = some (.tuple []) := rfl
  unfold eqD
  rw [d1, d2]
  try dsimp only
  rw [if_pos ⟨s1, by decide⟩]
  have e : PyData.eqv (.tuple ps) (.tuple []) = xs.isEmpty := by
    cases ps with
    | nil =>
      cases xs with
      | nil => simp [PyData.eqv, PyData.eqvAll]
      | cons => simp at h4
    | cons =>
      cases xs with
      | nil => simp at h4
      | cons => simp [PyData.eqv, PyData.eqvAll]
  rw [e]
  rfl
section
variable {T : List FD} {k : Nat} {ss : List Sch} {u1 u2 : Nat → Nat}
theorem need2_loop (h : Papers T) (P : Paper ss u1 u2) {η : List Cell} (hη : Wf η) {x4 x6 x7 x9 : Option D} : ∀ (j : Nat) (k1 k2 : KV) (x3 x5 x8 : Option D), j ≤ ss.length → Dk k1 u1 j ss.length → Dk k2 u2 j ss.length →
    ∃ y3 y5 y8 j1 j2, Dk j1 u1 0 ss.length ∧ Dk j2 u2 0 ss.length ∧ forL [] (bindT (.name 3)) (evSs (evF T (k + 4)) needB2) (downTo j) [some (paperD ss), some (.ref η.length), some (.ref (η.length + 1)), x3, x4, x5, x6, x7, x8, x9] (η ++ [.dic k1, .dic k2]) =
      .ok (.nx [some (paperD ss), some (.ref η.length), some (.ref (η.length + 1)), y3, x4, y5, x6, x7, y8, x9]) (η ++ [.dic j1, .dic j2])
  | 0, k1, k2, x3, x5, x8, _, d1, d2 => ⟨x3, x5, x8, k1, k2, d1, d2, rfl⟩
  | j + 1, k1, k2, x3, x5, x8, hj, d1, d2 => by
    have hs : ss[j]? = some ss[j] := List.getElem?_eq_getElem (by omega)
    obtain ⟨y5, y8, b⟩ := need2_turn (k := k) h P hη (x4 := x4) (x5 := x5) (x6 := x6) (x7 := x7) (x8 := x8) (x9 := x9) hs d1 d2
    obtain ⟨z3, z5, z8, j1, j2, e1, e2, q⟩ := need2_loop h P hη (x4 := x4) (x6 := x6) (x7 := x7) (x9 := x9) j _ _ (some (.int ((j : Nat) : Int))) y5 y8 (by omega) d1.put d2.put
    refine ⟨z3, z5, z8, j1, j2, e1, e2, ?_⟩
    rw [downTo]
    conv => lhs; unfold forL
    rw [chk_nil, bnd_ret]
    show bnd (evSs (evF T (k + 4)) needB2 [some (paperD ss), some (.ref η.length), some (.ref (η.length + 1)), some (.int ((j : Nat) : Int)), x4, x5, x6, x7, x8, x9]) _ _ = _
    rw [bnd_ok b]
    exact q
theorem paper_sh (P : Paper ss u1 u2) : ∀ x ∈ ss.map Sch.toD, Sh 60 x := fun x hx => by
  obtain ⟨s, hs, rfl⟩ := List.mem_map.mp hx
  obtain ⟨i, hi⟩ := List.getElem?_of_mem hs
  exact (good_sh (P.good i s hi)).mono (by decide)
/-- a paper that is one is let pass -/
theorem need_paper_ok (h : Papers T) (P : Paper ss u1 u2) {η : List Cell} (hη : Wf η) : evF T (k + 5) 6 [paperD ss] η = .ok .non η := by
  have lo := P.lo
  have hi := P.hi
  have m1 := P.m1
  have m2 := P.m2
  obtain ⟨y3, y4, l1⟩ := need1_loop (k := k) h P (η := η ++ [.dic [], .dic []]) (hη.dics (Dk.nil (u := u1) (m := 0)) (Dk.nil (u := u2) (m := 0))) (x1 := some (.ref η.length)) (x2 := some (.ref (η.length + 1))) (x5 := none) (x6 := none) (x7 := none) (x8 := none) (x9 := none) ss 0 none none rfl
  obtain ⟨z3, z5, z8, j1, j2, d1, d2, l2⟩ := need2_loop (k := k) h P hη (x4 := y4) (x6 := none) (x7 := none) (x9 := none) ss.length [] [] y3 none none (Nat.le_refl _) .nil .nil
  have i1 : isiD "tuple" (paperD ss) = Ms.ret (.bl true) := isi_tup "tuple" _ rfl
  have ne : (ss.map Sch.toD).isEmpty = false := by
    cases ss with
    | nil => simp at lo
    | cons => rfl
  have e1 : eqD (paperD ss) (.tup []) = Ms.ret (.bl false) := by
    rw [paperD, eq_tup_nil (paper_sh P), ne]
  have en : itEnum (paperD ss) = Ms.ret (enumL 0 (ss.map Sch.toD), []) := rfl
  have dn : ∀ η : List Cell, dnewD false η = .ok (.ref η.length) (η ++ [.dic []]) := fun _ => rfl
  have eL : η ++ [Cell.dic []] ++ [Cell.dic []] = η ++ [.dic [], .dic []] := by simp
  have el : (η ++ [Cell.dic []]).length = η.length + 1 := by simp
  have g1 := dget_ok (i := 0) (n := η.length) (two_0 (η := η) (a := .dic j1) (b := .dic j2)) d1 (by omega) (by omega)
  have g2 := dget_ok (i := 0) (n := η.length + 1) (two_1 (η := η) (a := .dic j1) (b := .dic j2)) d2 (by omega) (by omega)
  have t1 : decide ((7 : Int) < ((u1 0 : Nat) : Int)) = false := decide_eq_false (by omega)
  have t2 : decide ((3 : Int) < ((u2 0 : Nat) : Int)) = false := decide_eq_false (by omega)
  refine evF_tmp (fl := .nx [some (paperD ss), some (.ref η.length), some (.ref (η.length + 1)), z3, y4, z5, none, none, z8, none]) (ex := [.dic j1, .dic j2]) h.need rfl hη rfl ?_
  rw [need_code]
  simp only [evSs, evS, evE, evEs, evAnd, evOr, evO, evC, evIt, startD, List.map_cons, List.map_nil, List.length_cons, List.length_nil, List.cons_append, List.nil_append, List.replicate, List.getElem?_cons_zero, List.getElem?_cons_succ, Option.join_some, List.set_cons_zero, List.set_cons_succ, fromO_some, bnd_ret, bnd_assoc, constD, cmpD, binD, biD, bindT, setAll, asB_bnd, asB_bl, if_true, if_false, Bool.false_eq_true, Bool.not_true, Bool.not_false, LE0, LE1, LE2, LE3, LE4, i1, e1]
  rw [bnd_ok (dn _)]
  try simp only [evSs, evS, evE, evEs, evAnd, evOr, evO, evC, evIt, startD, List.map_cons, List.map_nil, List.length_cons, List.length_nil, List.cons_append, List.nil_append, List.replicate, List.getElem?_cons_zero, List.getElem?_cons_succ, Option.join_some, List.set_cons_zero, List.set_cons_succ, fromO_some, bnd_ret, bnd_assoc, constD, cmpD, binD, biD, bindT, setAll, asB_bnd, asB_bl, if_true, if_false, Bool.false_eq_true, Bool.not_true, Bool.not_false, LE0, LE1, LE2, LE3, LE4]
  rw [bnd_ok (dn _)]
  simp only [evSs, evS, evE, evEs, evAnd, evOr, evO, evC, evIt, startD, List.map_cons, List.map_nil, List.length_cons, List.length_nil, List.cons_append, List.nil_append, List.replicate, List.getElem?_cons_zero, List.getElem?_cons_succ, Option.join_some, List.set_cons_zero, List.set_cons_succ, fromO_some, bnd_ret, bnd_assoc, constD, cmpD, binD, biD, bindT, setAll, asB_bnd, asB_bl, if_true, if_false, Bool.false_eq_true, Bool.not_true, Bool.not_false, LE0, LE1, LE2, LE3, LE4, en, eL, el]
  rw [bnd_ok l1]
  simp only [evSs, evS, evE, evEs, evAnd, evOr, evO, evC, evIt, startD, List.map_cons, List.map_nil, List.length_cons, List.length_nil, List.cons_append, List.nil_append, List.replicate, List.getElem?_cons_zero, List.getElem?_cons_succ, Option.join_some, List.set_cons_zero, List.set_cons_succ, fromO_some, bnd_ret, bnd_assoc, constD, cmpD, binD, biD, bindT, setAll, asB_bnd, asB_bl, if_true, if_false, Bool.false_eq_true, Bool.not_true, Bool.not_false, LE0, LE1, LE2, LE3, LE4, paper_len, sub_int, neg_int, rng_down (show ss.length ≤ 1000 by omega)]
  rw [bnd_ok l2]
  simp only [evSs, evS, evE, evEs, evAnd, evOr, evO, evC, evIt, startD, List.map_cons, List.map_nil, List.length_cons, List.length_nil, List.cons_append, List.nil_append, List.replicate, List.getElem?_cons_zero, List.getElem?_cons_succ, Option.join_some, List.set_cons_zero, List.set_cons_succ, fromO_some, bnd_ret, bnd_assoc, constD, cmpD, binD, biD, bindT, setAll, asB_bnd, asB_bl, if_true, if_false, Bool.false_eq_true, Bool.not_true, Bool.not_false, LE0, LE1, LE2, LE3, LE4]
  have g1' : dgetD (.ref η.length) (.int 0) (η ++ [.dic j1, .dic j2]) = .ok (.int (u1 0)) (η ++ [.dic j1, .dic j2]) := g1
  have g2' : dgetD (.ref (η.length + 1)) (.int 0) (η ++ [.dic j1, .dic j2]) = .ok (.int (u2 0)) (η ++ [.dic j1, .dic j2]) := g2
  rw [bnd_ok g1']
  simp only [evSs, evS, evE, evEs, evAnd, evOr, evO, evC, evIt, startD, List.map_cons, List.map_nil, List.length_cons, List.length_nil, List.cons_append, List.nil_append, List.replicate, List.getElem?_cons_zero, List.getElem?_cons_succ, Option.join_some, List.set_cons_zero, List.set_cons_succ, fromO_some, bnd_ret, bnd_assoc, constD, cmpD, binD, biD, bindT, setAll, asB_bnd, asB_bl, if_true, if_false, Bool.false_eq_true, Bool.not_true, Bool.not_false, LE0, LE1, LE2, LE3, LE4, gt_int, t1]
  rw [bnd_ok g2']
  simp only [evSs, evS, evE, evEs, evAnd, evOr, evO, evC, evIt, startD, List.map_cons, List.map_nil, List.length_cons, List.length_nil, List.cons_append, List.nil_append, List.replicate, List.getElem?_cons_zero, List.getElem?_cons_succ, Option.join_some, List.set_cons_zero, List.set_cons_succ, fromO_some, bnd_ret, bnd_assoc, constD, cmpD, binD, biD, bindT, setAll, asB_bnd, asB_bl, if_true, if_false, Bool.false_eq_true, Bool.not_true, Bool.not_false, LE0, LE1, LE2, LE3, LE4, gt_int, t2]
  rfl
end
end Ev
end
section
set_option Elab.async false
set_option linter.all false
set_option maxRecDepth 100000
set_option maxHeartbeats 2000000
/-! The law's schemes. -/
namespace Ev
open PySem L2 Ms Cod
def stAt : Nat → Ss → S
  | _, .nil => .pass
  | 0, .cons s _ => s
  | n + 1, .cons _ r => stAt n r
def sch (i : Nat) : S := stAt i c_law_scheme
theorem sch_code : c_law_scheme = .cons (sch 0) (.cons (sch 1) (.cons (sch 2) (.cons (sch 3) (.cons (sch 4) (.cons (sch 5) (.cons (sch 6) (.cons (sch 7) (.cons (sch 8) (.cons (sch 9) .nil))))))))) := rfl
abbrev left (a b c : Nat) : Cell := .lst [.int a, .int b, .int c]
abbrev Use3 := Nat × Nat × Nat
def useD (u : Use3) : D := .tup [.int u.1, .int u.2.1, .int u.2.2]
def usesD (U : List Use3) : D := .fl (U.map useD)
structure UsesOk (num many : Nat) (u1 u2 : Nat → Nat) (U : List Use3) : Prop where
  ok : ∀ u ∈ U, num < u.1 ∧ u.1 < many ∧ u.2.1 = u1 u.1 ∧ u.2.2 = u2 u.1
  len : U.length ≤ 10
section
variable {T : List FD} {p : List Cell} {cf : Nat → List D → M D} {cs : List Nat} {n num many : Nat} {u1 u2 : Nat → Nat} {U : List Use3}
/-- what a scheme's maker does, deep deep -/
def SchEv (p : List Cell) (n num many : Nat) (u1 u2 : Nat → Nat) (deep : Nat) (m : M D) : Prop := ∀ (rest : List Cell) (a b c : Nat) (Q : D → List Cell → Prop), rest[n]? = some (left a b c) → flatCs rest = true → 1 ≤ a → 1 ≤ b →
  (∀ s a' b' c', Good num many (deep + 1) s → a' + cost (fun _ => 1) s = a → b' + cost (own1 u1) s = b → c' + cost (own2 u2) s = c → Q s.toD (rest.set n (left a' b' c'))) → Ev p m rest Q
/-- draws -/
def TakeEv (p : List Cell) (cf : Nat → List D → M D) : Prop := ∀ {β : Type} (rest : List Cell) (m : Int) (kf : D → M β) (Q : β → List Cell → Prop), flatCs rest = true → 0 < m → m < 1073741824 → (∀ i : Nat, (i : Int) < m → Ev p (kf (.int i)) rest Q) → Ev p (Ms.bnd (cf 23 [bx p, .int m]) kf) rest Q
theorem left_get {rest : List Cell} {x y : Cell} (h : rest[n]? = some x) : (rest.set n y)[n]? = some y := List.getElem?_set_self (List.getElem?_eq_some_iff.mp h).1
theorem left_set {rest : List Cell} {x y : Cell} : (rest.set n x).set n y = rest.set n y := List.set_set ..
theorem left_flat {a b c : Nat} : flatC (left a b c) = true := rfl
theorem at0 {x y z : D} : atI [x, y, z] 0 = some x := rfl
theorem at1 {x y z : D} : atI [x, y, z] 1 = some y := rfl
theorem at2 {x y z : D} : atI [x, y, z] 2 = some z := rfl
theorem cost_one (s : Sch) : 1 ≤ cost (fun _ => 1) s := by
  rw [cost_kids]
  omega
variable {rest : List Cell} {a b c deep way w : Nat} {x4 x7 x8 x9 x10 : Option D}
abbrev env (p : List Cell) (cs : List Nat) (n deep : Nat) (U : List Use3) (w way : Nat) (x7 x8 x9 x10 : Option D) : Ms.Env := [some (bx p), some (.fl (ltrs cs)), some (rf p n), some (.int deep), some (usesD U), some (.str (S1 w)), some (.int way), x7, x8, x9, x10]
theorem beq0 (m : Nat) : (((m : Nat) : Int) == 0) = decide (m = 0) := by
  by_cases h : m = 0
  · subst h; rfl
  · rw [decide_eq_false h, beq_eq_false_iff_ne]; omega
theorem lt_nat (m j : Nat) : decide (((m : Nat) : Int) < ((j : Nat) : Int)) = decide (m < j) := by simp
theorem gt0 (m : Nat) : decide ((0 : Int) < ((m : Nat) : Int)) = decide (0 < m) := by simp
theorem beqN (m j : Nat) : (((m : Nat) : Int) == ((j : Nat) : Int)) = decide (m = j) := by
  by_cases h : m = j
  · subst h; simp
  · rw [decide_eq_false h, beq_eq_false_iff_ne]; omega
/-- to the step's end -/
theorem sch3c (hr : flatCs rest = true) (hl : rest[n]? = some (left a b c)) {B : Ss} {Q : Fl → List Cell → Prop}
    (q1 : Ev p (evSs cf B (env p cs n deep U w way x7 x8 x9 x10)) rest Q) (q2 : deep ≠ 0 → 2 ≤ a → 2 ≤ b → 3 ≤ way → Q (.nx (env p cs n deep U w way x7 x8 x9 x10)) rest) :
    Ev p (evS cf (.if_ (.or_ (.cons (.cmp .eq (.loc 3) (.cst (.int 0))) (.cons (.cmp .lt (.sub (.loc 2) (.cst (.int 0))) (.cst (.int 2))) (.cons (.cmp .lt (.sub (.loc 2) (.cst (.int 1))) (.cst (.int 2))) (.cons (.cmp .lt (.loc 6) (.cst (.int 3))) .nil))))) B .nil) (env p cs n deep U w way x7 x8 x9 x10)) rest Q := by
  have l2 : ∀ m : Nat, decide (((m : Nat) : Int) < 2) = decide (m < 2) := fun m => lt_nat m 2
  have l3 : ∀ m : Nat, decide (((m : Nat) : Int) < 3) = decide (m < 3) := fun m => lt_nat m 3
  simp only [evSs, evS, evE, evEs, evAnd, evOr, evO, evC, evIt, startD, List.map_cons, List.map_nil, List.length_cons, List.length_nil, List.cons_append, List.nil_append, List.replicate, List.getElem?_cons_zero, List.getElem?_cons_succ, Option.join_some, List.set_cons_zero, List.set_cons_succ, fromO_some, bnd_ret, bnd_assoc, constD, cmpD, binD, biD, bindT, setAll, asB_bnd, asB_bl, if_true, if_false, Bool.false_eq_true, Bool.not_true, Bool.not_false, LE0, LE1, LE2, LE3, LE4, eq_int, lt_int, beq0]
  by_cases h0 : deep = 0
  · simp only [decide_eq_true h0, evSs, evS, evE, evEs, evAnd, evOr, evO, evC, evIt, startD, List.map_cons, List.map_nil, List.length_cons, List.length_nil, List.cons_append, List.nil_append, List.replicate, List.getElem?_cons_zero, List.getElem?_cons_succ, Option.join_some, List.set_cons_zero, List.set_cons_succ, fromO_some, bnd_ret, bnd_assoc, constD, cmpD, binD, biD, bindT, setAll, asB_bnd, asB_bl, if_true, if_false, Bool.false_eq_true, Bool.not_true, Bool.not_false, LE0, LE1, LE2, LE3, LE4]
    exact q1
  simp only [decide_eq_false h0, evSs, evS, evE, evEs, evAnd, evOr, evO, evC, evIt, startD, List.map_cons, List.map_nil, List.length_cons, List.length_nil, List.cons_append, List.nil_append, List.replicate, List.getElem?_cons_zero, List.getElem?_cons_succ, Option.join_some, List.set_cons_zero, List.set_cons_succ, fromO_some, bnd_ret, bnd_assoc, constD, cmpD, binD, biD, bindT, setAll, asB_bnd, asB_bl, if_true, if_false, Bool.false_eq_true, Bool.not_true, Bool.not_false, LE0, LE1, LE2, LE3, LE4]
  refine .step (fun l s => rf_at hl at0) ?_
  simp only [evSs, evS, evE, evEs, evAnd, evOr, evO, evC, evIt, startD, List.map_cons, List.map_nil, List.length_cons, List.length_nil, List.cons_append, List.nil_append, List.replicate, List.getElem?_cons_zero, List.getElem?_cons_succ, Option.join_some, List.set_cons_zero, List.set_cons_succ, fromO_some, bnd_ret, bnd_assoc, constD, cmpD, binD, biD, bindT, setAll, asB_bnd, asB_bl, if_true, if_false, Bool.false_eq_true, Bool.not_true, Bool.not_false, LE0, LE1, LE2, LE3, LE4, lt_int, l2]
  by_cases h1 : a < 2
  · simp only [decide_eq_true h1, evSs, evS, evE, evEs, evAnd, evOr, evO, evC, evIt, startD, List.map_cons, List.map_nil, List.length_cons, List.length_nil, List.cons_append, List.nil_append, List.replicate, List.getElem?_cons_zero, List.getElem?_cons_succ, Option.join_some, List.set_cons_zero, List.set_cons_succ, fromO_some, bnd_ret, bnd_assoc, constD, cmpD, binD, biD, bindT, setAll, asB_bnd, asB_bl, if_true, if_false, Bool.false_eq_true, Bool.not_true, Bool.not_false, LE0, LE1, LE2, LE3, LE4]
    exact q1
  simp only [decide_eq_false h1, evSs, evS, evE, evEs, evAnd, evOr, evO, evC, evIt, startD, List.map_cons, List.map_nil, List.length_cons, List.length_nil, List.cons_append, List.nil_append, List.replicate, List.getElem?_cons_zero, List.getElem?_cons_succ, Option.join_some, List.set_cons_zero, List.set_cons_succ, fromO_some, bnd_ret, bnd_assoc, constD, cmpD, binD, biD, bindT, setAll, asB_bnd, asB_bl, if_true, if_false, Bool.false_eq_true, Bool.not_true, Bool.not_false, LE0, LE1, LE2, LE3, LE4]
  refine .step (fun l s => rf_at hl at1) ?_
  simp only [evSs, evS, evE, evEs, evAnd, evOr, evO, evC, evIt, startD, List.map_cons, List.map_nil, List.length_cons, List.length_nil, List.cons_append, List.nil_append, List.replicate, List.getElem?_cons_zero, List.getElem?_cons_succ, Option.join_some, List.set_cons_zero, List.set_cons_succ, fromO_some, bnd_ret, bnd_assoc, constD, cmpD, binD, biD, bindT, setAll, asB_bnd, asB_bl, if_true, if_false, Bool.false_eq_true, Bool.not_true, Bool.not_false, LE0, LE1, LE2, LE3, LE4, lt_int, l2]
  by_cases h2 : b < 2
  · simp only [decide_eq_true h2, evSs, evS, evE, evEs, evAnd, evOr, evO, evC, evIt, startD, List.map_cons, List.map_nil, List.length_cons, List.length_nil, List.cons_append, List.nil_append, List.replicate, List.getElem?_cons_zero, List.getElem?_cons_succ, Option.join_some, List.set_cons_zero, List.set_cons_succ, fromO_some, bnd_ret, bnd_assoc, constD, cmpD, binD, biD, bindT, setAll, asB_bnd, asB_bl, if_true, if_false, Bool.false_eq_true, Bool.not_true, Bool.not_false, LE0, LE1, LE2, LE3, LE4]
    exact q1
  simp only [decide_eq_false h2, evSs, evS, evE, evEs, evAnd, evOr, evO, evC, evIt, startD, List.map_cons, List.map_nil, List.length_cons, List.length_nil, List.cons_append, List.nil_append, List.replicate, List.getElem?_cons_zero, List.getElem?_cons_succ, Option.join_some, List.set_cons_zero, List.set_cons_succ, fromO_some, bnd_ret, bnd_assoc, constD, cmpD, binD, biD, bindT, setAll, asB_bnd, asB_bl, if_true, if_false, Bool.false_eq_true, Bool.not_true, Bool.not_false, LE0, LE1, LE2, LE3, LE4, lt_int, l3]
  by_cases h3 : way < 3
  · simp only [decide_eq_true h3, evSs, evS, evE, evEs, evAnd, evOr, evO, evC, evIt, startD, List.map_cons, List.map_nil, List.length_cons, List.length_nil, List.cons_append, List.nil_append, List.replicate, List.getElem?_cons_zero, List.getElem?_cons_succ, Option.join_some, List.set_cons_zero, List.set_cons_succ, fromO_some, bnd_ret, bnd_assoc, constD, cmpD, binD, biD, bindT, setAll, asB_bnd, asB_bl, if_true, if_false, Bool.false_eq_true, Bool.not_true, Bool.not_false, LE0, LE1, LE2, LE3, LE4]
    exact q1
  simp only [decide_eq_false h3, evSs, evS, evE, evEs, evAnd, evOr, evO, evC, evIt, startD, List.map_cons, List.map_nil, List.length_cons, List.length_nil, List.cons_append, List.nil_append, List.replicate, List.getElem?_cons_zero, List.getElem?_cons_succ, Option.join_some, List.set_cons_zero, List.set_cons_succ, fromO_some, bnd_ret, bnd_assoc, constD, cmpD, binD, biD, bindT, setAll, asB_bnd, asB_bl, if_true, if_false, Bool.false_eq_true, Bool.not_true, Bool.not_false, LE0, LE1, LE2, LE3, LE4]
  exact .ret (q2 h0 (by omega) (by omega) (by omega))
theorem sch3 (tk : TakeEv p cf) (hr : flatCs rest = true) (hl : rest[n]? = some (left a b c)) (hb : 1 ≤ b) {Q : Fl → List Cell → Prop}
    (q1 : ∀ i, 1 ≤ i → i ≤ 9 → Q (.rt (Sch.step w i).toD) (rest.set n (left a (b - 1) c))) (q2 : deep ≠ 0 → 2 ≤ a → 2 ≤ b → 3 ≤ way → Q (.nx (env p cs n deep U w way x7 x8 x9 x10)) rest) :
    Ev p (evS cf (sch 3) (env p cs n deep U w way x7 x8 x9 x10)) rest Q := by
  refine sch3c (B := .cons (.seti (.loc 2) (.cst (.int 1)) (.bin .sub (.sub (.loc 2) (.cst (.int 1))) (.cst (.int 1)))) (.cons (.ret (.tup (.cons (.cst (.str "step")) (.cons (.loc 5) (.cons (.bin .add (.cst (.int 1)) (.call 23 (.cons (.loc 0) (.cons (.cst (.int 9)) .nil)))) .nil))))) .nil)) hr hl ?_ q2
  simp only [evSs, evS, evE, evEs, evAnd, evOr, evO, evC, evIt, startD, List.map_cons, List.map_nil, List.length_cons, List.length_nil, List.cons_append, List.nil_append, List.replicate, List.getElem?_cons_zero, List.getElem?_cons_succ, Option.join_some, List.set_cons_zero, List.set_cons_succ, fromO_some, bnd_ret, bnd_assoc, constD, cmpD, binD, biD, bindT, setAll, asB_bnd, asB_bl, if_true, if_false, Bool.false_eq_true, Bool.not_true, Bool.not_false, LE0, LE1, LE2, LE3, LE4]
  refine .step (fun l s => rf_at hl at1) ?_
  simp only [evSs, evS, evE, evEs, evAnd, evOr, evO, evC, evIt, startD, List.map_cons, List.map_nil, List.length_cons, List.length_nil, List.cons_append, List.nil_append, List.replicate, List.getElem?_cons_zero, List.getElem?_cons_succ, Option.join_some, List.set_cons_zero, List.set_cons_succ, fromO_some, bnd_ret, bnd_assoc, constD, cmpD, binD, biD, bindT, setAll, asB_bnd, asB_bl, if_true, if_false, Bool.false_eq_true, Bool.not_true, Bool.not_false, LE0, LE1, LE2, LE3, LE4, sub_int]
  have eb : ((b : Nat) : Int) - 1 = ((b - 1 : Nat) : Int) := by omega
  rw [eb]
  refine .step (fun l s => rf_set hl (nix (m := 3) (i := 1) (by decide)) _) ?_
  refine tk _ _ _ _ (flat_set hr rfl) (by decide) (by decide) fun i hi => ?_
  simp only [evSs, evS, evE, evEs, evAnd, evOr, evO, evC, evIt, startD, List.map_cons, List.map_nil, List.length_cons, List.length_nil, List.cons_append, List.nil_append, List.replicate, List.getElem?_cons_zero, List.getElem?_cons_succ, Option.join_some, List.set_cons_zero, List.set_cons_succ, fromO_some, bnd_ret, bnd_assoc, constD, cmpD, binD, biD, bindT, setAll, asB_bnd, asB_bl, if_true, if_false, Bool.false_eq_true, Bool.not_true, Bool.not_false, LE0, LE1, LE2, LE3, LE4, add_int]
  refine .ret ?_
  have := q1 (i + 1) (by omega) (by omega)
  rw [Sch.toD] at this
  have ei : (1 : Int) + ((i : Nat) : Int) = ((i + 1 : Nat) : Int) := by omega
  rw [ei]
  exact this
/-! ### a use -/
theorem fm_ifG {α : Type} (P : α → Bool) (f : α → D) : ∀ ws : List α, ws.filterMap (fun v => if P v = true then some (f v) else none) = (ws.filter P).map f
  | [] => rfl
  | v :: ws => by
    have ih := fm_ifG P f ws
    cases h : P v with
    | true => simp [h, ih]
    | false => simp [h, ih]
theorem ne_fl_nil {xs : List D} (hs : ∀ x ∈ xs, Sh 60 x) : neD (.fl xs) (.fl []) = Ms.ret (.bl (!xs.isEmpty)) := by
  funext η
  have q := ne_nil (η := η ++ [.lst xs]) (n := η.length) (xs := xs) (by simp) hs
  unfold neD at q ⊢
  rw [derP_cell (xs := xs) (by simp)] at q
  have e1 : derP (η ++ [Cell.lst xs]) (.fl xs) = derP η (.fl xs) := rfl
  have e2 : derP (η ++ [Cell.lst xs]) (.fl []) = derP η (.fl []) := rfl
  rw [e1, e2] at q
  revert q
  cases derP η (.fl xs) with
  | none => intro q; simp at q
  | some p =>
    cases derP η (.fl []) with
    | none => intro q; simp at q
    | some p2 =>
      try dsimp only
      split
      · intro q
        injection q with q1 q2
        rw [q1]
        rfl
      · intro q
        cases q
theorem useD_0 (u : Use3) : idxD (useD u) (.int 0) = Ms.ret (.int u.1) := rfl
theorem useD_1 (u : Use3) : idxD (useD u) (.int 1) = Ms.ret (.int u.2.1) := rfl
theorem useD_2 (u : Use3) : idxD (useD u) (.int 2) = Ms.ret (.int u.2.2) := rfl
theorem sch4 (tk : TakeEv p cf) (hr : flatCs rest = true) (hl : rest[n]? = some (left a b c)) (uo : UsesOk num many u1 u2 U) (hw : way < 16) {Q : Fl → List Cell → Prop}
    (q1 : ∀ i, num < i → i < many → u1 i ≤ b → u2 i ≤ c → Q (.rt (Sch.use i).toD) (rest.set n (left a (b - u1 i) (c - u2 i)))) (q2 : ∀ y7, Q (.nx (env p cs n deep U w way y7 x8 x9 x10)) rest) :
    Ev p (evS cf (sch 4) (env p cs n deep U w way x7 x8 x9 x10)) rest Q := by
  have ew : (((way : Nat) : Int) == 3) = decide (way = 3) := beqN way 3
  have ul := uo.len
  obtain ⟨us, hus⟩ : ∃ us, us = U.filter fun u => decide (u.2.1 ≤ b) && decide (u.2.2 ≤ c) := ⟨_, rfl⟩
  have usl : us.length ≤ 10 := by
    rw [hus]
    exact Nat.le_trans (List.length_filter_le _ _) ul
  have lp : ∀ l s, lcL [] (fun d => bindT (.name 8) d (wipeD (env p cs n deep U w way x7 x8 x9 x10) [8])) (evC cf (.some (.and_ (.cons (.cmp .le (.sub (.loc 8) (.cst (.int 1))) (.sub (.loc 2) (.cst (.int 1)))) (.cons (.cmp .le (.sub (.loc 8) (.cst (.int 2))) (.sub (.loc 2) (.cst (.int 2)))) .nil))))) (evE cf (.loc 8)) (U.map useD) [] (boxed p l s rest) = .ok (us.map useD) (boxed p l s rest) := fun l s => by
    have q := lc_fm (bind := fun d => bindT (.name 8) d (wipeD (env p cs n deep U w way x7 x8 x9 x10) [8])) (cond := evC cf (.some (.and_ (.cons (.cmp .le (.sub (.loc 8) (.cst (.int 1))) (.sub (.loc 2) (.cst (.int 1)))) (.cons (.cmp .le (.sub (.loc 8) (.cst (.int 2))) (.sub (.loc 2) (.cst (.int 2)))) .nil))))) (elt := evE cf (.loc 8)) (e := useD) (g := fun u => if (decide (u.2.1 ≤ b) && decide (u.2.2 ≤ c)) = true then some (useD u) else none) (η := boxed p l s rest) (xs := U) (acc := []) (by simp; omega) fun u hu => ⟨_, rfl, by
        have d1 : decide (((u.2.1 : Nat) : Int) ≤ ((b : Nat) : Int)) = decide (u.2.1 ≤ b) := by simp
        have d2 : decide (((u.2.2 : Nat) : Int) ≤ ((c : Nat) : Int)) = decide (u.2.2 ≤ c) := by simp
        simp only [evSs, evS, evE, evEs, evAnd, evOr, evO, evC, evIt, startD, List.map_cons, List.map_nil, List.length_cons, List.length_nil, List.cons_append, List.nil_append, List.replicate, List.getElem?_cons_zero, List.getElem?_cons_succ, Option.join_some, List.set_cons_zero, List.set_cons_succ, fromO_some, bnd_ret, bnd_assoc, constD, cmpD, binD, biD, bindT, setAll, asB_bnd, asB_bl, if_true, if_false, Bool.false_eq_true, Bool.not_true, Bool.not_false, LE0, LE1, LE2, LE3, LE4, wipeD, useD_1, useD_2]
        rw [bnd_ok (rf_at hl at1)]
        simp only [evSs, evS, evE, evEs, evAnd, evOr, evO, evC, evIt, startD, List.map_cons, List.map_nil, List.length_cons, List.length_nil, List.cons_append, List.nil_append, List.replicate, List.getElem?_cons_zero, List.getElem?_cons_succ, Option.join_some, List.set_cons_zero, List.set_cons_succ, fromO_some, bnd_ret, bnd_assoc, constD, cmpD, binD, biD, bindT, setAll, asB_bnd, asB_bl, if_true, if_false, Bool.false_eq_true, Bool.not_true, Bool.not_false, LE0, LE1, LE2, LE3, LE4, le_int, d1]
        cases decide (u.2.1 ≤ b) with
        | false => rfl
        | true =>
          simp only [evSs, evS, evE, evEs, evAnd, evOr, evO, evC, evIt, startD, List.map_cons, List.map_nil, List.length_cons, List.length_nil, List.cons_append, List.nil_append, List.replicate, List.getElem?_cons_zero, List.getElem?_cons_succ, Option.join_some, List.set_cons_zero, List.set_cons_succ, fromO_some, bnd_ret, bnd_assoc, constD, cmpD, binD, biD, bindT, setAll, asB_bnd, asB_bl, if_true, if_false, Bool.false_eq_true, Bool.not_true, Bool.not_false, LE0, LE1, LE2, LE3, LE4]
          unfold asB
          try simp only [evSs, evS, evE, evEs, evAnd, evOr, evO, evC, evIt, startD, List.map_cons, List.map_nil, List.length_cons, List.length_nil, List.cons_append, List.nil_append, List.replicate, List.getElem?_cons_zero, List.getElem?_cons_succ, Option.join_some, List.set_cons_zero, List.set_cons_succ, fromO_some, bnd_ret, bnd_assoc, constD, cmpD, binD, biD, bindT, setAll, asB_bnd, asB_bl, if_true, if_false, Bool.false_eq_true, Bool.not_true, Bool.not_false, LE0, LE1, LE2, LE3, LE4]
          rw [bnd_ok (rf_at hl at2)]
          simp only [evSs, evS, evE, evEs, evAnd, evOr, evO, evC, evIt, startD, List.map_cons, List.map_nil, List.length_cons, List.length_nil, List.cons_append, List.nil_append, List.replicate, List.getElem?_cons_zero, List.getElem?_cons_succ, Option.join_some, List.set_cons_zero, List.set_cons_succ, fromO_some, bnd_ret, bnd_assoc, constD, cmpD, binD, biD, bindT, setAll, asB_bnd, asB_bl, if_true, if_false, Bool.false_eq_true, Bool.not_true, Bool.not_false, LE0, LE1, LE2, LE3, LE4, le_int, d2]
          cases decide (u.2.2 ≤ c) <;> rfl, fun y hy => by
        cases hg : (decide (u.2.1 ≤ b) && decide (u.2.2 ≤ c)) with
        | false => rw [hg] at hy; cases hy
        | true =>
          rw [hg] at hy
          cases hy
          simp only [evSs, evS, evE, evEs, evAnd, evOr, evO, evC, evIt, startD, List.map_cons, List.map_nil, List.length_cons, List.length_nil, List.cons_append, List.nil_append, List.replicate, List.getElem?_cons_zero, List.getElem?_cons_succ, Option.join_some, List.set_cons_zero, List.set_cons_succ, fromO_some, bnd_ret, bnd_assoc, constD, cmpD, binD, biD, bindT, setAll, asB_bnd, asB_bl, if_true, if_false, Bool.false_eq_true, Bool.not_true, Bool.not_false, LE0, LE1, LE2, LE3, LE4, wipeD]
          rfl⟩
    rw [q, List.nil_append, hus]
    congr 1
    exact fm_ifG _ _ U
  have dr : (us.map useD).length ≤ LIM := by
    simp
    exact Nat.le_trans usl (by decide)
  have n0 : newL false [] = Ms.ret (.fl []) := newL_f (Nat.zero_le _)
  have sh : ∀ x ∈ us.map useD, Sh 60 x := fun x hx => by
    obtain ⟨u, _, rfl⟩ := List.mem_map.mp hx
    refine (Sh.tup (n := 0) fun y hy => ?_).mono (by decide)
    simp only [List.mem_cons, List.mem_nil_iff, or_false] at hy
    rcases hy with rfl | rfl | rfl <;> exact .int
  rw [show sch 4 = .if_ (.cmp .eq (.loc 6) (.cst (.int 3))) (.cons (.asg (.name 7) (.lc false [8] (.name 8) (.val (.loc 4)) (.some (.and_ (.cons (.cmp .le (.sub (.loc 8) (.cst (.int 1))) (.sub (.loc 2) (.cst (.int 1)))) (.cons (.cmp .le (.sub (.loc 8) (.cst (.int 2))) (.sub (.loc 2) (.cst (.int 2)))) .nil)))) (.loc 8)))
    (.cons (.if_ (.cmp .ne (.loc 7) (.lst false .nil)) (.cons (.asg (.name 8) (.sub (.loc 7) (.call 23 (.cons (.loc 0) (.cons (.bi .len (.cons (.loc 7) .nil)) .nil)))))
    (.cons (.sti2 (.loc 2) (.cst (.int 1)) (.loc 2) (.cst (.int 2)) (.bin .sub (.sub (.loc 2) (.cst (.int 1))) (.sub (.loc 8) (.cst (.int 1)))) (.bin .sub (.sub (.loc 2) (.cst (.int 2))) (.sub (.loc 8) (.cst (.int 2)))))
    (.cons (.ret (.tup (.cons (.cst (.str "use")) (.cons (.sub (.loc 8) (.cst (.int 0))) .nil)))) .nil))) .nil) .nil)) .nil from rfl]
  simp only [evSs, evS, evE, evEs, evAnd, evOr, evO, evC, evIt, startD, List.map_cons, List.map_nil, List.length_cons, List.length_nil, List.cons_append, List.nil_append, List.replicate, List.getElem?_cons_zero, List.getElem?_cons_succ, Option.join_some, List.set_cons_zero, List.set_cons_succ, fromO_some, bnd_ret, bnd_assoc, constD, cmpD, binD, biD, bindT, setAll, asB_bnd, asB_bl, if_true, if_false, Bool.false_eq_true, Bool.not_true, Bool.not_false, LE0, LE1, LE2, LE3, LE4] at lp
  simp only [evSs, evS, evE, evEs, evAnd, evOr, evO, evC, evIt, startD, List.map_cons, List.map_nil, List.length_cons, List.length_nil, List.cons_append, List.nil_append, List.replicate, List.getElem?_cons_zero, List.getElem?_cons_succ, Option.join_some, List.set_cons_zero, List.set_cons_succ, fromO_some, bnd_ret, bnd_assoc, constD, cmpD, binD, biD, bindT, setAll, asB_bnd, asB_bl, if_true, if_false, Bool.false_eq_true, Bool.not_true, Bool.not_false, LE0, LE1, LE2, LE3, LE4, eq_int, ew]
  by_cases h3 : way = 3
  · simp only [decide_eq_true h3, evSs, evS, evE, evEs, evAnd, evOr, evO, evC, evIt, startD, List.map_cons, List.map_nil, List.length_cons, List.length_nil, List.cons_append, List.nil_append, List.replicate, List.getElem?_cons_zero, List.getElem?_cons_succ, Option.join_some, List.set_cons_zero, List.set_cons_succ, fromO_some, bnd_ret, bnd_assoc, constD, cmpD, binD, biD, bindT, setAll, asB_bnd, asB_bl, if_true, if_false, Bool.false_eq_true, Bool.not_true, Bool.not_false, LE0, LE1, LE2, LE3, LE4]
    refine .step (a := (U.map useD, [])) (fun l s => rfl) ?_
    refine .step lp ?_
    rw [newL_f dr]
    simp only [evSs, evS, evE, evEs, evAnd, evOr, evO, evC, evIt, startD, List.map_cons, List.map_nil, List.length_cons, List.length_nil, List.cons_append, List.nil_append, List.replicate, List.getElem?_cons_zero, List.getElem?_cons_succ, Option.join_some, List.set_cons_zero, List.set_cons_succ, fromO_some, bnd_ret, bnd_assoc, constD, cmpD, binD, biD, bindT, setAll, asB_bnd, asB_bl, if_true, if_false, Bool.false_eq_true, Bool.not_true, Bool.not_false, LE0, LE1, LE2, LE3, LE4, n0, ne_fl_nil sh]
    cases hu : us with
    | nil =>
      simp only [List.map_nil, List.isEmpty_nil, evSs, evS, evE, evEs, evAnd, evOr, evO, evC, evIt, startD, List.map_cons, List.map_nil, List.length_cons, List.length_nil, List.cons_append, List.nil_append, List.replicate, List.getElem?_cons_zero, List.getElem?_cons_succ, Option.join_some, List.set_cons_zero, List.set_cons_succ, fromO_some, bnd_ret, bnd_assoc, constD, cmpD, binD, biD, bindT, setAll, asB_bnd, asB_bl, if_true, if_false, Bool.false_eq_true, Bool.not_true, Bool.not_false, LE0, LE1, LE2, LE3, LE4]
      exact .ret (q2 _)
    | cons u0 ur =>
      rw [← hu]
      have ne : (us.map useD).isEmpty = false := by rw [hu]; rfl
      have ul1 : 1 ≤ us.length := by rw [hu]; simp
      simp only [ne, evSs, evS, evE, evEs, evAnd, evOr, evO, evC, evIt, startD, List.map_cons, List.map_nil, List.length_cons, List.length_nil, List.cons_append, List.nil_append, List.replicate, List.getElem?_cons_zero, List.getElem?_cons_succ, Option.join_some, List.set_cons_zero, List.set_cons_succ, fromO_some, bnd_ret, bnd_assoc, constD, cmpD, binD, biD, bindT, setAll, asB_bnd, asB_bl, if_true, if_false, Bool.false_eq_true, Bool.not_true, Bool.not_false, LE0, LE1, LE2, LE3, LE4, len_fl, List.length_map]
      refine tk _ _ _ _ hr (by omega) (by omega) fun i hi => ?_
      have hi2 : i < us.length := by omega
      have ei : atI (us.map useD) (i : Int) = some (useD us[i]) := at_nat (by simp [hi2])
      obtain ⟨u, hu2⟩ : ∃ u, u = us[i] := ⟨_, rfl⟩
      have um : u ∈ us := by rw [hu2]; exact List.getElem_mem hi2
      rw [hus] at um
      obtain ⟨um1, um2⟩ := List.mem_filter.mp um
      simp only [Bool.and_eq_true, decide_eq_true_eq] at um2
      obtain ⟨o1, o2, o3, o4⟩ := uo.ok u um1
      rw [← hu2] at ei
      simp only [ix_fl, ei, evSs, evS, evE, evEs, evAnd, evOr, evO, evC, evIt, startD, List.map_cons, List.map_nil, List.length_cons, List.length_nil, List.cons_append, List.nil_append, List.replicate, List.getElem?_cons_zero, List.getElem?_cons_succ, Option.join_some, List.set_cons_zero, List.set_cons_succ, fromO_some, bnd_ret, bnd_assoc, constD, cmpD, binD, biD, bindT, setAll, asB_bnd, asB_bl, if_true, if_false, Bool.false_eq_true, Bool.not_true, Bool.not_false, LE0, LE1, LE2, LE3, LE4]
      refine .step (fun l s => rf_at hl at1) ?_
      simp only [evSs, evS, evE, evEs, evAnd, evOr, evO, evC, evIt, startD, List.map_cons, List.map_nil, List.length_cons, List.length_nil, List.cons_append, List.nil_append, List.replicate, List.getElem?_cons_zero, List.getElem?_cons_succ, Option.join_some, List.set_cons_zero, List.set_cons_succ, fromO_some, bnd_ret, bnd_assoc, constD, cmpD, binD, biD, bindT, setAll, asB_bnd, asB_bl, if_true, if_false, Bool.false_eq_true, Bool.not_true, Bool.not_false, LE0, LE1, LE2, LE3, LE4, useD_1, sub_int]
      refine .step (fun l s => rf_at hl at2) ?_
      simp only [evSs, evS, evE, evEs, evAnd, evOr, evO, evC, evIt, startD, List.map_cons, List.map_nil, List.length_cons, List.length_nil, List.cons_append, List.nil_append, List.replicate, List.getElem?_cons_zero, List.getElem?_cons_succ, Option.join_some, List.set_cons_zero, List.set_cons_succ, fromO_some, bnd_ret, bnd_assoc, constD, cmpD, binD, biD, bindT, setAll, asB_bnd, asB_bl, if_true, if_false, Bool.false_eq_true, Bool.not_true, Bool.not_false, LE0, LE1, LE2, LE3, LE4, useD_2, sub_int]
      have b1 : ((b : Nat) : Int) - ((u.2.1 : Nat) : Int) = ((b - u.2.1 : Nat) : Int) := by omega
      have b2 : ((c : Nat) : Int) - ((u.2.2 : Nat) : Int) = ((c - u.2.2 : Nat) : Int) := by omega
      rw [b1, b2]
      refine .step (fun l s => rf_set hl (nix (m := 3) (i := 1) (by decide)) _) ?_
      refine .step (fun l s => rf_set (xs := [.int a, .int ((b - u.2.1 : Nat) : Int), .int c]) (left_get hl) (nix (m := 3) (i := 2) (by decide)) _) ?_
      simp only [evSs, evS, evE, evEs, evAnd, evOr, evO, evC, evIt, startD, List.map_cons, List.map_nil, List.length_cons, List.length_nil, List.cons_append, List.nil_append, List.replicate, List.getElem?_cons_zero, List.getElem?_cons_succ, Option.join_some, List.set_cons_zero, List.set_cons_succ, fromO_some, bnd_ret, bnd_assoc, constD, cmpD, binD, biD, bindT, setAll, asB_bnd, asB_bl, if_true, if_false, Bool.false_eq_true, Bool.not_true, Bool.not_false, LE0, LE1, LE2, LE3, LE4, useD_0]
      rw [left_set]
      refine .ret ?_
      have := q1 u.1 o1 o2 (by omega) (by omega)
      rw [Sch.toD, ← o3, ← o4] at this
      exact this
  · simp only [decide_eq_false h3, evSs, evS, evE, evEs, evAnd, evOr, evO, evC, evIt, startD, List.map_cons, List.map_nil, List.length_cons, List.length_nil, List.cons_append, List.nil_append, List.replicate, List.getElem?_cons_zero, List.getElem?_cons_succ, Option.join_some, List.set_cons_zero, List.set_cons_succ, fromO_some, bnd_ret, bnd_assoc, constD, cmpD, binD, biD, bindT, setAll, asB_bnd, asB_bl, if_true, if_false, Bool.false_eq_true, Bool.not_true, Bool.not_false, LE0, LE1, LE2, LE3, LE4]
    exact .ret (q2 _)
end
end Ev
end
section
set_option Elab.async false
set_option linter.all false
set_option maxRecDepth 100000
set_option maxHeartbeats 2000000
/-! The law's schemes. -/
namespace Ev
open PySem L2 Ms Cod
theorem pick2 (x y : D) (way : Nat) : (bnd (modD (.int way) (.int 2)) fun i => idxD (.fl [x, y]) i) = Ms.ret (if (way % 2 == 1) = true then y else x) := by
  rw [mod_int (by decide), bnd_ret]
  have : way % 2 = 0 ∨ way % 2 = 1 := by omega
  rcases this with h | h
  · have e : ((way : Nat) : Int) % 2 = ((0 : Nat) : Int) := by omega
    rw [e, ix_fl, at_nat (i := 0) rfl, h]
    rfl
  · have e : ((way : Nat) : Int) % 2 = ((1 : Nat) : Int) := by omega
    rw [e, ix_fl, at_nat (i := 1) rfl, h]
    rfl
theorem pick2k {β : Type} (x y : D) (way : Nat) (kk : D → M β) : (bnd (modD (.int way) (.int 2)) fun i => bnd (idxD (.fl [x, y]) i) kk) = kk (if (way % 2 == 1) = true then y else x) := by
  rw [← bnd_assoc, pick2, bnd_ret]
theorem nl2 (x y : D) : newL false [x, y] = Ms.ret (.fl [x, y]) := newL_f (show [x, y].length ≤ LIM from (by decide : 2 ≤ LIM))
theorem nl3 (x y z : D) : newL false [x, y, z] = Ms.ret (.fl [x, y, z]) := newL_f (show [x, y, z].length ≤ LIM from (by decide : 3 ≤ LIM))
def manyBody : Ss := match sch 5 with
  | .if_ _ (.cons _ (.cons (.for_ _ _ b) _)) _ => b
  | _ => .nil
section
variable {T : List FD} {p : List Cell} {cf : Nat → List D → M D} {cs : List Nat} {n num many : Nat} {u1 u2 : Nat → Nat} {U : List Use3}
variable {rest : List Cell} {a b c deep way w : Nat} {x4 x7 x8 x9 x10 : Option D}
abbrev recArgs (p : List Cell) (cs : List Nat) (n deep : Nat) (U : List Use3) : List D := [bx p, .fl (ltrs cs), rf p n, .int ((deep - 1 : Nat) : Int), usesD U]
theorem deep1 (h : deep ≠ 0) : ((deep : Nat) : Int) - 1 = ((deep - 1 : Nat) : Int) := by omega
theorem many_turn (hl : rest[n]? = some (left a b c)) {B : Ss} {Q : Fl → List Cell → Prop} (q1 : 1 ≤ a → 1 ≤ b → Ev p (evSs cf B (env p cs n deep U w way x7 x8 x9 x10)) rest Q) (q2 : ¬ (1 ≤ a ∧ 1 ≤ b) → Q (.nx (env p cs n deep U w way x7 x8 x9 x10)) rest) :
    Ev p (evSs cf (.cons (.if_ (.and_ (.cons (.cmp .gt (.sub (.loc 2) (.cst (.int 0))) (.cst (.int 0))) (.cons (.cmp .gt (.sub (.loc 2) (.cst (.int 1))) (.cst (.int 0))) .nil))) B .nil) .nil) (env p cs n deep U w way x7 x8 x9 x10)) rest Q := by
  have tl : ∀ fl : Fl, (match fl with
    | .nx ρ' => Ms.ret (.nx ρ')
    | .rt d => Ms.ret (.rt d) : M Fl) = Ms.ret fl := fun fl => by cases fl <;> rfl
  simp only [evSs, evS, evE, evEs, evAnd, evOr, evO, evC, evIt, startD, List.map_cons, List.map_nil, List.length_cons, List.length_nil, List.cons_append, List.nil_append, List.replicate, List.getElem?_cons_zero, List.getElem?_cons_succ, Option.join_some, List.set_cons_zero, List.set_cons_succ, fromO_some, bnd_ret, bnd_assoc, constD, cmpD, binD, biD, bindT, setAll, asB_bnd, asB_bl, if_true, if_false, Bool.false_eq_true, Bool.not_true, Bool.not_false, LE0, LE1, LE2, LE3, LE4]
  refine .step (fun l s => rf_at hl at0) ?_
  simp only [evSs, evS, evE, evEs, evAnd, evOr, evO, evC, evIt, startD, List.map_cons, List.map_nil, List.length_cons, List.length_nil, List.cons_append, List.nil_append, List.replicate, List.getElem?_cons_zero, List.getElem?_cons_succ, Option.join_some, List.set_cons_zero, List.set_cons_succ, fromO_some, bnd_ret, bnd_assoc, constD, cmpD, binD, biD, bindT, setAll, asB_bnd, asB_bl, if_true, if_false, Bool.false_eq_true, Bool.not_true, Bool.not_false, LE0, LE1, LE2, LE3, LE4, gt_int, gt0]
  by_cases h0 : 0 < a
  · simp only [decide_eq_true h0, evSs, evS, evE, evEs, evAnd, evOr, evO, evC, evIt, startD, List.map_cons, List.map_nil, List.length_cons, List.length_nil, List.cons_append, List.nil_append, List.replicate, List.getElem?_cons_zero, List.getElem?_cons_succ, Option.join_some, List.set_cons_zero, List.set_cons_succ, fromO_some, bnd_ret, bnd_assoc, constD, cmpD, binD, biD, bindT, setAll, asB_bnd, asB_bl, if_true, if_false, Bool.false_eq_true, Bool.not_true, Bool.not_false, LE0, LE1, LE2, LE3, LE4]
    refine .step (fun l s => rf_at hl at1) ?_
    simp only [evSs, evS, evE, evEs, evAnd, evOr, evO, evC, evIt, startD, List.map_cons, List.map_nil, List.length_cons, List.length_nil, List.cons_append, List.nil_append, List.replicate, List.getElem?_cons_zero, List.getElem?_cons_succ, Option.join_some, List.set_cons_zero, List.set_cons_succ, fromO_some, bnd_ret, bnd_assoc, constD, cmpD, binD, biD, bindT, setAll, asB_bnd, asB_bl, if_true, if_false, Bool.false_eq_true, Bool.not_true, Bool.not_false, LE0, LE1, LE2, LE3, LE4, gt_int, gt0]
    by_cases h3 : 0 < b
    · simp only [decide_eq_true h3, evSs, evS, evE, evEs, evAnd, evOr, evO, evC, evIt, startD, List.map_cons, List.map_nil, List.length_cons, List.length_nil, List.cons_append, List.nil_append, List.replicate, List.getElem?_cons_zero, List.getElem?_cons_succ, Option.join_some, List.set_cons_zero, List.set_cons_succ, fromO_some, bnd_ret, bnd_assoc, constD, cmpD, binD, biD, bindT, setAll, asB_bnd, asB_bl, if_true, if_false, Bool.false_eq_true, Bool.not_true, Bool.not_false, LE0, LE1, LE2, LE3, LE4]
      refine .bnd ((q1 (by omega) (by omega)).imp fun fl r z => ?_)
      cases fl <;> exact .ret z
    · simp only [decide_eq_false h3, evSs, evS, evE, evEs, evAnd, evOr, evO, evC, evIt, startD, List.map_cons, List.map_nil, List.length_cons, List.length_nil, List.cons_append, List.nil_append, List.replicate, List.getElem?_cons_zero, List.getElem?_cons_succ, Option.join_some, List.set_cons_zero, List.set_cons_succ, fromO_some, bnd_ret, bnd_assoc, constD, cmpD, binD, biD, bindT, setAll, asB_bnd, asB_bl, if_true, if_false, Bool.false_eq_true, Bool.not_true, Bool.not_false, LE0, LE1, LE2, LE3, LE4]
      exact .ret (q2 (by omega))
  · simp only [decide_eq_false h0, evSs, evS, evE, evEs, evAnd, evOr, evO, evC, evIt, startD, List.map_cons, List.map_nil, List.length_cons, List.length_nil, List.cons_append, List.nil_append, List.replicate, List.getElem?_cons_zero, List.getElem?_cons_succ, Option.join_some, List.set_cons_zero, List.set_cons_succ, fromO_some, bnd_ret, bnd_assoc, constD, cmpD, binD, biD, bindT, setAll, asB_bnd, asB_bl, if_true, if_false, Bool.false_eq_true, Bool.not_true, Bool.not_false, LE0, LE1, LE2, LE3, LE4]
    exact .ret (q2 (by omega))
theorem many_loop (ih : SchEv p n num many u1 u2 (deep - 1) (cf 26 (recArgs p cs n deep U))) (hd : deep ≠ 0) {A B C : Nat} (hr : flatCs rest = true) (hl : ∃ x, rest[n]? = some x) {Q : Fl → List Cell → Prop}
    (q : ∀ (ks : List Sch) (a b c : Nat) (t : Option D), 1 ≤ ks.length → ks.length ≤ 4 → (∀ s ∈ ks, Good num many deep s) → a + costs (fun _ => 1) ks = A → b + costs (own1 u1) ks = B → c + costs (own2 u2) ks = C → Q (.nx (env p cs n deep U w way x7 x8 (some (rf p rest.length)) t)) (rest.set n (left a b c) ++ [.lst (ks.map Sch.toD)])) :
    ∀ (ts : List D) (ks : List Sch) (a b c : Nat) (t : Option D), (1 ≤ ks.length ∨ (1 ≤ a ∧ 1 ≤ b ∧ ts ≠ [])) → ks.length + ts.length ≤ 4 → (∀ s ∈ ks, Good num many deep s) → a + costs (fun _ => 1) ks = A → b + costs (own1 u1) ks = B → c + costs (own2 u2) ks = C →
      Ev p (forL [] (bindT (.name 10)) (evSs cf manyBody) ts (env p cs n deep U w way x7 x8 (some (rf p rest.length)) t)) (rest.set n (left a b c) ++ [.lst (ks.map Sch.toD)]) Q
  | [], ks, a, b, c, t, h1, h2, hg, ha, hb, hc => by
    unfold forL
    refine .step (fun l s => rfl) (.ret (q ks a b c t ?_ (by simpa using h2) hg ha hb hc))
    rcases h1 with h1 | ⟨_, _, h1⟩
    · exact h1
    · exact absurd rfl h1
  | d :: ts, ks, a, b, c, t, h1, h2, hg, ha, hb, hc => by
    simp only [List.length_cons] at h2
    obtain ⟨x, hx⟩ := hl
    have ln := (List.getElem?_eq_some_iff.mp hx).1
    have hl2 : (rest.set n (left a b c) ++ [Cell.lst (ks.map Sch.toD)])[n]? = some (left a b c) := by
      rw [List.getElem?_append_left (by simpa using ln)]
      exact left_get hx
    have f2 : flatCs (rest.set n (left a b c) ++ [Cell.lst (ks.map Sch.toD)]) = true := flat_snoc (flat_set hr rfl) (frozens_mapM fun s _ => toD_frozen s)
    have hk : (rest.set n (left a b c) ++ [Cell.lst (ks.map Sch.toD)])[rest.length]? = some (.lst (ks.map Sch.toD)) := by
      rw [List.getElem?_append_right (by simp)]
      simp
    have lk : (ks.map Sch.toD).length < LIM := by
      have : LIM = 1000000 := rfl
      simp
      omega
    unfold forL
    refine .step (fun l s => rfl) ?_
    show Ev p (Ms.bnd (evSs cf manyBody (env p cs n deep U w way x7 x8 (some (rf p rest.length)) (some d))) _) _ Q
    refine .bnd (many_turn (B := .cons (.ex (.mt .append (.loc 9) (.cons (.call 26 (.cons (.loc 0) (.cons (.loc 1) (.cons (.loc 2) (.cons (.bin .sub (.loc 3) (.cst (.int 1))) (.cons (.loc 4) .nil)))))) .nil))) .nil) hl2 (fun g1 g2 => ?_) fun hn => ?_)
    · simp only [evSs, evS, evE, evEs, evAnd, evOr, evO, evC, evIt, startD, List.map_cons, List.map_nil, List.length_cons, List.length_nil, List.cons_append, List.nil_append, List.replicate, List.getElem?_cons_zero, List.getElem?_cons_succ, Option.join_some, List.set_cons_zero, List.set_cons_succ, fromO_some, bnd_ret, bnd_assoc, constD, cmpD, binD, biD, bindT, setAll, asB_bnd, asB_bl, if_true, if_false, Bool.false_eq_true, Bool.not_true, Bool.not_false, LE0, LE1, LE2, LE3, LE4, sub_int, deep1 hd]
      refine .step (fun l s => rf_rec rfl hk) ?_
      refine .bnd (ih _ a b c _ hl2 f2 g1 g2 fun s a' b' c' gs k1 k2 k3 => ?_)
      have e1 : (rest.set n (left a b c) ++ [Cell.lst (ks.map Sch.toD)]).set n (left a' b' c') = rest.set n (left a' b' c') ++ [Cell.lst (ks.map Sch.toD)] := by
        rw [List.set_append_left _ _ (by simpa using ln), left_set]
      rw [e1]
      have hk2 : (rest.set n (left a' b' c') ++ [Cell.lst (ks.map Sch.toD)])[rest.length]? = some (.lst (ks.map Sch.toD)) := by
        rw [List.getElem?_append_right (by simp)]
        simp
      refine .step (fun l s => rf_app hk2 lk _) (.ret ?_)
      have e2 : (rest.set n (left a' b' c') ++ [Cell.lst (ks.map Sch.toD)]).set rest.length (.lst (ks.map Sch.toD ++ [s.toD])) = rest.set n (left a' b' c') ++ [Cell.lst ((ks ++ [s]).map Sch.toD)] := by
        rw [List.set_append_right _ _ (by simp)]
        simp
      rw [e2]
      have cs2 : ∀ f, costs f (ks ++ [s]) = costs f ks + cost f s := fun f => by rw [costs_map, costs_map]; simp
      have gd : Good num many deep s := by
        have : deep - 1 + 1 = deep := by omega
        rw [this] at gs
        exact gs
      refine many_loop ih hd hr ⟨x, hx⟩ q ts (ks ++ [s]) a' b' c' (some d) (.inl (by simp)) (by simp; omega) (fun v hv => ?_) (by rw [cs2]; omega) (by rw [cs2]; omega) (by rw [cs2]; omega)
      rcases List.mem_append.mp hv with hv | hv
      · exact hg v hv
      · rw [List.mem_singleton.mp hv]
        exact gd
    · refine many_loop ih hd hr ⟨x, hx⟩ q ts ks a b c (some d) (.inl ?_) (by omega) hg ha hb hc
      rcases h1 with h1 | ⟨h1, h3, _⟩
      · exact h1
      · exact absurd ⟨h1, h3⟩ hn
theorem sch5 (tk : TakeEv p cf) (ih : SchEv p n num many u1 u2 (deep - 1) (cf 26 (recArgs p cs n deep U))) (hd : deep ≠ 0) (hr : flatCs rest = true) (hl : rest[n]? = some (left a b c)) (ha : 2 ≤ a) (hb : 2 ≤ b) {Q : Fl → List Cell → Prop}
    (q1 : ∀ s a' b' c' ex, Good num many (deep + 1) s → a' + cost (fun _ => 1) s = a + 1 → b' + cost (own1 u1) s = b → c' + cost (own2 u2) s = c → Q (.rt s.toD) (rest.set n (left a' b' c') ++ ex)) (q2 : Q (.nx (env p cs n deep U w way x7 x8 x9 x10)) rest) :
    Ev p (evS cf (sch 5) (env p cs n deep U w way x7 x8 x9 x10)) rest Q := by
  have ew : decide (((way : Nat) : Int) < 9) = decide (way < 9) := lt_nat way 9
  rw [show sch 5 = .if_ (.cmp .lt (.loc 6) (.cst (.int 9))) (.cons (.asg (.name 9) (.lst true .nil)) (.cons (.for_ (.name 10) (.rng1 (.bin .add (.cst (.int 1)) (.call 23 (.cons (.loc 0) (.cons (.cst (.int 4)) .nil))))) manyBody)
    (.cons (.ret (.tup (.cons (.sub (.lst false (.cons (.cst (.str "all")) (.cons (.cst (.str "best")) .nil))) (.bin .mod (.loc 6) (.cst (.int 2)))) (.cons (.bi .tuple (.cons (.loc 9) .nil)) .nil)))) .nil))) .nil from rfl]
  simp only [evSs, evS, evE, evEs, evAnd, evOr, evO, evC, evIt, startD, List.map_cons, List.map_nil, List.length_cons, List.length_nil, List.cons_append, List.nil_append, List.replicate, List.getElem?_cons_zero, List.getElem?_cons_succ, Option.join_some, List.set_cons_zero, List.set_cons_succ, fromO_some, bnd_ret, bnd_assoc, constD, cmpD, binD, biD, bindT, setAll, asB_bnd, asB_bl, if_true, if_false, Bool.false_eq_true, Bool.not_true, Bool.not_false, LE0, LE1, LE2, LE3, LE4, lt_int, ew]
  by_cases h9 : way < 9
  · simp only [decide_eq_true h9, evSs, evS, evE, evEs, evAnd, evOr, evO, evC, evIt, startD, List.map_cons, List.map_nil, List.length_cons, List.length_nil, List.cons_append, List.nil_append, List.replicate, List.getElem?_cons_zero, List.getElem?_cons_succ, Option.join_some, List.set_cons_zero, List.set_cons_succ, fromO_some, bnd_ret, bnd_assoc, constD, cmpD, binD, biD, bindT, setAll, asB_bnd, asB_bl, if_true, if_false, Bool.false_eq_true, Bool.not_true, Bool.not_false, LE0, LE1, LE2, LE3, LE4]
    refine .step (fun l s => rf_new (Nat.zero_le _)) ?_
    have f1 : flatCs (rest ++ [.lst []]) = true := flat_snoc hr rfl
    try simp only [evSs, evS, evE, evEs, evAnd, evOr, evO, evC, evIt, startD, List.map_cons, List.map_nil, List.length_cons, List.length_nil, List.cons_append, List.nil_append, List.replicate, List.getElem?_cons_zero, List.getElem?_cons_succ, Option.join_some, List.set_cons_zero, List.set_cons_succ, fromO_some, bnd_ret, bnd_assoc, constD, cmpD, binD, biD, bindT, setAll, asB_bnd, asB_bl, if_true, if_false, Bool.false_eq_true, Bool.not_true, Bool.not_false, LE0, LE1, LE2, LE3, LE4]
    refine tk _ _ _ _ f1 (by decide) (by decide) fun i hi => ?_
    obtain ⟨m, hm⟩ : ∃ m : Nat, m = 1 + i := ⟨_, rfl⟩
    have ei : (1 : Int) + ((i : Nat) : Int) = ((m : Nat) : Int) := by omega
    have r1 : itR1 (.int ((m : Nat) : Int)) = Ms.ret ((List.range m).map fun i => .int ((i : Nat) : Int), []) := rng1 (by omega)
    have hm1 : List.length ((List.range m).map fun i => D.int ((i : Nat) : Int)) = m := by simp
    have hm2 : ((List.range m).map fun i => D.int ((i : Nat) : Int)) ≠ [] := fun z => by
      rw [z] at hm1
      simp at hm1
      omega
    simp only [evSs, evS, evE, evEs, evAnd, evOr, evO, evC, evIt, startD, List.map_cons, List.map_nil, List.length_cons, List.length_nil, List.cons_append, List.nil_append, List.replicate, List.getElem?_cons_zero, List.getElem?_cons_succ, Option.join_some, List.set_cons_zero, List.set_cons_succ, fromO_some, bnd_ret, bnd_assoc, constD, cmpD, binD, biD, bindT, setAll, asB_bnd, asB_bl, if_true, if_false, Bool.false_eq_true, Bool.not_true, Bool.not_false, LE0, LE1, LE2, LE3, LE4, add_int, ei, r1]
    have e0 : rest ++ [Cell.lst []] = rest.set n (left a b c) ++ [Cell.lst (([] : List Sch).map Sch.toD)] := by
      rw [set_same hl]
      rfl
    rw [e0]
    refine .bnd (many_loop (A := a) (B := b) (C := c) ih hd hr ⟨_, hl⟩ (fun ks a' b' c' t k1 k2 k3 k4 k5 k6 => ?_) _ [] a b c x10 (.inr ⟨by omega, by omega, hm2⟩) (by rw [hm1, List.length_nil]; omega) (fun s hs => nomatch hs) (by simp [costs]) (by simp [costs]) (by simp [costs]))
    simp only [evSs, evS, evE, evEs, evAnd, evOr, evO, evC, evIt, startD, List.map_cons, List.map_nil, List.length_cons, List.length_nil, List.cons_append, List.nil_append, List.replicate, List.getElem?_cons_zero, List.getElem?_cons_succ, Option.join_some, List.set_cons_zero, List.set_cons_succ, fromO_some, bnd_ret, bnd_assoc, constD, cmpD, binD, biD, bindT, setAll, asB_bnd, asB_bl, if_true, if_false, Bool.false_eq_true, Bool.not_true, Bool.not_false, LE0, LE1, LE2, LE3, LE4, nl2, pick2k]
    have tp : ∀ l s, tupleD [rf p rest.length] (boxed p l s (rest.set n (left a' b' c') ++ [.lst (ks.map Sch.toD)])) = .ok (.tup (ks.map Sch.toD)) (boxed p l s (rest.set n (left a' b' c') ++ [.lst (ks.map Sch.toD)])) := fun l s => by
      show (match asL _ (rf p rest.length) with | some xs => Res.ok (D.tup xs) _ | none => Res.bad) = _
      rw [rf_asL (xs := ks.map Sch.toD) (by rw [List.getElem?_append_right (by simp)]; simp)]
    refine .step tp (.ret ?_)
    have z := q1 (.many (way % 2 == 1) ks) a' b' c' [.lst (ks.map Sch.toD)] (.mk ⟨k1, k2⟩ k3) (by rw [cost_kids]; simp only [Sch.kids]; omega) (by rw [cost_kids]; simp only [Sch.kids, own1]; omega) (by rw [cost_kids]; simp only [Sch.kids, own2]; omega)
    rw [Sch.toD, toDs_map] at z
    cases h : (way % 2 == 1) with
    | true =>
      simp only [h, if_true] at z ⊢
      exact z
    | false =>
      simp only [h, if_false, Bool.false_eq_true] at z ⊢
      exact z
  · simp only [decide_eq_false h9, evSs, evS, evE, evEs, evAnd, evOr, evO, evC, evIt, startD, List.map_cons, List.map_nil, List.length_cons, List.length_nil, List.cons_append, List.nil_append, List.replicate, List.getElem?_cons_zero, List.getElem?_cons_succ, Option.join_some, List.set_cons_zero, List.set_cons_succ, fromO_some, bnd_ret, bnd_assoc, constD, cmpD, binD, biD, bindT, setAll, asB_bnd, asB_bl, if_true, if_false, Bool.false_eq_true, Bool.not_true, Bool.not_false, LE0, LE1, LE2, LE3, LE4]
    exact .ret q2
end
end Ev
end
section
set_option Elab.async false
set_option linter.all false
set_option maxRecDepth 100000
set_option maxHeartbeats 2000000
/-! The law's schemes. -/
namespace Ev
open PySem L2 Ms Cod
section
variable {T : List FD} {p : List Cell} {cf : Nat → List D → M D} {cs : List Nat} {n num many : Nat} {u1 u2 : Nat → Nat} {U : List Use3}
variable {rest : List Cell} {a b c deep way w : Nat} {x4 x7 x8 x9 x10 : Option D}
theorem rec_ev (ih : SchEv p n num many u1 u2 (deep - 1) (cf 26 (recArgs p cs n deep U))) (hd : deep ≠ 0) {r0 : List Cell} (e : ∃ x, rest[n]? = some x ∧ r0 = rest.set n (left a b c)) (hr : flatCs rest = true) (ha : 1 ≤ a) (hb : 1 ≤ b) {β : Type} {kk : D → M β} {Q : β → List Cell → Prop}
    (q : ∀ s a' b' c', Good num many deep s → a' + cost (fun _ => 1) s = a → b' + cost (own1 u1) s = b → c' + cost (own2 u2) s = c → Ev p (kk s.toD) (rest.set n (left a' b' c')) Q) : Ev p (Ms.bnd (cf 26 (recArgs p cs n deep U)) kk) r0 Q := by
  obtain ⟨x, hx, rfl⟩ := e
  refine .bnd (ih _ a b c _ (left_get hx) (flat_set hr rfl) ha hb fun s a' b' c' gs k1 k2 k3 => ?_)
  have : deep - 1 + 1 = deep := by omega
  rw [this] at gs
  rw [left_set]
  exact q s a' b' c' gs k1 k2 k3
theorem sch6 (ih : SchEv p n num many u1 u2 (deep - 1) (cf 26 (recArgs p cs n deep U))) (hd : deep ≠ 0) (hr : flatCs rest = true) (hl : rest[n]? = some (left a b c)) (ha : 2 ≤ a) (hb : 2 ≤ b) (hw : w ∈ letters) {Q : Fl → List Cell → Prop}
    (q1 : ∀ s a' b' c', Good num many (deep + 1) s → a' + cost (fun _ => 1) s = a + 1 → b' + cost (own1 u1) s = b → c' + cost (own2 u2) s = c → Q (.rt s.toD) (rest.set n (left a' b' c'))) (q2 : Q (.nx (env p cs n deep U w way x7 x8 x9 x10)) rest) :
    Ev p (evS cf (sch 6) (env p cs n deep U w way x7 x8 x9 x10)) rest Q := by
  have ew : decide (((way : Nat) : Int) < 12) = decide (way < 12) := lt_nat way 12
  rw [show sch 6 = .if_ (.and_ (.cons (.cmp .lt (.loc 6) (.cst (.int 12))) (.cons (.cmp .gt (.sub (.loc 2) (.cst (.int 2))) (.cst (.int 0))) .nil))) (.cons (.seti (.loc 2) (.cst (.int 2)) (.bin .sub (.sub (.loc 2) (.cst (.int 2))) (.cst (.int 1))))
    (.cons (.ret (.tup (.cons (.sub (.lst false (.cons (.cst (.str "seen")) (.cons (.cst (.str "behind")) .nil))) (.bin .mod (.loc 6) (.cst (.int 2)))) (.cons (.loc 5) (.cons (.call 26 (.cons (.loc 0) (.cons (.loc 1) (.cons (.loc 2) (.cons (.bin .sub (.loc 3) (.cst (.int 1))) (.cons (.loc 4) .nil)))))) .nil))))) .nil)) .nil from rfl]
  simp only [evSs, evS, evE, evEs, evAnd, evOr, evO, evC, evIt, startD, List.map_cons, List.map_nil, List.length_cons, List.length_nil, List.cons_append, List.nil_append, List.replicate, List.getElem?_cons_zero, List.getElem?_cons_succ, Option.join_some, List.set_cons_zero, List.set_cons_succ, fromO_some, bnd_ret, bnd_assoc, constD, cmpD, binD, biD, bindT, setAll, asB_bnd, asB_bl, if_true, if_false, Bool.false_eq_true, Bool.not_true, Bool.not_false, LE0, LE1, LE2, LE3, LE4, lt_int, ew]
  by_cases h9 : way < 12
  · simp only [decide_eq_true h9, evSs, evS, evE, evEs, evAnd, evOr, evO, evC, evIt, startD, List.map_cons, List.map_nil, List.length_cons, List.length_nil, List.cons_append, List.nil_append, List.replicate, List.getElem?_cons_zero, List.getElem?_cons_succ, Option.join_some, List.set_cons_zero, List.set_cons_succ, fromO_some, bnd_ret, bnd_assoc, constD, cmpD, binD, biD, bindT, setAll, asB_bnd, asB_bl, if_true, if_false, Bool.false_eq_true, Bool.not_true, Bool.not_false, LE0, LE1, LE2, LE3, LE4]
    refine .step (fun l s => rf_at hl at2) ?_
    simp only [evSs, evS, evE, evEs, evAnd, evOr, evO, evC, evIt, startD, List.map_cons, List.map_nil, List.length_cons, List.length_nil, List.cons_append, List.nil_append, List.replicate, List.getElem?_cons_zero, List.getElem?_cons_succ, Option.join_some, List.set_cons_zero, List.set_cons_succ, fromO_some, bnd_ret, bnd_assoc, constD, cmpD, binD, biD, bindT, setAll, asB_bnd, asB_bl, if_true, if_false, Bool.false_eq_true, Bool.not_true, Bool.not_false, LE0, LE1, LE2, LE3, LE4, gt_int, gt0]
    by_cases h0 : 0 < c
    · simp only [decide_eq_true h0, evSs, evS, evE, evEs, evAnd, evOr, evO, evC, evIt, startD, List.map_cons, List.map_nil, List.length_cons, List.length_nil, List.cons_append, List.nil_append, List.replicate, List.getElem?_cons_zero, List.getElem?_cons_succ, Option.join_some, List.set_cons_zero, List.set_cons_succ, fromO_some, bnd_ret, bnd_assoc, constD, cmpD, binD, biD, bindT, setAll, asB_bnd, asB_bl, if_true, if_false, Bool.false_eq_true, Bool.not_true, Bool.not_false, LE0, LE1, LE2, LE3, LE4]
      refine .step (fun l s => rf_at hl at2) ?_
      have ec : ((c : Nat) : Int) - 1 = ((c - 1 : Nat) : Int) := by omega
      simp only [evSs, evS, evE, evEs, evAnd, evOr, evO, evC, evIt, startD, List.map_cons, List.map_nil, List.length_cons, List.length_nil, List.cons_append, List.nil_append, List.replicate, List.getElem?_cons_zero, List.getElem?_cons_succ, Option.join_some, List.set_cons_zero, List.set_cons_succ, fromO_some, bnd_ret, bnd_assoc, constD, cmpD, binD, biD, bindT, setAll, asB_bnd, asB_bl, if_true, if_false, Bool.false_eq_true, Bool.not_true, Bool.not_false, LE0, LE1, LE2, LE3, LE4, sub_int, ec]
      refine .step (fun l s => rf_set hl (nix (m := 3) (i := 2) (by decide)) _) ?_
      simp only [evSs, evS, evE, evEs, evAnd, evOr, evO, evC, evIt, startD, List.map_cons, List.map_nil, List.length_cons, List.length_nil, List.cons_append, List.nil_append, List.replicate, List.getElem?_cons_zero, List.getElem?_cons_succ, Option.join_some, List.set_cons_zero, List.set_cons_succ, fromO_some, bnd_ret, bnd_assoc, constD, cmpD, binD, biD, bindT, setAll, asB_bnd, asB_bl, if_true, if_false, Bool.false_eq_true, Bool.not_true, Bool.not_false, LE0, LE1, LE2, LE3, LE4, nl2, pick2k, sub_int, deep1 hd]
      refine rec_ev (a := a) (b := b) (c := c - 1) ih hd ⟨_, hl, rfl⟩ hr (by omega) (by omega) fun s a' b' c' gs k1 k2 k3 => ?_
      have z := q1 (.gate (way % 2 == 1) w s) a' b' c' (.mk hw fun k hk => by rw [List.mem_singleton.mp hk]; exact gs) (by simp only [cost]; omega) (by simp only [cost, own1]; omega) (by simp only [cost, own2]; omega)
      rw [Sch.toD] at z
      try simp only [evSs, evS, evE, evEs, evAnd, evOr, evO, evC, evIt, startD, List.map_cons, List.map_nil, List.length_cons, List.length_nil, List.cons_append, List.nil_append, List.replicate, List.getElem?_cons_zero, List.getElem?_cons_succ, Option.join_some, List.set_cons_zero, List.set_cons_succ, fromO_some, bnd_ret, bnd_assoc, constD, cmpD, binD, biD, bindT, setAll, asB_bnd, asB_bl, if_true, if_false, Bool.false_eq_true, Bool.not_true, Bool.not_false, LE0, LE1, LE2, LE3, LE4]
      refine .ret ?_
      cases h : (way % 2 == 1) with
      | true =>
        simp only [h, if_true] at z ⊢
        exact z
      | false =>
        simp only [h, if_false, Bool.false_eq_true] at z ⊢
        exact z
    · simp only [decide_eq_false h0, evSs, evS, evE, evEs, evAnd, evOr, evO, evC, evIt, startD, List.map_cons, List.map_nil, List.length_cons, List.length_nil, List.cons_append, List.nil_append, List.replicate, List.getElem?_cons_zero, List.getElem?_cons_succ, Option.join_some, List.set_cons_zero, List.set_cons_succ, fromO_some, bnd_ret, bnd_assoc, constD, cmpD, binD, biD, bindT, setAll, asB_bnd, asB_bl, if_true, if_false, Bool.false_eq_true, Bool.not_true, Bool.not_false, LE0, LE1, LE2, LE3, LE4]
      exact .ret q2
  · simp only [decide_eq_false h9, evSs, evS, evE, evEs, evAnd, evOr, evO, evC, evIt, startD, List.map_cons, List.map_nil, List.length_cons, List.length_nil, List.cons_append, List.nil_append, List.replicate, List.getElem?_cons_zero, List.getElem?_cons_succ, Option.join_some, List.set_cons_zero, List.set_cons_succ, fromO_some, bnd_ret, bnd_assoc, constD, cmpD, binD, biD, bindT, setAll, asB_bnd, asB_bl, if_true, if_false, Bool.false_eq_true, Bool.not_true, Bool.not_false, LE0, LE1, LE2, LE3, LE4]
    exact .ret q2
theorem sch7 (tk : TakeEv p cf) (ih : SchEv p n num many u1 u2 (deep - 1) (cf 26 (recArgs p cs n deep U))) (hd : deep ≠ 0) (hr : flatCs rest = true) (hl : rest[n]? = some (left a b c)) (ha : 2 ≤ a) (hb : 2 ≤ b) (hw : w ∈ letters) {Q : Fl → List Cell → Prop}
    (q1 : ∀ s a' b' c', Good num many (deep + 1) s → a' + cost (fun _ => 1) s = a + 1 → b' + cost (own1 u1) s = b → c' + cost (own2 u2) s = c → Q (.rt s.toD) (rest.set n (left a' b' c'))) (q2 : Q (.nx (env p cs n deep U w way x7 x8 x9 x10)) rest) :
    Ev p (evS cf (sch 7) (env p cs n deep U w way x7 x8 x9 x10)) rest Q := by
  have ew : (((way : Nat) : Int) == 12) = decide (way = 12) := beqN way 12
  have eb2 : decide ((1 : Int) < ((b : Nat) : Int)) = true := decide_eq_true (by omega)
  rw [show sch 7 = .if_ (.and_ (.cons (.cmp .eq (.loc 6) (.cst (.int 12))) (.cons (.cmp .gt (.sub (.loc 2) (.cst (.int 1))) (.cst (.int 1))) .nil))) (.cons (.seti (.loc 2) (.cst (.int 1)) (.bin .sub (.sub (.loc 2) (.cst (.int 1))) (.cst (.int 1))))
    (.cons (.ret (.tup (.cons (.cst (.str "end")) (.cons (.loc 5) (.cons (.bin .add (.cst (.int 1)) (.call 23 (.cons (.loc 0) (.cons (.cst (.int 9)) .nil)))) (.cons (.call 26 (.cons (.loc 0) (.cons (.loc 1) (.cons (.loc 2) (.cons (.bin .sub (.loc 3) (.cst (.int 1))) (.cons (.loc 4) .nil)))))) .nil)))))) .nil)) .nil from rfl]
  simp only [evSs, evS, evE, evEs, evAnd, evOr, evO, evC, evIt, startD, List.map_cons, List.map_nil, List.length_cons, List.length_nil, List.cons_append, List.nil_append, List.replicate, List.getElem?_cons_zero, List.getElem?_cons_succ, Option.join_some, List.set_cons_zero, List.set_cons_succ, fromO_some, bnd_ret, bnd_assoc, constD, cmpD, binD, biD, bindT, setAll, asB_bnd, asB_bl, if_true, if_false, Bool.false_eq_true, Bool.not_true, Bool.not_false, LE0, LE1, LE2, LE3, LE4, eq_int, ew]
  by_cases h9 : way = 12
  · simp only [decide_eq_true h9, evSs, evS, evE, evEs, evAnd, evOr, evO, evC, evIt, startD, List.map_cons, List.map_nil, List.length_cons, List.length_nil, List.cons_append, List.nil_append, List.replicate, List.getElem?_cons_zero, List.getElem?_cons_succ, Option.join_some, List.set_cons_zero, List.set_cons_succ, fromO_some, bnd_ret, bnd_assoc, constD, cmpD, binD, biD, bindT, setAll, asB_bnd, asB_bl, if_true, if_false, Bool.false_eq_true, Bool.not_true, Bool.not_false, LE0, LE1, LE2, LE3, LE4]
    refine .step (fun l s => rf_at hl at1) ?_
    simp only [evSs, evS, evE, evEs, evAnd, evOr, evO, evC, evIt, startD, List.map_cons, List.map_nil, List.length_cons, List.length_nil, List.cons_append, List.nil_append, List.replicate, List.getElem?_cons_zero, List.getElem?_cons_succ, Option.join_some, List.set_cons_zero, List.set_cons_succ, fromO_some, bnd_ret, bnd_assoc, constD, cmpD, binD, biD, bindT, setAll, asB_bnd, asB_bl, if_true, if_false, Bool.false_eq_true, Bool.not_true, Bool.not_false, LE0, LE1, LE2, LE3, LE4, gt_int, eb2]
    refine .step (fun l s => rf_at hl at1) ?_
    have ec : ((b : Nat) : Int) - 1 = ((b - 1 : Nat) : Int) := by omega
    simp only [evSs, evS, evE, evEs, evAnd, evOr, evO, evC, evIt, startD, List.map_cons, List.map_nil, List.length_cons, List.length_nil, List.cons_append, List.nil_append, List.replicate, List.getElem?_cons_zero, List.getElem?_cons_succ, Option.join_some, List.set_cons_zero, List.set_cons_succ, fromO_some, bnd_ret, bnd_assoc, constD, cmpD, binD, biD, bindT, setAll, asB_bnd, asB_bl, if_true, if_false, Bool.false_eq_true, Bool.not_true, Bool.not_false, LE0, LE1, LE2, LE3, LE4, sub_int, ec]
    refine .step (fun l s => rf_set hl (nix (m := 3) (i := 1) (by decide)) _) ?_
    try simp only [evSs, evS, evE, evEs, evAnd, evOr, evO, evC, evIt, startD, List.map_cons, List.map_nil, List.length_cons, List.length_nil, List.cons_append, List.nil_append, List.replicate, List.getElem?_cons_zero, List.getElem?_cons_succ, Option.join_some, List.set_cons_zero, List.set_cons_succ, fromO_some, bnd_ret, bnd_assoc, constD, cmpD, binD, biD, bindT, setAll, asB_bnd, asB_bl, if_true, if_false, Bool.false_eq_true, Bool.not_true, Bool.not_false, LE0, LE1, LE2, LE3, LE4]
    refine tk _ _ _ _ (flat_set hr rfl) (by decide) (by decide) fun i hi => ?_
    have ei : (1 : Int) + ((i : Nat) : Int) = ((i + 1 : Nat) : Int) := by omega
    simp only [evSs, evS, evE, evEs, evAnd, evOr, evO, evC, evIt, startD, List.map_cons, List.map_nil, List.length_cons, List.length_nil, List.cons_append, List.nil_append, List.replicate, List.getElem?_cons_zero, List.getElem?_cons_succ, Option.join_some, List.set_cons_zero, List.set_cons_succ, fromO_some, bnd_ret, bnd_assoc, constD, cmpD, binD, biD, bindT, setAll, asB_bnd, asB_bl, if_true, if_false, Bool.false_eq_true, Bool.not_true, Bool.not_false, LE0, LE1, LE2, LE3, LE4, add_int, ei, sub_int, deep1 hd]
    refine rec_ev (a := a) (b := b - 1) (c := c) ih hd ⟨_, hl, rfl⟩ hr (by omega) (by omega) fun s a' b' c' gs k1 k2 k3 => ?_
    have z := q1 (.fin w (i + 1) s) a' b' c' (.mk ⟨hw, by omega, by omega⟩ fun k hk => by rw [List.mem_singleton.mp hk]; exact gs) (by simp only [cost]; omega) (by simp only [cost, own1]; omega) (by simp only [cost, own2]; omega)
    rw [Sch.toD] at z
    try simp only [evSs, evS, evE, evEs, evAnd, evOr, evO, evC, evIt, startD, List.map_cons, List.map_nil, List.length_cons, List.length_nil, List.cons_append, List.nil_append, List.replicate, List.getElem?_cons_zero, List.getElem?_cons_succ, Option.join_some, List.set_cons_zero, List.set_cons_succ, fromO_some, bnd_ret, bnd_assoc, constD, cmpD, binD, biD, bindT, setAll, asB_bnd, asB_bl, if_true, if_false, Bool.false_eq_true, Bool.not_true, Bool.not_false, LE0, LE1, LE2, LE3, LE4]
    exact .ret z
  · simp only [decide_eq_false h9, evSs, evS, evE, evEs, evAnd, evOr, evO, evC, evIt, startD, List.map_cons, List.map_nil, List.length_cons, List.length_nil, List.cons_append, List.nil_append, List.replicate, List.getElem?_cons_zero, List.getElem?_cons_succ, Option.join_some, List.set_cons_zero, List.set_cons_succ, fromO_some, bnd_ret, bnd_assoc, constD, cmpD, binD, biD, bindT, setAll, asB_bnd, asB_bl, if_true, if_false, Bool.false_eq_true, Bool.not_true, Bool.not_false, LE0, LE1, LE2, LE3, LE4]
    exact .ret q2
theorem sch8 (tk : TakeEv p cf) (ih : SchEv p n num many u1 u2 (deep - 1) (cf 26 (recArgs p cs n deep U))) (hd : deep ≠ 0) (hr : flatCs rest = true) (hl : rest[n]? = some (left a b c)) (ha : 2 ≤ a) (hb : 2 ≤ b) {Q : Fl → List Cell → Prop}
    (q1 : ∀ s a' b' c', Good num many (deep + 1) s → a' + cost (fun _ => 1) s = a + 1 → b' + cost (own1 u1) s = b → c' + cost (own2 u2) s = c → Q (.rt s.toD) (rest.set n (left a' b' c'))) (q2 : Q (.nx (env p cs n deep U w way x7 x8 x9 x10)) rest) :
    Ev p (evS cf (sch 8) (env p cs n deep U w way x7 x8 x9 x10)) rest Q := by
  have ew : (((way : Nat) : Int) == 13) = decide (way = 13) := beqN way 13
  rw [show sch 8 = .if_ (.cmp .eq (.loc 6) (.cst (.int 13))) (.cons (.ret (.tup (.cons (.cst (.str "most")) (.cons (.call 23 (.cons (.loc 0) (.cons (.sub (.lst false (.cons (.cst (.int 4)) (.cons (.cst (.int 12)) (.cons (.cst (.int 31)) .nil)))) (.call 23 (.cons (.loc 0) (.cons (.cst (.int 3)) .nil)))) .nil))) (.cons (.call 26 (.cons (.loc 0) (.cons (.loc 1) (.cons (.loc 2) (.cons (.bin .sub (.loc 3) (.cst (.int 1))) (.cons (.loc 4) .nil)))))) .nil))))) .nil) .nil from rfl]
  simp only [evSs, evS, evE, evEs, evAnd, evOr, evO, evC, evIt, startD, List.map_cons, List.map_nil, List.length_cons, List.length_nil, List.cons_append, List.nil_append, List.replicate, List.getElem?_cons_zero, List.getElem?_cons_succ, Option.join_some, List.set_cons_zero, List.set_cons_succ, fromO_some, bnd_ret, bnd_assoc, constD, cmpD, binD, biD, bindT, setAll, asB_bnd, asB_bl, if_true, if_false, Bool.false_eq_true, Bool.not_true, Bool.not_false, LE0, LE1, LE2, LE3, LE4, eq_int, ew]
  by_cases h9 : way = 13
  · simp only [decide_eq_true h9, evSs, evS, evE, evEs, evAnd, evOr, evO, evC, evIt, startD, List.map_cons, List.map_nil, List.length_cons, List.length_nil, List.cons_append, List.nil_append, List.replicate, List.getElem?_cons_zero, List.getElem?_cons_succ, Option.join_some, List.set_cons_zero, List.set_cons_succ, fromO_some, bnd_ret, bnd_assoc, constD, cmpD, binD, biD, bindT, setAll, asB_bnd, asB_bl, if_true, if_false, Bool.false_eq_true, Bool.not_true, Bool.not_false, LE0, LE1, LE2, LE3, LE4, nl3]
    refine tk _ _ _ _ hr (by decide) (by decide) fun i hi => ?_
    obtain ⟨m, hm, hm1, hm2⟩ : ∃ m : Nat, idxD (.fl [.int 4, .int 12, .int 31]) (.int i) = Ms.ret (.int m) ∧ 0 < m ∧ m ≤ 31 := by
      have : i = 0 ∨ i = 1 ∨ i = 2 := by omega
      rcases this with rfl | rfl | rfl
      · exact ⟨4, ix_fl _ _, by decide, by decide⟩
      · exact ⟨12, ix_fl _ _, by decide, by decide⟩
      · exact ⟨31, ix_fl _ _, by decide, by decide⟩
    simp only [evSs, evS, evE, evEs, evAnd, evOr, evO, evC, evIt, startD, List.map_cons, List.map_nil, List.length_cons, List.length_nil, List.cons_append, List.nil_append, List.replicate, List.getElem?_cons_zero, List.getElem?_cons_succ, Option.join_some, List.set_cons_zero, List.set_cons_succ, fromO_some, bnd_ret, bnd_assoc, constD, cmpD, binD, biD, bindT, setAll, asB_bnd, asB_bl, if_true, if_false, Bool.false_eq_true, Bool.not_true, Bool.not_false, LE0, LE1, LE2, LE3, LE4, hm]
    refine tk _ _ _ _ hr (by omega) (by omega) fun j hj => ?_
    simp only [evSs, evS, evE, evEs, evAnd, evOr, evO, evC, evIt, startD, List.map_cons, List.map_nil, List.length_cons, List.length_nil, List.cons_append, List.nil_append, List.replicate, List.getElem?_cons_zero, List.getElem?_cons_succ, Option.join_some, List.set_cons_zero, List.set_cons_succ, fromO_some, bnd_ret, bnd_assoc, constD, cmpD, binD, biD, bindT, setAll, asB_bnd, asB_bl, if_true, if_false, Bool.false_eq_true, Bool.not_true, Bool.not_false, LE0, LE1, LE2, LE3, LE4, sub_int, deep1 hd]
    refine rec_ev (a := a) (b := b) (c := c) ih hd ⟨_, hl, (set_same hl).symm⟩ hr (by omega) (by omega) fun s a' b' c' gs k1 k2 k3 => ?_
    have z := q1 (.most j s) a' b' c' (.mk (show j ≤ 30 by omega) fun k hk => by rw [List.mem_singleton.mp hk]; exact gs) (by simp only [cost]; omega) (by simp only [cost, own1]; omega) (by simp only [cost, own2]; omega)
    rw [Sch.toD] at z
    try simp only [evSs, evS, evE, evEs, evAnd, evOr, evO, evC, evIt, startD, List.map_cons, List.map_nil, List.length_cons, List.length_nil, List.cons_append, List.nil_append, List.replicate, List.getElem?_cons_zero, List.getElem?_cons_succ, Option.join_some, List.set_cons_zero, List.set_cons_succ, fromO_some, bnd_ret, bnd_assoc, constD, cmpD, binD, biD, bindT, setAll, asB_bnd, asB_bl, if_true, if_false, Bool.false_eq_true, Bool.not_true, Bool.not_false, LE0, LE1, LE2, LE3, LE4]
    exact .ret z
  · simp only [decide_eq_false h9, evSs, evS, evE, evEs, evAnd, evOr, evO, evC, evIt, startD, List.map_cons, List.map_nil, List.length_cons, List.length_nil, List.cons_append, List.nil_append, List.replicate, List.getElem?_cons_zero, List.getElem?_cons_succ, Option.join_some, List.set_cons_zero, List.set_cons_succ, fromO_some, bnd_ret, bnd_assoc, constD, cmpD, binD, biD, bindT, setAll, asB_bnd, asB_bl, if_true, if_false, Bool.false_eq_true, Bool.not_true, Bool.not_false, LE0, LE1, LE2, LE3, LE4]
    exact .ret q2
theorem sch9 (ih : SchEv p n num many u1 u2 (deep - 1) (cf 26 (recArgs p cs n deep U))) (hd : deep ≠ 0) (hr : flatCs rest = true) (hl : rest[n]? = some (left a b c)) (ha : 2 ≤ a) (hb : 2 ≤ b) {Q : Fl → List Cell → Prop}
    (q1 : ∀ s a' b' c', Good num many (deep + 1) s → a' + cost (fun _ => 1) s = a + 1 → b' + cost (own1 u1) s = b → c' + cost (own2 u2) s = c → Q (.rt s.toD) (rest.set n (left a' b' c'))) :
    Ev p (evS cf (sch 9) (env p cs n deep U w way x7 x8 x9 x10)) rest Q := by
  rw [show sch 9 = .ret (.tup (.cons (.sub (.lst false (.cons (.cst (.str "half")) (.cons (.cst (.str "carry")) .nil))) (.bin .mod (.loc 6) (.cst (.int 2)))) (.cons (.call 26 (.cons (.loc 0) (.cons (.loc 1) (.cons (.loc 2) (.cons (.bin .sub (.loc 3) (.cst (.int 1))) (.cons (.loc 4) .nil)))))) .nil))) from rfl]
  simp only [evSs, evS, evE, evEs, evAnd, evOr, evO, evC, evIt, startD, List.map_cons, List.map_nil, List.length_cons, List.length_nil, List.cons_append, List.nil_append, List.replicate, List.getElem?_cons_zero, List.getElem?_cons_succ, Option.join_some, List.set_cons_zero, List.set_cons_succ, fromO_some, bnd_ret, bnd_assoc, constD, cmpD, binD, biD, bindT, setAll, asB_bnd, asB_bl, if_true, if_false, Bool.false_eq_true, Bool.not_true, Bool.not_false, LE0, LE1, LE2, LE3, LE4, nl2, pick2k, sub_int, deep1 hd]
  refine rec_ev (a := a) (b := b) (c := c) ih hd ⟨_, hl, (set_same hl).symm⟩ hr (by omega) (by omega) fun s a' b' c' gs k1 k2 k3 => ?_
  have z := q1 (.hc (way % 2 == 1) s) a' b' c' (.mk trivial fun k hk => by rw [List.mem_singleton.mp hk]; exact gs) (by simp only [cost]; omega) (by simp only [cost, own1]; omega) (by simp only [cost, own2]; omega)
  rw [Sch.toD] at z
  try simp only [evSs, evS, evE, evEs, evAnd, evOr, evO, evC, evIt, startD, List.map_cons, List.map_nil, List.length_cons, List.length_nil, List.cons_append, List.nil_append, List.replicate, List.getElem?_cons_zero, List.getElem?_cons_succ, Option.join_some, List.set_cons_zero, List.set_cons_succ, fromO_some, bnd_ret, bnd_assoc, constD, cmpD, binD, biD, bindT, setAll, asB_bnd, asB_bl, if_true, if_false, Bool.false_eq_true, Bool.not_true, Bool.not_false, LE0, LE1, LE2, LE3, LE4]
  refine .ret ?_
  cases h : (way % 2 == 1) with
  | true =>
    simp only [h, if_true] at z ⊢
    exact z
  | false =>
    simp only [h, if_false, Bool.false_eq_true] at z ⊢
    exact z
/-- the whole, one deep -/
theorem sch_all (tk : TakeEv p cf) (ih : deep ≠ 0 → SchEv p n num many u1 u2 (deep - 1) (cf 26 (recArgs p cs n deep U))) (hc : Ltrs cs) (uo : UsesOk num many u1 u2 U) (hr : flatCs rest = true) (hl : rest[n]? = some (left a b c)) (ha : 1 ≤ a) (hb : 1 ≤ b) {Q : D → List Cell → Prop}
    (q : ∀ s a' b' c' ex, Good num many (deep + 1) s → a' + cost (fun _ => 1) s = a → b' + cost (own1 u1) s = b → c' + cost (own2 u2) s = c → Q s.toD (rest.set n (left a' b' c') ++ ex)) :
    Ev p (evSs cf c_law_scheme (startD 11 [bx p, .fl (ltrs cs), rf p n, .int deep, usesD U])) rest fun fl r => Q (retD fl) r := by
  have hi := hc.hi
  have lo := hc.lo
  have ll : (ltrs cs).length = cs.length := by simp [ltrs]
  have ea : ((a : Nat) : Int) - 1 = ((a - 1 : Nat) : Int) := by omega
  have q' : ∀ s a' b' c' ex, Good num many (deep + 1) s → a' + cost (fun _ => 1) s = a - 1 + 1 → b' + cost (own1 u1) s = b → c' + cost (own2 u2) s = c → Q (retD (.rt s.toD)) ((rest.set n (left (a - 1) b c)).set n (left a' b' c') ++ ex) := fun s a' b' c' ex g k1 k2 k3 => by
    rw [left_set]
    exact q s a' b' c' ex g (by omega) k2 k3
  have q0 : ∀ s a' b' c', Good num many (deep + 1) s → a' + cost (fun _ => 1) s = a - 1 + 1 → b' + cost (own1 u1) s = b → c' + cost (own2 u2) s = c → Q (retD (.rt s.toD)) ((rest.set n (left (a - 1) b c)).set n (left a' b' c')) := fun s a' b' c' g k1 k2 k3 => by
    have := q' s a' b' c' [] g k1 k2 k3
    rw [List.append_nil] at this
    exact this
  have hl1 := left_get (y := left (a - 1) b c) hl
  have f1 : flatCs (rest.set n (left (a - 1) b c)) = true := flat_set hr rfl
  rw [sch_code, evSs_step]
  rw [show sch 0 = .seti (.loc 2) (.cst (.int 0)) (.bin .sub (.sub (.loc 2) (.cst (.int 0))) (.cst (.int 1))) from rfl]
  refine .then (R := fun fl r => fl = .nx (startD 11 [bx p, .fl (ltrs cs), rf p n, .int deep, usesD U]) ∧ r = rest.set n (left (a - 1) b c)) ?_ ?_
  · simp only [evSs, evS, evE, evEs, evAnd, evOr, evO, evC, evIt, startD, List.map_cons, List.map_nil, List.length_cons, List.length_nil, List.cons_append, List.nil_append, List.replicate, List.getElem?_cons_zero, List.getElem?_cons_succ, Option.join_some, List.set_cons_zero, List.set_cons_succ, fromO_some, bnd_ret, bnd_assoc, constD, cmpD, binD, biD, bindT, setAll, asB_bnd, asB_bl, if_true, if_false, Bool.false_eq_true, Bool.not_true, Bool.not_false, LE0, LE1, LE2, LE3, LE4]
    refine .step (fun l s => rf_at hl at0) ?_
    simp only [evSs, evS, evE, evEs, evAnd, evOr, evO, evC, evIt, startD, List.map_cons, List.map_nil, List.length_cons, List.length_nil, List.cons_append, List.nil_append, List.replicate, List.getElem?_cons_zero, List.getElem?_cons_succ, Option.join_some, List.set_cons_zero, List.set_cons_succ, fromO_some, bnd_ret, bnd_assoc, constD, cmpD, binD, biD, bindT, setAll, asB_bnd, asB_bl, if_true, if_false, Bool.false_eq_true, Bool.not_true, Bool.not_false, LE0, LE1, LE2, LE3, LE4, sub_int, ea]
    refine .step (fun l s => rf_set hl (nix (m := 3) (i := 0) (by decide)) _) (.ret ⟨rfl, rfl⟩)
  rintro _ _ ⟨rfl, rfl⟩
  try dsimp only
  rw [evSs_step, show sch 1 = .asg (.name 5) (.sub (.loc 1) (.call 23 (.cons (.loc 0) (.cons (.bi .len (.cons (.loc 1) .nil)) .nil)))) from rfl]
  refine .then (R := fun fl r => (∃ w, w ∈ letters ∧ fl = .nx [some (bx p), some (.fl (ltrs cs)), some (rf p n), some (.int deep), some (usesD U), some (.str (S1 w)), none, none, none, none, none]) ∧ r = rest.set n (left (a - 1) b c)) ?_ ?_
  · simp only [evSs, evS, evE, evEs, evAnd, evOr, evO, evC, evIt, startD, List.map_cons, List.map_nil, List.length_cons, List.length_nil, List.cons_append, List.nil_append, List.replicate, List.getElem?_cons_zero, List.getElem?_cons_succ, Option.join_some, List.set_cons_zero, List.set_cons_succ, fromO_some, bnd_ret, bnd_assoc, constD, cmpD, binD, biD, bindT, setAll, asB_bnd, asB_bl, if_true, if_false, Bool.false_eq_true, Bool.not_true, Bool.not_false, LE0, LE1, LE2, LE3, LE4, len_fl, ll]
    refine tk _ _ _ _ f1 (by omega) (by omega) fun j hj => ?_
    have hj2 : j < cs.length := by omega
    have ej : atI (ltrs cs) (j : Int) = some (.str (S1 cs[j])) := at_nat (by simp [ltrs, hj2])
    simp only [ix_fl, ej, evSs, evS, evE, evEs, evAnd, evOr, evO, evC, evIt, startD, List.map_cons, List.map_nil, List.length_cons, List.length_nil, List.cons_append, List.nil_append, List.replicate, List.getElem?_cons_zero, List.getElem?_cons_succ, Option.join_some, List.set_cons_zero, List.set_cons_succ, fromO_some, bnd_ret, bnd_assoc, constD, cmpD, binD, biD, bindT, setAll, asB_bnd, asB_bl, if_true, if_false, Bool.false_eq_true, Bool.not_true, Bool.not_false, LE0, LE1, LE2, LE3, LE4]
    exact .ret ⟨⟨_, hc.mem _ (List.getElem_mem hj2), rfl⟩, rfl⟩
  rintro _ _ ⟨⟨w, hw, rfl⟩, rfl⟩
  try dsimp only
  rw [evSs_step, show sch 2 = .asg (.name 6) (.call 23 (.cons (.loc 0) (.cons (.cst (.int 16)) .nil))) from rfl]
  refine .then (R := fun fl r => (∃ way : Nat, way < 16 ∧ fl = .nx (env p cs n deep U w way none none none none)) ∧ r = rest.set n (left (a - 1) b c)) ?_ ?_
  · simp only [evSs, evS, evE, evEs, evAnd, evOr, evO, evC, evIt, startD, List.map_cons, List.map_nil, List.length_cons, List.length_nil, List.cons_append, List.nil_append, List.replicate, List.getElem?_cons_zero, List.getElem?_cons_succ, Option.join_some, List.set_cons_zero, List.set_cons_succ, fromO_some, bnd_ret, bnd_assoc, constD, cmpD, binD, biD, bindT, setAll, asB_bnd, asB_bl, if_true, if_false, Bool.false_eq_true, Bool.not_true, Bool.not_false, LE0, LE1, LE2, LE3, LE4]
    refine tk _ _ _ _ f1 (by decide) (by decide) fun j hj => ?_
    try simp only [evSs, evS, evE, evEs, evAnd, evOr, evO, evC, evIt, startD, List.map_cons, List.map_nil, List.length_cons, List.length_nil, List.cons_append, List.nil_append, List.replicate, List.getElem?_cons_zero, List.getElem?_cons_succ, Option.join_some, List.set_cons_zero, List.set_cons_succ, fromO_some, bnd_ret, bnd_assoc, constD, cmpD, binD, biD, bindT, setAll, asB_bnd, asB_bl, if_true, if_false, Bool.false_eq_true, Bool.not_true, Bool.not_false, LE0, LE1, LE2, LE3, LE4]
    exact .ret ⟨⟨j, by omega, rfl⟩, rfl⟩
  rintro _ _ ⟨⟨way, hway, rfl⟩, rfl⟩
  try dsimp only
  rw [evSs_step]
  refine .bnd (sch3 tk f1 hl1 hb (fun i i1 i2 => .ret (q0 (.step w i) (a - 1) (b - 1) c (.mk ⟨hw, i1, i2⟩ fun k hk => nomatch hk) (by simp only [cost]) (by simp only [cost, own1]; omega) (by simp only [cost, own2]; omega))) fun d0 a2 b2 _ => ?_)
  try dsimp only
  have ih := ih d0
  rw [evSs_step]
  refine .bnd (sch4 tk f1 hl1 uo hway (fun i i1 i2 i3 i4 => .ret (q0 (.use i) (a - 1) (b - u1 i) (c - u2 i) (.mk ⟨i1, i2⟩ fun k hk => nomatch hk) (by simp only [cost]) (by simp only [cost, own1]; omega) (by simp only [cost, own2]; omega))) fun y7 => ?_)
  try dsimp only
  rw [evSs_step]
  refine .bnd (sch5 tk ih d0 f1 hl1 a2 b2 (fun s a' b' c' ex g k1 k2 k3 => .ret (q' s a' b' c' ex g k1 k2 k3)) ?_)
  try dsimp only
  rw [evSs_step]
  refine .bnd (sch6 ih d0 f1 hl1 a2 b2 hw (fun s a' b' c' g k1 k2 k3 => .ret (q0 s a' b' c' g k1 k2 k3)) ?_)
  try dsimp only
  rw [evSs_step]
  refine .bnd (sch7 tk ih d0 f1 hl1 a2 b2 hw (fun s a' b' c' g k1 k2 k3 => .ret (q0 s a' b' c' g k1 k2 k3)) ?_)
  try dsimp only
  rw [evSs_step]
  refine .bnd (sch8 tk ih d0 f1 hl1 a2 b2 (fun s a' b' c' g k1 k2 k3 => .ret (q0 s a' b' c' g k1 k2 k3)) ?_)
  try dsimp only
  rw [evSs_step]
  exact .bnd (sch9 ih d0 f1 hl1 a2 b2 (fun s a' b' c' g k1 k2 k3 => .ret (q0 s a' b' c' g k1 k2 k3)))
theorem takeEv {k : Nat} (h : At T 23 c_law_take 2 3) (hp : flatCs p = true) : TakeEv p (evF T (k + 1)) := fun rest m kf Q hr h0 h1 q => .take h hp hr h0 h1 q
/-- the law's scheme -/
theorem scheme_ev (h : At T 23 c_law_take 2 3) (h2 : At T 26 c_law_scheme 5 11) (hp : flatCs p = true) (hc : Ltrs cs) (uo : UsesOk num many u1 u2 U) : ∀ (deep k : Nat), SchEv p n num many u1 u2 deep (evF T (deep + k + 2) 26 [bx p, .fl (ltrs cs), rf p n, .int deep, usesD U])
  | deep, k => fun rest a b c Q hl hr ha hb q => by
    have ih : deep ≠ 0 → SchEv p n num many u1 u2 (deep - 1) (evF T (deep + k + 1) 26 (recArgs p cs n deep U)) := fun d0 => by
      obtain ⟨d, rfl⟩ : ∃ d, deep = d + 1 := ⟨deep - 1, by omega⟩
      have z := scheme_ev h h2 hp hc uo d k
      have e : d + 1 + k + 1 = d + k + 2 := by omega
      rw [e]
      exact z
    have tk : TakeEv p (evF T (deep + k + 1)) := takeEv h hp
    have ln := (List.getElem?_eq_some_iff.mp hl).1
    refine .call h2 rfl hp ((sch_all tk ih hc uo hr hl ha hb (Q := fun d r => ∃ r1 ex, r = r1 ++ ex ∧ r1.length = rest.length ∧ flatCs r1 = true ∧ frozen d = true ∧ Q d r1) fun s a' b' c' ex g k1 k2 k3 => ⟨_, ex, rfl, by simp, flat_set hr rfl, toD_frozen s, q s a' b' c' g k1 k2 k3⟩).imp fun fl r z => z)
end
end Ev
end
section
set_option Elab.async false
set_option linter.all false
set_option maxRecDepth 100000
set_option maxHeartbeats 2000000
/-! What a scheme asks: counted. -/
namespace Ev
open PySem L2 Ms Cod
theorem cost_congr {f g : Sch → Nat} {num many : Nat} (hfg : ∀ s : Sch, s.here num many → f s = g s) : ∀ {d : Nat} {s : Sch}, Good num many d s → cost f s = cost g s := fun {d s} h => by
  induction h with
  | mk h3 h4 ih =>
    rw [cost_kids, cost_kids, hfg _ h3, costs_map, costs_map]
    congr 2
    exact List.map_congr_left fun k hk => ih k hk
theorem own1_congr {u v : Nat → Nat} {num many : Nat} (h : ∀ k, num < k → k < many → u k = v k) : ∀ s : Sch, s.here num many → own1 u s = own1 v s := fun s hs => by
  cases s with
  | use k => exact h k hs.1 hs.2
  | _ => rfl
theorem own2_congr {u v : Nat → Nat} {num many : Nat} (h : ∀ k, num < k → k < many → u k = v k) : ∀ s : Sch, s.here num many → own2 u s = own2 v s := fun s hs => by
  cases s with
  | use k => exact h k hs.1 hs.2
  | _ => rfl
theorem isi_toD (s : Sch) : isiD "tuple" s.toD = Ms.ret (.bl true) := by
  rw [toD_parts]
  exact isi_tup "tuple" _ rfl
theorem many_head (s : Sch) : inFlat (.str s.head) [.str "all", .str "best"] = (match s with | .many .. => true | _ => false) := by
  have e : ∀ k : Fin 10, inFlat (.str (headK k)) [.str "all", .str "best"] = decide (k = 1 ∨ k = 2) := by decide +kernel
  rw [e]
  cases s with
  | many b ks => cases b <;> rfl
  | gate b w s => cases b <;> rfl
  | hc b s => cases b <;> rfl
  | _ => rfl
theorem cut_last (xs : List D) (d : D) : cutD (xs ++ [d]) (some (-1)) none = [d] := by
  unfold cutD
  rw [HT.sIx_none]
  have e : HT.sIx (xs ++ [d]).length 0 (some (-1)) = xs.length := by
    show (if (-1 : Int) < 0 then ((-1 : Int) + ((xs ++ [d]).length : Int)).toNat else min (-1 : Int).toNat (xs ++ [d]).length) = _
    rw [if_pos (by decide), List.length_append, List.length_singleton]
    omega
  rw [e]
  simp
def cntBody : Ss := match c_law_counted with
  | .cons _ (.cons _ (.cons (.for_ _ _ b) _)) => b
  | _ => .nil
section
variable {T : List FD} {cf : Nat → List D → M D} {num many : Nat} {u1 u2 : Nat → Nat} {U : List Use3}
theorem cnt_loop {f1 f2 : Sch → Nat} {x0 x2 : Option D} : ∀ (ks : List Sch) (a b : Nat) (t4 t5 : Option D), (∀ s ∈ ks, cf 27 [s.toD, usesD U] = Ms.ret (.tup [.int (f1 s), .int (f2 s)])) →
    ∃ y4 y5, forL [] (bindT (.name 4)) (evSs cf cntBody) (ks.map Sch.toD) [x0, some (usesD U), x2, some (.fl [.int a, .int b]), t4, t5] = Ms.ret (.nx [x0, some (usesD U), x2, some (.fl [.int ((a + (ks.map f1).sum : Nat) : Int), .int ((b + (ks.map f2).sum : Nat) : Int)]), y4, y5])
  | [], a, b, t4, t5, _ => ⟨t4, t5, by
    rw [List.map_nil]
    unfold forL
    rw [chk_nil, bnd_ret]
    rfl⟩
  | s :: ks, a, b, t4, t5, h => by
    obtain ⟨y4, y5, q⟩ := cnt_loop (f1 := f1) (f2 := f2) (x0 := x0) (x2 := x2) ks (a + f1 s) (b + f2 s) (some s.toD) (some (.tup [.int (f1 s), .int (f2 s)])) fun v hv => h v (List.mem_cons_of_mem _ hv)
    refine ⟨y4, y5, ?_⟩
    have i0 : ∀ x y : D, idxD (.fl [x, y]) (.int 0) = Ms.ret x := fun x y => ix_fl _ _
    have i1 : ∀ x y : D, idxD (.fl [x, y]) (.int 1) = Ms.ret y := fun x y => ix_fl _ _
    have j0 : ∀ x y : D, idxD (.tup [x, y]) (.int 0) = Ms.ret x := fun x y => ix_tup _ _
    have j1 : ∀ x y : D, idxD (.tup [x, y]) (.int 1) = Ms.ret y := fun x y => ix_tup _ _
    have b1 : evSs cf cntBody [x0, some (usesD U), x2, some (.fl [.int a, .int b]), some s.toD, t5] = Ms.ret (.nx [x0, some (usesD U), x2, some (.fl [.int ((a + f1 s : Nat) : Int), .int ((b + f2 s : Nat) : Int)]), some s.toD, some (.tup [.int (f1 s), .int (f2 s)])]) := by
      have e1 : ((a : Nat) : Int) + ((f1 s : Nat) : Int) = ((a + f1 s : Nat) : Int) := by omega
      have e2 : ((b : Nat) : Int) + ((f2 s : Nat) : Int) = ((b + f2 s : Nat) : Int) := by omega
      simp only [cntBody, c_law_counted, evSs, evS, evE, evEs, evAnd, evOr, evO, evC, evIt, startD, List.map_cons, List.map_nil, List.length_cons, List.length_nil, List.cons_append, List.nil_append, List.replicate, List.getElem?_cons_zero, List.getElem?_cons_succ, Option.join_some, List.set_cons_zero, List.set_cons_succ, fromO_some, bnd_ret, bnd_assoc, constD, cmpD, binD, biD, bindT, setAll, asB_bnd, asB_bl, if_true, if_false, Bool.false_eq_true, Bool.not_true, Bool.not_false, LE0, LE1, LE2, LE3, LE4, isi_toD, h s List.mem_cons_self, i0, i1, j0, j1, add_int, e1, e2, nl2]
    rw [List.map_cons]
    conv => lhs; unfold forL
    rw [chk_nil, bnd_ret]
    show bnd (evSs cf cntBody [x0, some (usesD U), x2, some (.fl [.int a, .int b]), some s.toD, t5]) _ = _
    rw [b1, bnd_ret]
    show forL [] (bindT (.name 4)) (evSs cf cntBody) (ks.map Sch.toD) _ = _
    rw [q]
    simp only [List.map_cons, List.sum_cons, Nat.add_assoc]
def cnt (i : Nat) : S := stAt i c_law_counted
theorem cnt_code : c_law_counted = .cons (cnt 0) (.cons (cnt 1) (.cons (.for_ (.name 4) (.val (.ite (.cmp .in_ (.sub (.loc 0) (.cst (.int 0))) (.tup (.cons (.cst (.str "all")) (.cons (.cst (.str "best")) .nil)))) (.sub (.loc 0) (.cst (.int 1))) (.slice (.loc 0) (.some (.neg (.cst (.int 1)))) .none))) cntBody) (.cons (.ret (.bi .tuple (.cons (.loc 3) .nil))) .nil))) := rfl
theorem oU : PyData.strOk ("use" : Str) = true := by decide +kernel
theorem cnt_use (uo : UsesOk num many u1 u2 U) {u : Use3} (um : u ∈ U) : evS cf (cnt 0) [some (Sch.use u.1).toD, some (usesD U), none, none, none, none] = Ms.ret (.rt (.tup [.int ((u1 u.1 : Nat) : Int), .int ((u2 u.1 : Nat) : Int)])) := by
  have ul := uo.len
  obtain ⟨us, hus⟩ : ∃ us, us = U.filter fun v => decide (v.1 = u.1) := ⟨_, rfl⟩
  have usl : us.length ≤ 10 := by
    rw [hus]
    exact Nat.le_trans (List.length_filter_le _ _) ul
  have lp : ∀ η, lcL [] (fun d => bindT (.name 2) d (wipeD [some (Sch.use u.1).toD, some (usesD U), none, none, none, none] [2])) (evC cf (.some (.cmp .eq (.sub (.loc 2) (.cst (.int 0))) (.sub (.loc 0) (.cst (.int 1)))))) (evE cf (.slice (.loc 2) (.some (.cst (.int 1))) .none)) (U.map useD) [] η = .ok (us.map fun v => .tup [.int v.2.1, .int v.2.2]) η := fun η => by
    have q := lc_fm (bind := fun d => bindT (.name 2) d (wipeD [some (Sch.use u.1).toD, some (usesD U), none, none, none, none] [2])) (cond := evC cf (.some (.cmp .eq (.sub (.loc 2) (.cst (.int 0))) (.sub (.loc 0) (.cst (.int 1)))))) (elt := evE cf (.slice (.loc 2) (.some (.cst (.int 1))) .none)) (e := useD) (g := fun v => if decide (v.1 = u.1) = true then some (.tup [.int v.2.1, .int v.2.2]) else none) (η := η) (xs := U) (acc := []) (by simp; omega) fun v hv => ⟨_, rfl, by
        simp only [evSs, evS, evE, evEs, evAnd, evOr, evO, evC, evIt, startD, List.map_cons, List.map_nil, List.length_cons, List.length_nil, List.cons_append, List.nil_append, List.replicate, List.getElem?_cons_zero, List.getElem?_cons_succ, Option.join_some, List.set_cons_zero, List.set_cons_succ, fromO_some, bnd_ret, bnd_assoc, constD, cmpD, binD, biD, bindT, setAll, asB_bnd, asB_bl, if_true, if_false, Bool.false_eq_true, Bool.not_true, Bool.not_false, LE0, LE1, LE2, LE3, LE4, wipeD, useD_0, ix1_use (s := .use u.1) (k := u.1) rfl, eq_int, beqN]
        cases decide (v.1 = u.1) <;> rfl, fun y hy => by
        cases hq : decide (v.1 = u.1) with
        | false => rw [hq] at hy; cases hy
        | true =>
          rw [hq] at hy
          cases hy
          have ct : sliceD (useD v) (some 1) none = Ms.ret (.tup [.int v.2.1, .int v.2.2]) := by
            unfold useD
            rw [sl_tup, cut_tail]
          simp only [evSs, evS, evE, evEs, evAnd, evOr, evO, evC, evIt, startD, List.map_cons, List.map_nil, List.length_cons, List.length_nil, List.cons_append, List.nil_append, List.replicate, List.getElem?_cons_zero, List.getElem?_cons_succ, Option.join_some, List.set_cons_zero, List.set_cons_succ, fromO_some, bnd_ret, bnd_assoc, constD, cmpD, binD, biD, bindT, setAll, asB_bnd, asB_bl, if_true, if_false, Bool.false_eq_true, Bool.not_true, Bool.not_false, LE0, LE1, LE2, LE3, LE4, wipeD, asI_int, ct]
          rfl⟩
    rw [q, List.nil_append, hus]
    congr 1
    exact fm_ifG _ _ U
  have it : itVal (usesD U) = Ms.ret (U.map useD, []) := rfl
  have uin : u ∈ us := by
    rw [hus]
    exact List.mem_filter.mpr ⟨um, decide_eq_true rfl⟩
  obtain ⟨v, vr, hus2⟩ : ∃ v vr, us = v :: vr := by
    cases us with
    | nil => cases uin
    | cons v vr => exact ⟨v, vr, rfl⟩
  have vin : v ∈ us := by rw [hus2]; exact List.mem_cons_self
  rw [hus] at vin
  obtain ⟨v1, v2⟩ := List.mem_filter.mp vin
  have v3 : v.1 = u.1 := of_decide_eq_true v2
  obtain ⟨_, _, w1, w2⟩ := uo.ok v v1
  have ll : (us.map fun v => D.tup [.int v.2.1, .int v.2.2]).length ≤ LIM := by
    simp
    exact Nat.le_trans usl (by decide)
  have a0 : atI (us.map fun v => D.tup [.int v.2.1, .int v.2.2]) 0 = some (.tup [.int v.2.1, .int v.2.2]) := by
    rw [hus2]
    exact at_nat (i := 0) rfl
  have hd : (Sch.head (.use u.1) == ("use" : Str)) = true := use_head (.use u.1)
  have i0 : idxD (Sch.use u.1).toD (.int 0) = Ms.ret (.str (Sch.head (.use u.1))) := ix0_toD _
  rw [show cnt 0 = .if_ (.cmp .eq (.sub (.loc 0) (.cst (.int 0))) (.cst (.str "use"))) (.cons (.ret (.sub (.lc false [2] (.name 2) (.val (.loc 1)) (.some (.cmp .eq (.sub (.loc 2) (.cst (.int 0))) (.sub (.loc 0) (.cst (.int 1))))) (.slice (.loc 2) (.some (.cst (.int 1))) .none)) (.cst (.int 0)))) .nil) .nil from rfl]
  funext η
  have lp := lp η
  simp only [evSs, evS, evE, evEs, evAnd, evOr, evO, evC, evIt, startD, List.map_cons, List.map_nil, List.length_cons, List.length_nil, List.cons_append, List.nil_append, List.replicate, List.getElem?_cons_zero, List.getElem?_cons_succ, Option.join_some, List.set_cons_zero, List.set_cons_succ, fromO_some, bnd_ret, bnd_assoc, constD, cmpD, binD, biD, bindT, setAll, asB_bnd, asB_bl, if_true, if_false, Bool.false_eq_true, Bool.not_true, Bool.not_false, LE0, LE1, LE2, LE3, LE4] at lp
  simp only [evSs, evS, evE, evEs, evAnd, evOr, evO, evC, evIt, startD, List.map_cons, List.map_nil, List.length_cons, List.length_nil, List.cons_append, List.nil_append, List.replicate, List.getElem?_cons_zero, List.getElem?_cons_succ, Option.join_some, List.set_cons_zero, List.set_cons_succ, fromO_some, bnd_ret, bnd_assoc, constD, cmpD, binD, biD, bindT, setAll, asB_bnd, asB_bl, if_true, if_false, Bool.false_eq_true, Bool.not_true, Bool.not_false, LE0, LE1, LE2, LE3, LE4, i0, head_eq _ _ oU, hd, it]
  rw [bnd_ok lp, newL_f ll]
  simp only [evSs, evS, evE, evEs, evAnd, evOr, evO, evC, evIt, startD, List.map_cons, List.map_nil, List.length_cons, List.length_nil, List.cons_append, List.nil_append, List.replicate, List.getElem?_cons_zero, List.getElem?_cons_succ, Option.join_some, List.set_cons_zero, List.set_cons_succ, fromO_some, bnd_ret, bnd_assoc, constD, cmpD, binD, biD, bindT, setAll, asB_bnd, asB_bl, if_true, if_false, Bool.false_eq_true, Bool.not_true, Bool.not_false, LE0, LE1, LE2, LE3, LE4, ix_fl, a0, w1, w2, v3]
theorem cnt_pass {s : Sch} (hu : isUse s = none) : evS cf (cnt 0) [some s.toD, some (usesD U), none, none, none, none] = Ms.ret (.nx [some s.toD, some (usesD U), none, none, none, none]) := by
  have hd : (s.head == ("use" : Str)) = false := by rw [use_head, hu]; rfl
  generalize hB : (Ss.cons (.ret (.sub (.lc false [2] (.name 2) (.val (.loc 1)) (.some (.cmp .eq (.sub (.loc 2) (.cst (.int 0))) (.sub (.loc 0) (.cst (.int 1))))) (.slice (.loc 2) (.some (.cst (.int 1))) .none)) (.cst (.int 0)))) .nil) = B
  have e : cnt 0 = .if_ (.cmp .eq (.sub (.loc 0) (.cst (.int 0))) (.cst (.str "use"))) B .nil := by
    rw [← hB]
    rfl
  rw [e]
  simp only [evSs, evS, evE, evEs, evAnd, evOr, evO, evC, evIt, startD, List.map_cons, List.map_nil, List.length_cons, List.length_nil, List.cons_append, List.nil_append, List.replicate, List.getElem?_cons_zero, List.getElem?_cons_succ, Option.join_some, List.set_cons_zero, List.set_cons_succ, fromO_some, bnd_ret, bnd_assoc, constD, cmpD, binD, biD, bindT, setAll, asB_bnd, asB_bl, if_true, if_false, Bool.false_eq_true, Bool.not_true, Bool.not_false, LE0, LE1, LE2, LE3, LE4, ix0_toD, head_eq _ _ oU, hd]
theorem cnt_own {s : Sch} (hu : isUse s = none) : evS cf (cnt 1) [some s.toD, some (usesD U), none, none, none, none] = Ms.ret (.nx [some s.toD, some (usesD U), none, some (.fl [.int ((own1 u1 s : Nat) : Int), .int ((own2 u2 s : Nat) : Int)]), none, none]) := by
  have o1 : own1 u1 s = if isLeaf s = true then 1 else 0 := by cases s <;> first | rfl | cases hu
  have o2 : own2 u2 s = if isGate s = true then 1 else 0 := by cases s <;> first | rfl | cases hu
  have iB : ∀ b : Bool, intD [.bl b] = Ms.ret (.int (((if b = true then 1 else 0) : Nat) : Int)) := fun b => by cases b <;> rfl
  rw [show cnt 1 = .asg (.name 3) (.lst false (.cons (.bi .int (.cons (.cmp .in_ (.sub (.loc 0) (.cst (.int 0))) (.tup (.cons (.cst (.str "step")) (.cons (.cst (.str "end")) .nil)))) .nil)) (.cons (.bi .int (.cons (.cmp .in_ (.sub (.loc 0) (.cst (.int 0))) (.tup (.cons (.cst (.str "seen")) (.cons (.cst (.str "behind")) .nil)))) .nil)) .nil))) from rfl]
  simp only [evSs, evS, evE, evEs, evAnd, evOr, evO, evC, evIt, startD, List.map_cons, List.map_nil, List.length_cons, List.length_nil, List.cons_append, List.nil_append, List.replicate, List.getElem?_cons_zero, List.getElem?_cons_succ, Option.join_some, List.set_cons_zero, List.set_cons_succ, fromO_some, bnd_ret, bnd_assoc, constD, cmpD, binD, biD, bindT, setAll, asB_bnd, asB_bl, if_true, if_false, Bool.false_eq_true, Bool.not_true, Bool.not_false, LE0, LE1, LE2, LE3, LE4, ix0_toD, in_two, leaf_head, gate_head, iB, nl2, o1, o2]
/-- the walk's list -/
theorem cnt_items {s : Sch} (hu : isUse s = none) {x3 : Option D} : evIt cf (.val (.ite (.cmp .in_ (.sub (.loc 0) (.cst (.int 0))) (.tup (.cons (.cst (.str "all")) (.cons (.cst (.str "best")) .nil)))) (.sub (.loc 0) (.cst (.int 1))) (.slice (.loc 0) (.some (.neg (.cst (.int 1)))) .none))) [some s.toD, some (usesD U), none, x3, none, none] =
    Ms.ret (match s with | .step _ n => [.int n] | s => s.kids.map Sch.toD, []) := by
  have i1 : ∀ b ks, idxD (Sch.many b ks).toD (.int 1) = Ms.ret (.tup (ks.map Sch.toD)) := fun b ks => by
    rw [Sch.toD, ix_tup, show (1 : Int) = ((1 : Nat) : Int) from rfl, at_nat (i := 1) rfl, toDs_map]
    rfl
  have last : ∀ (l : List D) (x : D), s.toD = .tup (l ++ [x]) → sliceD s.toD (some (-1)) none = Ms.ret (.tup [x]) := fun l x h1 => by rw [h1, sl_tup, cut_last]
  simp only [evSs, evS, evE, evEs, evAnd, evOr, evO, evC, evIt, startD, List.map_cons, List.map_nil, List.length_cons, List.length_nil, List.cons_append, List.nil_append, List.replicate, List.getElem?_cons_zero, List.getElem?_cons_succ, Option.join_some, List.set_cons_zero, List.set_cons_succ, fromO_some, bnd_ret, bnd_assoc, constD, cmpD, binD, biD, bindT, setAll, asB_bnd, asB_bl, if_true, if_false, Bool.false_eq_true, Bool.not_true, Bool.not_false, LE0, LE1, LE2, LE3, LE4, ix0_toD, in_two, many_head]
  cases s with
  | many b ks => simp only [evSs, evS, evE, evEs, evAnd, evOr, evO, evC, evIt, startD, List.map_cons, List.map_nil, List.length_cons, List.length_nil, List.cons_append, List.nil_append, List.replicate, List.getElem?_cons_zero, List.getElem?_cons_succ, Option.join_some, List.set_cons_zero, List.set_cons_succ, fromO_some, bnd_ret, bnd_assoc, constD, cmpD, binD, biD, bindT, setAll, asB_bnd, asB_bl, if_true, if_false, Bool.false_eq_true, Bool.not_true, Bool.not_false, LE0, LE1, LE2, LE3, LE4, i1, it_tup, Sch.kids]
  | use k => cases hu
  | step w n => simp only [evSs, evS, evE, evEs, evAnd, evOr, evO, evC, evIt, startD, List.map_cons, List.map_nil, List.length_cons, List.length_nil, List.cons_append, List.nil_append, List.replicate, List.getElem?_cons_zero, List.getElem?_cons_succ, Option.join_some, List.set_cons_zero, List.set_cons_succ, fromO_some, bnd_ret, bnd_assoc, constD, cmpD, binD, biD, bindT, setAll, asB_bnd, asB_bl, if_true, if_false, Bool.false_eq_true, Bool.not_true, Bool.not_false, LE0, LE1, LE2, LE3, LE4, neg_int, asI_int, last [.str "step", .str (S1 w)] (.int n) (by rw [Sch.toD]; rfl), it_tup]
  | gate b w s => simp only [evSs, evS, evE, evEs, evAnd, evOr, evO, evC, evIt, startD, List.map_cons, List.map_nil, List.length_cons, List.length_nil, List.cons_append, List.nil_append, List.replicate, List.getElem?_cons_zero, List.getElem?_cons_succ, Option.join_some, List.set_cons_zero, List.set_cons_succ, fromO_some, bnd_ret, bnd_assoc, constD, cmpD, binD, biD, bindT, setAll, asB_bnd, asB_bl, if_true, if_false, Bool.false_eq_true, Bool.not_true, Bool.not_false, LE0, LE1, LE2, LE3, LE4, neg_int, asI_int, last [_, .str (S1 w)] s.toD (by rw [Sch.toD]; rfl), it_tup, Sch.kids]
  | fin w n s => simp only [evSs, evS, evE, evEs, evAnd, evOr, evO, evC, evIt, startD, List.map_cons, List.map_nil, List.length_cons, List.length_nil, List.cons_append, List.nil_append, List.replicate, List.getElem?_cons_zero, List.getElem?_cons_succ, Option.join_some, List.set_cons_zero, List.set_cons_succ, fromO_some, bnd_ret, bnd_assoc, constD, cmpD, binD, biD, bindT, setAll, asB_bnd, asB_bl, if_true, if_false, Bool.false_eq_true, Bool.not_true, Bool.not_false, LE0, LE1, LE2, LE3, LE4, neg_int, asI_int, last [_, .str (S1 w), .int n] s.toD (by rw [Sch.toD]; rfl), it_tup, Sch.kids]
  | most n s => simp only [evSs, evS, evE, evEs, evAnd, evOr, evO, evC, evIt, startD, List.map_cons, List.map_nil, List.length_cons, List.length_nil, List.cons_append, List.nil_append, List.replicate, List.getElem?_cons_zero, List.getElem?_cons_succ, Option.join_some, List.set_cons_zero, List.set_cons_succ, fromO_some, bnd_ret, bnd_assoc, constD, cmpD, binD, biD, bindT, setAll, asB_bnd, asB_bl, if_true, if_false, Bool.false_eq_true, Bool.not_true, Bool.not_false, LE0, LE1, LE2, LE3, LE4, neg_int, asI_int, last [_, .int n] s.toD (by rw [Sch.toD]; rfl), it_tup, Sch.kids]
  | hc b s => simp only [evSs, evS, evE, evEs, evAnd, evOr, evO, evC, evIt, startD, List.map_cons, List.map_nil, List.length_cons, List.length_nil, List.cons_append, List.nil_append, List.replicate, List.getElem?_cons_zero, List.getElem?_cons_succ, Option.join_some, List.set_cons_zero, List.set_cons_succ, fromO_some, bnd_ret, bnd_assoc, constD, cmpD, binD, biD, bindT, setAll, asB_bnd, asB_bl, if_true, if_false, Bool.false_eq_true, Bool.not_true, Bool.not_false, LE0, LE1, LE2, LE3, LE4, neg_int, asI_int, last [_] s.toD (by rw [Sch.toD]; rfl), it_tup, Sch.kids]
theorem counted_ok (h : At T 27 c_law_counted 2 6) (uo : UsesOk num many u1 u2 U) (uf : ∀ i, num < i → i < many → ∃ u ∈ U, u.1 = i) {d : Nat} {s : Sch} (hg : Good num many d s) : ∀ k, evF T (d + k) 27 [s.toD, usesD U] = Ms.ret (.tup [.int ((cost (own1 u1) s : Nat) : Int), .int ((cost (own2 u2) s : Nat) : Int)]) := by
  induction hg with
  | @mk d s hh hk ih =>
    intro k
    have ek : d + 1 + k = d + k + 1 := by omega
    rw [ek]
    refine evF_ret (fl := .rt (.tup [.int ((cost (own1 u1) s : Nat) : Int), .int ((cost (own2 u2) s : Nat) : Int)])) h rfl ?_
    show evSs (evF T (d + k)) c_law_counted [some s.toD, some (usesD U), none, none, none, none] = _
    rw [cnt_code, evSs_step]
    cases hu : isUse s with
    | some j =>
      obtain rfl : s = .use j := by
        cases s <;> first | (cases hu; rfl) | cases hu
      obtain ⟨u, um, rfl⟩ := uf j hh.1 hh.2
      rw [cnt_use uo um, bnd_ret]
      simp only [cost, own1, own2]
    | none =>
      rw [cnt_pass hu, bnd_ret]
      try dsimp only
      rw [evSs_step, cnt_own (u1 := u1) (u2 := u2) hu, bnd_ret]
      try dsimp only
      obtain ⟨y4, y5, q⟩ := cnt_loop (cf := evF T (d + k)) (U := U) (f1 := cost (own1 u1)) (f2 := cost (own2 u2)) (x0 := some s.toD) (x2 := none) s.kids (own1 u1 s) (own2 u2 s) none none fun v hv => ih v hv k
      rw [← costs_map, ← costs_map, ← cost_kids, ← cost_kids] at q
      have fin : ∀ x y : D, tupleD [.fl [x, y]] = Ms.ret (.tup [x, y]) := fun _ _ => rfl
      rw [evSs_step]
      have stp : ∃ y4 y5, evS (evF T (d + k)) (.for_ (.name 4) (.val (.ite (.cmp .in_ (.sub (.loc 0) (.cst (.int 0))) (.tup (.cons (.cst (.str "all")) (.cons (.cst (.str "best")) .nil)))) (.sub (.loc 0) (.cst (.int 1))) (.slice (.loc 0) (.some (.neg (.cst (.int 1)))) .none))) cntBody) [some s.toD, some (usesD U), none, some (.fl [.int ((own1 u1 s : Nat) : Int), .int ((own2 u2 s : Nat) : Int)]), none, none] =
          Ms.ret (.nx [some s.toD, some (usesD U), none, some (.fl [.int ((cost (own1 u1) s : Nat) : Int), .int ((cost (own2 u2) s : Nat) : Int)]), y4, y5]) := by
        unfold evS
        rw [cnt_items hu, bnd_ret]
        cases s with
        | step w n =>
          refine ⟨some (.int n), none, ?_⟩
          try dsimp only
          conv => lhs; unfold forL
          rw [chk_nil, bnd_ret]
          have b1 : evSs (evF T (d + k)) cntBody [some (Sch.step w n).toD, some (usesD U), none, some (.fl [.int ((own1 u1 (.step w n) : Nat) : Int), .int ((own2 u2 (.step w n) : Nat) : Int)]), some (.int n), none] = Ms.ret (.nx [some (Sch.step w n).toD, some (usesD U), none, some (.fl [.int ((own1 u1 (.step w n) : Nat) : Int), .int ((own2 u2 (.step w n) : Nat) : Int)]), some (.int n), none]) := by
            simp only [cntBody, c_law_counted, evSs, evS, evE, evEs, evAnd, evOr, evO, evC, evIt, startD, List.map_cons, List.map_nil, List.length_cons, List.length_nil, List.cons_append, List.nil_append, List.replicate, List.getElem?_cons_zero, List.getElem?_cons_succ, Option.join_some, List.set_cons_zero, List.set_cons_succ, fromO_some, bnd_ret, bnd_assoc, constD, cmpD, binD, biD, bindT, setAll, asB_bnd, asB_bl, if_true, if_false, Bool.false_eq_true, Bool.not_true, Bool.not_false, LE0, LE1, LE2, LE3, LE4, isi_int "tuple" _ rfl, show isSub "int" "tuple" = false from rfl]
          simp only [bindT, List.set_cons_succ, List.set_cons_zero]
          rw [b1, bnd_ret]
          try dsimp only
          unfold forL
          rw [chk_nil, bnd_ret]
          simp only [cost]
        | use j => cases hu
        | many b ks => exact ⟨y4, y5, q⟩
        | gate b w s => exact ⟨y4, y5, q⟩
        | fin w n s => exact ⟨y4, y5, q⟩
        | most n s => exact ⟨y4, y5, q⟩
        | hc b s => exact ⟨y4, y5, q⟩
      obtain ⟨z4, z5, stp⟩ := stp
      rw [stp, bnd_ret]
      simp only [evSs, evS, evE, evEs, evAnd, evOr, evO, evC, evIt, startD, List.map_cons, List.map_nil, List.length_cons, List.length_nil, List.cons_append, List.nil_append, List.replicate, List.getElem?_cons_zero, List.getElem?_cons_succ, Option.join_some, List.set_cons_zero, List.set_cons_succ, fromO_some, bnd_ret, bnd_assoc, constD, cmpD, binD, biD, bindT, setAll, asB_bnd, asB_bl, if_true, if_false, Bool.false_eq_true, Bool.not_true, Bool.not_false, LE0, LE1, LE2, LE3, LE4, fin]
end
end Ev
end
section
set_option Elab.async false
set_option linter.all false
set_option maxRecDepth 100000
set_option maxHeartbeats 2000000
/-! The law's papers. -/
namespace Ev
open PySem L2 Ms Cod
def upd (u : Nat → Nat) (t c : Nat) : Nat → Nat := fun i => if i = t then c else u i
structure Half (m t : Nat) (ss : List Sch) (U : List Use3) (u1 u2 : Nat → Nat) : Prop where
  len : ss.length + t = m
  at_ : ∀ i s, ss[i]? = some s → Good (t + i) m 5 s ∧ cost (fun _ => 1) s ≤ 12 ∧ cost (own1 u1) s = u1 (t + i) ∧ cost (own2 u2) s = u2 (t + i) ∧ u1 (t + i) ≤ 7 ∧ u2 (t + i) ≤ 3
  uses : ∀ u ∈ U, t ≤ u.1 ∧ u.1 < m ∧ u.2.1 = u1 u.1 ∧ u.2.2 = u2 u.1
  full : ∀ i, t ≤ i → i < m → ∃ u ∈ U, u.1 = i
  ulen : U.length + t = m
theorem Half.nil {m : Nat} {u1 u2 : Nat → Nat} : Half m m [] [] u1 u2 := ⟨by simp, (fun i s h => by simp at h), (fun u h => nomatch h), (fun i h1 h2 => by omega), by simp⟩
theorem Half.cons {m t : Nat} {ss : List Sch} {U : List Use3} {u1 u2 : Nat → Nat} (h : Half m (t + 1) ss U u1 u2) {s : Sch} (g : Good t m 5 s) (h1 : cost (fun _ => 1) s ≤ 12) (h2 : cost (own1 u1) s ≤ 7) (h3 : cost (own2 u2) s ≤ 3) :
    Half m t (s :: ss) (U ++ [(t, cost (own1 u1) s, cost (own2 u2) s)]) (upd u1 t (cost (own1 u1) s)) (upd u2 t (cost (own2 u2) s)) := by
  have hl := h.len
  have hu := h.ulen
  have k1 : ∀ {num : Nat} (c : Nat) {v : Sch}, t ≤ num → Good num m 5 v → cost (own1 (upd u1 t c)) v = cost (own1 u1) v := by
    intro num c v hn hg
    refine cost_congr (fun s hs => own1_congr (fun k hk _ => ?_) s hs) hg
    unfold upd
    rw [if_neg (by omega)]
  have k2 : ∀ {num : Nat} (c : Nat) {v : Sch}, t ≤ num → Good num m 5 v → cost (own2 (upd u2 t c)) v = cost (own2 u2) v := by
    intro num c v hn hg
    refine cost_congr (fun s hs => own2_congr (fun k hk _ => ?_) s hs) hg
    unfold upd
    rw [if_neg (by omega)]
  refine ⟨by simp; omega, fun i v hv => ?_, fun u hu => ?_, fun i i1 i2 => ?_, by simp; omega⟩
  · cases i with
    | zero =>
      simp only [List.getElem?_cons_zero, Option.some.injEq] at hv
      subst hv
      refine ⟨g, h1, ?_, ?_, ?_, ?_⟩
      · rw [k1 _ (Nat.le_refl _) g]
        simp [upd]
      · rw [k2 _ (Nat.le_refl _) g]
        simp [upd]
      · simp [upd]
        exact h2
      · simp [upd]
        exact h3
    | succ i =>
      rw [List.getElem?_cons_succ] at hv
      obtain ⟨a1, a2, a3, a4, a5, a6⟩ := h.at_ i v hv
      have e : t + (i + 1) = t + 1 + i := by omega
      rw [e]
      have ne : t + 1 + i ≠ t := by omega
      refine ⟨a1, a2, ?_, ?_, ?_, ?_⟩
      · rw [k1 _ (by omega) a1, a3]
        simp [upd, ne]
      · rw [k2 _ (by omega) a1, a4]
        simp [upd, ne]
      · simp only [upd, if_neg ne]
        exact a5
      · simp only [upd, if_neg ne]
        exact a6
  · rcases List.mem_append.mp hu with hu | hu
    · obtain ⟨b1, b2, b3, b4⟩ := h.uses u hu
      have ne : u.1 ≠ t := by omega
      exact ⟨by omega, b2, by simp only [upd, if_neg ne]; exact b3, by simp only [upd, if_neg ne]; exact b4⟩
    · rw [List.mem_singleton.mp hu]
      exact ⟨Nat.le_refl _, by omega, by simp [upd], by simp [upd]⟩
  · by_cases hi : i = t
    · exact ⟨_, List.mem_append_right _ (List.mem_singleton.mpr rfl), hi.symm⟩
    · obtain ⟨u, u1, u2⟩ := h.full i (by omega) i2
      exact ⟨u, List.mem_append_left _ u1, u2⟩
theorem Half.paper {m : Nat} {ss : List Sch} {U : List Use3} {u1 u2 : Nat → Nat} (h : Half m 0 ss U u1 u2) (h1 : 1 ≤ m) (h2 : m ≤ 5) : Paper ss u1 u2 := by
  have hl := h.len
  have hm : ss.length = m := by omega
  have z : ∀ i s, ss[i]? = some s → _ := h.at_
  simp only [Nat.zero_add] at z
  have h0 : ss[0]? = some ss[0] := List.getElem?_eq_getElem (by omega)
  refine ⟨by omega, by omega, fun i s hs => by rw [hm]; exact (z i s hs).1, fun s hs => ?_, fun i s hs => (z i s hs).2.2.1, fun i s hs => (z i s hs).2.2.2.1, (z 0 _ h0).2.2.2.2.1, (z 0 _ h0).2.2.2.2.2⟩
  obtain ⟨i, hi⟩ := List.getElem?_of_mem hs
  exact (z i s hi).2.1
def pap (i : Nat) : S := stAt i c_law_paper
theorem pap_code : c_law_paper = .cons (pap 0) (.cons (pap 1) (.cons (pap 2) (.cons (pap 3) (.cons (pap 4) .nil)))) := rfl
def papBody : Ss := match pap 3 with
  | .for_ _ _ b => b
  | _ => .nil
theorem nums3 {i : Nat} (hi : (i : Int) < 3) (x y z : Nat) : ∃ a : Nat, idxD (.fl [.int ((x : Nat) : Int), .int ((y : Nat) : Int), .int ((z : Nat) : Int)]) (.int i) = Ms.ret (.int ((a : Nat) : Int)) ∧ (a = x ∨ a = y ∨ a = z) ∧ True := by
  have : i = 0 ∨ i = 1 ∨ i = 2 := by omega
  rcases this with rfl | rfl | rfl
  · exact ⟨x, ix_fl _ _, .inl rfl, trivial⟩
  · exact ⟨y, ix_fl _ _, .inr (.inl rfl), trivial⟩
  · exact ⟨z, ix_fl _ _, .inr (.inr rfl), trivial⟩
theorem nums2 {i : Nat} (hi : (i : Int) < 2) (x y : Nat) : ∃ a : Nat, idxD (.fl [.int ((x : Nat) : Int), .int ((y : Nat) : Int)]) (.int i) = Ms.ret (.int ((a : Nat) : Int)) ∧ (a = x ∨ a = y) := by
  have : i = 0 ∨ i = 1 := by omega
  rcases this with rfl | rfl
  · exact ⟨x, ix_fl _ _, .inl rfl⟩
  · exact ⟨y, ix_fl _ _, .inr rfl⟩
def pb (i : Nat) : S := stAt i papBody
theorem pb_code : papBody = .cons (pb 0) (.cons (pb 1) (.cons (pb 2) (.cons (pb 3) .nil))) := rfl
section
variable {T : List FD} {p rest : List Cell} {k : Nat} {cs : List Nat}
abbrev penv (p : List Cell) (cs : List Nat) (m : Nat) (ss : List Sch) (U : List Use3) (x2 x3 x4 x5 x6 x7 x11 x12 : Option D) : Ms.Env := [some (bx p), some (.fl (ltrs cs)), x2, x3, x4, x5, x6, x7, some (.int m), some (.fl (ss.map Sch.toD)), some (usesD U), x11, x12]
theorem pap_turn {cf : Nat → List D → M D} (tk : TakeEv p cf) {m t : Nat} {ss : List Sch} {U : List Use3} {u1 u2 : Nat → Nat} (sc : ∀ n, SchEv p n t m u1 u2 4 (cf 26 [bx p, .fl (ltrs cs), rf p n, .int 4, usesD U])) (ct : ∀ s, Good t m 5 s → cf 27 [s.toD, usesD U] = Ms.ret (.tup [.int ((cost (own1 u1) s : Nat) : Int), .int ((cost (own2 u2) s : Nat) : Int)])) (hr : flatCs rest = true) (hm : m ≤ 5) (hh : Half m (t + 1) ss U u1 u2) {x2 x3 x4 x5 x6 x7 x12 : Option D} {Q : Fl → List Cell → Prop}
    (q : ∀ y2 y12 s U2 v1 v2 c, Half m t (s :: ss) U2 v1 v2 → flatC c = true → Q (.nx (penv p cs m (s :: ss) U2 y2 x3 x4 x5 x6 x7 (some (.int t)) y12)) (rest ++ [c])) :
    Ev p (evSs cf papBody (penv p cs m ss U x2 x3 x4 x5 x6 x7 (some (.int t)) x12)) rest Q := by
  have hl := hh.len
  have hul := hh.ulen
  rw [pb_code, evSs_step]
  refine .then (R := fun fl r => ∃ a b c : Nat, 1 ≤ a ∧ a ≤ 12 ∧ 1 ≤ b ∧ b ≤ 7 ∧ c ≤ 3 ∧ fl = .nx (penv p cs m ss U (some (rf p rest.length)) x3 x4 x5 x6 x7 (some (.int t)) x12) ∧ r = rest ++ [left a b c]) ?_ ?_
  · rw [show pb 0 = .asg (.name 2) (.lst true (.cons (.sub (.lst false (.cons (.cst (.int 4)) (.cons (.cst (.int 8)) (.cons (.cst (.int 12)) .nil)))) (.call 23 (.cons (.loc 0) (.cons (.cst (.int 3)) .nil)))) (.cons (.sub (.lst false (.cons (.cst (.int 2)) (.cons (.cst (.int 4)) (.cons (.cst (.int 7)) .nil)))) (.call 23 (.cons (.loc 0) (.cons (.cst (.int 3)) .nil)))) (.cons (.sub (.lst false (.cons (.cst (.int 1)) (.cons (.cst (.int 3)) .nil))) (.call 23 (.cons (.loc 0) (.cons (.cst (.int 2)) .nil)))) .nil)))) from rfl]
    simp only [evSs, evS, evE, evEs, evAnd, evOr, evO, evC, evIt, startD, List.map_cons, List.map_nil, List.length_cons, List.length_nil, List.cons_append, List.nil_append, List.replicate, List.getElem?_cons_zero, List.getElem?_cons_succ, Option.join_some, List.set_cons_zero, List.set_cons_succ, fromO_some, bnd_ret, bnd_assoc, constD, cmpD, binD, biD, bindT, setAll, asB_bnd, asB_bl, if_true, if_false, Bool.false_eq_true, Bool.not_true, Bool.not_false, LE0, LE1, LE2, LE3, LE4, nl3, nl2]
    refine tk _ _ _ _ hr (by decide) (by decide) fun i1 hi1 => ?_
    obtain ⟨a, ha, a1, _⟩ := (show ∃ a : Nat, idxD (.fl [.int 4, .int 8, .int 12]) (.int i1) = Ms.ret (.int ((a : Nat) : Int)) ∧ (a = 4 ∨ a = 8 ∨ a = 12) ∧ True from nums3 hi1 4 8 12)
    rw [ha, bnd_ret]
    refine tk _ _ _ _ hr (by decide) (by decide) fun i2 hi2 => ?_
    obtain ⟨b, hb, b1, _⟩ := (show ∃ a : Nat, idxD (.fl [.int 2, .int 4, .int 7]) (.int i2) = Ms.ret (.int ((a : Nat) : Int)) ∧ (a = 2 ∨ a = 4 ∨ a = 7) ∧ True from nums3 hi2 2 4 7)
    rw [hb, bnd_ret]
    refine tk _ _ _ _ hr (by decide) (by decide) fun i3 hi3 => ?_
    obtain ⟨c, hcc, c1⟩ := (show ∃ a : Nat, idxD (.fl [.int 1, .int 3]) (.int i3) = Ms.ret (.int ((a : Nat) : Int)) ∧ (a = 1 ∨ a = 3) from nums2 hi3 1 3)
    rw [hcc, bnd_ret]
    refine .step (fun l s => rf_new (show [D.int ((a : Nat) : Int), .int ((b : Nat) : Int), .int ((c : Nat) : Int)].length ≤ LIM from (by decide : 3 ≤ LIM))) ?_
    refine .ret ⟨a, b, c, by omega, by omega, by omega, by omega, by omega, rfl, rfl⟩
  rintro _ _ ⟨a, b, c, a1, a2, b1, b2, c2, rfl, rfl⟩
  try dsimp only
  have hl2 : (rest ++ [left a b c])[rest.length]? = some (left a b c) := by simp
  have f2 : flatCs (rest ++ [left a b c]) = true := flat_snoc hr rfl
  rw [evSs_step]
  refine .then (R := fun fl r => ∃ (s : Sch) (a' b' c' : Nat), Good t m 5 s ∧ a' + cost (fun _ => 1) s = a ∧ b' + cost (own1 u1) s = b ∧ c' + cost (own2 u2) s = c ∧ fl = .nx (penv p cs m ss U (some (rf p rest.length)) x3 x4 x5 x6 x7 (some (.int t)) (some s.toD)) ∧ r = rest ++ [left a' b' c']) ?_ ?_
  · rw [show pb 1 = .asg (.name 12) (.call 26 (.cons (.loc 0) (.cons (.loc 1) (.cons (.loc 2) (.cons (.cst (.int 4)) (.cons (.loc 10) .nil)))))) from rfl]
    simp only [evSs, evS, evE, evEs, evAnd, evOr, evO, evC, evIt, startD, List.map_cons, List.map_nil, List.length_cons, List.length_nil, List.cons_append, List.nil_append, List.replicate, List.getElem?_cons_zero, List.getElem?_cons_succ, Option.join_some, List.set_cons_zero, List.set_cons_succ, fromO_some, bnd_ret, bnd_assoc, constD, cmpD, binD, biD, bindT, setAll, asB_bnd, asB_bl, if_true, if_false, Bool.false_eq_true, Bool.not_true, Bool.not_false, LE0, LE1, LE2, LE3, LE4]
    refine .bnd (sc _ _ a b c _ hl2 f2 a1 b1 fun s a' b' c' g k1 k2 k3 => .ret ⟨s, a', b', c', g, k1, k2, k3, rfl, by simp⟩)
  rintro _ _ ⟨s, a', b', c', g, k1, k2, k3, rfl, rfl⟩
  try dsimp only
  have ct := ct s g
  have n1 : ∀ x : D, newL false [x] = Ms.ret (.fl [x]) := fun x => newL_f (show [x].length ≤ LIM from (by decide : 1 ≤ LIM))
  have ad1 : addD (.fl [s.toD]) (.fl (ss.map Sch.toD)) = Ms.ret (.fl ((s :: ss).map Sch.toD)) := add_fl (by
    have : LIM = 1000000 := rfl
    simp
    omega)
  have tp : ∀ xs : List D, tupleD [.tup xs] = Ms.ret (.tup xs) := fun _ => rfl
  have ad2 : addD (.tup [.int ((t : Nat) : Int)]) (.tup [.int ((cost (own1 u1) s : Nat) : Int), .int ((cost (own2 u2) s : Nat) : Int)]) = Ms.ret (useD (t, cost (own1 u1) s, cost (own2 u2) s)) := add_tup (show 1 + 2 ≤ LIM by decide)
  have ad3 : addD (usesD U) (.fl [useD (t, cost (own1 u1) s, cost (own2 u2) s)]) = Ms.ret (usesD (U ++ [(t, cost (own1 u1) s, cost (own2 u2) s)])) := by
    have q := add_fl (a := U.map useD) (b := [useD (t, cost (own1 u1) s, cost (own2 u2) s)]) (by
      have : LIM = 1000000 := rfl
      simp
      omega)
    unfold usesD
    rw [q, List.map_append]
    rfl
  rw [show pb 2 = .asg (.name 9) (.bin .add (.lst false (.cons (.loc 12) .nil)) (.loc 9)) from rfl, show pb 3 = .asg (.name 10) (.bin .add (.loc 10) (.lst false (.cons (.bin .add (.tup (.cons (.loc 11) .nil)) (.bi .tuple (.cons (.call 27 (.cons (.loc 12) (.cons (.loc 10) .nil))) .nil))) .nil))) from rfl]
  rw [evSs_step]
  have s2 : evS cf (.asg (.name 9) (.bin .add (.lst false (.cons (.loc 12) .nil)) (.loc 9))) (penv p cs m ss U (some (rf p rest.length)) x3 x4 x5 x6 x7 (some (.int t)) (some s.toD)) = Ms.ret (.nx (penv p cs m (s :: ss) U (some (rf p rest.length)) x3 x4 x5 x6 x7 (some (.int t)) (some s.toD))) := by
    simp only [evSs, evS, evE, evEs, evAnd, evOr, evO, evC, evIt, startD, List.map_cons, List.map_nil, List.length_cons, List.length_nil, List.cons_append, List.nil_append, List.replicate, List.getElem?_cons_zero, List.getElem?_cons_succ, Option.join_some, List.set_cons_zero, List.set_cons_succ, fromO_some, bnd_ret, bnd_assoc, constD, cmpD, binD, biD, bindT, setAll, asB_bnd, asB_bl, if_true, if_false, Bool.false_eq_true, Bool.not_true, Bool.not_false, LE0, LE1, LE2, LE3, LE4, n1, ad1]
    rfl
  rw [s2, bnd_ret]
  try dsimp only
  rw [evSs_step]
  have s3 : evS cf (.asg (.name 10) (.bin .add (.loc 10) (.lst false (.cons (.bin .add (.tup (.cons (.loc 11) .nil)) (.bi .tuple (.cons (.call 27 (.cons (.loc 12) (.cons (.loc 10) .nil))) .nil))) .nil)))) (penv p cs m (s :: ss) U (some (rf p rest.length)) x3 x4 x5 x6 x7 (some (.int t)) (some s.toD)) = Ms.ret (.nx (penv p cs m (s :: ss) (U ++ [(t, cost (own1 u1) s, cost (own2 u2) s)]) (some (rf p rest.length)) x3 x4 x5 x6 x7 (some (.int t)) (some s.toD))) := by
    simp only [evSs, evS, evE, evEs, evAnd, evOr, evO, evC, evIt, startD, List.map_cons, List.map_nil, List.length_cons, List.length_nil, List.cons_append, List.nil_append, List.replicate, List.getElem?_cons_zero, List.getElem?_cons_succ, Option.join_some, List.set_cons_zero, List.set_cons_succ, fromO_some, bnd_ret, bnd_assoc, constD, cmpD, binD, biD, bindT, setAll, asB_bnd, asB_bl, if_true, if_false, Bool.false_eq_true, Bool.not_true, Bool.not_false, LE0, LE1, LE2, LE3, LE4, n1, ct, tp, ad2, ad3]
    rfl
  rw [s3, bnd_ret]
  try dsimp only
  rw [evSs_nil]
  exact .ret (q _ _ s _ _ _ _ (hh.cons g (by omega) (by omega) (by omega)) rfl)
theorem pap_loop (h23 : At T 23 c_law_take 2 3) (h26 : At T 26 c_law_scheme 5 11) (h27 : At T 27 c_law_counted 2 6) (hp : flatCs p = true) (hc : Ltrs cs) {m : Nat} (hm : m ≤ 5) {x3 x4 x5 x6 x7 : Option D} {Q : Fl → List Cell → Prop} : ∀ (t : Nat) (rest : List Cell) (ss : List Sch) (U : List Use3) (u1 u2 : Nat → Nat) (x2 x11 x12 : Option D), flatCs rest = true → Half m t ss U u1 u2 →
    (∀ y2 y11 y12 ss2 U2 v1 v2 ex, Half m 0 ss2 U2 v1 v2 → Q (.nx (penv p cs m ss2 U2 y2 x3 x4 x5 x6 x7 y11 y12)) (rest ++ ex)) → Ev p (forL [] (bindT (.name 11)) (evSs (evF T (k + 7)) papBody) (downTo t) (penv p cs m ss U x2 x3 x4 x5 x6 x7 x11 x12)) rest Q
  | 0, rest, ss, U, u1, u2, x2, x11, x12, hr, hh, q => by
    rw [downTo]
    unfold forL
    have z := q x2 x11 x12 ss U u1 u2 [] hh
    rw [List.append_nil] at z
    exact .step (fun l s => rfl) (.ret z)
  | t + 1, rest, ss, U, u1, u2, x2, x11, x12, hr, hh, q => by
    rw [downTo]
    unfold forL
    refine .step (fun l s => rfl) ?_
    show Ev p (Ms.bnd (evSs (evF T (k + 7)) papBody (penv p cs m ss U x2 x3 x4 x5 x6 x7 (some (.int ((t : Nat) : Int))) x12)) _) rest Q
    have uo : UsesOk t m u1 u2 U := ⟨fun u hu => by
      obtain ⟨b1, b2, b3, b4⟩ := hh.uses u hu
      exact ⟨by omega, b2, b3, b4⟩, by have := hh.ulen; omega⟩
    have sc : ∀ n, SchEv p n t m u1 u2 4 (evF T (k + 7) 26 [bx p, .fl (ltrs cs), rf p n, .int 4, usesD U]) := fun n => by
      have ek : 4 + (k + 1) + 2 = k + 7 := by omega
      have z := scheme_ev (n := n) h23 h26 hp hc uo 4 (k + 1)
      rw [ek] at z
      exact z
    have ct : ∀ s, Good t m 5 s → evF T (k + 7) 27 [s.toD, usesD U] = Ms.ret (.tup [.int ((cost (own1 u1) s : Nat) : Int), .int ((cost (own2 u2) s : Nat) : Int)]) := fun s g => by
      have ek2 : 4 + 1 + (k + 2) = k + 7 := by omega
      have z := counted_ok h27 uo (fun i i1 i2 => hh.full i (by omega) i2) g (k + 2)
      rw [ek2] at z
      exact z
    refine .bnd (pap_turn (takeEv h23 hp) sc ct hr hm hh fun y2 y12 s U2 v1 v2 c h2 hf => ?_)
    refine pap_loop h23 h26 h27 hp hc hm t (rest ++ [c]) (s :: ss) U2 v1 v2 y2 _ y12 (flat_snoc hr hf) h2 fun z2 z11 z12 ss2 U3 w1 w2 ex h3 => ?_
    rw [List.append_assoc]
    exact q _ _ _ _ _ _ _ _ h3
end
end Ev
end
section
set_option Elab.async false
set_option linter.all false
set_option maxRecDepth 100000
set_option maxHeartbeats 2000000
/-! The law's papers, whole. -/
namespace Ev
open PySem L2 Ms Cod
def papA : Ss := match pap 0 with
  | .if_ _ a _ => a
  | _ => .nil
def pa (i : Nat) : S := stAt i papA
theorem papA_code : papA = .cons (pa 0) (.cons (pa 1) (.cons (pa 2) (.cons (pa 3) (.cons (pa 4) .nil)))) := rfl
/-- a list of steps -/
def Steps (ls : List Sch) : Prop := ∀ s ∈ ls, ∃ w n, s = Sch.step w n ∧ w ∈ letters ∧ 1 ≤ n ∧ n ≤ 9
theorem Steps.good {ls : List Sch} (h : Steps ls) {num many d : Nat} : ∀ s ∈ ls, Good num many (d + 1) s := fun s hs => by
  obtain ⟨w, n, rfl, h1, h2, h3⟩ := h s hs
  exact .mk ⟨h1, h2, h3⟩ fun k hk => nomatch hk
theorem Steps.one : ∀ {ls : List Sch}, Steps ls → costs (fun _ => 1) ls = ls.length
  | [], _ => by rw [costs]; rfl
  | s :: ls, h => by
    obtain ⟨w, n, rfl, _⟩ := h s List.mem_cons_self
    rw [costs, Steps.one fun v hv => h v (List.mem_cons_of_mem _ hv)]
    simp only [cost, List.length_cons]
    omega
theorem Steps.own1 (u : Nat → Nat) : ∀ {ls : List Sch}, Steps ls → costs (own1 u) ls = ls.length
  | [], _ => by rw [costs]; rfl
  | s :: ls, h => by
    obtain ⟨w, n, rfl, _⟩ := h s List.mem_cons_self
    rw [costs, Steps.own1 u fun v hv => h v (List.mem_cons_of_mem _ hv)]
    simp only [cost, Ev.own1, List.length_cons]
    omega
theorem Steps.own2 (u : Nat → Nat) : ∀ {ls : List Sch}, Steps ls → costs (own2 u) ls = 0
  | [], _ => by rw [costs]
  | s :: ls, h => by
    obtain ⟨w, n, rfl, _⟩ := h s List.mem_cons_self
    rw [costs, Steps.own2 u fun v hv => h v (List.mem_cons_of_mem _ hv)]
    simp only [cost, Ev.own2]
def wholeS (ls : List Sch) : Sch := .many false [.many false (ls.take 4), .many true (ls.drop 4)]
theorem whole_good {ls : List Sch} (h : Steps ls) (l1 : 6 ≤ ls.length) (l2 : ls.length ≤ 7) {d : Nat} : Good 0 1 (d + 3) (wholeS ls) := by
  have t4 : Steps (ls.take 4) := fun s hs => h s (List.mem_of_mem_take hs)
  have d4 : Steps (ls.drop 4) := fun s hs => h s (List.mem_of_mem_drop hs)
  refine .mk (show 1 ≤ 2 ∧ 2 ≤ 4 by decide) fun k hk => ?_
  have hk : k ∈ [Sch.many false (ls.take 4), Sch.many true (ls.drop 4)] := hk
  rcases List.mem_cons.mp hk with rfl | hk
  · exact .mk ⟨by simp; omega, by simp; omega⟩ t4.good
  · rw [List.mem_singleton.mp hk]
    exact .mk ⟨by simp; omega, by simp; omega⟩ d4.good
theorem whole_cost {ls : List Sch} (h : Steps ls) (l1 : 6 ≤ ls.length) (l2 : ls.length ≤ 7) (u : Nat → Nat) : cost (fun _ => 1) (wholeS ls) = 3 + ls.length ∧ cost (own1 u) (wholeS ls) = ls.length ∧ cost (own2 u) (wholeS ls) = 0 := by
  have t4 : Steps (ls.take 4) := fun s hs => h s (List.mem_of_mem_take hs)
  have d4 : Steps (ls.drop 4) := fun s hs => h s (List.mem_of_mem_drop hs)
  refine ⟨?_, ?_, ?_⟩
  · simp only [wholeS, cost, costs, t4.one, d4.one, List.length_take, List.length_drop]
    omega
  · simp only [wholeS, cost, costs, t4.own1, d4.own1, own1, List.length_take, List.length_drop]
    omega
  · simp only [wholeS, cost, costs, t4.own2, d4.own2, own2]
theorem paper_one {s : Sch} {a b : Nat} (g : Good 0 1 5 s) (h1 : cost (fun _ => 1) s ≤ 12) (h2 : ∀ u, cost (own1 u) s = a) (h3 : ∀ u, cost (own2 u) s = b) (ha : a ≤ 7) (hb : b ≤ 3) : Paper [s] (fun _ => a) (fun _ => b) := by
  have at0 : ∀ i v, [s][i]? = some v → i = 0 ∧ v = s := fun i v hv => by
    cases i with
    | zero => exact ⟨rfl, (by simpa using hv.symm)⟩
    | succ i => simp at hv
  refine ⟨by simp, by simp, fun i v hv => ?_, fun v hv => ?_, fun i v hv => ?_, fun i v hv => ?_, ha, hb⟩
  · obtain ⟨rfl, rfl⟩ := at0 i v hv
    exact g
  · rw [List.mem_singleton.mp hv]
    exact h1
  · obtain ⟨rfl, rfl⟩ := at0 i v hv
    exact h2 _
  · obtain ⟨rfl, rfl⟩ := at0 i v hv
    exact h3 _
theorem cut_front (xs : List D) (n : Nat) : cutD xs none (some (n : Int)) = xs.take n := by
  unfold cutD
  rw [HT.sIx_none, HT.sIx_nat, List.drop_zero, Nat.sub_zero]
  rcases Nat.le_total n xs.length with h | h
  · rw [Nat.min_eq_left h]
  · rw [Nat.min_eq_right h, List.take_length, List.take_of_length_le h]
theorem cut_back (xs : List D) (n : Nat) : cutD xs (some (n : Int)) none = xs.drop n := by
  unfold cutD
  rw [HT.sIx_none, HT.sIx_nat]
  rcases Nat.le_total n xs.length with h | h
  · rw [Nat.min_eq_left h, List.take_of_length_le (by simp)]
  · rw [Nat.min_eq_right h, List.drop_length, List.drop_of_length_le h]
    simp
section
variable {T : List FD} {p rest : List Cell} {k : Nat} {cs : List Nat}
theorem rf_slice {l : List Int} {s : Int} {n : Nat} {xs : List D} (h : rest[n]? = some (.lst xs)) (lo hi : Option Int) : sliceD (rf p n) lo hi (boxed p l s rest) = .ok (.fl (cutD xs lo hi)) (boxed p l s rest) := by
  unfold sliceD
  try dsimp only
  rw [rf_asL h]
abbrev penv0 (p : List Cell) (cs : List Nat) (x2 x3 x4 x5 x6 x7 : Option D) : Ms.Env := [some (bx p), some (.fl (ltrs cs)), x2, x3, x4, x5, x6, x7, none, none, none, none, none]
/-- the steps drawn -/
theorem pa2 {cf : Nat → List D → M D} (tk : TakeEv p cf) (hr : flatCs rest = true) {ds : List Nat} {n : Nat} (hl : rest[n]? = some (.lst (ltrs ds))) (hd : ∀ c ∈ ds, c ∈ letters) (hn : ds.length ≤ 8) {x2 x4 x5 x6 x7 : Option D} {Q : Fl → List Cell → Prop}
    (q : ∀ ls, Steps ls → ls.length = min 7 ds.length → Q (.nx (penv0 p cs x2 (some (rf p n)) x4 (some (.fl (ls.map Sch.toD))) x6 x7)) rest) :
    Ev p (evS cf (pa 2) (penv0 p cs x2 (some (rf p n)) x4 x5 x6 x7)) rest Q := by
  rw [show pa 2 = .asg (.name 5) (.lc false [6] (.name 6) (.val (.slice (.loc 3) .none (.some (.cst (.int 7))))) .none (.tup (.cons (.cst (.str "step")) (.cons (.loc 6) (.cons (.bin .add (.cst (.int 1)) (.call 23 (.cons (.loc 0) (.cons (.cst (.int 9)) .nil)))) .nil))))) from rfl]
  simp only [evSs, evS, evE, evEs, evAnd, evOr, evO, evC, evIt, startD, List.map_cons, List.map_nil, List.length_cons, List.length_nil, List.cons_append, List.nil_append, List.replicate, List.getElem?_cons_zero, List.getElem?_cons_succ, Option.join_some, List.set_cons_zero, List.set_cons_succ, fromO_some, bnd_ret, bnd_assoc, constD, cmpD, binD, biD, bindT, setAll, asB_bnd, asB_bl, if_true, if_false, Bool.false_eq_true, Bool.not_true, Bool.not_false, LE0, LE1, LE2, LE3, LE4, asI_int]
  refine .step (fun l s => rf_slice hl none (some 7)) ?_
  have ec : cutD (ltrs ds) none (some 7) = ltrs (ds.take 7) := by
    have := cut_front (ltrs ds) 7
    unfold ltrs at this ⊢
    rw [← List.map_take] at this
    exact this
  rw [ec]
  refine .step (a := (ltrs (ds.take 7), [])) (fun l s => rfl) ?_
  refine .then (R := fun d r => ∃ ls, Steps ls ∧ ls.length = (ds.take 7).length ∧ d = ls.map Sch.toD ∧ r = rest) ?_ ?_
  · refine Ev.lcN (I := fun xs acc r => ∃ (ls : List Sch) (es : List Nat), Steps ls ∧ (∀ c ∈ es, c ∈ letters) ∧ ls.length + es.length = (ds.take 7).length ∧ acc = ls.map Sch.toD ∧ xs = ltrs es ∧ r = rest) ⟨[], ds.take 7, fun s hs => (nomatch hs), fun c hc => hd c (List.mem_of_mem_take hc), by simp, rfl, rfl, rfl⟩ (by simp [ltrs]; omega) ?_ ?_
    · rintro d xs acc r ⟨ls, es, h1, h2, h3, rfl, h5, rfl⟩
      cases es with
      | nil => simp [ltrs] at h5
      | cons c es =>
        have h6 : d = .str (S1 c) ∧ xs = ltrs es := by
          simp only [ltrs, List.map_cons, List.cons.injEq] at h5
          exact h5
        obtain ⟨rfl, rfl⟩ := h6
        refine ⟨_, rfl, .ret ?_⟩
        simp only [evSs, evS, evE, evEs, evAnd, evOr, evO, evC, evIt, startD, List.map_cons, List.map_nil, List.length_cons, List.length_nil, List.cons_append, List.nil_append, List.replicate, List.getElem?_cons_zero, List.getElem?_cons_succ, Option.join_some, List.set_cons_zero, List.set_cons_succ, fromO_some, bnd_ret, bnd_assoc, constD, cmpD, binD, biD, bindT, setAll, asB_bnd, asB_bl, if_true, if_false, Bool.false_eq_true, Bool.not_true, Bool.not_false, LE0, LE1, LE2, LE3, LE4, wipeD]
        refine tk _ _ _ _ hr (by decide) (by decide) fun i hi => ?_
        have ei : (1 : Int) + ((i : Nat) : Int) = ((i + 1 : Nat) : Int) := by omega
        simp only [evSs, evS, evE, evEs, evAnd, evOr, evO, evC, evIt, startD, List.map_cons, List.map_nil, List.length_cons, List.length_nil, List.cons_append, List.nil_append, List.replicate, List.getElem?_cons_zero, List.getElem?_cons_succ, Option.join_some, List.set_cons_zero, List.set_cons_succ, fromO_some, bnd_ret, bnd_assoc, constD, cmpD, binD, biD, bindT, setAll, asB_bnd, asB_bl, if_true, if_false, Bool.false_eq_true, Bool.not_true, Bool.not_false, LE0, LE1, LE2, LE3, LE4, add_int, ei]
        refine .ret ⟨ls ++ [.step c (i + 1)], es, fun s hs => ?_, fun e he => h2 e (List.mem_cons_of_mem _ he), ?_, ?_, rfl, rfl⟩
        · rcases List.mem_append.mp hs with hs | hs
          · exact h1 s hs
          · exact ⟨c, i + 1, List.mem_singleton.mp hs, h2 c List.mem_cons_self, by omega, by omega⟩
        · simp only [List.length_append, List.length_singleton]
          simp only [List.length_cons] at h3
          omega
        · rw [List.map_append, List.map_singleton, Sch.toD]
    · rintro acc r ⟨ls, es, h1, h2, h3, rfl, h5, rfl⟩
      have : es = [] := by
        cases es with
        | nil => rfl
        | cons c es => simp [ltrs] at h5
      subst this
      exact ⟨ls, h1, by simpa using h3, rfl, rfl⟩
  · rintro _ _ ⟨ls, h1, h2, rfl, rfl⟩
    have : (ls.map Sch.toD).length ≤ LIM := by
      have : LIM = 1000000 := rfl
      rw [List.length_take] at h2
      simp
      omega
    rw [newL_f this]
    try simp only [evSs, evS, evE, evEs, evAnd, evOr, evO, evC, evIt, startD, List.map_cons, List.map_nil, List.length_cons, List.length_nil, List.cons_append, List.nil_append, List.replicate, List.getElem?_cons_zero, List.getElem?_cons_succ, Option.join_some, List.set_cons_zero, List.set_cons_succ, fromO_some, bnd_ret, bnd_assoc, constD, cmpD, binD, biD, bindT, setAll, asB_bnd, asB_bl, if_true, if_false, Bool.false_eq_true, Bool.not_true, Bool.not_false, LE0, LE1, LE2, LE3, LE4]
    refine .ret (q ls h1 (by rw [h2, List.length_take]))
theorem pa3 {cf : Nat → List D → M D} {ls : List Sch} {x2 x3 x4 x6 x7 : Option D} : evS cf (pa 3) (penv0 p cs x2 x3 x4 (some (.fl (ls.map Sch.toD))) x6 x7) = Ms.ret (.nx (penv0 p cs x2 x3 x4 (some (.fl (ls.map Sch.toD))) x6 (some (wholeS ls).toD))) := by
  rw [show pa 3 = .asg (.name 7) (.tup (.cons (.cst (.str "all")) (.cons (.tup (.cons (.tup (.cons (.cst (.str "all")) (.cons (.bi .tuple (.cons (.slice (.loc 5) .none (.some (.cst (.int 4)))) .nil)) .nil))) (.cons (.tup (.cons (.cst (.str "best")) (.cons (.bi .tuple (.cons (.slice (.loc 5) (.some (.cst (.int 4))) .none) .nil)) .nil))) .nil))) .nil))) from rfl]
  have s1 : sliceD (.fl (ls.map Sch.toD)) none (some 4) = Ms.ret (.fl ((ls.take 4).map Sch.toD)) := by
    rw [sl_fl, show (4 : Int) = ((4 : Nat) : Int) from rfl, cut_front, ← List.map_take]
  have s2 : sliceD (.fl (ls.map Sch.toD)) (some 4) none = Ms.ret (.fl ((ls.drop 4).map Sch.toD)) := by
    rw [sl_fl, show (4 : Int) = ((4 : Nat) : Int) from rfl, cut_back, ← List.map_drop]
  have ew : (wholeS ls).toD = .tup [.str "all", .tup [.tup [.str "all", .tup ((ls.take 4).map Sch.toD)], .tup [.str "best", .tup ((ls.drop 4).map Sch.toD)]]] := by
    simp only [wholeS, Sch.toD, Sch.toDs, toDs_map, if_true, if_false, Bool.false_eq_true]
  rw [ew]
  simp only [evSs, evS, evE, evEs, evAnd, evOr, evO, evC, evIt, startD, List.map_cons, List.map_nil, List.length_cons, List.length_nil, List.cons_append, List.nil_append, List.replicate, List.getElem?_cons_zero, List.getElem?_cons_succ, Option.join_some, List.set_cons_zero, List.set_cons_succ, fromO_some, bnd_ret, bnd_assoc, constD, cmpD, binD, biD, bindT, setAll, asB_bnd, asB_bl, if_true, if_false, Bool.false_eq_true, Bool.not_true, Bool.not_false, LE0, LE1, LE2, LE3, LE4, asI_int, s1, s2, tuple_fl]
theorem pa4 {cf : Nat → List D → M D} {ls : List Sch} (h : Steps ls) (l1 : 6 ≤ ls.length) (l2 : ls.length ≤ 7) {ds : List Nat} {n : Nat} (hl : rest[n]? = some (.lst (ltrs ds))) (hd : ∀ c ∈ ds, c ∈ letters) {x2 x4 x5 x6 : Option D} {Q : Fl → List Cell → Prop}
    (q : ∀ s a b, Paper [s] (fun _ => a) (fun _ => b) → Q (.rt (paperD [s])) rest) :
    Ev p (evS cf (pa 4) (penv0 p cs x2 (some (rf p n)) x4 x5 x6 (some (wholeS ls).toD))) rest Q := by
  have ll : (ltrs ds).length = ds.length := by simp [ltrs]
  rw [show pa 4 = .ret (.tup (.cons (.ite (.cmp .gt (.bi .len (.cons (.loc 3) .nil)) (.cst (.int 7))) (.tup (.cons (.cst (.str "seen")) (.cons (.sub (.loc 3) (.cst (.int 7))) (.cons (.loc 7) .nil)))) (.loc 7)) .nil)) from rfl]
  simp only [evSs, evS, evE, evEs, evAnd, evOr, evO, evC, evIt, startD, List.map_cons, List.map_nil, List.length_cons, List.length_nil, List.cons_append, List.nil_append, List.replicate, List.getElem?_cons_zero, List.getElem?_cons_succ, Option.join_some, List.set_cons_zero, List.set_cons_succ, fromO_some, bnd_ret, bnd_assoc, constD, cmpD, binD, biD, bindT, setAll, asB_bnd, asB_bl, if_true, if_false, Bool.false_eq_true, Bool.not_true, Bool.not_false, LE0, LE1, LE2, LE3, LE4]
  refine .step (fun l s => rf_len hl) ?_
  simp only [evSs, evS, evE, evEs, evAnd, evOr, evO, evC, evIt, startD, List.map_cons, List.map_nil, List.length_cons, List.length_nil, List.cons_append, List.nil_append, List.replicate, List.getElem?_cons_zero, List.getElem?_cons_succ, Option.join_some, List.set_cons_zero, List.set_cons_succ, fromO_some, bnd_ret, bnd_assoc, constD, cmpD, binD, biD, bindT, setAll, asB_bnd, asB_bl, if_true, if_false, Bool.false_eq_true, Bool.not_true, Bool.not_false, LE0, LE1, LE2, LE3, LE4, gt_int, ll]
  by_cases h7 : (7 : Int) < (ds.length : Int)
  · simp only [decide_eq_true h7, evSs, evS, evE, evEs, evAnd, evOr, evO, evC, evIt, startD, List.map_cons, List.map_nil, List.length_cons, List.length_nil, List.cons_append, List.nil_append, List.replicate, List.getElem?_cons_zero, List.getElem?_cons_succ, Option.join_some, List.set_cons_zero, List.set_cons_succ, fromO_some, bnd_ret, bnd_assoc, constD, cmpD, binD, biD, bindT, setAll, asB_bnd, asB_bl, if_true, if_false, Bool.false_eq_true, Bool.not_true, Bool.not_false, LE0, LE1, LE2, LE3, LE4]
    have h8 : 7 < ds.length := by omega
    have e7 : atI (ltrs ds) 7 = some (.str (S1 ds[7])) := at_nat (i := 7) (by simp [ltrs, h8])
    refine .step (fun l s => rf_at hl e7) ?_
    try simp only [evSs, evS, evE, evEs, evAnd, evOr, evO, evC, evIt, startD, List.map_cons, List.map_nil, List.length_cons, List.length_nil, List.cons_append, List.nil_append, List.replicate, List.getElem?_cons_zero, List.getElem?_cons_succ, Option.join_some, List.set_cons_zero, List.set_cons_succ, fromO_some, bnd_ret, bnd_assoc, constD, cmpD, binD, biD, bindT, setAll, asB_bnd, asB_bl, if_true, if_false, Bool.false_eq_true, Bool.not_true, Bool.not_false, LE0, LE1, LE2, LE3, LE4]
    have P := paper_one (s := .gate false ds[7] (wholeS ls)) (a := ls.length) (b := 1) (.mk (hd _ (List.getElem_mem h8)) fun k hk => by rw [List.mem_singleton.mp hk]; exact whole_good h l1 l2 (d := 1)) (by
      have := (whole_cost h l1 l2 (fun _ => 0)).1
      simp only [cost]
      omega) (fun u => by
      have := (whole_cost h l1 l2 u).2.1
      simp only [cost, own1]
      omega) (fun u => by
      have := (whole_cost h l1 l2 u).2.2
      simp only [cost, own2]
      omega) l2 (by decide)
    have z := q _ _ _ P
    unfold paperD at z
    rw [List.map_singleton, Sch.toD] at z
    simp only [if_false, Bool.false_eq_true] at z
    exact .ret z
  · simp only [decide_eq_false h7, evSs, evS, evE, evEs, evAnd, evOr, evO, evC, evIt, startD, List.map_cons, List.map_nil, List.length_cons, List.length_nil, List.cons_append, List.nil_append, List.replicate, List.getElem?_cons_zero, List.getElem?_cons_succ, Option.join_some, List.set_cons_zero, List.set_cons_succ, fromO_some, bnd_ret, bnd_assoc, constD, cmpD, binD, biD, bindT, setAll, asB_bnd, asB_bl, if_true, if_false, Bool.false_eq_true, Bool.not_true, Bool.not_false, LE0, LE1, LE2, LE3, LE4]
    have P := paper_one (s := wholeS ls) (a := ls.length) (b := 0) (whole_good h l1 l2 (d := 2)) (by
      have := (whole_cost h l1 l2 (fun _ => 0)).1
      omega) (fun u => (whole_cost h l1 l2 u).2.1) (fun u => (whole_cost h l1 l2 u).2.2) l2 (by decide)
    exact .ret (q _ _ _ P)
end
end Ev
end
section
set_option Elab.async false
set_option linter.all false
set_option maxRecDepth 100000
set_option maxHeartbeats 2000000
/-! The law's papers, whole. -/
namespace Ev
open PySem L2 Ms Cod
section
variable {T : List FD} {p rest : List Cell} {k : Nat} {cs : List Nat}
theorem pap0 {cf : Nat → List D → M D} (tk : TakeEv p cf) (hr : flatCs rest = true) {Q : Fl → List Cell → Prop} (q1 : Ev p (evSs cf papA (penv0 p cs none none none none none none)) rest Q) (q2 : Q (.nx (penv0 p cs none none none none none none)) rest) :
    Ev p (evS cf (pap 0) (penv0 p cs none none none none none none)) rest Q := by
  generalize hA : papA = A at q1
  have e : pap 0 = .if_ (.cmp .eq (.call 23 (.cons (.loc 0) (.cons (.cst (.int 12)) .nil))) (.cst (.int 11))) A .nil := by
    rw [← hA]
    rfl
  rw [e]
  have ew : ∀ i : Nat, (((i : Nat) : Int) == 11) = decide (i = 11) := fun i => beqN i 11
  simp only [evSs, evS, evE, evEs, evAnd, evOr, evO, evC, evIt, startD, List.map_cons, List.map_nil, List.length_cons, List.length_nil, List.cons_append, List.nil_append, List.replicate, List.getElem?_cons_zero, List.getElem?_cons_succ, Option.join_some, List.set_cons_zero, List.set_cons_succ, fromO_some, bnd_ret, bnd_assoc, constD, cmpD, binD, biD, bindT, setAll, asB_bnd, asB_bl, if_true, if_false, Bool.false_eq_true, Bool.not_true, Bool.not_false, LE0, LE1, LE2, LE3, LE4]
  refine tk _ _ _ _ hr (by decide) (by decide) fun i hi => ?_
  simp only [evSs, evS, evE, evEs, evAnd, evOr, evO, evC, evIt, startD, List.map_cons, List.map_nil, List.length_cons, List.length_nil, List.cons_append, List.nil_append, List.replicate, List.getElem?_cons_zero, List.getElem?_cons_succ, Option.join_some, List.set_cons_zero, List.set_cons_succ, fromO_some, bnd_ret, bnd_assoc, constD, cmpD, binD, biD, bindT, setAll, asB_bnd, asB_bl, if_true, if_false, Bool.false_eq_true, Bool.not_true, Bool.not_false, LE0, LE1, LE2, LE3, LE4, eq_int, ew]
  by_cases h : i = 11
  · simp only [decide_eq_true h, evSs, evS, evE, evEs, evAnd, evOr, evO, evC, evIt, startD, List.map_cons, List.map_nil, List.length_cons, List.length_nil, List.cons_append, List.nil_append, List.replicate, List.getElem?_cons_zero, List.getElem?_cons_succ, Option.join_some, List.set_cons_zero, List.set_cons_succ, fromO_some, bnd_ret, bnd_assoc, constD, cmpD, binD, biD, bindT, setAll, asB_bnd, asB_bl, if_true, if_false, Bool.false_eq_true, Bool.not_true, Bool.not_false, LE0, LE1, LE2, LE3, LE4]
    exact q1
  · simp only [decide_eq_false h, evSs, evS, evE, evEs, evAnd, evOr, evO, evC, evIt, startD, List.map_cons, List.map_nil, List.length_cons, List.length_nil, List.cons_append, List.nil_append, List.replicate, List.getElem?_cons_zero, List.getElem?_cons_succ, Option.join_some, List.set_cons_zero, List.set_cons_succ, fromO_some, bnd_ret, bnd_assoc, constD, cmpD, binD, biD, bindT, setAll, asB_bnd, asB_bl, if_true, if_false, Bool.false_eq_true, Bool.not_true, Bool.not_false, LE0, LE1, LE2, LE3, LE4]
    exact .ret q2
theorem pap1 {cf : Nat → List D → M D} (tk : TakeEv p cf) (hr : flatCs rest = true) {Q : Fl → List Cell → Prop} (q : ∀ m : Nat, 1 ≤ m → m ≤ 5 → Q (.nx [some (bx p), some (.fl (ltrs cs)), none, none, none, none, none, none, some (.int m), none, none, none, none]) rest) :
    Ev p (evS cf (pap 1) (penv0 p cs none none none none none none)) rest Q := by
  rw [show pap 1 = .asg (.name 8) (.bin .add (.cst (.int 1)) (.sub (.lst false (.cons (.cst (.int 0)) (.cons (.call 23 (.cons (.loc 0) (.cons (.cst (.int 3)) .nil))) (.cons (.call 23 (.cons (.loc 0) (.cons (.cst (.int 5)) .nil))) .nil)))) (.call 23 (.cons (.loc 0) (.cons (.cst (.int 3)) .nil))))) from rfl]
  simp only [evSs, evS, evE, evEs, evAnd, evOr, evO, evC, evIt, startD, List.map_cons, List.map_nil, List.length_cons, List.length_nil, List.cons_append, List.nil_append, List.replicate, List.getElem?_cons_zero, List.getElem?_cons_succ, Option.join_some, List.set_cons_zero, List.set_cons_succ, fromO_some, bnd_ret, bnd_assoc, constD, cmpD, binD, biD, bindT, setAll, asB_bnd, asB_bl, if_true, if_false, Bool.false_eq_true, Bool.not_true, Bool.not_false, LE0, LE1, LE2, LE3, LE4]
  refine tk _ _ _ _ hr (by decide) (by decide) fun x hx => ?_
  refine tk _ _ _ _ hr (by decide) (by decide) fun y hy => ?_
  rw [nl3, bnd_ret]
  refine tk _ _ _ _ hr (by decide) (by decide) fun i hi => ?_
  obtain ⟨v, hv, v1, _⟩ := (show ∃ a : Nat, idxD (.fl [.int 0, .int ((x : Nat) : Int), .int ((y : Nat) : Int)]) (.int i) = Ms.ret (.int ((a : Nat) : Int)) ∧ (a = 0 ∨ a = x ∨ a = y) ∧ True from nums3 hi 0 x y)
  rw [hv, bnd_ret, add_int, bnd_ret]
  have e : (1 : Int) + ((v : Nat) : Int) = ((1 + v : Nat) : Int) := by omega
  rw [e]
  exact .ret (q (1 + v) (by omega) (by omega))
theorem papA_ev (h23 : At T 23 c_law_take 2 3) (hp : flatCs p = true) (hr : flatCs rest = true) {Q : Fl → List Cell → Prop}
    (q : ∀ s a b ex, Paper [s] (fun _ => a) (fun _ => b) → Q (.rt (paperD [s])) (rest ++ ex)) :
    Ev p (evSs (evF T (k + 1)) papA (penv0 p cs none none none none none none)) rest Q := by
  have tk : TakeEv p (evF T (k + 1)) := takeEv h23 hp
  have lm : ∀ l s, listMD [.str "abcdefgh"] (boxed p l s rest) = .ok (rf p rest.length) (boxed p l s (rest ++ [.lst (ltrs letters)])) := fun l s => by
    show (if ("abcdefgh" : Str).length ≤ LIM then (fun η : List Cell => Res.ok (D.ref η.length) (η ++ [Cell.lst (signs ("abcdefgh" : Str))])) else bad) _ = _
    rw [if_pos (by decide +kernel), abc_signs]
    show Res.ok (D.ref (boxed p l s rest).length) _ = _
    rw [boxed_len, boxed_snoc]
  have f1 : flatCs (rest ++ [.lst (ltrs letters)]) = true := flat_snoc hr (ltrs_flat _)
  have f2 : flatCs (rest ++ [.lst (ltrs letters)] ++ [.lst []]) = true := flat_snoc f1 rfl
  have ei : (rf p (rest ++ [Cell.lst (ltrs letters)]).length) = rf p (rest.length + 1) := by simp [rf]
  rw [papA_code, evSs_step]
  refine .then (R := fun fl r => fl = .nx (penv0 p cs (some (rf p rest.length)) (some (rf p (rest.length + 1))) none none none none) ∧ r = rest ++ [.lst (ltrs letters)] ++ [.lst []]) ?_ ?_
  · rw [show pa 0 = .par 2 3 (.bi .listM (.cons (.cst (.str "abcdefgh")) .nil)) (.lst true .nil) from rfl]
    simp only [evSs, evS, evE, evEs, evAnd, evOr, evO, evC, evIt, startD, List.map_cons, List.map_nil, List.length_cons, List.length_nil, List.cons_append, List.nil_append, List.replicate, List.getElem?_cons_zero, List.getElem?_cons_succ, Option.join_some, List.set_cons_zero, List.set_cons_succ, fromO_some, bnd_ret, bnd_assoc, constD, cmpD, binD, biD, bindT, setAll, asB_bnd, asB_bl, if_true, if_false, Bool.false_eq_true, Bool.not_true, Bool.not_false, LE0, LE1, LE2, LE3, LE4]
    refine .step lm ?_
    refine .step (fun l s => rf_new (Nat.zero_le _)) (.ret ⟨?_, rfl⟩)
    rw [ei]
  rintro _ _ ⟨rfl, rfl⟩
  try dsimp only
  rw [evSs_step]
  have g0 : (rest ++ [Cell.lst (ltrs letters)] ++ [Cell.lst []])[rest.length]? = some (.lst (ltrs letters)) := by simp
  have g1 : (rest ++ [Cell.lst (ltrs letters)] ++ [Cell.lst []])[rest.length + 1]? = some (.lst (ltrs [])) := by simp [ltrs]
  refine .then (R := fun fl r => ∃ x ds lf, (ds ++ lf).Perm letters ∧ 6 ≤ ds.length ∧ ds.length ≤ 8 ∧ fl = .nx (penv0 p cs (some (rf p rest.length)) (some (rf p (rest.length + 1))) x none none none) ∧ r = rest ++ [.lst (ltrs lf), .lst (ltrs ds)]) ?_ ?_
  · rw [show pa 1 = .for_ (.name 4) (.rng1 (.bin .add (.cst (.int 6)) (.call 23 (.cons (.loc 0) (.cons (.cst (.int 3)) .nil))))) (popBody 2 3) from rfl]
    unfold evS
    rw [show evIt (evF T (k + 1)) (.rng1 (.bin .add (.cst (.int 6)) (.call 23 (.cons (.loc 0) (.cons (.cst (.int 3)) .nil))))) (penv0 p cs (some (rf p rest.length)) (some (rf p (rest.length + 1))) none none none none) = bnd (evF T (k + 1) 23 [bx p, .int 3]) (fun y => bnd (addD (.int 6) y) itR1) from by simp only [evSs, evS, evE, evEs, evAnd, evOr, evO, evC, evIt, startD, List.map_cons, List.map_nil, List.length_cons, List.length_nil, List.cons_append, List.nil_append, List.replicate, List.getElem?_cons_zero, List.getElem?_cons_succ, Option.join_some, List.set_cons_zero, List.set_cons_succ, fromO_some, bnd_ret, bnd_assoc, constD, cmpD, binD, biD, bindT, setAll, asB_bnd, asB_bl, if_true, if_false, Bool.false_eq_true, Bool.not_true, Bool.not_false, LE0, LE1, LE2, LE3, LE4]]
    rw [bnd_assoc]
    refine tk _ _ _ _ f2 (by decide) (by decide) fun i hi => ?_
    obtain ⟨m, hm⟩ : ∃ m : Nat, m = 6 + i := ⟨_, rfl⟩
    have em : (6 : Int) + ((i : Nat) : Int) = ((m : Nat) : Int) := by omega
    have r1 : itR1 (.int ((m : Nat) : Int)) = Ms.ret ((List.range m).map fun i => .int ((i : Nat) : Int), []) := rng1 (by omega)
    have hm1 : List.length ((List.range m).map fun i => D.int ((i : Nat) : Int)) = m := by simp
    rw [add_int, em, bnd_ret, r1, bnd_ret]
    try dsimp only
    refine pop_loop h23 hp _ _ _ [] letters f2 rfl rfl rfl (by decide) (by decide) (by decide) g0 g1 (by simp) (by rw [hm1]; simp [letters]; omega) fun w ds lf pm hl => ?_
    rw [hm1, List.length_nil, Nat.zero_add] at hl
    rw [if_neg (fun z => by rw [z] at hm1; simp at hm1; omega)]
    refine ⟨w, ds, lf, pm, by omega, by omega, rfl, ?_⟩
    simp [List.set_append]
  rintro _ _ ⟨x, ds, lf, pm, l6, l8, rfl, rfl⟩
  have hd : ∀ c ∈ ds, c ∈ letters := fun c hc => pm.subset (List.mem_append_left _ hc)
  have hl : (rest ++ [Cell.lst (ltrs lf), .lst (ltrs ds)])[rest.length + 1]? = some (.lst (ltrs ds)) := by simp
  have f3 : flatCs (rest ++ [Cell.lst (ltrs lf), .lst (ltrs ds)]) = true := by
    rw [flatCs_app, hr]
    simp [flatCs, flatC, ltrs_flat]
  try dsimp only
  rw [evSs_step]
  refine .bnd (pa2 tk f3 hl hd l8 fun ls hs hn => ?_)
  try dsimp only
  rw [evSs_step, pa3, bnd_ret]
  try dsimp only
  rw [evSs_step]
  refine .bnd (pa4 hs (by omega) (by omega) hl hd fun s a b P => ?_)
  exact .ret (q s a b _ P)
/-- the law's paper -/
theorem paper_ev (h23 : At T 23 c_law_take 2 3) (h26 : At T 26 c_law_scheme 5 11) (h27 : At T 27 c_law_counted 2 6) (h28 : At T 28 c_law_paper 2 13) (hp : flatCs p = true) (hr : flatCs rest = true) (hc : Ltrs cs) {Q : D → List Cell → Prop}
    (q : ∀ ss u1 u2, Paper ss u1 u2 → Q (paperD ss) rest) : Ev p (evF T (k + 8) 28 [bx p, .fl (ltrs cs)]) rest Q := by
  have tk : TakeEv p (evF T (k + 7)) := takeEv h23 hp
  have fz : ∀ ss : List Sch, frozen (paperD ss) = true := fun ss => by
    unfold paperD
    rw [frozen]
    exact frozens_mapM fun s _ => toD_frozen s
  have fin : ∀ (ss : List Sch) (u1 u2 : Nat → Nat) (ex : List Cell), Paper ss u1 u2 → (fun fl r => ∃ r1 ex, r = r1 ++ ex ∧ r1.length = rest.length ∧ flatCs r1 = true ∧ frozen (retD fl) = true ∧ Q (retD fl) r1) (Fl.rt (paperD ss)) (rest ++ ex) := fun ss u1 u2 ex P => ⟨rest, ex, rfl, rfl, hr, fz ss, q ss u1 u2 P⟩
  refine .call h28 rfl hp ?_
  show Ev p (evSs (evF T (k + 7)) c_law_paper (penv0 p cs none none none none none none)) rest _
  rw [pap_code, evSs_step]
  refine .bnd (pap0 tk hr (papA_ev (k := k + 6) h23 hp hr fun s a b ex P => .ret (fin _ _ _ ex P)) ?_)
  try dsimp only
  rw [evSs_step]
  refine .bnd (pap1 tk hr fun m m1 m5 => ?_)
  try dsimp only
  rw [evSs_step, show pap 2 = .par 9 10 (.lst false .nil) (.lst false .nil) from rfl]
  have n0 : newL false [] = Ms.ret (.fl []) := newL_f (Nat.zero_le _)
  rw [show evS (evF T (k + 7)) (.par 9 10 (.lst false .nil) (.lst false .nil)) [some (bx p), some (.fl (ltrs cs)), none, none, none, none, none, none, some (.int ((m : Nat) : Int)), none, none, none, none] = Ms.ret (.nx (penv p cs m [] [] none none none none none none none none)) from by
    simp only [evSs, evS, evE, evEs, evAnd, evOr, evO, evC, evIt, startD, List.map_cons, List.map_nil, List.length_cons, List.length_nil, List.cons_append, List.nil_append, List.replicate, List.getElem?_cons_zero, List.getElem?_cons_succ, Option.join_some, List.set_cons_zero, List.set_cons_succ, fromO_some, bnd_ret, bnd_assoc, constD, cmpD, binD, biD, bindT, setAll, asB_bnd, asB_bl, if_true, if_false, Bool.false_eq_true, Bool.not_true, Bool.not_false, LE0, LE1, LE2, LE3, LE4, n0]
    rfl]
  rw [bnd_ret]
  try dsimp only
  rw [evSs_step, show pap 3 = .for_ (.name 11) (.rng3 (.bin .sub (.loc 8) (.cst (.int 1))) (.neg (.cst (.int 1))) (.neg (.cst (.int 1)))) papBody from rfl]
  have it : evIt (evF T (k + 7)) (.rng3 (.bin .sub (.loc 8) (.cst (.int 1))) (.neg (.cst (.int 1))) (.neg (.cst (.int 1)))) (penv p cs m [] [] none none none none none none none none) = Ms.ret (downTo m, []) := by
    simp only [evSs, evS, evE, evEs, evAnd, evOr, evO, evC, evIt, startD, List.map_cons, List.map_nil, List.length_cons, List.length_nil, List.cons_append, List.nil_append, List.replicate, List.getElem?_cons_zero, List.getElem?_cons_succ, Option.join_some, List.set_cons_zero, List.set_cons_succ, fromO_some, bnd_ret, bnd_assoc, constD, cmpD, binD, biD, bindT, setAll, asB_bnd, asB_bl, if_true, if_false, Bool.false_eq_true, Bool.not_true, Bool.not_false, LE0, LE1, LE2, LE3, LE4, sub_int, neg_int, rng_down (show m ≤ 1000 by omega)]
  refine .bnd ?_
  unfold evS
  rw [it, bnd_ret]
  try dsimp only
  refine pap_loop h23 h26 h27 hp hc m5 m rest [] [] (fun _ => 0) (fun _ => 0) none none none hr .nil fun y2 y11 y12 ss U v1 v2 ex hh => ?_
  try dsimp only
  rw [evSs_step, show pap 4 = .ret (.bi .tuple (.cons (.loc 9) .nil)) from rfl]
  rw [show evS (evF T (k + 7)) (.ret (.bi .tuple (.cons (.loc 9) .nil))) (penv p cs m ss U y2 none none none none none y11 y12) = Ms.ret (.rt (paperD ss)) from by
    simp only [evSs, evS, evE, evEs, evAnd, evOr, evO, evC, evIt, startD, List.map_cons, List.map_nil, List.length_cons, List.length_nil, List.cons_append, List.nil_append, List.replicate, List.getElem?_cons_zero, List.getElem?_cons_succ, Option.join_some, List.set_cons_zero, List.set_cons_succ, fromO_some, bnd_ret, bnd_assoc, constD, cmpD, binD, biD, bindT, setAll, asB_bnd, asB_bl, if_true, if_false, Bool.false_eq_true, Bool.not_true, Bool.not_false, LE0, LE1, LE2, LE3, LE4, tuple_fl]
    rfl]
  rw [bnd_ret]
  exact .ret (fin ss v1 v2 ex (hh.paper m1 m5))
end
end Ev
end
section
set_option Elab.async false
set_option linter.all false
set_option maxRecDepth 100000
set_option maxHeartbeats 2000000
/-! alike on equal data. -/
namespace Ev
open PySem L2 Ms Cod
section
variable {T : List FD}
theorem is_none (d : D) : isND d .non = Ms.ret (.bl (isNone d)) := by
  funext η
  cases d <;> rfl
theorem isiM {T t : String} {d : D} (h : ∀ η, tyOf η d = some t) (hT : ["bool", "int", "str", "tuple", "list"].contains T = true) : isiD T d = Ms.ret (.bl (isSub t T)) := isi_at h hT
theorem isiE {T t : String} {d : D} {η : List Cell} (h : tyOf η d = some t) (hT : ["bool", "int", "str", "tuple", "list"].contains T = true) : isiD T d η = .ok (.bl (isSub t T)) η := by
  unfold isiD
  simp only [h, hT, if_true]
theorem ne_bl (a b : Bool) : neD (.bl a) (.bl b) = Ms.ret (.bl (!(a == b))) := by
  funext η
  simp [neD, derP, toP, SeqAt.shaped, PyData.eqv, Ms.ret, PyData.canLay0, PyData.depth]
theorem alike_str (hA : At T 24 c_law_alike 2 3) {k : Nat} {w : Str} (hw : PyData.strOk w = true) : evF T (k + 1) 24 [.str w, .str w] = Ms.ret (.bl true) := by
  have e : evSs (evF T k) c_law_alike (startD 3 [.str w, .str w]) = Ms.ret (.rt (.bl true)) := by
    have i1 : isiD "bool" (.str w) = Ms.ret (.bl false) := isiM (t := "str") (fun _ => rfl) rfl
    have i2 : isiD "int" (.str w) = Ms.ret (.bl false) := isiM (t := "str") (fun _ => rfl) rfl
    simp only [c_law_alike, evSs, evS, evE, evAnd, evEs, startD, List.map_cons, List.map_nil, List.length_cons, List.length_nil, List.cons_append, List.nil_append, List.getElem?_cons_zero, List.getElem?_cons_succ, Option.join_some, fromO_some, bnd_ret, constD, cmpD, is_none, isNone, asB_bl, Bool.false_eq_true, if_false, if_true, i1, i2, isi_str, eq_str hw hw, beq_self_eq_true, bnd_assoc]
  exact evF_ret hA rfl e
theorem alike_int (hA : At T 24 c_law_alike 2 3) {k : Nat} {i : Int} : evF T (k + 1) 24 [.int i, .int i] = Ms.ret (.bl true) := by
  have e : evSs (evF T k) c_law_alike (startD 3 [.int i, .int i]) = Ms.ret (.rt (.bl true)) := by
    have i1 : isiD "bool" (.int i) = Ms.ret (.bl false) := isiM (t := "int") (fun _ => rfl) rfl
    have i2 : isiD "int" (.int i) = Ms.ret (.bl true) := isiM (t := "int") (fun _ => rfl) rfl
    simp only [c_law_alike, evSs, evS, evE, evAnd, evEs, startD, List.map_cons, List.map_nil, List.length_cons, List.length_nil, List.cons_append, List.nil_append, List.getElem?_cons_zero, List.getElem?_cons_succ, Option.join_some, fromO_some, bnd_ret, constD, cmpD, is_none, isNone, asB_bl, Bool.false_eq_true, if_false, if_true, i1, i2, eq_int, beq_self_eq_true, Bool.not_false, bnd_assoc]
  exact evF_ret hA rfl e
def alikeBody : Ss := match c_law_alike with
  | .cons _ (.cons _ (.cons _ (.cons _ (.cons _ (.cons _ (.cons (.for_ _ _ b) _)))))) => b
  | _ => .nil
theorem alike_loop {k n : Nat} {a b : D} {η : List Cell} (h : ∀ i, i < n → ∃ x y, idxD a (.int i) η = .ok x η ∧ idxD b (.int i) η = .ok y η ∧ evF T k 24 [x, y] η = .ok (.bl true) η) : ∀ (l : List Nat) (z : Option D), (∀ i ∈ l, i < n) →
    ∃ z2, forL [] (bindT (.name 2)) (evSs (evF T k) alikeBody) (l.map fun i => .int ((i : Nat) : Int)) [some a, some b, z] η = .ok (.nx [some a, some b, z2]) η
  | [], z, _ => ⟨z, rfl⟩
  | i :: l, z, hl => by
    obtain ⟨x, y, h1, h2, h3⟩ := h i (hl i List.mem_cons_self)
    have e : evSs (evF T k) alikeBody [some a, some b, some (.int i)] η = .ok (.nx [some a, some b, some (.int i)]) η := by
      simp only [alikeBody, c_law_alike, evSs, evS, evE, evEs, List.getElem?_cons_zero, List.getElem?_cons_succ, Option.join_some, fromO_some, bnd_ret, bnd_assoc]
      unfold asB
      simp only [bnd_assoc]
      rw [bnd_ok h1, bnd_ok h2, bnd_ok h3]
      rfl
    obtain ⟨z2, q⟩ := alike_loop h l (some (.int i)) fun j hj => hl j (List.mem_cons_of_mem _ hj)
    refine ⟨z2, ?_⟩
    show forL [] _ _ (.int i :: l.map fun i => .int ((i : Nat) : Int)) _ _ = _
    conv => lhs; unfold forL
    have g0 : chkG [] η = .ok () η := rfl
    rw [bnd_ok g0]
    show bnd (evSs (evF T k) alikeBody [some a, some b, some (.int i)]) _ η = _
    rw [bnd_ok e]
    exact q
theorem alike_gen (hA : At T 24 c_law_alike 2 3) {k n : Nat} {a b : D} {η : List Cell} {t : String} (ht : t = "tuple" ∨ t = "list") (hn : n ≤ 1000000) (ta : tyOf η a = some t) (tb : ∀ η, tyOf η b = some t) (la : lenD [a] η = .ok (.int n) η) (lb : lenD [b] η = .ok (.int n) η)
    (h : ∀ i, i < n → ∃ x y, idxD a (.int i) η = .ok x η ∧ idxD b (.int i) η = .ok y η ∧ evF T k 24 [x, y] η = .ok (.bl true) η) : evF T (k + 1) 24 [a, b] η = .ok (.bl true) η := by
  obtain ⟨z2, q⟩ := alike_loop (k := k) h (List.range n) none fun i hi => List.mem_range.mp hi
  have nb : isNone b = false := by
    cases b <;> first | rfl | (have q2 := tb η; simp only [tyOf, Option.some.injEq] at q2; subst q2; simp at ht)
  have ib : ∀ T : String, ["bool", "int", "str", "tuple", "list"].contains T = true → isiD T b = Ms.ret (.bl (isSub t T)) := fun T hT => isiM tb hT
  have ia : ∀ T : String, ["bool", "int", "str", "tuple", "list"].contains T = true → isiD T a η = .ok (.bl (isSub t T)) η := fun T hT => isiE ta hT
  have r1 : itR1 (.int n) η = .ok ((List.range n).map fun i => .int ((i : Nat) : Int), []) η := by
    have hj : -1000000 ≤ (n : Int) ∧ (n : Int) ≤ 1000000 := by omega
    simp only [itR1]
    rw [if_pos hj]
    simp [Ms.ret]
  have e : evSs (evF T k) c_law_alike (startD 3 [a, b]) η = .ok (.rt (.bl true)) η := by
    have s1 : isSub t "bool" = false := by rcases ht with rfl | rfl <;> rfl
    have s2 : isSub t "int" = false := by rcases ht with rfl | rfl <;> rfl
    have s3 : isSub t "str" = false := by rcases ht with rfl | rfl <;> rfl
    simp only [c_law_alike, evSs, evS, evE, evAnd, evOr, evEs, startD, List.map_cons, List.map_nil, List.length_cons, List.length_nil, List.cons_append, List.nil_append, List.getElem?_cons_zero, List.getElem?_cons_succ, Option.join_some, fromO_some, bnd_ret, constD, cmpD, biD, is_none, nb, asB_bl, Bool.false_eq_true, if_false, asB_bnd, bnd_assoc, s1, s2, s3, ib "bool" rfl, ib "int" rfl, ib "str" rfl, ib "tuple" rfl, ib "list" rfl]
    rw [bnd_ok (ia "tuple" rfl)]
    simp only [ne_bl, beq_self_eq_true, Bool.not_true, bnd_ret, asB_bl, asB_bnd, Bool.false_eq_true, if_false, bnd_assoc]
    rw [bnd_ok (ia "list" rfl)]
    simp only [ne_bl, beq_self_eq_true, Bool.not_true, bnd_ret, asB_bl, asB_bnd, Bool.false_eq_true, if_false, bnd_assoc, List.getElem?_cons_zero, List.getElem?_cons_succ, Option.join_some, fromO_some]
    rw [bnd_ok la, bnd_ok lb]
    simp only [ne_int, beq_self_eq_true, Bool.not_true, bnd_ret, asB_bl, asB_bnd, Bool.false_eq_true, if_false, bnd_assoc, evIt, evE, evEs, biD, List.getElem?_cons_zero, List.getElem?_cons_succ, Option.join_some, fromO_some]
    rw [bnd_ok lb, bnd_ok r1]
    try dsimp only
    simp only [alikeBody, c_law_alike, evSs, evS, evE, evEs, bnd_ret, asB_bl, asB_bnd, bnd_assoc] at q
    exact (bnd_ok q).trans rfl
  exact evF_same hA rfl e
theorem ix_get {ds : List D} {i : Nat} {x : D} {η : List Cell} (h : ds[i]? = some x) : idxD (.tup ds) (.int i) η = .ok x η ∧ idxD (.fl ds) (.int i) η = .ok x η := by
  have hi := (List.getElem?_eq_some_iff.mp h).1
  have a : atI ds (i : Int) = some x := by
    unfold atI ixN
    have h1 : (0 : Int) ≤ (i : Int) := by omega
    have h2 : (i : Int) < (ds.length : Int) := by omega
    simp [h1, h2, h]
  constructor
  · show fromO (atI ds (i : Int)) η = _
    rw [a]
    rfl
  · show fromO ((asL η (.fl ds)).bind fun xs => atI xs (i : Int)) η = _
    simp [asL, a]
    rfl

/-- plain data, n deep -/
inductive Pl : Nat → D → Prop where
  | int {n : Nat} {i : Int} : Pl n (.int i)
  | str {n : Nat} {w : Str} (h : PyData.strOk w = true) : Pl n (.str w)
  | tup {n : Nat} {xs : List D} (h : ∀ x ∈ xs, Pl n x) (l : xs.length ≤ 1000000) : Pl (n + 1) (.tup xs)
  | fl {n : Nat} {xs : List D} (h : ∀ x ∈ xs, Pl n x) (l : xs.length ≤ 1000000) : Pl (n + 1) (.fl xs)
theorem alike_pl (hA : At T 24 c_law_alike 2 3) {n : Nat} {d : D} (h : Pl n d) : ∀ (k : Nat) (η : List Cell), evF T (n + k + 1) 24 [d, d] η = .ok (.bl true) η := by
  induction h with
  | int => intro k η; rw [alike_int hA]; rfl
  | str h => intro k η; rw [alike_str hA h]; rfl
  | @tup n xs h l ih =>
    intro k η
    have e : n + 1 + k + 1 = (n + k + 1) + 1 := by omega
    rw [e]
    exact alike_gen hA (t := "tuple") (n := xs.length) (.inl rfl) l rfl (fun _ => rfl) rfl rfl fun j hj => ⟨_, _, (ix_get (List.getElem?_eq_getElem hj)).1, (ix_get (List.getElem?_eq_getElem hj)).1, ih _ (List.getElem_mem hj) k η⟩
  | @fl n xs h l ih =>
    intro k η
    have e : n + 1 + k + 1 = (n + k + 1) + 1 := by omega
    rw [e]
    exact alike_gen hA (t := "list") (n := xs.length) (.inr rfl) l rfl (fun _ => rfl) rfl rfl fun j hj => ⟨_, _, (ix_get (List.getElem?_eq_getElem hj)).2, (ix_get (List.getElem?_eq_getElem hj)).2, ih _ (List.getElem_mem hj) k η⟩
/-- a live list and the same list -/
theorem alike_ref (hA : At T 24 c_law_alike 2 3) {n m : Nat} {xs : List D} {η : List Cell} (hm : η[m]? = some (.lst xs)) (h : ∀ x ∈ xs, Pl n x) (l : xs.length ≤ 1000000) (k : Nat) : evF T (n + k + 2) 24 [.ref m, .fl xs] η = .ok (.bl true) η := by
  refine alike_gen hA (t := "list") (n := xs.length) (.inr rfl) l (by simp [tyOf, hm]) (fun _ => rfl) (cl_len hm) rfl fun j hj => ?_
  have e := List.getElem?_eq_getElem hj
  refine ⟨_, _, ?_, (ix_get e).2, alike_pl hA (h _ (List.getElem_mem hj)) k η⟩
  exact cl_ix hm (at_nat e)
theorem toD_pl {num many : Nat} : ∀ {d : Nat} {s : Sch}, Good num many d s → Pl (2 * d) s.toD := fun {d s} h => by
  induction h with
  | @mk d s h3 h4 ih =>
    have mono : ∀ {n m : Nat} {x : D}, n ≤ m → Pl n x → Pl m x := fun {n m x} hm hx => by
      induction hx generalizing m with
      | int => exact .int
      | str h => exact .str h
      | @tup n xs h l ih =>
        obtain ⟨m', rfl⟩ : ∃ m', m = m' + 1 := ⟨m - 1, by omega⟩
        exact .tup (fun x hx => ih x hx (by omega)) l
      | @fl n xs h l ih =>
        obtain ⟨m', rfl⟩ : ∃ m', m = m' + 1 := ⟨m - 1, by omega⟩
        exact .fl (fun x hx => ih x hx (by omega)) l
    have lt : ∀ {c : Nat} {m : Nat}, c ∈ letters → Pl m (.str (S1 c)) := fun hc => .str (S1_ok (by have := letter_lt hc; omega)).ok
    rw [toD_parts]
    have e : 2 * (d + 1) = (2 * d + 1) + 1 := by omega
    rw [e]
    refine .tup (fun x hx => ?_) (by have := parts_len s; simp; omega)
    rcases List.mem_cons.mp hx with rfl | hx
    · exact .str (head_ok s)
    · obtain ⟨q, hq, rfl⟩ := List.mem_map.mp hx
      cases s with
      | step w n =>
        simp only [Sch.parts, List.mem_cons, List.mem_nil_iff, or_false] at hq
        rcases hq with rfl | rfl
        · exact lt h3.1
        · exact .int
      | many b ks =>
        simp only [Sch.parts, List.mem_cons, List.mem_nil_iff, or_false] at hq
        subst hq
        refine .tup (fun x hx => ?_) (by rw [toDs_map, List.length_map]; have : ks.length ≤ 4 := h3.2; omega)
        rw [toDs_map] at hx
        obtain ⟨kd, hk, rfl⟩ := List.mem_map.mp hx
        exact ih kd hk
      | gate b w s =>
        simp only [Sch.parts, List.mem_cons, List.mem_nil_iff, or_false] at hq
        rcases hq with rfl | rfl
        · exact lt h3
        · exact mono (by omega) (ih s List.mem_cons_self)
      | fin w n s =>
        simp only [Sch.parts, List.mem_cons, List.mem_nil_iff, or_false] at hq
        rcases hq with rfl | rfl | rfl
        · exact lt h3.1
        · exact .int
        · exact mono (by omega) (ih s List.mem_cons_self)
      | most n s =>
        simp only [Sch.parts, List.mem_cons, List.mem_nil_iff, or_false] at hq
        rcases hq with rfl | rfl
        · exact .int
        · exact mono (by omega) (ih s List.mem_cons_self)
      | hc b s =>
        simp only [Sch.parts, List.mem_cons, List.mem_nil_iff, or_false] at hq
        subst hq
        exact mono (by omega) (ih s List.mem_cons_self)
      | use k =>
        simp only [Sch.parts, List.mem_cons, List.mem_nil_iff, or_false] at hq
        subst hq
        exact .int
theorem paper_pl {ss : List Sch} {u1 u2 : Nat → Nat} (P : Paper ss u1 u2) : Pl 11 (paperD ss) := .tup (fun x hx => by
  obtain ⟨s, hs, rfl⟩ := List.mem_map.mp hx
  obtain ⟨i, hi⟩ := List.getElem?_of_mem hs
  exact toD_pl (P.good i s hi)) (by have := P.hi; simp; omega)
end
end Ev
end
section
set_option Elab.async false
set_option linter.all false
set_option maxRecDepth 100000
set_option maxHeartbeats 2000000
/-! read_work, written_work. -/
namespace Ev
open PySem L2 Ms Cod
def spaceS : Str := " "
def readBody : Ss := match c_read_work with
  | .cons _ (.cons (.for_ _ _ b) _) => b
  | _ => .nil
theorem set_last {η : List Cell} {c d : Cell} : (η ++ [c]).set η.length d = η ++ [d] := by
  rw [List.set_append_right _ _ (Nat.le_refl _), Nat.sub_self]
  rfl
theorem get_last {η : List Cell} {c : Cell} : (η ++ [c])[η.length]? = some c := by
  rw [List.getElem?_append_right (Nat.le_refl _), Nat.sub_self]
  rfl
section
variable {T : List FD}
theorem read_loop (h : Works T) {k : Nat} {x0 : Option D} {η : List Cell} : ∀ (ws : List Str) (i : Nat) (done : List Str) (x y : Option D), (∀ w ∈ ws, OkW w ∧ stepB w = true) → done.length + ws.length < 1000 →
    ∃ x2 y2, forL [] (bindT (.tup [2, 3])) (evSs (evF T (k + 4)) readBody) (enumL i (txts ws)) [x0, some (.ref η.length), x, y] (η ++ [.lst (txts done)]) = .ok (.nx [x0, some (.ref η.length), x2, y2]) (η ++ [.lst (txts (done ++ ws))])
  | [], i, done, x, y, _, _ => ⟨x, y, by
    rw [List.append_nil]
    rfl⟩
  | w :: ws, i, done, x, y, hw, hl => by
    obtain ⟨ow, hs⟩ := hw w List.mem_cons_self
    simp only [List.length_cons] at hl
    have lim : LIM = 1000000 := rfl
    have sp := is_step_ok h (k := k + 2) ow
    rw [hs] at sp
    have la : (txts done).length < LIM := by simp [txts]; omega
    have b : evSs (evF T (k + 4)) readBody [x0, some (.ref η.length), some (.int i), some (.str w)] (η ++ [.lst (txts done)]) = .ok (.nx [x0, some (.ref η.length), some (.int i), some (.str w)]) (η ++ [.lst (txts (done ++ [w]))]) := by
      simp only [readBody, c_read_work, evSs, evS, evE, evEs, evAnd, evOr, evO, evC, evIt, startD, List.map_cons, List.map_nil, List.length_cons, List.length_nil, List.cons_append, List.nil_append, List.replicate, List.getElem?_cons_zero, List.getElem?_cons_succ, Option.join_some, List.set_cons_zero, List.set_cons_succ, fromO_some, bnd_ret, bnd_assoc, constD, cmpD, binD, biD, bindT, setAll, asB_bnd, asB_bl, if_true, if_false, Bool.false_eq_true, Bool.not_true, Bool.not_false, LE0, LE1, LE2, LE3, LE4, sp]
      rw [bnd_ok (cl_rec rfl get_last), bnd_ok (cl_app get_last la _), set_last]
      simp [txts, Ms.ret]
    obtain ⟨x2, y2, q⟩ := read_loop h (x0 := x0) (η := η) ws (i + 1) (done ++ [w]) (some (.int i)) (some (.str w)) (fun v hv => hw v (List.mem_cons_of_mem _ hv)) (by simp; omega)
    refine ⟨x2, y2, ?_⟩
    rw [List.append_assoc] at q
    show forL [] _ _ (.tup [.int i, .str w] :: enumL (i + 1) (txts ws)) _ _ = _
    conv => lhs; unfold forL
    rw [chk_nil, bnd_ret]
    show bnd (evSs (evF T (k + 4)) readBody [x0, some (.ref η.length), some (.int i), some (.str w)]) _ _ = _
    rw [bnd_ok b]
    exact q
/-- the words of a line -/
def wds (z : Str) : List Str := if (z == ("" : Str)) = true then [] else Txt.split z spaceS
theorem split_ite {z : Str} (hl : z.length ≤ LIM) : (if (!(z == ("" : Str))) = true then bnd (fun η => if recvOk Mt.split (.str z) η = true then Res.ok () η else Res.bad) fun _ => mtD Mt.split (.str z) [.str " "] else newL false []) = Ms.ret (.fl (txts (wds z))) := by
  unfold wds
  funext η
  cases h : z == ("" : Str) with
  | true =>
    simp only [Bool.not_true, Bool.false_eq_true, if_false, if_true]
    rfl
  | false =>
    have l1 : ((spaceS.length == 0) = false ∧ z.length ≤ LIM) := ⟨by decide +kernel, hl⟩
    have m : mtD Mt.split (.str z) [.str spaceS] η = .ok (.fl (txts (Txt.split z spaceS))) η := by
      simp only [mtD]
      rw [if_pos l1]
    simp only [Bool.not_false, Bool.false_eq_true, if_false, if_true]
    rw [bnd_ok (a := ()) (η' := η) (by rfl)]
    exact m
theorem read_work_ok (h : Works T) (h2 : At T 41 c_read_work 1 4) {k : Nat} {z : Str} {η : List Cell} (hz : PyData.strOk z = true) (hl : z.length ≤ LIM) (hw : ∀ w ∈ wds z, OkW w ∧ stepB w = true) (hn : (wds z).length < 1000) (hk : nw 0 false (wds z) = none) :
    evF T (k + 5) 41 [.str z] η = .ok (.ref η.length) (η ++ [.lst (txts (wds z))]) := by
  obtain ⟨x2, y2, q⟩ := read_loop h (k := k) (x0 := some (.str z)) (η := η) (wds z) 0 [] none none hw (by simpa using hn)
  rw [List.nil_append] at q
  have oE : PyData.strOk ("" : Str) = true := by decide +kernel
  have nd := need_ref h (k := k) (n := η.length) (η := η ++ [.lst (txts (wds z))]) get_last (fun w h => (hw w h).1) hk
  have e : evSs (evF T (k + 4)) c_read_work (startD 4 [.str z]) η = .ok (.rt (.ref η.length)) (η ++ [.lst (txts (wds z))]) := by
    rw [show c_read_work = .cons (.asg (.name 1) (.lst true .nil)) (.cons (.for_ (.tup [2, 3]) (.enum (.ite (.cmp .ne (.loc 0) (.cst (.str ""))) (.mt .split (.loc 0) (.cons (.cst (.str " ")) .nil)) (.lst false .nil))) readBody) (.cons (.ex (.call 9 (.cons (.loc 1) .nil))) (.cons (.ret (.loc 1)) .nil))) from rfl]
    simp only [evSs, evS, evE, evEs, evAnd, evOr, evO, evC, evIt, startD, List.map_cons, List.map_nil, List.length_cons, List.length_nil, List.cons_append, List.nil_append, List.replicate, List.getElem?_cons_zero, List.getElem?_cons_succ, Option.join_some, List.set_cons_zero, List.set_cons_succ, fromO_some, bnd_ret, bnd_assoc, constD, cmpD, binD, biD, bindT, setAll, asB_bnd, asB_bl, if_true, if_false, Bool.false_eq_true, Bool.not_true, Bool.not_false, LE0, LE1, LE2, LE3, LE4]
    rw [bnd_ok (cl_new (Nat.zero_le _))]
    try simp only [evSs, evS, evE, evEs, evAnd, evOr, evO, evC, evIt, startD, List.map_cons, List.map_nil, List.length_cons, List.length_nil, List.cons_append, List.nil_append, List.replicate, List.getElem?_cons_zero, List.getElem?_cons_succ, Option.join_some, List.set_cons_zero, List.set_cons_succ, fromO_some, bnd_ret, bnd_assoc, constD, cmpD, binD, biD, bindT, setAll, asB_bnd, asB_bl, if_true, if_false, Bool.false_eq_true, Bool.not_true, Bool.not_false, LE0, LE1, LE2, LE3, LE4]
    simp only [ne_str hz oE, evSs, evS, evE, evEs, evAnd, evOr, evO, evC, evIt, startD, List.map_cons, List.map_nil, List.length_cons, List.length_nil, List.cons_append, List.nil_append, List.replicate, List.getElem?_cons_zero, List.getElem?_cons_succ, Option.join_some, List.set_cons_zero, List.set_cons_succ, fromO_some, bnd_ret, bnd_assoc, constD, cmpD, binD, biD, bindT, setAll, asB_bnd, asB_bl, if_true, if_false, Bool.false_eq_true, Bool.not_true, Bool.not_false, LE0, LE1, LE2, LE3, LE4]
    have sp := split_ite hl
    rw [show (if (!(z == ("" : Str))) = true then bnd (fun η => if recvOk Mt.split (.str z) η = true then Res.ok () η else Res.bad) fun _ => mtD Mt.split (.str z) [.str " "] else newL false []) = Ms.ret (.fl (txts (wds z))) from sp]
    rw [bnd_ret, enum_fl, bnd_ret]
    refine (bnd_ok q).trans ?_
    simp only [evSs, evS, evE, evEs, evAnd, evOr, evO, evC, evIt, startD, List.map_cons, List.map_nil, List.length_cons, List.length_nil, List.cons_append, List.nil_append, List.replicate, List.getElem?_cons_zero, List.getElem?_cons_succ, Option.join_some, List.set_cons_zero, List.set_cons_succ, fromO_some, bnd_ret, bnd_assoc, constD, cmpD, binD, biD, bindT, setAll, asB_bnd, asB_bl, if_true, if_false, Bool.false_eq_true, Bool.not_true, Bool.not_false, LE0, LE1, LE2, LE3, LE4]
    rw [bnd_ok nd]
    rfl
  rw [evF_at h2 rfl, e]
  show trunc η.length (.ok (.ref η.length) _) = _
  unfold trunc
  try dsimp only
  rw [if_neg]
  rintro ⟨_, z2, _⟩
  simp [dUnder] at z2
theorem written_work_ok (h : Works T) (h2 : At T 40 c_written_work 1 1) {k : Nat} {ws : List Str} {η : List Cell} (hw : ∀ w ∈ ws, OkW w) (hl : (ws.map fun w : Str => w.length).sum + ws.length ≤ LIM) (hk : nw 0 false ws = none) : evF T (k + 5) 40 [.fl (txts ws)] η = .ok (.str (Txt.join spaceS ws)) η := by
  refine evF_same (fl := .rt (.str (Txt.join spaceS ws))) h2 rfl ?_
  have as : ∀ ws : List Str, asSs (txts ws) = some ws := fun ws => by
    induction ws with
    | nil => rfl
    | cons w ws ih => show (asSs (txts ws)).map (w :: ·) = _; rw [ih]; rfl
  have jn : mtD .join (.str " ") [.fl (txts ws)] η = .ok (.str (Txt.join spaceS ws)) η := by
    show (match (asQ η (.fl (txts ws))).bind asSs with
      | some ys => if (ys.map fun w : Str => w.length).sum + ys.length * (" " : Str).length ≤ LIM then Res.ok (D.str (Txt.join " " ys)) η else .bad
      | none => .bad) = _
    rw [show asQ η (.fl (txts ws)) = some (txts ws) from rfl]
    show (match asSs (txts ws) with
      | some ys => if (ys.map fun w : Str => w.length).sum + ys.length * (" " : Str).length ≤ LIM then Res.ok (D.str (Txt.join " " ys)) η else .bad
      | none => .bad) = _
    rw [as]
    try dsimp only
    rw [if_pos (by
      have : (" " : Str).length = 1 := by decide +kernel
      rw [this]
      omega)]
    rfl
  simp only [c_written_work, evSs, evS, evE, evEs, evAnd, evOr, evO, evC, evIt, startD, List.map_cons, List.map_nil, List.length_cons, List.length_nil, List.cons_append, List.nil_append, List.replicate, List.getElem?_cons_zero, List.getElem?_cons_succ, Option.join_some, List.set_cons_zero, List.set_cons_succ, fromO_some, bnd_ret, bnd_assoc, constD, cmpD, binD, biD, bindT, setAll, asB_bnd, asB_bl, if_true, if_false, Bool.false_eq_true, Bool.not_true, Bool.not_false, LE0, LE1, LE2, LE3, LE4]
  rw [bnd_ok (need_fl h hw hk), bnd_ok (a := ()) (η' := η) (by rfl), bnd_ok jn]
  rfl
end
end Ev
end
section
set_option Elab.async false
set_option linter.all false
set_option maxRecDepth 100000
set_option maxHeartbeats 2000000
/-! A scheme's words. -/
namespace Ev
open PySem L2 Ms Cod
def num (n : Nat) : Str := Str.ofString (toString ((n : Nat) : Int))
mutual
def Sch.words : Sch → List Str
  | .step w n => ["step", S1 w, num n]
  | .many b ks => (if b then "best" else "all") :: num ks.length :: Sch.wordsL ks
  | .gate b w s => (if b then "behind" else "seen") :: S1 w :: s.words
  | .fin w n s => "end" :: S1 w :: num n :: s.words
  | .most n s => "most" :: num n :: s.words
  | .hc b s => (if b then "carry" else "half") :: s.words
  | .use k => ["use", num k]
def Sch.wordsL : List Sch → List Str
  | [] => []
  | s :: r => s.words ++ Sch.wordsL r
end
theorem wordsL_map : ∀ ks : List Sch, Sch.wordsL ks = (ks.map Sch.words).flatten
  | [] => by rw [Sch.wordsL]; rfl
  | s :: r => by rw [Sch.wordsL, wordsL_map r]; rfl
/-- a part's words -/
def Sch.partW : Sch → List (List Str)
  | .step w n => [[S1 w], [num n]]
  | .many _ ks => [num ks.length :: Sch.wordsL ks]
  | .gate _ w s => [[S1 w], s.words]
  | .fin w n s => [[S1 w], [num n], s.words]
  | .most n s => [[num n], s.words]
  | .hc _ s => [s.words]
  | .use k => [[num k]]
theorem words_parts (s : Sch) : s.words = s.head :: s.partW.flatten := by
  cases s with
  | step w n => rw [Sch.words]; rfl
  | many b ks => rw [Sch.words]; cases b <;> simp [Sch.partW] <;> rfl
  | gate b w s => rw [Sch.words]; cases b <;> simp [Sch.partW] <;> rfl
  | fin w n s => rw [Sch.words]; simp [Sch.partW]; rfl
  | most n s => rw [Sch.words]; simp [Sch.partW]; rfl
  | hc b s => rw [Sch.words]; cases b <;> simp [Sch.partW] <;> rfl
  | use k => rw [Sch.words]; rfl
theorem words_len (s : Sch) : s.words.length ≤ 3 * cost (fun _ => 1) s := by
  have := @Sch.rec (fun s => s.words.length ≤ 3 * cost (fun _ => 1) s) (fun ks => (Sch.wordsL ks).length ≤ 3 * costs (fun _ => 1) ks)
  refine this ?_ ?_ ?_ ?_ ?_ ?_ ?_ ?_ ?_ s
  · intro w n; simp [Sch.words, cost]
  · intro b ks ih; simp only [Sch.words, cost, List.length_cons]; omega
  · intro b w s ih; simp only [Sch.words, cost, List.length_cons]; omega
  · intro w n s ih; simp only [Sch.words, cost, List.length_cons]; omega
  · intro n s ih; simp only [Sch.words, cost, List.length_cons]; omega
  · intro b s ih; simp only [Sch.words, cost, List.length_cons]; omega
  · intro k; simp [Sch.words, cost]
  · simp [Sch.wordsL, costs]
  · intro s r ih1 ih2; simp only [Sch.wordsL, costs, List.length_append]; omega
theorem costs_mem {f : Sch → Nat} {s : Sch} : ∀ {ks : List Sch}, s ∈ ks → cost f s ≤ costs f ks
  | v :: ks, h => by
    rw [costs]
    rcases List.mem_cons.mp h with rfl | h
    · omega
    · have := costs_mem (f := f) h
      omega
theorem wordsL_len (ks : List Sch) : (Sch.wordsL ks).length ≤ 3 * costs (fun _ => 1) ks := by
  induction ks with
  | nil => simp [Sch.wordsL]
  | cons s ks ih =>
    have := words_len s
    simp only [Sch.wordsL, costs, List.length_append]
    omega
def wbBody : Ss := match c_words_by with
  | .cons _ (.cons (.for_ _ _ b) _) => b
  | _ => .nil
def wbKid : Ss := match wbBody with
  | .cons (.if_ _ (.cons _ (.cons (.for_ _ _ b) _)) _) _ => b
  | _ => .nil
theorem wb_code : wbBody = .cons (.if_ (.cmp .eq (.loc 3) (.cst (.str "m"))) (.cons (.ex (.mt .append (.loc 1) (.cons (.bi .str (.cons (.bi .len (.cons (.loc 2) .nil)) .nil)) .nil))) (.cons (.for_ (.name 4) (.val (.loc 2)) wbKid) .nil))
  (.cons (.if_ (.cmp .eq (.loc 3) (.cst (.str "s"))) (.cons (.aug 1 .add (.call 31 (.cons (.loc 2) .nil))) .nil) (.cons (.ex (.mt .append (.loc 1) (.cons (.bi .str (.cons (.loc 2) .nil)) .nil))) .nil)) .nil)) .nil := rfl
theorem str_num {n : Nat} (h : n < 1000) : strD [.int n] = Ms.ret (.str (num n)) := by
  show (if ((n : Nat) : Int).natAbs < 2 ^ 64 then Ms.ret (D.str (num n)) else bad) = _
  rw [if_pos (by
    have : ((n : Nat) : Int).natAbs = n := Int.natAbs_natCast n
    rw [this]
    omega)]
theorem txts_app (a b : List Str) : txts (a ++ b) = txts a ++ txts b := by simp [txts]
theorem wf_last {η : List Cell} (h : Wf η) (ws : List Str) : Wf (η ++ [.lst (txts ws)]) := h.app fun c hc => by
  rw [List.mem_singleton.mp hc]
  exact frozens_under _ (txts_flat ws)
section
variable {cf : Nat → List D → M D} {η : List Cell}
/-- what is asked of a kid's call -/
def KidW (cf : Nat → List D → M D) (s : Sch) : Prop := ∀ η, Wf η → cf 31 [s.toD] η = .ok (.fl (txts s.words)) η
theorem kid_loop (hη : Wf η) {x0 x2 x3 : Option D} : ∀ (ks : List Sch) (acc : List Str) (x4 : Option D), (∀ s ∈ ks, KidW cf s) → acc.length + (Sch.wordsL ks).length ≤ 100000 →
    ∃ y4, forL [] (bindT (.name 4)) (evSs cf wbKid) (ks.map Sch.toD) [x0, some (.ref η.length), x2, x3, x4] (η ++ [.lst (txts acc)]) = .ok (.nx [x0, some (.ref η.length), x2, x3, y4]) (η ++ [.lst (txts (acc ++ Sch.wordsL ks))])
  | [], acc, x4, _, _ => ⟨x4, by
    rw [Sch.wordsL, List.append_nil]
    rfl⟩
  | s :: ks, acc, x4, h, hl => by
    rw [Sch.wordsL, List.length_append] at hl
    obtain ⟨y4, q⟩ := kid_loop hη (x0 := x0) (x2 := x2) (x3 := x3) ks (acc ++ s.words) (some s.toD) (fun v hv => h v (List.mem_cons_of_mem _ hv)) (by rw [List.length_append]; omega)
    refine ⟨y4, ?_⟩
    have lim : LIM = 1000000 := rfl
    have hk := h s List.mem_cons_self _ (wf_last hη acc)
    have b : evSs cf wbKid [x0, some (.ref η.length), x2, x3, some s.toD] (η ++ [.lst (txts acc)]) = .ok (.nx [x0, some (.ref η.length), x2, x3, some s.toD]) (η ++ [.lst (txts (acc ++ s.words))]) := by
      simp only [wbKid, wbBody, c_words_by, evSs, evS, evE, evEs, evAnd, evOr, evO, evC, evIt, startD, List.map_cons, List.map_nil, List.length_cons, List.length_nil, List.cons_append, List.nil_append, List.replicate, List.getElem?_cons_zero, List.getElem?_cons_succ, Option.join_some, List.set_cons_zero, List.set_cons_succ, fromO_some, bnd_ret, bnd_assoc, constD, cmpD, binD, biD, bindT, setAll, asB_bnd, asB_bl, if_true, if_false, Bool.false_eq_true, Bool.not_true, Bool.not_false, LE0, LE1, LE2, LE3, LE4]
      rw [bnd_ok hk, bnd_ok (cl_aug get_last (by simp [txts]; omega)), set_last, ← txts_app]
      rfl
    rw [Sch.wordsL, ← List.append_assoc]
    show forL [] _ _ (s.toD :: ks.map Sch.toD) _ _ = _
    conv => lhs; unfold forL
    rw [chk_nil, bnd_ret]
    show bnd (evSs cf wbKid [x0, some (.ref η.length), x2, x3, some s.toD]) _ _ = _
    rw [bnd_ok b]
    exact q
/-- a part, its sort, its words -/
inductive PW (cf : Nat → List D → M D) : D → Nat → List Str → Prop where
  | atom {d : D} {c : Nat} {v : Str} (h : strD [d] = Ms.ret (.str v)) (h1 : c ≠ 109) (h2 : c ≠ 115) (h3 : c < 1000) : PW cf d c [v]
  | kid {s : Sch} (h : KidW cf s) : PW cf s.toD 115 s.words
  | many {ks : List Sch} (h : ∀ s ∈ ks, KidW cf s) (hn : ks.length < 1000) : PW cf (.tup (Sch.toDs ks)) 109 (num ks.length :: Sch.wordsL ks)
theorem wb_turn (hη : Wf η) {d : D} {c : Nat} {W : List Str} (h : PW cf d c W) {acc : List Str} (hl : acc.length + W.length ≤ 100000) {x0 x4 : Option D} :
    ∃ y4, evSs cf wbBody [x0, some (.ref η.length), some d, some (.str (S1 c)), x4] (η ++ [.lst (txts acc)]) = .ok (.nx [x0, some (.ref η.length), some d, some (.str (S1 c)), y4]) (η ++ [.lst (txts (acc ++ W))]) := by
  have lim : LIM = 1000000 := rfl
  have ap : ∀ (acc : List Str) (v : Str), txts (acc ++ [v]) = txts acc ++ [.str v] := fun acc v => txts_app acc [v]
  rw [wb_code]
  generalize hK : wbKid = K
  cases h with
  | @atom _ _ v h h1 h2 h3 =>
    refine ⟨x4, ?_⟩
    simp only [evSs, evS, evE, evEs, evAnd, evOr, evO, evC, evIt, startD, List.map_cons, List.map_nil, List.length_cons, List.length_nil, List.cons_append, List.nil_append, List.replicate, List.getElem?_cons_zero, List.getElem?_cons_succ, Option.join_some, List.set_cons_zero, List.set_cons_succ, fromO_some, bnd_ret, bnd_assoc, constD, cmpD, binD, biD, bindT, setAll, asB_bnd, asB_bl, if_true, if_false, Bool.false_eq_true, Bool.not_true, Bool.not_false, LE0, LE1, LE2, LE3, LE4, eM, eS, sg_eq h3 (show 109 < 1000 by decide), sg_eq h3 (show 115 < 1000 by decide), beq_eq_false_iff_ne.mpr h1, beq_eq_false_iff_ne.mpr h2, h]
    simp only [List.length_singleton] at hl
    rw [bnd_ok (cl_rec rfl get_last), bnd_ok (cl_app get_last (by simp [txts]; omega) _), set_last, ap]
    rfl
  | @kid s h =>
    refine ⟨x4, ?_⟩
    have hk := h _ (wf_last hη acc)
    simp only [evSs, evS, evE, evEs, evAnd, evOr, evO, evC, evIt, startD, List.map_cons, List.map_nil, List.length_cons, List.length_nil, List.cons_append, List.nil_append, List.replicate, List.getElem?_cons_zero, List.getElem?_cons_succ, Option.join_some, List.set_cons_zero, List.set_cons_succ, fromO_some, bnd_ret, bnd_assoc, constD, cmpD, binD, biD, bindT, setAll, asB_bnd, asB_bl, if_true, if_false, Bool.false_eq_true, Bool.not_true, Bool.not_false, LE0, LE1, LE2, LE3, LE4, eM, eS, sg_eq (show 115 < 1000 by decide) (show 109 < 1000 by decide), sg_eq (show 115 < 1000 by decide) (show 115 < 1000 by decide), show ((115 : Nat) == 109) = false from rfl, beq_self_eq_true]
    rw [bnd_ok hk, bnd_ok (cl_aug get_last (by simp [txts]; omega)), set_last, ← txts_app]
    rfl
  | @many ks h hn =>
    simp only [List.length_cons] at hl
    obtain ⟨y4, q⟩ := kid_loop hη (x0 := x0) (x2 := some (.tup (Sch.toDs ks))) (x3 := some (.str (S1 109))) ks (acc ++ [num ks.length]) x4 h (by simp; omega)
    refine ⟨y4, ?_⟩
    rw [hK] at q
    have e1 : lenD [.tup (Sch.toDs ks)] = Ms.ret (.int ks.length) := by rw [len_tup, toDs_map, List.length_map]
    have it : itVal (.tup (Sch.toDs ks)) = Ms.ret (ks.map Sch.toD, []) := by rw [it_tup, toDs_map]
    simp only [evSs, evS, evE, evEs, evAnd, evOr, evO, evC, evIt, startD, List.map_cons, List.map_nil, List.length_cons, List.length_nil, List.cons_append, List.nil_append, List.replicate, List.getElem?_cons_zero, List.getElem?_cons_succ, Option.join_some, List.set_cons_zero, List.set_cons_succ, fromO_some, bnd_ret, bnd_assoc, constD, cmpD, binD, biD, bindT, setAll, asB_bnd, asB_bl, if_true, if_false, Bool.false_eq_true, Bool.not_true, Bool.not_false, LE0, LE1, LE2, LE3, LE4, eM, sg_eq (show 109 < 1000 by decide) (show 109 < 1000 by decide), beq_self_eq_true, e1, str_num hn]
    rw [bnd_ok (cl_rec rfl get_last), bnd_ok (cl_app get_last (by simp [txts]; omega) _), set_last, ← ap]
    simp only [evSs, evS, evE, evEs, evAnd, evOr, evO, evC, evIt, startD, List.map_cons, List.map_nil, List.length_cons, List.length_nil, List.cons_append, List.nil_append, List.replicate, List.getElem?_cons_zero, List.getElem?_cons_succ, Option.join_some, List.set_cons_zero, List.set_cons_succ, fromO_some, bnd_ret, bnd_assoc, constD, cmpD, binD, biD, bindT, setAll, asB_bnd, asB_bl, if_true, if_false, Bool.false_eq_true, Bool.not_true, Bool.not_false, LE0, LE1, LE2, LE3, LE4, it]
    rw [bnd_ok q, List.append_assoc]
    rfl
end
end Ev
end
section
set_option Elab.async false
set_option linter.all false
set_option maxRecDepth 100000
set_option maxHeartbeats 2000000
/-! words_by, whole. -/
namespace Ev
open PySem L2 Ms Cod
def Sch.triples (s : Sch) : List ((D × Nat) × List Str) := s.parts.zip s.partW
theorem triples_fst (s : Sch) : s.triples.map (·.1) = s.parts := by cases s <;> rfl
theorem triples_snd (s : Sch) : s.triples.map (·.2) = s.partW := by cases s <;> rfl
theorem triples_pw {cf : Nat → List D → M D} {num many : Nat} {s : Sch} (hm : many < 1000) (h : s.here num many) (hk : ∀ v ∈ s.kids, KidW cf v) : ∀ q ∈ s.triples, PW cf q.1.1 q.1.2 q.2 := by
  have aW : ∀ w : Str, PW cf (.str w) 119 [w] := fun w => .atom rfl (by decide) (by decide) (by decide)
  have aN : ∀ (n c : Nat), n < 1000 → (c = 110 ∨ c = 112 ∨ c = 117) → PW cf (.int n) c [Ev.num n] := fun n c hn hc => .atom (str_num hn) (by omega) (by omega) (by omega)
  have ls : ∀ w : Str, strD [.str w] = Ms.ret (.str w) := fun _ => rfl
  intro q hq
  cases s with
  | step w n =>
    rcases List.mem_cons.mp hq with rfl | hq
    · exact aW _
    · rw [List.mem_singleton.mp hq]
      exact aN _ _ (by have := h.2.2; omega) (by simp)
  | many b ks =>
    rw [List.mem_singleton.mp hq]
    exact .many hk (by have := h.2; omega)
  | gate b w s =>
    rcases List.mem_cons.mp hq with rfl | hq
    · exact aW _
    · rw [List.mem_singleton.mp hq]
      exact .kid (hk s List.mem_cons_self)
  | fin w n s =>
    rcases List.mem_cons.mp hq with rfl | hq
    · exact aW _
    · rcases List.mem_cons.mp hq with rfl | hq
      · exact aN _ _ (by have := h.2.2; omega) (by simp)
      · rw [List.mem_singleton.mp hq]
        exact .kid (hk s List.mem_cons_self)
  | most n s =>
    rcases List.mem_cons.mp hq with rfl | hq
    · exact aN _ _ (by have : n ≤ 30 := h; omega) (by simp)
    · rw [List.mem_singleton.mp hq]
      exact .kid (hk s List.mem_cons_self)
  | hc b s =>
    rw [List.mem_singleton.mp hq]
    exact .kid (hk s List.mem_cons_self)
  | use k =>
    rw [List.mem_singleton.mp hq]
    exact aN _ _ (by have := h.2; omega) (by simp)
section
variable {cf : Nat → List D → M D} {η : List Cell}
theorem wb_loop (hη : Wf η) {x0 : Option D} : ∀ (ts : List ((D × Nat) × List Str)) (acc : List Str) (x2 x3 x4 : Option D), (∀ q ∈ ts, PW cf q.1.1 q.1.2 q.2) → acc.length + ((ts.map (·.2)).flatten).length ≤ 100000 →
    ∃ y2 y3 y4, forL [] (bindT (.tup [2, 3])) (evSs cf wbBody) ((ts.map (·.1)).map fun q => .tup [q.1, .str (S1 q.2)]) [x0, some (.ref η.length), x2, x3, x4] (η ++ [.lst (txts acc)]) =
      .ok (.nx [x0, some (.ref η.length), y2, y3, y4]) (η ++ [.lst (txts (acc ++ (ts.map (·.2)).flatten))])
  | [], acc, x2, x3, x4, _, _ => ⟨x2, x3, x4, by
    rw [List.map_nil, List.map_nil, List.map_nil, List.flatten_nil, List.append_nil]
    rfl⟩
  | q :: ts, acc, x2, x3, x4, h, hl => by
    rw [List.map_cons, List.flatten_cons, List.length_append] at hl
    obtain ⟨z4, b⟩ := wb_turn hη (h q List.mem_cons_self) (acc := acc) (by omega) (x0 := x0) (x4 := x4)
    obtain ⟨y2, y3, y4, l⟩ := wb_loop hη (x0 := x0) ts (acc ++ q.2) (some q.1.1) (some (.str (S1 q.1.2))) z4 (fun v hv => h v (List.mem_cons_of_mem _ hv)) (by rw [List.length_append]; omega)
    refine ⟨y2, y3, y4, ?_⟩
    rw [List.map_cons, List.map_cons, List.map_cons, List.flatten_cons, ← List.append_assoc]
    conv => lhs; unfold forL
    rw [chk_nil, bnd_ret]
    show bnd (evSs cf wbBody [x0, some (.ref η.length), some q.1.1, some (.str (S1 q.1.2)), x4]) _ _ = _
    rw [bnd_ok b]
    exact l
theorem words_by_ok {T : List FD} (h31 : At T 31 c_words_by 1 5) {num many : Nat} (hm : many < 1000) {d : Nat} {s : Sch} (hg : Good num many d s) : ∀ k, cost (fun _ => 1) s ≤ 1000 → KidW (evF T (d + k)) s := by
  induction hg with
  | @mk d s hh hk ih =>
    intro k hc η hη
    have ek : d + 1 + k = d + k + 1 := by omega
    rw [ek]
    have wl := words_len s
    have kc : ∀ v ∈ s.kids, cost (fun _ => 1) v ≤ 1000 := fun v hv => by
      have := costs_mem (f := fun _ => 1) hv
      rw [cost_kids] at hc
      omega
    have hd : dUnder η.length (.fl (txts s.words)) = true := frozen_under _ (txts_flat _)
    refine evF_tmp (fl := .rt (.fl (txts s.words))) (ex := [.dead]) h31 rfl hη hd ?_
    have hw := words_parts s
    have fl : (s.partW.flatten).length + 1 = s.words.length := by rw [hw, List.length_cons]
    obtain ⟨y2, y3, y4, l⟩ := wb_loop (cf := evF T (d + k)) hη (x0 := some s.toD) s.triples [s.head] none none none (triples_pw hm hh fun v hv => ih v hv k (kc v hv)) (by rw [triples_snd, List.length_singleton]; omega)
    rw [triples_fst, triples_snd, List.singleton_append, ← hw] at l
    rw [show c_words_by = .cons (.asg (.name 1) (.lst true (.cons (.sub (.loc 0) (.cst (.int 0))) .nil))) (.cons (.for_ (.tup [2, 3]) (.zip (.slice (.loc 0) (.some (.cst (.int 1))) .none) (.shp "SHAPES" shSHAPES (.sub (.loc 0) (.cst (.int 0))))) wbBody) (.cons (.ret (.frz (.loc 1))) .nil)) from rfl]
    have sl : sliceD s.toD (some 1) none = Ms.ret (.tup (s.parts.map (·.1))) := by rw [toD_parts, sl_tup, cut_tail]
    have nl : newL true [D.str s.head] η = .ok (.ref η.length) (η ++ [.lst (txts [s.head])]) := cl_new (show 1 ≤ LIM by decide)
    simp only [evSs, evS, evE, evEs, evAnd, evOr, evO, evC, evIt, startD, List.map_cons, List.map_nil, List.length_cons, List.length_nil, List.cons_append, List.nil_append, List.replicate, List.getElem?_cons_zero, List.getElem?_cons_succ, Option.join_some, List.set_cons_zero, List.set_cons_succ, fromO_some, bnd_ret, bnd_assoc, constD, cmpD, binD, biD, bindT, setAll, asB_bnd, asB_bl, if_true, if_false, Bool.false_eq_true, Bool.not_true, Bool.not_false, LE0, LE1, LE2, LE3, LE4, ix0_toD]
    rw [bnd_ok nl]
    simp only [evSs, evS, evE, evEs, evAnd, evOr, evO, evC, evIt, startD, List.map_cons, List.map_nil, List.length_cons, List.length_nil, List.cons_append, List.nil_append, List.replicate, List.getElem?_cons_zero, List.getElem?_cons_succ, Option.join_some, List.set_cons_zero, List.set_cons_succ, fromO_some, bnd_ret, bnd_assoc, constD, cmpD, binD, biD, bindT, setAll, asB_bnd, asB_bl, if_true, if_false, Bool.false_eq_true, Bool.not_true, Bool.not_false, LE0, LE1, LE2, LE3, LE4, asI_int, sl, ix0_toD, shp_ok, zip_parts]
    rw [bnd_ok l]
    simp only [evSs, evS, evE, evEs, evAnd, evOr, evO, evC, evIt, startD, List.map_cons, List.map_nil, List.length_cons, List.length_nil, List.cons_append, List.nil_append, List.replicate, List.getElem?_cons_zero, List.getElem?_cons_succ, Option.join_some, List.set_cons_zero, List.set_cons_succ, fromO_some, bnd_ret, bnd_assoc, constD, cmpD, binD, biD, bindT, setAll, asB_bnd, asB_bl, if_true, if_false, Bool.false_eq_true, Bool.not_true, Bool.not_false, LE0, LE1, LE2, LE3, LE4]
    rw [bnd_ok (cl_frz get_last), set_last]
    rfl
end
end Ev
end
section
set_option Elab.async false
set_option linter.all false
set_option maxRecDepth 100000
set_option maxHeartbeats 2000000
/-! The text of a paper. -/
namespace Ev
open PySem L2 Ms Cod
/-- a word of a text -/
structure Wd (w : Str) : Prop where
  ok : PyData.strOk w = true
  len : w.length ≤ 6
  sp : 32 ∉ w.cps.toList
  nl : 10 ∉ w.cps.toList
theorem Wd.head (s : Sch) : Wd s.head := by
  have h : ∀ k : Fin 10, PyData.strOk (headK k) = true ∧ (headK k).length ≤ 6 ∧ 32 ∉ (headK k).cps.toList ∧ 10 ∉ (headK k).cps.toList := by decide +kernel
  obtain ⟨h1, h2, h3, h4⟩ := h s.kind
  exact ⟨h1, h2, h3, h4⟩
theorem Wd.num {n : Nat} (h : n < 100) : Wd (num n) := by
  have q : ∀ k : Fin 100, PyData.strOk (Ev.num k.val) = true ∧ (Ev.num k.val).length ≤ 6 ∧ 32 ∉ (Ev.num k.val).cps.toList ∧ 10 ∉ (Ev.num k.val).cps.toList := by decide +kernel
  obtain ⟨h1, h2, h3, h4⟩ := q ⟨n, h⟩
  exact ⟨h1, h2, h3, h4⟩
theorem Wd.letter {c : Nat} (h : c ∈ letters) : Wd (S1 c) := by
  have q : ∀ c ∈ letters, PyData.strOk (S1 c) = true ∧ (S1 c).length ≤ 6 ∧ 32 ∉ (S1 c).cps.toList ∧ 10 ∉ (S1 c).cps.toList := by decide +kernel
  obtain ⟨h1, h2, h3, h4⟩ := q c h
  exact ⟨h1, h2, h3, h4⟩
theorem good_wd {num many : Nat} (hm : many < 100) : ∀ {d : Nat} {s : Sch}, Good num many d s → ∀ w ∈ s.words, Wd w := fun {d s} h => by
  induction h with
  | @mk d s hh hk ih =>
    intro w hw
    rw [words_parts] at hw
    rcases List.mem_cons.mp hw with rfl | hw
    · exact .head s
    · obtain ⟨g, hg, hw⟩ := List.mem_flatten.mp hw
      cases s with
      | step l n =>
        simp only [Sch.partW, List.mem_cons, List.mem_nil_iff, or_false] at hg
        rcases hg with rfl | rfl
        · rw [List.mem_singleton.mp hw]; exact .letter hh.1
        · rw [List.mem_singleton.mp hw]; exact .num (by have := hh.2.2; omega)
      | many b ks =>
        simp only [Sch.partW, List.mem_cons, List.mem_nil_iff, or_false] at hg
        subst hg
        rcases List.mem_cons.mp hw with rfl | hw
        · exact .num (by have := hh.2; omega)
        · rw [wordsL_map] at hw
          obtain ⟨g, hg, hw⟩ := List.mem_flatten.mp hw
          obtain ⟨v, hv, rfl⟩ := List.mem_map.mp hg
          exact ih v hv w hw
      | gate b l s =>
        simp only [Sch.partW, List.mem_cons, List.mem_nil_iff, or_false] at hg
        rcases hg with rfl | rfl
        · rw [List.mem_singleton.mp hw]; exact .letter hh
        · exact ih s List.mem_cons_self w hw
      | fin l n s =>
        simp only [Sch.partW, List.mem_cons, List.mem_nil_iff, or_false] at hg
        rcases hg with rfl | rfl | rfl
        · rw [List.mem_singleton.mp hw]; exact .letter hh.1
        · rw [List.mem_singleton.mp hw]; exact .num (by have := hh.2.2; omega)
        · exact ih s List.mem_cons_self w hw
      | most n s =>
        simp only [Sch.partW, List.mem_cons, List.mem_nil_iff, or_false] at hg
        rcases hg with rfl | rfl
        · rw [List.mem_singleton.mp hw]; exact .num (by have : n ≤ 30 := hh; omega)
        · exact ih s List.mem_cons_self w hw
      | hc b s =>
        simp only [Sch.partW, List.mem_cons, List.mem_nil_iff, or_false] at hg
        subst hg
        exact ih s List.mem_cons_self w hw
      | use k =>
        simp only [Sch.partW, List.mem_cons, List.mem_nil_iff, or_false] at hg
        subst hg
        rw [List.mem_singleton.mp hw]
        exact .num (by have := hh.2; omega)
theorem asSs_txts : ∀ ws : List Str, asSs (txts ws) = some ws
  | [] => rfl
  | w :: ws => by
    show (asSs (txts ws)).map (w :: ·) = _
    rw [asSs_txts ws]
    rfl
theorem join_fl {z : Str} {ws : List Str} (hl : (ws.map fun w : Str => w.length).sum + ws.length * z.length ≤ LIM) : mtD .join (.str z) [.fl (txts ws)] = Ms.ret (.str (Txt.join z ws)) := by
  funext η
  show (match asSs (txts ws) with
    | some ys => if (ys.map fun w : Str => w.length).sum + ys.length * z.length ≤ LIM then Res.ok (D.str (Txt.join z ys)) η else .bad
    | none => .bad) = _
  rw [asSs_txts]
  try dsimp only
  rw [if_pos hl]
  rfl
theorem sum_len {n : Nat} : ∀ {ws : List Str}, (∀ w ∈ ws, w.length ≤ n) → (ws.map fun w : Str => w.length).sum ≤ n * ws.length
  | [], _ => by simp
  | w :: ws, h => by
    have h1 := h w List.mem_cons_self
    have h2 := sum_len fun v hv => h v (List.mem_cons_of_mem _ hv)
    simp only [List.map_cons, List.sum_cons, List.length_cons]
    rw [Nat.mul_succ]
    omega
theorem join_len (z : Str) (ws : List Str) : (Txt.join z ws).length ≤ (ws.map fun w : Str => w.length).sum + ws.length * z.length := by
  rw [TL.join_eq]
  exact StrLaws.join_length_le z ws
/-- a scheme's text -/
def Sch.text (s : Sch) : Str := Txt.join spaceS s.words
theorem space_len : spaceS.length = 1 := by decide +kernel
theorem text_len {num many : Nat} (hm : many < 100) {d : Nat} {s : Sch} (h : Good num many d s) : s.text.length ≤ 21 * cost (fun _ => 1) s := by
  have h1 := join_len spaceS s.words
  have h2 := sum_len (n := 6) fun w hw => (good_wd hm h w hw).len
  have h3 := words_len s
  rw [space_len] at h1
  unfold Sch.text
  omega
/-- the paper's text -/
def textP (ss : List Sch) : Str := Txt.join ("\n" : Str) (ss.map Sch.text)
theorem line_len : ("\n" : Str).length = 1 := by decide +kernel
structure WrOk (T : List FD) : Prop extends Papers T where
  by_ : At T 31 c_words_by 1 5
  wr : At T 32 c_written 1 2
section
variable {T : List FD} {ss : List Sch} {u1 u2 : Nat → Nat}
theorem Paper.at_mem (P : Paper ss u1 u2) {s : Sch} (h : s ∈ ss) : ∃ i, Good i ss.length 5 s := by
  obtain ⟨i, hi⟩ := List.getElem?_of_mem h
  exact ⟨i, P.good i s hi⟩
theorem Paper.len (P : Paper ss u1 u2) {s : Sch} (h : s ∈ ss) : s.text.length ≤ 252 := by
  obtain ⟨i, g⟩ := P.at_mem h
  have := text_len (by have := P.hi; omega) g
  have := P.size s h
  omega
theorem texts_sum (P : Paper ss u1 u2) : ((ss.map Sch.text).map fun w : Str => w.length).sum + (ss.map Sch.text).length * ("\n" : Str).length ≤ LIM := by
  have h1 := sum_len (n := 252) (ws := ss.map Sch.text) fun w hw => by
    obtain ⟨s, hs, rfl⟩ := List.mem_map.mp hw
    exact P.len hs
  have hi := P.hi
  have lim : LIM = 1000000 := rfl
  rw [line_len]
  simp only [List.length_map] at h1 ⊢
  omega
theorem written_ok (h : WrOk T) (P : Paper ss u1 u2) {k : Nat} {η : List Cell} (hη : Wf η) : evF T (k + 7) 32 [paperD ss] η = .ok (.str (textP ss)) η := by
  have lim : LIM = 1000000 := rfl
  have hi := P.hi
  refine evF_same (fl := .rt (.str (textP ss))) h.wr rfl ?_
  have np := need_paper_ok (k := k + 1) h.toPapers P hη
  have lp := lc_fm (bind := fun d => bindT (.name 1) d (wipeD [some (paperD ss), none] [1])) (cond := evC (evF T (k + 6)) .none) (elt := evE (evF T (k + 6)) (.mt .join (.cst (.str " ")) (.cons (.call 31 (.cons (.loc 1) .nil)) .nil))) (e := Sch.toD) (g := fun s => some (.str s.text)) (η := η) (xs := ss) (acc := []) (by simp; omega) fun s hs => by
    obtain ⟨i, g⟩ := P.at_mem hs
    refine ⟨_, rfl, by simp only [evSs, evS, evE, evEs, evAnd, evOr, evO, evC, evIt, startD, List.map_cons, List.map_nil, List.length_cons, List.length_nil, List.cons_append, List.nil_append, List.replicate, List.getElem?_cons_zero, List.getElem?_cons_succ, Option.join_some, List.set_cons_zero, List.set_cons_succ, fromO_some, bnd_ret, bnd_assoc, constD, cmpD, binD, biD, bindT, setAll, asB_bnd, asB_bl, if_true, if_false, Bool.false_eq_true, Bool.not_true, Bool.not_false, LE0, LE1, LE2, LE3, LE4]; rfl, fun y hy => ?_⟩
    cases hy
    have ek : 5 + (k + 1) = k + 6 := by omega
    have wb := words_by_ok h.by_ (by omega) g (k + 1) (by have := P.size s hs; omega) η hη
    rw [ek] at wb
    have jn : mtD .join (.str " ") [.fl (txts s.words)] = Ms.ret (.str s.text) := join_fl (z := spaceS) (by
      have h1 := sum_len (n := 6) fun w hw => (good_wd (by omega) g w hw).len
      have h2 := words_len s
      have h3 := P.size s hs
      rw [space_len]
      omega)
    simp only [evSs, evS, evE, evEs, evAnd, evOr, evO, evC, evIt, startD, List.map_cons, List.map_nil, List.length_cons, List.length_nil, List.cons_append, List.nil_append, List.replicate, List.getElem?_cons_zero, List.getElem?_cons_succ, Option.join_some, List.set_cons_zero, List.set_cons_succ, fromO_some, bnd_ret, bnd_assoc, constD, cmpD, binD, biD, bindT, setAll, asB_bnd, asB_bl, if_true, if_false, Bool.false_eq_true, Bool.not_true, Bool.not_false, LE0, LE1, LE2, LE3, LE4, wipeD]
    rw [bnd_ok (a := ()) (η' := η) (by rfl), bnd_ok wb, jn]
    rfl
  rw [List.nil_append] at lp
  have e1 : ss.filterMap (fun s => some (D.str s.text)) = txts (ss.map Sch.text) := by
    rw [txts, List.map_map]
    simp [Function.comp_def]
  rw [e1] at lp
  rw [show c_written = .cons (.ex (.call 6 (.cons (.loc 0) .nil))) (.cons (.ret (.mt .join (.glob "LINE" (.str "\n")) (.cons (.lc false [1] (.name 1) (.val (.loc 0)) .none (.mt .join (.cst (.str " ")) (.cons (.call 31 (.cons (.loc 1) .nil)) .nil))) .nil))) .nil) from rfl]
  have it : itVal (paperD ss) = Ms.ret (ss.map Sch.toD, []) := it_tup _
  simp only [evSs, evS, evE, evEs, evAnd, evOr, evO, evC, evIt, startD, List.map_cons, List.map_nil, List.length_cons, List.length_nil, List.cons_append, List.nil_append, List.replicate, List.getElem?_cons_zero, List.getElem?_cons_succ, Option.join_some, List.set_cons_zero, List.set_cons_succ, fromO_some, bnd_ret, bnd_assoc, constD, cmpD, binD, biD, bindT, setAll, asB_bnd, asB_bl, if_true, if_false, Bool.false_eq_true, Bool.not_true, Bool.not_false, LE0, LE1, LE2, LE3, LE4] at lp
  simp only [evSs, evS, evE, evEs, evAnd, evOr, evO, evC, evIt, startD, List.map_cons, List.map_nil, List.length_cons, List.length_nil, List.cons_append, List.nil_append, List.replicate, List.getElem?_cons_zero, List.getElem?_cons_succ, Option.join_some, List.set_cons_zero, List.set_cons_succ, fromO_some, bnd_ret, bnd_assoc, constD, cmpD, binD, biD, bindT, setAll, asB_bnd, asB_bl, if_true, if_false, Bool.false_eq_true, Bool.not_true, Bool.not_false, LE0, LE1, LE2, LE3, LE4]
  rw [bnd_ok np]
  simp only [evSs, evS, evE, evEs, evAnd, evOr, evO, evC, evIt, startD, List.map_cons, List.map_nil, List.length_cons, List.length_nil, List.cons_append, List.nil_append, List.replicate, List.getElem?_cons_zero, List.getElem?_cons_succ, Option.join_some, List.set_cons_zero, List.set_cons_succ, fromO_some, bnd_ret, bnd_assoc, constD, cmpD, binD, biD, bindT, setAll, asB_bnd, asB_bl, if_true, if_false, Bool.false_eq_true, Bool.not_true, Bool.not_false, LE0, LE1, LE2, LE3, LE4, it]
  rw [bnd_ok (a := ()) (η' := η) (by rfl), bnd_ok lp, newL_f (by simp [txts]; omega)]
  simp only [evSs, evS, evE, evEs, evAnd, evOr, evO, evC, evIt, startD, List.map_cons, List.map_nil, List.length_cons, List.length_nil, List.cons_append, List.nil_append, List.replicate, List.getElem?_cons_zero, List.getElem?_cons_succ, Option.join_some, List.set_cons_zero, List.set_cons_succ, fromO_some, bnd_ret, bnd_assoc, constD, cmpD, binD, biD, bindT, setAll, asB_bnd, asB_bl, if_true, if_false, Bool.false_eq_true, Bool.not_true, Bool.not_false, LE0, LE1, LE2, LE3, LE4, join_fl (texts_sum P)]
  rfl
end
end Ev
end
section
set_option Elab.async false
set_option linter.all false
set_option maxRecDepth 100000
set_option maxHeartbeats 2000000
/-! A row of words, read. -/
namespace Ev
open PySem L2 Ms Cod
theorem evF_len {T : List FD} {k f np nN : Nat} {code : Ss} {ds : List D} {fl : Fl} {η η' : List Cell} (h : At T f code np nN) (hl : ds.length = np) (he : η'.length = η.length) (b : evSs (evF T k) code (startD nN ds) η = .ok fl η') : evF T (k + 1) f ds η = .ok (retD fl) η' := by
  rw [evF_at h hl, b, runB_ok, ← he, trunc_same]
theorem evF_tmp2 {T : List FD} {k f np nN : Nat} {code : Ss} {ds : List D} {fl : Fl} {η η' ex : List Cell} (h : At T f code np nN) (hl : ds.length = np) (he : η'.length = η.length) (hη : η'.all (cUnder η'.length) = true) (hd : dUnder η.length (retD fl) = true)
    (b : evSs (evF T k) code (startD nN ds) η = .ok fl (η' ++ ex)) : evF T (k + 1) f ds η = .ok (retD fl) η' := by
  rw [evF_at h hl, b, runB_ok]
  unfold trunc
  try dsimp only
  have e : (η' ++ ex).take η.length = η' := by
    rw [← he]
    exact List.take_left
  rw [if_pos ⟨by simp; omega, hd, by rw [e, ← he]; exact hη⟩, e]
/-! ### an instance of Words -/
abbrev wcF (ws : List Str) (a h : Nat) : List (Str × D) := [("words", .fl (txts ws)), ("at", .int a), ("ahead", .int h)]
def Wc (ws : List Str) (a h : Nat) : Cell := .ins "Words" (wcF ws a h)
theorem wc_under (n : Nat) (ws : List Str) (a h : Nat) : cUnder n (Wc ws a h) = true := by
  show dUnders n [D.fl (txts ws), .int a, .int h] = true
  rw [dUnders, dUnder, frozens_under n (txts_flat ws)]
  rfl
section
variable {η : List Cell} {n a h : Nat} {ws : List Str}
theorem wc_flds (e : η[n]? = some (Wc ws a h)) : fldsOf η "Words" (.ref n) = some (wcF ws a h) := by
  unfold fldsOf
  try dsimp only
  rw [e]
  unfold Wc
  try dsimp only
  rw [if_pos rfl]
theorem nm1 : (("at" : Str) == ("words" : Str)) = false := by decide +kernel
theorem nm2 : (("ahead" : Str) == ("words" : Str)) = false := by decide +kernel
theorem nm3 : (("ahead" : Str) == ("at" : Str)) = false := by decide +kernel
theorem wc_words (e : η[n]? = some (Wc ws a h)) : fldD "Words" "words" (.ref n) η = .ok (.fl (txts ws)) η := by
  unfold fldD
  rw [wc_flds e]
  simp only [Option.bind_some, List.lookup_cons, beq_self_eq_true]
theorem wc_at (e : η[n]? = some (Wc ws a h)) : fldD "Words" "at" (.ref n) η = .ok (.int a) η := by
  unfold fldD
  rw [wc_flds e]
  simp only [Option.bind_some, List.lookup_cons, beq_self_eq_true, nm1]
theorem wc_ahead (e : η[n]? = some (Wc ws a h)) : fldD "Words" "ahead" (.ref n) η = .ok (.int h) η := by
  unfold fldD
  rw [wc_flds e]
  simp only [Option.bind_some, List.lookup_cons, beq_self_eq_true, nm2, nm3]
theorem wc_meth (e : η[n]? = some (Wc ws a h)) {m : Str} (h1 : (m == ("words" : Str)) = false) (h2 : (m == ("at" : Str)) = false) (h3 : (m == ("ahead" : Str)) = false) : methD "Words" m (.ref n) η = .ok () η := by
  unfold methD
  rw [wc_flds e]
  simp only [List.lookup_cons, h1, h2, h3, List.lookup_nil, Option.isNone_none, if_true]
theorem neWA : (("words" : Str) = ("at" : Str)) = False := eq_false (by decide +kernel)
theorem neWH : (("words" : Str) = ("ahead" : Str)) = False := eq_false (by decide +kernel)
theorem neAH : (("at" : Str) = ("ahead" : Str)) = False := eq_false (by decide +kernel)
theorem wc_set (e : η[n]? = some (Wc ws a h)) (b : Int) {c : Nat} (hb : b = (c : Nat)) : fsetD "Words" "at" (.ref n) (.int b) η = .ok () (η.set n (Wc ws c h)) := by
  subst hb
  have p : putFG ("at" : Str) (.int ((c : Nat) : Int)) (wcF ws a h) = wcF ws c h := by
    simp only [wcF, putFG, neWA, if_false, if_true]
  unfold fsetD
  try dsimp only
  rw [e]
  unfold Wc
  try dsimp only
  rw [if_pos ⟨rfl, (by decide : 3 < 1000)⟩, p]
end
theorem mN : (("next_one" : Str) == ("words" : Str)) = false ∧ (("next_one" : Str) == ("at" : Str)) = false ∧ (("next_one" : Str) == ("ahead" : Str)) = false := by decide +kernel
theorem mF : (("figures" : Str) == ("words" : Str)) = false ∧ (("figures" : Str) == ("at" : Str)) = false ∧ (("figures" : Str) == ("ahead" : Str)) = false := by decide +kernel
theorem mS : (("next_scheme" : Str) == ("words" : Str)) = false ∧ (("next_scheme" : Str) == ("at" : Str)) = false ∧ (("next_scheme" : Str) == ("ahead" : Str)) = false := by decide +kernel
theorem mW : (("whole" : Str) == ("words" : Str)) = false ∧ (("whole" : Str) == ("at" : Str)) = false ∧ (("whole" : Str) == ("ahead" : Str)) = false := by decide +kernel
structure Rds (T : List FD) : Prop extends Papers T where
  ini : At T 33 c_Words___init 3 3
  nx : At T 34 c_Words_next_one 1 1
  fig : At T 36 c_Words_figures 1 3
  sch : At T 37 c_Words_next_scheme 1 6
  whole : At T 38 c_Words_whole 1 2
  rd : At T 39 c_read 1 5
section
variable {T : List FD}
/-- what next_one does -/
def NxOk (cf : Nat → List D → M D) : Prop := ∀ (η : List Cell) (n a h : Nat) (ws : List Str) (w : Str), η[n]? = some (Wc ws a h) → ws[a]? = some w → cf 34 [.ref n] η = .ok (.str w) (η.set n (Wc ws (a + 1) h))
theorem txts_get {ws : List Str} {a : Nat} {w : Str} (h : ws[a]? = some w) : (txts ws)[a]? = some (.str w) := by
  unfold txts
  rw [List.getElem?_map, h]
  rfl
theorem txts_len (ws : List Str) : (txts ws).length = ws.length := by
  unfold txts
  rw [List.length_map]
theorem next_ok (R : Rds T) {k : Nat} : NxOk (evF T (k + 1)) := fun η n a h ws w e hw => by
  have la := (List.getElem?_eq_some_iff.mp hw).1
  have hn := (List.getElem?_eq_some_iff.mp e).1
  refine evF_len (fl := .rt (.str w)) R.nx rfl (by simp) ?_
  have ne : (((a : Nat) : Int) == ((txts ws).length : Int)) = false := beq_eq_false_iff_ne.mpr (by rw [txts_len]; omega)
  have e2 : (η.set n (Wc ws (a + 1) h))[n]? = some (Wc ws (a + 1) h) := List.getElem?_set_self hn
  simp only [c_Words_next_one, evSs, evS, evE, evEs, evAnd, evOr, evO, evC, evIt, startD, List.map_cons, List.map_nil, List.length_cons, List.length_nil, List.cons_append, List.nil_append, List.replicate, List.getElem?_cons_zero, List.getElem?_cons_succ, Option.join_some, List.set_cons_zero, List.set_cons_succ, fromO_some, bnd_ret, bnd_assoc, constD, cmpD, binD, biD, bindT, setAll, asB_bnd, asB_bl, if_true, if_false, Bool.false_eq_true, Bool.not_true, Bool.not_false, LE0, LE1, LE2, LE3, LE4]
  rw [bnd_ok (wc_at e), bnd_ok (wc_words e), len_fl]
  simp only [evSs, evS, evE, evEs, evAnd, evOr, evO, evC, evIt, startD, List.map_cons, List.map_nil, List.length_cons, List.length_nil, List.cons_append, List.nil_append, List.replicate, List.getElem?_cons_zero, List.getElem?_cons_succ, Option.join_some, List.set_cons_zero, List.set_cons_succ, fromO_some, bnd_ret, bnd_assoc, constD, cmpD, binD, biD, bindT, setAll, asB_bnd, asB_bl, if_true, if_false, Bool.false_eq_true, Bool.not_true, Bool.not_false, LE0, LE1, LE2, LE3, LE4, eq_int, ne]
  rw [bnd_ok (wc_at e)]
  simp only [evSs, evS, evE, evEs, evAnd, evOr, evO, evC, evIt, startD, List.map_cons, List.map_nil, List.length_cons, List.length_nil, List.cons_append, List.nil_append, List.replicate, List.getElem?_cons_zero, List.getElem?_cons_succ, Option.join_some, List.set_cons_zero, List.set_cons_succ, fromO_some, bnd_ret, bnd_assoc, constD, cmpD, binD, biD, bindT, setAll, asB_bnd, asB_bl, if_true, if_false, Bool.false_eq_true, Bool.not_true, Bool.not_false, LE0, LE1, LE2, LE3, LE4, augI]
  rw [bnd_ok (wc_set e _ (c := a + 1) (by omega)), bnd_ok (wc_words e2), bnd_ok (wc_at e2)]
  simp only [evSs, evS, evE, evEs, evAnd, evOr, evO, evC, evIt, startD, List.map_cons, List.map_nil, List.length_cons, List.length_nil, List.cons_append, List.nil_append, List.replicate, List.getElem?_cons_zero, List.getElem?_cons_succ, Option.join_some, List.set_cons_zero, List.set_cons_succ, fromO_some, bnd_ret, bnd_assoc, constD, cmpD, binD, biD, bindT, setAll, asB_bnd, asB_bl, if_true, if_false, Bool.false_eq_true, Bool.not_true, Bool.not_false, LE0, LE1, LE2, LE3, LE4, sub_int]
  rw [show (((a + 1 : Nat) : Int) - 1) = ((a : Nat) : Int) by omega, ix_fl, at_nat (txts_get hw)]
  rfl
/-- what figures does -/
def FgOk (cf : Nat → List D → M D) : Prop := ∀ (η : List Cell) (n a h : Nat) (ws : List Str) (m : Nat), m < 100 → η[n]? = some (Wc ws a h) → ws[a]? = some (num m) → cf 36 [.ref n] η = .ok (.int m) (η.set n (Wc ws (a + 1) h))
structure NumT (m : Nat) : Prop where
  lo : 1 ≤ (num m).length
  hi : (num m).length ≤ 2
  fig : ∀ c ∈ (num m).cps.toList, inStr (S1 c) "0123456789" = true
  zero : ((S1 ((num m).cps.toList.headD 0) == ("0" : Str)) && !(num m == ("0" : Str))) = false
  ok : PyData.strOk (num m) = true
theorem num_t {m : Nat} (h : m < 100) : NumT m := by
  have q : ∀ k : Fin 100, 1 ≤ (num k.val).length ∧ (num k.val).length ≤ 2 ∧ (∀ c ∈ (num k.val).cps.toList, inStr (S1 c) "0123456789" = true) ∧ ((S1 ((num k.val).cps.toList.headD 0) == ("0" : Str)) && !(num k.val == ("0" : Str))) = false ∧ PyData.strOk (num k.val) = true := by decide +kernel
  obtain ⟨h1, h2, h3, h4, h5⟩ := q ⟨m, h⟩
  exact ⟨h1, h2, h3, h4, h5⟩
theorem num_int {m : Nat} (h : m < 100) : intD [.str (num m)] = Ms.ret (.int m) := by
  have l := (num_t h).hi
  show fromO (if (num m).length ≤ 640 then (PySem.intText? (num m)).map D.int else none) = _
  rw [if_pos (by omega), show PySem.intText? (num m) = some (m : Int) from TL.int_num (by
    have : (TL.numL m).length = (num m).length := by
      rw [TL.len_tl, show num m = Str.ofString (toString ((m : Nat) : Int)) from rfl, TL.tl_num]
    omega)]
  rfl
theorem signs_cps (z : Str) : signs z = z.cps.toList.map fun c => .str (S1 c) := rfl
theorem fig_code : c_Words_figures = .cons (.asg (.name 1) (.meth 34 "Words" "next_one" (.loc 0) .nil))
    (.cons (.if_ (.or_ (.cons (.not_ (.chain .le .le (.cst (.int 1)) (.bi .len (.cons (.loc 1) .nil)) (.cst (.int 2)))) (.cons (.not_ (.bi .all (.cons (.lc false [2] (.name 2) (.val (.loc 1)) .none (.cmp .in_ (.loc 2) (.glob "FIGURES" (.str "0123456789")))) .nil))) (.cons (.and_ (.cons (.cmp .eq (.sub (.loc 1) (.cst (.int 0))) (.cst (.str "0"))) (.cons (.cmp .ne (.loc 1) (.cst (.str "0"))) .nil))) .nil)))) (.cons .never .nil) .nil)
    (.cons (.ret (.bi .int (.cons (.loc 1) .nil))) .nil)) := rfl
theorem figures_ok (R : Rds T) {k : Nat} : FgOk (evF T (k + 2)) := fun η n a h ws m hm e hw => by
  have nx := next_ok R (k := k) η n a h ws _ e hw
  have q := num_t hm
  have lim : LIM = 1000000 := rfl
  refine evF_len (fl := .rt (.int m)) R.fig rfl (by simp) ?_
  have ll : (num m).length ≤ LIM := by have := q.hi; omega
  have it : itVal (.str (num m)) = Ms.ret (signs (num m), []) := by
    funext η
    simp only [itVal, itemsG, itemsOf, if_pos ll, Option.map_some, Ms.ret]
  have oz : PyData.strOk ("0" : Str) = true := by decide +kernel
  obtain ⟨c, l, hc⟩ : ∃ c l, (num m).cps.toList = c :: l := by
    cases hcs : (num m).cps.toList with
    | nil =>
      have := q.lo
      simp [Str.length] at this
      rw [← Array.length_toList, hcs] at this
      simp at this
    | cons c l => exact ⟨c, l, rfl⟩
  have oc : PyData.strOk (S1 c) = true := (S1_ok (ok_char ⟨q.ok, by have := q.hi; omega⟩ (by rw [hc]; exact List.mem_cons_self))).ok
  have zz := q.zero
  rw [hc] at zz
  simp only [List.headD_cons] at zz
  have lp := lc_map (bind := fun d => bindT (.name 2) d (wipeD [some (.ref n), some (.str (num m)), none] [2])) (cond := evC (evF T (k + 1)) .none) (elt := evE (evF T (k + 1)) (.cmp .in_ (.loc 2) (.glob "FIGURES" (.str "0123456789")))) (f := fun _ => .bl true) (xs := signs (num m)) (acc := []) (by rw [signs_cps, List.length_map]; have := q.hi; simp only [Str.length] at this; simp; omega) fun d hd => by
      rw [signs_cps] at hd
      obtain ⟨c, hc, rfl⟩ := List.mem_map.mp hd
      refine ⟨_, rfl, by simp only [evSs, evS, evE, evEs, evAnd, evOr, evO, evC, evIt, startD, List.map_cons, List.map_nil, List.length_cons, List.length_nil, List.cons_append, List.nil_append, List.replicate, List.getElem?_cons_zero, List.getElem?_cons_succ, Option.join_some, List.set_cons_zero, List.set_cons_succ, fromO_some, bnd_ret, bnd_assoc, constD, cmpD, binD, biD, bindT, setAll, asB_bnd, asB_bl, if_true, if_false, Bool.false_eq_true, Bool.not_true, Bool.not_false, LE0, LE1, LE2, LE3, LE4], ?_⟩
      simp only [evSs, evS, evE, evEs, evAnd, evOr, evO, evC, evIt, startD, List.map_cons, List.map_nil, List.length_cons, List.length_nil, List.cons_append, List.nil_append, List.replicate, List.getElem?_cons_zero, List.getElem?_cons_succ, Option.join_some, List.set_cons_zero, List.set_cons_succ, fromO_some, bnd_ret, bnd_assoc, constD, cmpD, binD, biD, bindT, setAll, asB_bnd, asB_bl, if_true, if_false, Bool.false_eq_true, Bool.not_true, Bool.not_false, LE0, LE1, LE2, LE3, LE4, wipeD, in_str, q.fig c hc]
  simp only [evSs, evS, evE, evEs, evAnd, evOr, evO, evC, evIt, startD, List.map_cons, List.map_nil, List.length_cons, List.length_nil, List.cons_append, List.nil_append, List.replicate, List.getElem?_cons_zero, List.getElem?_cons_succ, Option.join_some, List.set_cons_zero, List.set_cons_succ, fromO_some, bnd_ret, bnd_assoc, constD, cmpD, binD, biD, bindT, setAll, asB_bnd, asB_bl, if_true, if_false, Bool.false_eq_true, Bool.not_true, Bool.not_false, LE0, LE1, LE2, LE3, LE4] at lp
  rw [fig_code]
  simp only [evSs, evS, evE, evEs, evAnd, evOr, evO, evC, evIt, startD, List.map_cons, List.map_nil, List.length_cons, List.length_nil, List.cons_append, List.nil_append, List.replicate, List.getElem?_cons_zero, List.getElem?_cons_succ, Option.join_some, List.set_cons_zero, List.set_cons_succ, fromO_some, bnd_ret, bnd_assoc, constD, cmpD, binD, biD, bindT, setAll, asB_bnd, asB_bl, if_true, if_false, Bool.false_eq_true, Bool.not_true, Bool.not_false, LE0, LE1, LE2, LE3, LE4]
  rw [bnd_ok (wc_meth e mN.1 mN.2.1 mN.2.2), bnd_ok nx]
  simp only [evSs, evS, evE, evEs, evAnd, evOr, evO, evC, evIt, startD, List.map_cons, List.map_nil, List.length_cons, List.length_nil, List.cons_append, List.nil_append, List.replicate, List.getElem?_cons_zero, List.getElem?_cons_succ, Option.join_some, List.set_cons_zero, List.set_cons_succ, fromO_some, bnd_ret, bnd_assoc, constD, cmpD, binD, biD, bindT, setAll, asB_bnd, asB_bl, if_true, if_false, Bool.false_eq_true, Bool.not_true, Bool.not_false, LE0, LE1, LE2, LE3, LE4, len_str ll, le_int, decide_eq_true (show (1 : Int) ≤ (num m).length by have := q.lo; omega), decide_eq_true (show ((num m).length : Int) ≤ 2 by have := q.hi; omega), it, lp]
  rw [newL_f (by rw [List.length_map, signs_cps, List.length_map]; have := q.hi; simp only [Str.length] at this; simp; omega)]
  simp only [evSs, evS, evE, evEs, evAnd, evOr, evO, evC, evIt, startD, List.map_cons, List.map_nil, List.length_cons, List.length_nil, List.cons_append, List.nil_append, List.replicate, List.getElem?_cons_zero, List.getElem?_cons_succ, Option.join_some, List.set_cons_zero, List.set_cons_succ, fromO_some, bnd_ret, bnd_assoc, constD, cmpD, binD, biD, bindT, setAll, asB_bnd, asB_bl, if_true, if_false, Bool.false_eq_true, Bool.not_true, Bool.not_false, LE0, LE1, LE2, LE3, LE4]
  rw [all_true fun d hd => by
    obtain ⟨_, _, rfl⟩ := List.mem_map.mp hd
    rfl]
  simp only [evSs, evS, evE, evEs, evAnd, evOr, evO, evC, evIt, startD, List.map_cons, List.map_nil, List.length_cons, List.length_nil, List.cons_append, List.nil_append, List.replicate, List.getElem?_cons_zero, List.getElem?_cons_succ, Option.join_some, List.set_cons_zero, List.set_cons_succ, fromO_some, bnd_ret, bnd_assoc, constD, cmpD, binD, biD, bindT, setAll, asB_bnd, asB_bl, if_true, if_false, Bool.false_eq_true, Bool.not_true, Bool.not_false, LE0, LE1, LE2, LE3, LE4, ix0 hc ll, eq_str oc oz]
  cases hz : (S1 c == ("0" : Str)) with
  | true =>
    rw [hz, Bool.true_and] at zz
    simp only [evSs, evS, evE, evEs, evAnd, evOr, evO, evC, evIt, startD, List.map_cons, List.map_nil, List.length_cons, List.length_nil, List.cons_append, List.nil_append, List.replicate, List.getElem?_cons_zero, List.getElem?_cons_succ, Option.join_some, List.set_cons_zero, List.set_cons_succ, fromO_some, bnd_ret, bnd_assoc, constD, cmpD, binD, biD, bindT, setAll, asB_bnd, asB_bl, if_true, if_false, Bool.false_eq_true, Bool.not_true, Bool.not_false, LE0, LE1, LE2, LE3, LE4, ne_str q.ok oz, zz, num_int hm]
    rfl
  | false =>
    simp only [evSs, evS, evE, evEs, evAnd, evOr, evO, evC, evIt, startD, List.map_cons, List.map_nil, List.length_cons, List.length_nil, List.cons_append, List.nil_append, List.replicate, List.getElem?_cons_zero, List.getElem?_cons_succ, Option.join_some, List.set_cons_zero, List.set_cons_succ, fromO_some, bnd_ret, bnd_assoc, constD, cmpD, binD, biD, bindT, setAll, asB_bnd, asB_bl, if_true, if_false, Bool.false_eq_true, Bool.not_true, Bool.not_false, LE0, LE1, LE2, LE3, LE4, num_int hm]
    rfl
end
end Ev
end
section
set_option Elab.async false
set_option linter.all false
set_option maxRecDepth 100000
set_option maxHeartbeats 2000000
/-! next_scheme. -/
namespace Ev
open PySem L2 Ms Cod
/-- the row's cell somewhere, a live list last -/
def hp (η : List Cell) (n : Nat) (ws : List Str) (h a : Nat) (acc : List D) : List Cell := η.set n (Wc ws a h) ++ [.lst acc]
section
variable {η : List Cell} {n a h : Nat} {ws : List Str} {acc : List D}
theorem hp_get (hn : n < η.length) : (hp η n ws h a acc)[n]? = some (Wc ws a h) := by
  unfold hp
  rw [List.getElem?_append_left (by simpa using hn)]
  exact List.getElem?_set_self hn
theorem hp_last : (hp η n ws h a acc)[η.length]? = some (.lst acc) := by
  unfold hp
  have := get_last (η := η.set n (Wc ws a h)) (c := .lst acc)
  rwa [List.length_set] at this
theorem hp_setn (hn : n < η.length) (b : Nat) : (hp η n ws h a acc).set n (Wc ws b h) = hp η n ws h b acc := by
  unfold hp
  rw [List.set_append_left _ _ (by simpa using hn), List.set_set]
theorem hp_setl (acc2 : List D) : (hp η n ws h a acc).set η.length (.lst acc2) = hp η n ws h a acc2 := by
  unfold hp
  have := set_last (η := η.set n (Wc ws a h)) (c := .lst acc) (d := .lst acc2)
  rwa [List.length_set] at this
theorem hp_len : (hp η n ws h a acc).length = η.length + 1 := by simp [hp]
theorem wf_wc (hη : Wf η) : Wf (η.set n (Wc ws a h)) := by
  unfold Wf at *
  rw [List.length_set, List.all_eq_true] at *
  intro c hc
  rcases List.mem_or_eq_of_mem_set hc with hc | rfl
  · exact hη c hc
  · exact wc_under _ _ _ _
theorem hp_wf (hη : Wf η) (ha : frozens acc = true) : Wf (hp η n ws h a acc) := (wf_wc hη).app fun c hc => by
  rw [List.mem_singleton.mp hc]
  exact frozens_under _ ha
end
/-- what next_scheme does at a scheme's words -/
def RdOk (cf : Nat → List D → M D) (s : Sch) : Prop := ∀ (η : List Cell) (n a h : Nat) (ws rest : List Str), Wf η → η[n]? = some (Wc ws a h) → ws.drop a = s.words ++ rest → cf 37 [.ref n] η = .ok s.toD (η.set n (Wc ws (a + s.words.length) h))
/-- a part in the row -/
inductive PR (cf : Nat → List D → M D) : D → Nat → List Str → Prop where
  | w {c : Nat} (h : c ∈ letters) : PR cf (.str (S1 c)) 119 [S1 c]
  | n {m c : Nat} (h : m < 100) (hc : c = 110 ∨ c = 112 ∨ c = 117) : PR cf (.int m) c [num m]
  | s {s : Sch} (h : RdOk cf s) : PR cf s.toD 115 s.words
  | m {ks : List Sch} (h : ∀ s ∈ ks, RdOk cf s) (hn : ks.length ≤ 4) : PR cf (.tup (Sch.toDs ks)) 109 (num ks.length :: Sch.wordsL ks)
theorem drop_get {ws : List Str} {a : Nat} {w : Str} {r : List Str} (h : ws.drop a = w :: r) : ws[a]? = some w ∧ ws.drop (a + 1) = r := by
  constructor
  · have := List.getElem?_drop (xs := ws) (i := a) (j := 0)
    rw [h] at this
    simpa using this.symm
  · rw [← List.drop_drop, h]
    rfl
theorem drop_app {ws : List Str} {a : Nat} {u r : List Str} (h : ws.drop a = u ++ r) : ws.drop (a + u.length) = r := by
  rw [← List.drop_drop, h]
  exact List.drop_left
def nsBody : Ss := match c_Words_next_scheme with
  | .cons _ (.cons _ (.cons _ (.cons (.for_ _ _ b) _))) => b
  | _ => .nil
theorem ns_code : c_Words_next_scheme = .cons (.asg (.name 1) (.meth 34 "Words" "next_one" (.loc 0) .nil))
    (.cons (.if_ (.shpin true "SHAPES" shSHAPES (.loc 1)) (.cons .never .nil) .nil)
    (.cons (.asg (.name 2) (.lst true (.cons (.loc 1) .nil)))
    (.cons (.for_ (.name 3) (.val (.shp "SHAPES" shSHAPES (.loc 1))) nsBody)
    (.cons (.ret (.bi .tuple (.cons (.loc 2) .nil))) .nil)))) := rfl
theorem ns_body : nsBody = .cons (.if_ (.cmp .eq (.loc 3) (.cst (.str "w"))) (.cons (.ex (.mt .append (.loc 2) (.cons (.meth 34 "Words" "next_one" (.loc 0) .nil) .nil)))
    (.cons (.if_ (.not_ (.call 1 (.cons (.sub (.loc 2) (.neg (.cst (.int 1)))) .nil))) (.cons .never .nil) .nil) .nil)) (.cons (.if_ (.cmp .eq (.loc 3) (.cst (.str "m"))) (.cons (.asg (.name 4) (.meth 36 "Words" "figures" (.loc 0) .nil))
    (.cons (.ex (.mt .append (.loc 2) (.cons (.bi .tuple (.cons (.lc false [5] (.name 5) (.rng1 (.loc 4)) .none (.meth 37 "Words" "next_scheme" (.loc 0) .nil)) .nil)) .nil))) .nil))
    (.cons (.ex (.mt .append (.loc 2) (.cons (.ite (.cmp .eq (.loc 3) (.cst (.str "s"))) (.meth 37 "Words" "next_scheme" (.loc 0) .nil) (.meth 36 "Words" "figures" (.loc 0) .nil)) .nil))) .nil)) .nil)) .nil := rfl
section
variable {cf : Nat → List D → M D}
/-- kids, one behind the other -/
theorem ns_kids {n h : Nat} {ws : List Str} {ρ : Ms.Env} (r0 : ρ[0]?.join = some (.ref n)) (rl : ρ.length = 6) : ∀ (ks : List Sch) (is : List D) (a : Nat) (rest : List Str) (acc : List D) (η : List Cell), is.length = ks.length → acc.length + ks.length ≤ 1000 → (∀ s ∈ ks, RdOk cf s) → Wf η → η[n]? = some (Wc ws a h) → ws.drop a = Sch.wordsL ks ++ rest →
    lcL [] (fun d => bindT (.name 5) d (wipeD ρ [5])) (evC cf .none) (evE cf (.meth 37 "Words" "next_scheme" (.loc 0) .nil)) is acc η = .ok (acc ++ ks.map Sch.toD) (η.set n (Wc ws (a + (Sch.wordsL ks).length) h))
  | [], [], a, rest, acc, η, _, _, _, _, e, _ => by
    unfold lcL
    have : η.set n (Wc ws (a + (Sch.wordsL []).length) h) = η := set_same e
    rw [this, List.map_nil, List.append_nil]
    rfl
  | [], _ :: _, _, _, _, _, hl, _, _, _, _, _ => by simp at hl
  | _ :: _, [], _, _, _, _, hl, _, _, _, _, _ => by simp at hl
  | s :: ks, i :: is, a, rest, acc, η, hl, hc, hs, hη, e, hd => by
    have lim : LIM = 1000000 := rfl
    simp only [List.length_cons] at hl hc
    rw [Sch.wordsL, List.append_assoc] at hd
    have k1 := hs s List.mem_cons_self η n a h ws _ hη e hd
    have hn := (List.getElem?_eq_some_iff.mp e).1
    have k2 := ns_kids (h := h) (ws := ws) r0 rl ks is (a + s.words.length) rest (acc ++ [s.toD]) (η.set n (Wc ws (a + s.words.length) h)) (by omega) (by simp; omega) (fun v hv => hs v (List.mem_cons_of_mem _ hv)) (wf_wc hη) (List.getElem?_set_self hn) (drop_app hd)
    unfold lcL
    rw [chk_nil, bnd_ret]
    have b5 : bindT (.name 5) i (wipeD ρ [5]) = some ((ρ.set 5 none).set 5 (some i)) := rfl
    rw [b5]
    try dsimp only
    have g0 : (((ρ.set 5 none).set 5 (some i))[0]?).join = some (.ref n) := by
      rw [List.getElem?_set_ne (by decide), List.getElem?_set_ne (by decide), r0]
    have ev : evE cf (.meth 37 "Words" "next_scheme" (.loc 0) .nil) ((ρ.set 5 none).set 5 (some i)) η = .ok s.toD (η.set n (Wc ws (a + s.words.length) h)) := by
      simp only [evE, evEs, g0, fromO_some, bnd_ret]
      rw [bnd_ok (wc_meth e mS.1 mS.2.1 mS.2.2)]
      exact k1
    have nx : noX (evE cf (.meth 37 "Words" "next_scheme" (.loc 0) .nil) ((ρ.set 5 none).set 5 (some i))) η = .ok s.toD (η.set n (Wc ws (a + s.words.length) h)) := by
      unfold noX
      rw [ev]
    rw [show evC cf .none ((ρ.set 5 none).set 5 (some i)) = Ms.ret true by simp only [evC], noX_ret, bnd_ret, if_pos rfl, bnd_ok nx, if_pos (by omega)]
    rw [k2, List.set_set, Sch.wordsL, List.length_append, Nat.add_assoc, List.append_assoc]
    rfl
theorem ns_turn (hx : NxOk cf) (hf : FgOk cf) (hw : ∀ c ∈ letters, cf 1 [.str (S1 c)] = Ms.ret (.bl true)) {η : List Cell} {n a h : Nat} {ws rest : List Str} {acc : List D} (hη : Wf η) (ha : frozens acc = true) (hl : acc.length ≤ 1000) (hn : n < η.length) {d : D} {c : Nat} {W : List Str} (hp1 : PR cf d c W) (hd : ws.drop a = W ++ rest) {x1 x4 x5 : Option D} :
    ∃ y4, evSs cf nsBody [some (.ref n), x1, some (.ref η.length), some (.str (S1 c)), x4, x5] (hp η n ws h a acc) = .ok (.nx [some (.ref n), x1, some (.ref η.length), some (.str (S1 c)), y4, x5]) (hp η n ws h (a + W.length) (acc ++ [d])) := by
  have lim : LIM = 1000000 := rfl
  have hg := hp_get (η := η) (ws := ws) (h := h) (a := a) (acc := acc) hn
  have hL := @hp_last η n a h ws acc
  rw [ns_body]
  cases hp1 with
  | @w c hc =>
    refine ⟨x4, ?_⟩
    have nx := hx (hp η n ws h a acc) n a h ws (S1 c) hg (drop_get hd).1
    rw [hp_setn hn] at nx
    simp only [evSs, evS, evE, evEs, evAnd, evOr, evO, evC, evIt, startD, List.map_cons, List.map_nil, List.length_cons, List.length_nil, List.cons_append, List.nil_append, List.replicate, List.getElem?_cons_zero, List.getElem?_cons_succ, Option.join_some, List.set_cons_zero, List.set_cons_succ, fromO_some, bnd_ret, bnd_assoc, constD, cmpD, binD, biD, bindT, setAll, asB_bnd, asB_bl, if_true, if_false, Bool.false_eq_true, Bool.not_true, Bool.not_false, LE0, LE1, LE2, LE3, LE4, eW, sg_eq (show 119 < 1000 by decide) (show 119 < 1000 by decide), beq_self_eq_true]
    rw [bnd_ok (cl_rec rfl hL), bnd_ok (wc_meth hg mN.1 mN.2.1 mN.2.2), bnd_ok nx, bnd_ok (cl_app hp_last (by omega) _), hp_setl]
    simp only [evSs, evS, evE, evEs, evAnd, evOr, evO, evC, evIt, startD, List.map_cons, List.map_nil, List.length_cons, List.length_nil, List.cons_append, List.nil_append, List.replicate, List.getElem?_cons_zero, List.getElem?_cons_succ, Option.join_some, List.set_cons_zero, List.set_cons_succ, fromO_some, bnd_ret, bnd_assoc, constD, cmpD, binD, biD, bindT, setAll, asB_bnd, asB_bl, if_true, if_false, Bool.false_eq_true, Bool.not_true, Bool.not_false, LE0, LE1, LE2, LE3, LE4, neg_int]
    rw [bnd_ok (cl_ix hp_last at_last)]
    simp only [evSs, evS, evE, evEs, evAnd, evOr, evO, evC, evIt, startD, List.map_cons, List.map_nil, List.length_cons, List.length_nil, List.cons_append, List.nil_append, List.replicate, List.getElem?_cons_zero, List.getElem?_cons_succ, Option.join_some, List.set_cons_zero, List.set_cons_succ, fromO_some, bnd_ret, bnd_assoc, constD, cmpD, binD, biD, bindT, setAll, asB_bnd, asB_bl, if_true, if_false, Bool.false_eq_true, Bool.not_true, Bool.not_false, LE0, LE1, LE2, LE3, LE4, hw c hc]
    rfl
  | @n m c hm hc =>
    refine ⟨x4, ?_⟩
    have fg := hf (hp η n ws h a acc) n a h ws m hm hg (drop_get hd).1
    rw [hp_setn hn] at fg
    have c3 : c < 1000 ∧ (c == 119) = false ∧ (c == 109) = false ∧ (c == 115) = false := by rcases hc with rfl | rfl | rfl <;> decide
    simp only [evSs, evS, evE, evEs, evAnd, evOr, evO, evC, evIt, startD, List.map_cons, List.map_nil, List.length_cons, List.length_nil, List.cons_append, List.nil_append, List.replicate, List.getElem?_cons_zero, List.getElem?_cons_succ, Option.join_some, List.set_cons_zero, List.set_cons_succ, fromO_some, bnd_ret, bnd_assoc, constD, cmpD, binD, biD, bindT, setAll, asB_bnd, asB_bl, if_true, if_false, Bool.false_eq_true, Bool.not_true, Bool.not_false, LE0, LE1, LE2, LE3, LE4, eW, eM, eS, sg_eq c3.1 (show 119 < 1000 by decide), sg_eq c3.1 (show 109 < 1000 by decide), sg_eq c3.1 (show 115 < 1000 by decide), c3.2.1, c3.2.2.1, c3.2.2.2]
    rw [bnd_ok (cl_rec rfl hL), bnd_ok (wc_meth hg mF.1 mF.2.1 mF.2.2), bnd_ok fg, bnd_ok (cl_app hp_last (by omega) _), hp_setl]
    rfl
  | @s s hs =>
    refine ⟨x4, ?_⟩
    have rd := hs (hp η n ws h a acc) n a h ws rest (hp_wf hη ha) hg hd
    rw [hp_setn hn] at rd
    simp only [evSs, evS, evE, evEs, evAnd, evOr, evO, evC, evIt, startD, List.map_cons, List.map_nil, List.length_cons, List.length_nil, List.cons_append, List.nil_append, List.replicate, List.getElem?_cons_zero, List.getElem?_cons_succ, Option.join_some, List.set_cons_zero, List.set_cons_succ, fromO_some, bnd_ret, bnd_assoc, constD, cmpD, binD, biD, bindT, setAll, asB_bnd, asB_bl, if_true, if_false, Bool.false_eq_true, Bool.not_true, Bool.not_false, LE0, LE1, LE2, LE3, LE4, eW, eM, eS, sg_eq (show 115 < 1000 by decide) (show 119 < 1000 by decide), sg_eq (show 115 < 1000 by decide) (show 109 < 1000 by decide), sg_eq (show 115 < 1000 by decide) (show 115 < 1000 by decide), show ((115 : Nat) == 119) = false from rfl, show ((115 : Nat) == 109) = false from rfl, beq_self_eq_true]
    rw [bnd_ok (cl_rec rfl hL), bnd_ok (wc_meth hg mS.1 mS.2.1 mS.2.2), bnd_ok rd, bnd_ok (cl_app hp_last (by omega) _), hp_setl]
    rfl
  | @m ks hs hk =>
    refine ⟨some (.int ks.length), ?_⟩
    rw [List.cons_append] at hd
    have fg := hf (hp η n ws h a acc) n a h ws ks.length (by omega) hg (drop_get hd).1
    rw [hp_setn hn] at fg
    have hg2 := hp_get (η := η) (ws := ws) (h := h) (a := a + 1) (acc := acc) hn
    have kd := ns_kids (cf := cf) (n := n) (h := h) (ws := ws) (ρ := [some (.ref n), x1, some (.ref η.length), some (.str (S1 109)), some (.int ks.length), x5]) rfl rfl ks ((List.range ks.length).map fun i => .int ((i : Nat) : Int)) (a + 1) rest [] (hp η n ws h (a + 1) acc) (by simp) (by simp; omega) hs (hp_wf hη ha) hg2 (drop_get hd).2
    rw [hp_setn hn, List.nil_append] at kd
    have el : a + 1 + (Sch.wordsL ks).length = a + (num ks.length :: Sch.wordsL ks).length := by simp only [List.length_cons]; omega
    rw [el] at kd
    have rg : itR1 (.int ks.length) = Ms.ret ((List.range ks.length).map fun i => .int ((i : Nat) : Int), []) := rng1 (by omega)
    simp only [evSs, evS, evE, evEs, evAnd, evOr, evO, evC, evIt, startD, List.map_cons, List.map_nil, List.length_cons, List.length_nil, List.cons_append, List.nil_append, List.replicate, List.getElem?_cons_zero, List.getElem?_cons_succ, Option.join_some, List.set_cons_zero, List.set_cons_succ, fromO_some, bnd_ret, bnd_assoc, constD, cmpD, binD, biD, bindT, setAll, asB_bnd, asB_bl, if_true, if_false, Bool.false_eq_true, Bool.not_true, Bool.not_false, LE0, LE1, LE2, LE3, LE4, eW, eM, sg_eq (show 109 < 1000 by decide) (show 119 < 1000 by decide), sg_eq (show 109 < 1000 by decide) (show 109 < 1000 by decide), show ((109 : Nat) == 119) = false from rfl, beq_self_eq_true]
    rw [bnd_ok (wc_meth hg mF.1 mF.2.1 mF.2.2), bnd_ok fg]
    try simp only [evSs, evS, evE, evEs, evAnd, evOr, evO, evC, evIt, startD, List.map_cons, List.map_nil, List.length_cons, List.length_nil, List.cons_append, List.nil_append, List.replicate, List.getElem?_cons_zero, List.getElem?_cons_succ, Option.join_some, List.set_cons_zero, List.set_cons_succ, fromO_some, bnd_ret, bnd_assoc, constD, cmpD, binD, biD, bindT, setAll, asB_bnd, asB_bl, if_true, if_false, Bool.false_eq_true, Bool.not_true, Bool.not_false, LE0, LE1, LE2, LE3, LE4]
    rw [bnd_ok (cl_rec rfl hp_last)]
    try simp only [evSs, evS, evE, evEs, evAnd, evOr, evO, evC, evIt, startD, List.map_cons, List.map_nil, List.length_cons, List.length_nil, List.cons_append, List.nil_append, List.replicate, List.getElem?_cons_zero, List.getElem?_cons_succ, Option.join_some, List.set_cons_zero, List.set_cons_succ, fromO_some, bnd_ret, bnd_assoc, constD, cmpD, binD, biD, bindT, setAll, asB_bnd, asB_bl, if_true, if_false, Bool.false_eq_true, Bool.not_true, Bool.not_false, LE0, LE1, LE2, LE3, LE4, rg]
    try simp only [evSs, evS, evE, evEs, evAnd, evOr, evO, evC, evIt, startD, List.map_cons, List.map_nil, List.length_cons, List.length_nil, List.cons_append, List.nil_append, List.replicate, List.getElem?_cons_zero, List.getElem?_cons_succ, Option.join_some, List.set_cons_zero, List.set_cons_succ, fromO_some, bnd_ret, bnd_assoc, constD, cmpD, binD, biD, bindT, setAll, asB_bnd, asB_bl, if_true, if_false, Bool.false_eq_true, Bool.not_true, Bool.not_false, LE0, LE1, LE2, LE3, LE4] at kd
    rw [bnd_ok kd, newL_f (by rw [List.length_map]; omega)]
    simp only [evSs, evS, evE, evEs, evAnd, evOr, evO, evC, evIt, startD, List.map_cons, List.map_nil, List.length_cons, List.length_nil, List.cons_append, List.nil_append, List.replicate, List.getElem?_cons_zero, List.getElem?_cons_succ, Option.join_some, List.set_cons_zero, List.set_cons_succ, fromO_some, bnd_ret, bnd_assoc, constD, cmpD, binD, biD, bindT, setAll, asB_bnd, asB_bl, if_true, if_false, Bool.false_eq_true, Bool.not_true, Bool.not_false, LE0, LE1, LE2, LE3, LE4, tuple_fl]
    rw [bnd_ok (cl_app hp_last (by omega) _), hp_setl, toDs_map]
    rfl
end
end Ev
end
section
set_option Elab.async false
set_option linter.all false
set_option maxRecDepth 100000
set_option maxHeartbeats 2000000
/-! next_scheme, whole. -/
namespace Ev
open PySem L2 Ms Cod
section
variable {T : List FD} {cf : Nat → List D → M D}
theorem pr_frozen {d : D} {c : Nat} {W : List Str} (h : PR cf d c W) : frozen d = true := by
  cases h with
  | w => rfl
  | n => rfl
  | s h => exact toD_frozen _
  | m h hn =>
    rw [frozen, toDs_map]
    exact frozens_map toD_frozen _
theorem frozens_snoc {xs : List D} {d : D} (h : frozens xs = true) (hd : frozen d = true) : frozens (xs ++ [d]) = true := by
  rw [frozens_app, h, frozens, hd]
  rfl
theorem ns_loop (hx : NxOk cf) (hf : FgOk cf) (hw : ∀ c ∈ letters, cf 1 [.str (S1 c)] = Ms.ret (.bl true)) {η : List Cell} {n h : Nat} {ws rest : List Str} (hη : Wf η) (hn : n < η.length) {x1 x5 : Option D} : ∀ (ts : List ((D × Nat) × List Str)) (a : Nat) (acc : List D) (x3 x4 : Option D), (∀ q ∈ ts, PR cf q.1.1 q.1.2 q.2) → frozens acc = true → acc.length + ts.length ≤ 1000 → ws.drop a = (ts.map (·.2)).flatten ++ rest →
    ∃ y3 y4, forL [] (bindT (.name 3)) (evSs cf nsBody) (ts.map fun q => .str (S1 q.1.2)) [some (.ref n), x1, some (.ref η.length), x3, x4, x5] (hp η n ws h a acc) = .ok (.nx [some (.ref n), x1, some (.ref η.length), y3, y4, x5]) (hp η n ws h (a + ((ts.map (·.2)).flatten).length) (acc ++ ts.map (·.1.1)))
  | [], a, acc, x3, x4, _, _, _, _ => ⟨x3, x4, by
    rw [List.map_nil, List.map_nil, List.map_nil, List.flatten_nil, List.append_nil]
    rfl⟩
  | q :: ts, a, acc, x3, x4, hp1, ha, hl, hd => by
    rw [List.map_cons, List.flatten_cons, List.append_assoc] at hd
    simp only [List.length_cons] at hl
    have pq := hp1 q List.mem_cons_self
    obtain ⟨z4, b⟩ := ns_turn hx hf hw (x1 := x1) (x4 := x4) (x5 := x5) (h := h) hη ha (by omega) hn pq hd
    obtain ⟨y3, y4, l⟩ := ns_loop hx hf hw (h := h) (x1 := x1) (x5 := x5) hη hn ts (a + q.2.length) (acc ++ [q.1.1]) (some (.str (S1 q.1.2))) z4 (fun v hv => hp1 v (List.mem_cons_of_mem _ hv)) (frozens_snoc ha (pr_frozen pq)) (by simp; omega) (drop_app hd)
    refine ⟨y3, y4, ?_⟩
    rw [List.map_cons, List.map_cons, List.map_cons, List.flatten_cons, List.length_append, ← Nat.add_assoc]
    conv => lhs; unfold forL
    rw [chk_nil, bnd_ret]
    show bnd (evSs cf nsBody [some (.ref n), x1, some (.ref η.length), some (.str (S1 q.1.2)), x4, x5]) _ _ = _
    rw [bnd_ok b, List.append_assoc] at *
    exact l
theorem triples_pr {num many : Nat} {s : Sch} (hm : many < 100) (h : s.here num many) (hk : ∀ v ∈ s.kids, RdOk cf v) : ∀ q ∈ s.triples, PR cf q.1.1 q.1.2 q.2 := by
  intro q hq
  cases s with
  | step w n =>
    rcases List.mem_cons.mp hq with rfl | hq
    · exact .w h.1
    · rw [List.mem_singleton.mp hq]
      exact .n (by have := h.2.2; omega) (by simp)
  | many b ks =>
    rw [List.mem_singleton.mp hq]
    exact .m hk h.2
  | gate b w s =>
    rcases List.mem_cons.mp hq with rfl | hq
    · exact .w h
    · rw [List.mem_singleton.mp hq]
      exact .s (hk s List.mem_cons_self)
  | fin w n s =>
    rcases List.mem_cons.mp hq with rfl | hq
    · exact .w h.1
    · rcases List.mem_cons.mp hq with rfl | hq
      · exact .n (by have := h.2.2; omega) (by simp)
      · rw [List.mem_singleton.mp hq]
        exact .s (hk s List.mem_cons_self)
  | most n s =>
    rcases List.mem_cons.mp hq with rfl | hq
    · exact .n (by have : n ≤ 30 := h; omega) (by simp)
    · rw [List.mem_singleton.mp hq]
      exact .s (hk s List.mem_cons_self)
  | hc b s =>
    rw [List.mem_singleton.mp hq]
    exact .s (hk s List.mem_cons_self)
  | use k =>
    rw [List.mem_singleton.mp hq]
    exact .n (by have := h.2; omega) (by simp)
theorem cl_tuple {η : List Cell} {n : Nat} {xs : List D} (h : η[n]? = some (.lst xs)) : tupleD [.ref n] η = .ok (.tup xs) η := by
  show (match asL η (.ref n) with | some xs => Res.ok (D.tup xs) η | none => .bad) = _
  rw [cl_asL h]
theorem triples_len (s : Sch) : s.triples.length ≤ 3 := by
  have h1 := congrArg List.length (triples_fst s)
  have h2 := parts_len s
  rw [List.length_map] at h1
  omega
theorem shp_in (s : Sch) : shpIn shSHAPES true (.str s.head) = Ms.ret (.bl false) := by
  unfold shpIn
  try dsimp only
  rw [look_ok]
  rfl
theorem next_scheme_ok (R : Rds T) {num many : Nat} (hm : many < 100) {d : Nat} {s : Sch} (hg : Good num many d s) : ∀ k, RdOk (evF T (d + k + 2)) s := by
  induction hg with
  | @mk d s hh hk ih =>
    intro k η n a h ws rest hη e hd
    have ek : d + 1 + k + 2 = d + k + 2 + 1 := by omega
    rw [ek]
    have hn := (List.getElem?_eq_some_iff.mp e).1
    have hx : NxOk (evF T (d + k + 2)) := next_ok R (k := d + k + 1)
    have hf : FgOk (evF T (d + k + 2)) := figures_ok R (k := d + k)
    have hw : ∀ c ∈ letters, evF T (d + k + 2) 1 [.str (S1 c)] = Ms.ret (.bl true) := fun c hc => is_word_one R.toPapers (k := d + k + 1) hc
    have wp := words_parts s
    rw [wp, List.cons_append] at hd
    have nx := hx η n a h ws s.head e (drop_get hd).1
    have tl := triples_len s
    have ns := ns_loop hx hf hw (h := h) (ws := ws) (rest := rest) hη hn (x1 := some (.str s.head)) (x5 := none) s.triples (a + 1) [.str s.head] none none (triples_pr hm hh fun v hv => ih v hv k) rfl (by simp; omega) (by rw [triples_snd]; exact (drop_get hd).2)
    obtain ⟨y3, y4, l⟩ := ns
    have el : a + 1 + (s.partW.flatten).length = a + s.words.length := by
      rw [wp, List.length_cons]
      omega
    have ef : [D.str s.head] ++ s.triples.map (·.1.1) = D.str s.head :: s.parts.map (·.1) := by
      rw [← triples_fst s, List.map_map]
      rfl
    rw [triples_snd, el, ef] at l
    have it : itVal (.str s.shape) = Ms.ret (s.triples.map fun q => .str (S1 q.1.2), []) := by
      have ls : s.shape.length ≤ LIM := shape_lim s
      funext η
      simp only [itVal, itemsG, itemsOf, if_pos ls, Option.map_some, Ms.ret]
      rw [shape_signs, ← triples_fst s, List.map_map]
      rfl
    have nl : newL true [D.str s.head] (η.set n (Wc ws (a + 1) h)) = .ok (.ref η.length) (hp η n ws h (a + 1) [.str s.head]) := by
      have := cl_new (η := η.set n (Wc ws (a + 1) h)) (ds := [D.str s.head]) (show 1 ≤ LIM by decide)
      rw [List.length_set] at this
      exact this
    refine evF_tmp2 (fl := .rt s.toD) (η' := η.set n (Wc ws (a + s.words.length) h)) (ex := [.lst (D.str s.head :: s.parts.map (·.1))]) R.sch rfl (by simp) (wf_wc hη) (toD_under _ _) ?_
    rw [ns_code]
    try simp only [evSs, evS, evE, evEs, evAnd, evOr, evO, evC, evIt, startD, List.map_cons, List.map_nil, List.length_cons, List.length_nil, List.cons_append, List.nil_append, List.replicate, List.getElem?_cons_zero, List.getElem?_cons_succ, Option.join_some, List.set_cons_zero, List.set_cons_succ, fromO_some, bnd_ret, bnd_assoc, constD, cmpD, binD, biD, bindT, setAll, asB_bnd, asB_bl, if_true, if_false, Bool.false_eq_true, Bool.not_true, Bool.not_false, LE0, LE1, LE2, LE3, LE4]
    rw [bnd_ok (wc_meth e mN.1 mN.2.1 mN.2.2), bnd_ok nx]
    simp only [evSs, evS, evE, evEs, evAnd, evOr, evO, evC, evIt, startD, List.map_cons, List.map_nil, List.length_cons, List.length_nil, List.cons_append, List.nil_append, List.replicate, List.getElem?_cons_zero, List.getElem?_cons_succ, Option.join_some, List.set_cons_zero, List.set_cons_succ, fromO_some, bnd_ret, bnd_assoc, constD, cmpD, binD, biD, bindT, setAll, asB_bnd, asB_bl, if_true, if_false, Bool.false_eq_true, Bool.not_true, Bool.not_false, LE0, LE1, LE2, LE3, LE4, shp_in]
    rw [bnd_ok nl]
    simp only [evSs, evS, evE, evEs, evAnd, evOr, evO, evC, evIt, startD, List.map_cons, List.map_nil, List.length_cons, List.length_nil, List.cons_append, List.nil_append, List.replicate, List.getElem?_cons_zero, List.getElem?_cons_succ, Option.join_some, List.set_cons_zero, List.set_cons_succ, fromO_some, bnd_ret, bnd_assoc, constD, cmpD, binD, biD, bindT, setAll, asB_bnd, asB_bl, if_true, if_false, Bool.false_eq_true, Bool.not_true, Bool.not_false, LE0, LE1, LE2, LE3, LE4, shp_ok, it]
    rw [bnd_ok l]
    try simp only [evSs, evS, evE, evEs, evAnd, evOr, evO, evC, evIt, startD, List.map_cons, List.map_nil, List.length_cons, List.length_nil, List.cons_append, List.nil_append, List.replicate, List.getElem?_cons_zero, List.getElem?_cons_succ, Option.join_some, List.set_cons_zero, List.set_cons_succ, fromO_some, bnd_ret, bnd_assoc, constD, cmpD, binD, biD, bindT, setAll, asB_bnd, asB_bl, if_true, if_false, Bool.false_eq_true, Bool.not_true, Bool.not_false, LE0, LE1, LE2, LE3, LE4]
    rw [bnd_ok (cl_tuple hp_last), toD_parts]
    rfl
/-- what whole does -/
theorem whole_ok (R : Rds T) {num many : Nat} (hm : many < 100) {d : Nat} {s : Sch} (hg : Good num many d s) {k : Nat} {η : List Cell} {n h : Nat} (hη : Wf η) (e : η[n]? = some (Wc s.words 0 h)) : evF T (d + k + 3) 38 [.ref n] η = .ok s.toD (η.set n (Wc s.words s.words.length h)) := by
  have hn := (List.getElem?_eq_some_iff.mp e).1
  have rd := next_scheme_ok R hm hg k η n 0 h s.words [] hη e (by simp)
  rw [Nat.zero_add] at rd
  have e2 : (η.set n (Wc s.words s.words.length h))[n]? = some (Wc s.words s.words.length h) := List.getElem?_set_self hn
  refine evF_len (fl := .rt s.toD) R.whole rfl (by simp) ?_
  simp only [c_Words_whole, evSs, evS, evE, evEs, evAnd, evOr, evO, evC, evIt, startD, List.map_cons, List.map_nil, List.length_cons, List.length_nil, List.cons_append, List.nil_append, List.replicate, List.getElem?_cons_zero, List.getElem?_cons_succ, Option.join_some, List.set_cons_zero, List.set_cons_succ, fromO_some, bnd_ret, bnd_assoc, constD, cmpD, binD, biD, bindT, setAll, asB_bnd, asB_bl, if_true, if_false, Bool.false_eq_true, Bool.not_true, Bool.not_false, LE0, LE1, LE2, LE3, LE4]
  rw [bnd_ok (wc_meth e mS.1 mS.2.1 mS.2.2), bnd_ok rd]
  try simp only [evSs, evS, evE, evEs, evAnd, evOr, evO, evC, evIt, startD, List.map_cons, List.map_nil, List.length_cons, List.length_nil, List.cons_append, List.nil_append, List.replicate, List.getElem?_cons_zero, List.getElem?_cons_succ, Option.join_some, List.set_cons_zero, List.set_cons_succ, fromO_some, bnd_ret, bnd_assoc, constD, cmpD, binD, biD, bindT, setAll, asB_bnd, asB_bl, if_true, if_false, Bool.false_eq_true, Bool.not_true, Bool.not_false, LE0, LE1, LE2, LE3, LE4]
  rw [bnd_ok (wc_at e2), bnd_ok (wc_words e2), len_fl]
  simp only [evSs, evS, evE, evEs, evAnd, evOr, evO, evC, evIt, startD, List.map_cons, List.map_nil, List.length_cons, List.length_nil, List.cons_append, List.nil_append, List.replicate, List.getElem?_cons_zero, List.getElem?_cons_succ, Option.join_some, List.set_cons_zero, List.set_cons_succ, fromO_some, bnd_ret, bnd_assoc, constD, cmpD, binD, biD, bindT, setAll, asB_bnd, asB_bl, if_true, if_false, Bool.false_eq_true, Bool.not_true, Bool.not_false, LE0, LE1, LE2, LE3, LE4, lt_int, txts_len, decide_eq_false (show ¬ ((s.words.length : Int) < s.words.length) by omega)]
  rfl
theorem fset_gen {η : List Cell} {n : Nat} {C : Str} {fs : List (Str × D)} (e : η[n]? = some (.ins C fs)) (hl : fs.length < 1000) (f : Str) (y : D) : fsetD C f (.ref n) y η = .ok () (η.set n (.ins C (putFG f y fs))) := by
  unfold fsetD
  try dsimp only
  rw [e]
  try dsimp only
  rw [if_pos ⟨rfl, hl⟩]
theorem rv_str {m : Mt} (hm : m.ty ≠ "list") (z : Str) : (fun η => if recvOk m (.str z) η = true then Res.ok () η else Res.bad) = Ms.ret () := by
  funext η
  have : recvOk m (.str z) η = true := by
    unfold recvOk
    split
    · rename_i h; exact absurd h hm
    · rfl
  rw [if_pos this]
  rfl
theorem init_ok (R : Rds T) {z : Str} {ws : List Str} (hz : z.length ≤ LIM) (hs : Txt.split z spaceS = ws) {k : Nat} {η : List Cell} {n h : Nat} (e : η[n]? = some (.ins "Words" [])) : evF T (k + 1) 33 [.ref n, .str z, .int h] η = .ok .non (η.set n (Wc ws 0 h)) := by
  have hn := (List.getElem?_eq_some_iff.mp e).1
  have l1 : ((spaceS.length == 0) = false ∧ z.length ≤ LIM) := ⟨by decide +kernel, hz⟩
  have sp : mtD .split (.str z) [.str " "] = Ms.ret (.fl (txts ws)) := by
    funext η
    show (if (spaceS.length == 0) = false ∧ z.length ≤ LIM then Res.ok (D.fl (txts (Txt.split z spaceS))) η else .bad) = _
    rw [if_pos l1, hs]
    rfl
  have p2 : putFG ("at" : Str) (.int 0) [("words", .fl (txts ws))] = ([("words", .fl (txts ws)), ("at", .int 0)] : List (Str × D)) := by
    simp only [putFG, neWA, if_false]
  have p3 : putFG ("ahead" : Str) (.int h) [("words", .fl (txts ws)), ("at", .int 0)] = ([("words", .fl (txts ws)), ("at", .int 0), ("ahead", .int h)] : List (Str × D)) := by
    simp only [putFG, neWH, neAH, if_false]
  refine evF_len (fl := .nx [some (.ref n), some (.str z), some (.int h)]) R.ini rfl (by simp) ?_
  simp only [c_Words___init, evSs, evS, evE, evEs, evAnd, evOr, evO, evC, evIt, startD, List.map_cons, List.map_nil, List.length_cons, List.length_nil, List.cons_append, List.nil_append, List.replicate, List.getElem?_cons_zero, List.getElem?_cons_succ, Option.join_some, List.set_cons_zero, List.set_cons_succ, fromO_some, bnd_ret, bnd_assoc, constD, cmpD, binD, biD, bindT, setAll, asB_bnd, asB_bl, if_true, if_false, Bool.false_eq_true, Bool.not_true, Bool.not_false, LE0, LE1, LE2, LE3, LE4, rv_str (m := .split) (by decide), sp]
  rw [bnd_ok (fset_gen e (by decide) _ _)]
  rw [show putFG ("words" : Str) (.fl (txts ws)) [] = ([("words", .fl (txts ws))] : List (Str × D)) from rfl]
  rw [bnd_ok (fset_gen (fs := [("words", .fl (txts ws))]) (List.getElem?_set_self hn) (show (1 : Nat) < 1000 by decide) _ _), List.set_set]
  try simp only [evSs, evS, evE, evEs, evAnd, evOr, evO, evC, evIt, startD, List.map_cons, List.map_nil, List.length_cons, List.length_nil, List.cons_append, List.nil_append, List.replicate, List.getElem?_cons_zero, List.getElem?_cons_succ, Option.join_some, List.set_cons_zero, List.set_cons_succ, fromO_some, bnd_ret, bnd_assoc, constD, cmpD, binD, biD, bindT, setAll, asB_bnd, asB_bl, if_true, if_false, Bool.false_eq_true, Bool.not_true, Bool.not_false, LE0, LE1, LE2, LE3, LE4]
  rw [p2]
  rw [bnd_ok (fset_gen (fs := [("words", .fl (txts ws)), ("at", .int 0)]) (List.getElem?_set_self hn) (show (2 : Nat) < 1000 by decide) _ _), List.set_set, p3]
  rfl
theorem make_ok (R : Rds T) {z : Str} {ws : List Str} (hz : z.length ≤ LIM) (hs : Txt.split z spaceS = ws) {k : Nat} {η : List Cell} {h : Nat} : makeD "Words" (evF T (k + 1) 33) [.str z, .int h] η = .ok (.ref η.length) (η ++ [Wc ws 0 h]) := by
  unfold makeD
  rw [init_ok R hz hs get_last, set_last]
  rfl
end
end Ev
end
section
set_option Elab.async false
set_option linter.all false
set_option maxRecDepth 100000
set_option maxHeartbeats 2000000
/-! read, whole. -/
namespace Ev
open PySem L2 Ms Cod
theorem joinL_mem {S : List Nat} {c : Nat} : ∀ {ps : List (List Nat)}, c ∈ TL.joinL S ps → c ∈ S ∨ ∃ p ∈ ps, c ∈ p
  | [], h => nomatch h
  | [p], h => .inr ⟨p, List.mem_cons_self, h⟩
  | p :: q :: r, h => by
    rcases List.mem_append.mp h with h | h
    · exact .inr ⟨p, List.mem_cons_self, h⟩
    · rcases List.mem_append.mp h with h | h
      · exact .inl h
      · rcases joinL_mem h with h | ⟨x, hx, h⟩
        · exact .inl h
        · exact .inr ⟨x, List.mem_cons_of_mem _ hx, h⟩
theorem join_free {z : Str} {c : Nat} {ws : List Str} (hz : c ∉ z.cps.toList) (hw : ∀ w ∈ ws, c ∉ w.cps.toList) : c ∉ (Txt.join z ws).cps.toList := by
  rw [TL.join_eq]
  show c ∉ TL.tl (Str.join z ws)
  rw [TL.tl_join]
  intro h
  rcases joinL_mem h with h | ⟨p, hp, h⟩
  · exact hz h
  · obtain ⟨w, hw2, rfl⟩ := List.mem_map.mp hp
    exact hw w hw2 h
theorem words_ne (s : Sch) : s.words ≠ [] := by
  rw [words_parts]
  simp
theorem text_split {num many : Nat} (hm : many < 100) {d : Nat} {s : Sch} (hg : Good num many d s) : Txt.split s.text spaceS = s.words :=
  TL.split_join (s := 32) (S := []) (by decide +kernel) (by decide +kernel) (words_ne s) fun p hp => (good_wd hm hg p hp).sp
theorem paper_split {ss : List Sch} {u1 u2 : Nat → Nat} (P : Paper ss u1 u2) : Txt.split (textP ss) ("\n" : Str) = ss.map Sch.text := by
  have hi := P.hi
  have lo := P.lo
  refine TL.split_join (s := 10) (S := []) (by decide +kernel) (by decide +kernel) (fun e => ?_) fun p hp => ?_
  · have := congrArg List.length e
    simp at this
    subst this
    simp at lo
  · obtain ⟨s, hs, rfl⟩ := List.mem_map.mp hp
    obtain ⟨i, g⟩ := P.at_mem hs
    exact join_free (by decide +kernel) fun w hw => (good_wd (by omega) g w hw).nl
theorem textP_len {ss : List Sch} {u1 u2 : Nat → Nat} (P : Paper ss u1 u2) : (textP ss).length ≤ LIM := Nat.le_trans (join_len _ _) (texts_sum P)
/-- a live list somewhere, rows' cells behind it -/
def rp (η : List Cell) (acc : List D) (olds : List Cell) : List Cell := η ++ (.lst acc :: olds)
section
variable {η olds : List Cell} {acc : List D} {c : Cell}
theorem rp_snoc : rp η acc olds ++ [c] = rp η acc (olds ++ [c]) := by simp [rp]
theorem rp_get : (rp η acc olds)[η.length]? = some (.lst acc) := by
  unfold rp
  rw [List.getElem?_append_right (Nat.le_refl _), Nat.sub_self]
  rfl
theorem rp_set (acc2 : List D) : (rp η acc olds).set η.length (.lst acc2) = rp η acc2 olds := by
  unfold rp
  rw [List.set_append_right _ _ (Nat.le_refl _), Nat.sub_self]
  rfl
theorem rp_wf (hη : Wf η) (ha : frozens acc = true) (ho : ∀ c ∈ olds, ∀ n, cUnder n c = true) : Wf (rp η acc olds) := hη.app fun c hc => by
  rcases List.mem_cons.mp hc with rfl | hc
  · exact frozens_under _ ha
  · exact ho c hc _
end
def rdBody : Ss := match c_read with
  | .cons _ (.cons _ (.cons (.for_ _ _ b) _)) => b
  | _ => .nil
theorem rd_code : c_read = .cons (.asg (.name 1) (.lst true .nil))
    (.cons (.asg (.name 2) (.cst (.int 0)))
    (.cons (.for_ (.name 3) (.val (.mt .split (.loc 0) (.cons (.glob "LINE" (.str "\n")) .nil))) rdBody)
    (.cons (.ex (.call 6 (.cons (.bi .tuple (.cons (.loc 1) .nil)) .nil)))
    (.cons (.ret (.bi .tuple (.cons (.loc 1) .nil))) .nil)))) := rfl
section
variable {T : List FD}
theorem rd_loop (R : Rds T) {many k : Nat} (hm : many < 100) {η : List Cell} (hη : Wf η) {x0 : Option D} : ∀ (r : List Sch) (acc : List D) (olds : List Cell) (ahead : Nat) (x3 x4 : Option D), (∀ s ∈ r, (∃ i, Good i many 5 s) ∧ s.text.length ≤ LIM) → frozens acc = true → (∀ c ∈ olds, ∀ n, cUnder n c = true) → acc.length + r.length ≤ 1000 →
    ∃ y2 y3 y4 olds2, (∀ c ∈ olds2, ∀ n, cUnder n c = true) ∧ forL [] (bindT (.name 3)) (evSs (evF T (5 + k + 3)) rdBody) (r.map fun s => .str s.text) [x0, some (.ref η.length), some (.int ahead), x3, x4] (rp η acc olds) = .ok (.nx [x0, some (.ref η.length), y2, y3, y4]) (rp η (acc ++ r.map Sch.toD) olds2)
  | [], acc, olds, ahead, x3, x4, _, _, ho, _ => ⟨some (.int ahead), x3, x4, olds, ho, by
    rw [List.map_nil, List.map_nil, List.append_nil]
    rfl⟩
  | s :: r, acc, olds, ahead, x3, x4, hs, ha, ho, hl => by
    have lim : LIM = 1000000 := rfl
    simp only [List.length_cons] at hl
    obtain ⟨⟨i, g⟩, tl⟩ := hs s List.mem_cons_self
    have mk := make_ok R tl (text_split hm g) (k := 5 + k + 2) (η := rp η acc olds) (h := ahead)
    have ho1 : ∀ a : Nat, ∀ c ∈ olds ++ [Wc s.words a ahead], ∀ n, cUnder n c = true := fun a c hc n => by
      rcases List.mem_append.mp hc with hc | hc
      · exact ho c hc n
      · rw [List.mem_singleton.mp hc]
        exact wc_under _ _ _ _
    have wh := whole_ok R hm g (k := k) (n := (rp η acc olds).length) (h := ahead) (η := rp η acc olds ++ [Wc s.words 0 ahead]) (by rw [rp_snoc]; exact rp_wf hη ha (ho1 0)) get_last
    rw [set_last, rp_snoc, rp_snoc] at wh
    rw [rp_snoc] at mk
    have w0 : ∀ a : Nat, (rp η acc (olds ++ [Wc s.words a ahead]))[(rp η acc olds).length]? = some (Wc s.words a ahead) := fun a => by
      rw [← rp_snoc]
      exact get_last
    have w1 : ∀ (acc2 : List D) (a : Nat), (rp η acc2 (olds ++ [Wc s.words a ahead]))[(rp η acc olds).length]? = some (Wc s.words a ahead) := fun acc2 a => by
      rw [← rp_snoc, show (rp η acc olds).length = (rp η acc2 olds).length by simp [rp]]
      exact get_last
    have b : evSs (evF T (5 + k + 3)) rdBody [x0, some (.ref η.length), some (.int ahead), some (.str s.text), x4] (rp η acc olds) = .ok (.nx [x0, some (.ref η.length), some (.int ((ahead + s.words.length : Nat) : Int)), some (.str s.text), some (.ref (rp η acc olds).length)]) (rp η (acc ++ [s.toD]) (olds ++ [Wc s.words s.words.length ahead])) := by
      rw [show rdBody = .cons (.asg (.name 4) (.make 33 "Words" (.cons (.loc 3) (.cons (.loc 2) .nil)))) (.cons (.ex (.mt .append (.loc 1) (.cons (.meth 38 "Words" "whole" (.loc 4) .nil) .nil))) (.cons (.aug 2 .add (.bi .len (.cons (.fld "Words" (.loc 4) "words") .nil))) .nil)) from rfl]
      try simp only [evSs, evS, evE, evEs, evAnd, evOr, evO, evC, evIt, startD, List.map_cons, List.map_nil, List.length_cons, List.length_nil, List.cons_append, List.nil_append, List.replicate, List.getElem?_cons_zero, List.getElem?_cons_succ, Option.join_some, List.set_cons_zero, List.set_cons_succ, fromO_some, bnd_ret, bnd_assoc, constD, cmpD, binD, biD, bindT, setAll, asB_bnd, asB_bl, if_true, if_false, Bool.false_eq_true, Bool.not_true, Bool.not_false, LE0, LE1, LE2, LE3, LE4]
      rw [bnd_ok mk]
      try simp only [evSs, evS, evE, evEs, evAnd, evOr, evO, evC, evIt, startD, List.map_cons, List.map_nil, List.length_cons, List.length_nil, List.cons_append, List.nil_append, List.replicate, List.getElem?_cons_zero, List.getElem?_cons_succ, Option.join_some, List.set_cons_zero, List.set_cons_succ, fromO_some, bnd_ret, bnd_assoc, constD, cmpD, binD, biD, bindT, setAll, asB_bnd, asB_bl, if_true, if_false, Bool.false_eq_true, Bool.not_true, Bool.not_false, LE0, LE1, LE2, LE3, LE4]
      rw [bnd_ok (cl_rec rfl rp_get), bnd_ok (wc_meth (w0 0) mW.1 mW.2.1 mW.2.2), bnd_ok wh, bnd_ok (cl_app rp_get (by omega) _), rp_set]
      try simp only [evSs, evS, evE, evEs, evAnd, evOr, evO, evC, evIt, startD, List.map_cons, List.map_nil, List.length_cons, List.length_nil, List.cons_append, List.nil_append, List.replicate, List.getElem?_cons_zero, List.getElem?_cons_succ, Option.join_some, List.set_cons_zero, List.set_cons_succ, fromO_some, bnd_ret, bnd_assoc, constD, cmpD, binD, biD, bindT, setAll, asB_bnd, asB_bl, if_true, if_false, Bool.false_eq_true, Bool.not_true, Bool.not_false, LE0, LE1, LE2, LE3, LE4]
      rw [bnd_ok (wc_words (w1 _ _)), len_fl]
      simp only [evSs, evS, evE, evEs, evAnd, evOr, evO, evC, evIt, startD, List.map_cons, List.map_nil, List.length_cons, List.length_nil, List.cons_append, List.nil_append, List.replicate, List.getElem?_cons_zero, List.getElem?_cons_succ, Option.join_some, List.set_cons_zero, List.set_cons_succ, fromO_some, bnd_ret, bnd_assoc, constD, cmpD, binD, biD, bindT, setAll, asB_bnd, asB_bl, if_true, if_false, Bool.false_eq_true, Bool.not_true, Bool.not_false, LE0, LE1, LE2, LE3, LE4, txts_len, augD]
      rfl
    obtain ⟨y2, y3, y4, olds2, h1, l⟩ := rd_loop R (k := k) hm hη (x0 := x0) r (acc ++ [s.toD]) (olds ++ [Wc s.words s.words.length ahead]) (ahead + s.words.length) (some (.str s.text)) (some (.ref (rp η acc olds).length)) (fun v hv => hs v (List.mem_cons_of_mem _ hv)) (frozens_snoc ha (toD_frozen s)) (ho1 _) (by simp; omega)
    refine ⟨y2, y3, y4, olds2, h1, ?_⟩
    rw [List.map_cons, List.map_cons]
    conv => lhs; unfold forL
    rw [chk_nil, bnd_ret]
    show bnd (evSs (evF T (5 + k + 3)) rdBody [x0, some (.ref η.length), some (.int ahead), some (.str s.text), x4]) _ _ = _
    rw [bnd_ok b]
    rw [List.append_assoc] at l
    exact l
theorem read_ok (R : Rds T) {ss : List Sch} {u1 u2 : Nat → Nat} (P : Paper ss u1 u2) {k : Nat} {η : List Cell} (hη : Wf η) : evF T (5 + k + 4) 39 [.str (textP ss)] η = .ok (paperD ss) η := by
  have hi := P.hi
  have lim : LIM = 1000000 := rfl
  obtain ⟨y2, y3, y4, olds, h1, l⟩ := rd_loop R (many := ss.length) (k := k) (by omega) hη (x0 := some (.str (textP ss))) ss [] [] 0 none none (fun s hs => ⟨P.at_mem hs, by have := P.len hs; omega⟩) rfl (fun c h => nomatch h) (by simp; omega)
  rw [List.nil_append, show ((0 : Nat) : Int) = 0 from rfl] at l
  have fz : frozens (ss.map Sch.toD) = true := frozens_map toD_frozen _
  have np := need_paper_ok (k := k + 3) R.toPapers P (rp_wf hη fz h1)
  have ek : k + 3 + 5 = 5 + k + 3 := by omega
  rw [ek] at np
  have l1 : ((("\n" : Str).length == 0) = false ∧ (textP ss).length ≤ LIM) := ⟨by decide +kernel, textP_len P⟩
  have sp : mtD .split (.str (textP ss)) [.str "\n"] = Ms.ret (.fl (txts (ss.map Sch.text))) := by
    funext η
    show (if (("\n" : Str).length == 0) = false ∧ (textP ss).length ≤ LIM then Res.ok (D.fl (txts (Txt.split (textP ss) "\n"))) η else .bad) = _
    rw [if_pos l1, paper_split P]
    rfl
  have et : txts (ss.map Sch.text) = ss.map fun s => .str s.text := by
    unfold txts
    rw [List.map_map]
    rfl
  refine evF_tmp (fl := .rt (paperD ss)) (ex := .lst (ss.map Sch.toD) :: olds) R.rd rfl hη (frozen_under _ (by rw [show retD (.rt (paperD ss)) = paperD ss from rfl, paperD, frozen]; exact fz)) ?_
  rw [rd_code]
  have nl : newL true [] η = .ok (.ref η.length) (rp η [] []) := cl_new (Nat.zero_le _)
  try simp only [evSs, evS, evE, evEs, evAnd, evOr, evO, evC, evIt, startD, List.map_cons, List.map_nil, List.length_cons, List.length_nil, List.cons_append, List.nil_append, List.replicate, List.getElem?_cons_zero, List.getElem?_cons_succ, Option.join_some, List.set_cons_zero, List.set_cons_succ, fromO_some, bnd_ret, bnd_assoc, constD, cmpD, binD, biD, bindT, setAll, asB_bnd, asB_bl, if_true, if_false, Bool.false_eq_true, Bool.not_true, Bool.not_false, LE0, LE1, LE2, LE3, LE4]
  rw [bnd_ok nl]
  simp only [evSs, evS, evE, evEs, evAnd, evOr, evO, evC, evIt, startD, List.map_cons, List.map_nil, List.length_cons, List.length_nil, List.cons_append, List.nil_append, List.replicate, List.getElem?_cons_zero, List.getElem?_cons_succ, Option.join_some, List.set_cons_zero, List.set_cons_succ, fromO_some, bnd_ret, bnd_assoc, constD, cmpD, binD, biD, bindT, setAll, asB_bnd, asB_bl, if_true, if_false, Bool.false_eq_true, Bool.not_true, Bool.not_false, LE0, LE1, LE2, LE3, LE4, rv_str (m := .split) (by decide), sp, it_fl, et]
  rw [bnd_ok l]
  try simp only [evSs, evS, evE, evEs, evAnd, evOr, evO, evC, evIt, startD, List.map_cons, List.map_nil, List.length_cons, List.length_nil, List.cons_append, List.nil_append, List.replicate, List.getElem?_cons_zero, List.getElem?_cons_succ, Option.join_some, List.set_cons_zero, List.set_cons_succ, fromO_some, bnd_ret, bnd_assoc, constD, cmpD, binD, biD, bindT, setAll, asB_bnd, asB_bl, if_true, if_false, Bool.false_eq_true, Bool.not_true, Bool.not_false, LE0, LE1, LE2, LE3, LE4]
  rw [bnd_ok (cl_tuple rp_get)]
  rw [show D.tup (ss.map Sch.toD) = paperD ss from rfl, bnd_ok np]
  try simp only [evSs, evS, evE, evEs, evAnd, evOr, evO, evC, evIt, startD, List.map_cons, List.map_nil, List.length_cons, List.length_nil, List.cons_append, List.nil_append, List.replicate, List.getElem?_cons_zero, List.getElem?_cons_succ, Option.join_some, List.set_cons_zero, List.set_cons_succ, fromO_some, bnd_ret, bnd_assoc, constD, cmpD, binD, biD, bindT, setAll, asB_bnd, asB_bl, if_true, if_false, Bool.false_eq_true, Bool.not_true, Bool.not_false, LE0, LE1, LE2, LE3, LE4]
  rw [bnd_ok (cl_tuple rp_get)]
  rfl
end
end Ev
end
section
set_option Elab.async false
set_option linter.all false
set_option maxRecDepth 100000
set_option maxHeartbeats 2000000
/-! Lines of works, texts that can be compared, boxes. -/
namespace Ev
open PySem L2 Ms Cod
theorem ok_app {a b : Str} (ha : PyData.strOk a = true) (hb : PyData.strOk b = true) : PyData.strOk (a ++ b) = true := by
  unfold PyData.strOk at *
  show (a.cps ++ b.cps).all _ = true
  rw [Array.all_append, ha, hb]
  rfl
theorem ok_join0 {sep : Str} (hs : PyData.strOk sep = true) : ∀ {ws : List Str}, (∀ w ∈ ws, PyData.strOk w = true) → PyData.strOk (Str.join sep ws) = true
  | [], _ => by
    show PyData.strOk PySem.Str.empty = true
    decide +kernel
  | [x], h => h x (by simp)
  | x :: y :: r, h => ok_app (ok_app (h x (by simp)) hs) (ok_join0 hs (ws := y :: r) fun w hw => h w (List.mem_cons_of_mem _ hw))
theorem ok_join {sep : Str} (hs : PyData.strOk sep = true) {ws : List Str} (h : ∀ w ∈ ws, PyData.strOk w = true) : PyData.strOk (Txt.join sep ws) = true := by
  rw [TL.join_eq]
  exact ok_join0 hs h
theorem textP_ok {ss : List Sch} {u1 u2 : Nat → Nat} (P : Paper ss u1 u2) : PyData.strOk (textP ss) = true := ok_join (by decide +kernel) fun w hw => by
  obtain ⟨s, hs, rfl⟩ := List.mem_map.mp hw
  obtain ⟨i, g⟩ := P.at_mem hs
  exact ok_join (by decide +kernel) fun w hw => (good_wd (by have := P.hi; omega) g w hw).ok
theorem eq_same {xs : List D} (hs : ∀ x ∈ xs, Sh 60 x) : eqD (.fl xs) (.fl xs) = Ms.ret (.bl true) ∧ neD (.fl xs) (.fl xs) = Ms.ret (.bl false) := by
  obtain ⟨ps, h1, h2, h3, h4⟩ := shs_of hs
  have d1 : ∀ η, derP η (.fl xs) = some (.list ps) := fun η => by simp only [derP, toP, h1, Option.map_some]
  have s1 : SeqAt.shaped (.list ps) = true := by
    unfold SeqAt.shaped
    simp only [PyData.canLay0, h2, PyData.depth, Bool.true_and]
    exact decide_eq_true (by omega)
  have e : PyData.eqv (.list ps) (.list ps) = true := SeqAt.eqv_refl _ h2
  constructor
  · funext η
    unfold eqD
    rw [d1]
    try dsimp only
    rw [if_pos ⟨s1, s1⟩, e]
    rfl
  · funext η
    unfold neD
    rw [d1]
    try dsimp only
    rw [if_pos ⟨s1, s1⟩, e]
    rfl
theorem eq_nil0 {η : List Cell} {n : Nat} (h : η[n]? = some (.lst [])) : eqD (.ref n) (.fl []) η = .ok (.bl true) η := by
  have d1 : derP η (.ref n) = some (.list []) := by simp only [derP, h, toPs, Option.map_some]
  have d2 : derP η (.fl []) = some (.list []) := rfl
  unfold eqD
  rw [d1, d2]
  rfl
theorem txts_sh {ws : List Str} (h : ∀ w ∈ ws, PyData.strOk w = true) : ∀ x ∈ txts ws, Sh 60 x := fun x hx => by
  obtain ⟨w, hw, rfl⟩ := List.mem_map.mp hx
  exact .str (h w hw)
theorem boxed_wf {p rest : List Cell} {l : List Int} {s : Int} (hp : flatCs p = true) (hr : flatCs rest = true) : Wf (boxed p l s rest) := by
  unfold Wf
  rw [boxed_len]
  unfold boxed
  rw [List.all_append, List.all_cons, List.all_cons]
  have h1 : p.all (cUnder (p.length + 2 + rest.length)) = true := List.all_eq_true.mpr fun c hc => flatC_under _ (List.all_eq_true.mp hp c hc)
  have h2 : rest.all (cUnder (p.length + 2 + rest.length)) = true := List.all_eq_true.mpr fun c hc => flatC_under _ (List.all_eq_true.mp hr c hc)
  have h3 : cUnder (p.length + 2 + rest.length) (.lst (intsD l)) = true := frozens_under _ (frozens_map (fun _ => rfl) l)
  have h4 : cUnder (p.length + 2 + rest.length) (.lst [.ref p.length, .int s]) = true := by
    simp only [cUnder, dUnders, dUnder, Bool.and_true, decide_eq_true_eq]
    omega
  rw [h1, h2, h3, h4]
  rfl
/-! ### the line of a work -/
theorem Stp.len {cs : List Nat} {b : Bool} {w : Str} (h : Stp cs b w) : w.length = 2 := by
  obtain ⟨c, g, rfl, _⟩ := h.at_
  rfl
theorem Stp.sp {cs : List Nat} {b : Bool} {w : Str} (h : Stp cs b w) (hc : ∀ c ∈ cs, c ∈ letters) : 32 ∉ w.cps.toList := by
  obtain ⟨c, g, rfl, h1, h2, _⟩ := h.at_
  have hl := hc c h1
  have e1 : c ≠ 32 := by
    rintro rfl
    revert hl
    decide
  have e2 : g ≠ 32 := by
    rintro rfl
    revert h2
    decide
  simp
  omega
theorem Wk.okw {cs : List Nat} {ws : List Str} (h : Wk cs ws) (hc : ∀ c ∈ cs, c ∈ letters) {w : Str} (hw : w ∈ ws) : OkW w ∧ stepB w = true ∧ w.length = 2 ∧ 32 ∉ w.cps.toList := by
  obtain ⟨b, q⟩ := h.stp hw
  have nb := q.next hc
  unfold nextB at nb
  exact ⟨q.ok hc, (Bool.and_eq_true_iff.mp nb).1, q.len, q.sp hc⟩
theorem line_len2 {ws : List Str} (h : ∀ w ∈ ws, w.length = 2) (hl : ws.length ≤ 1000) : (ws.map fun w : Str => w.length).sum + ws.length * spaceS.length ≤ 3000 := by
  have := sum_len (n := 2) (ws := ws) fun w hw => Nat.le_of_eq (h w hw)
  rw [space_len]
  omega
theorem line_wds {ws : List Str} (h : ∀ w ∈ ws, w.length = 2 ∧ 32 ∉ w.cps.toList) : wds (Txt.join spaceS ws) = ws := by
  cases ws with
  | nil =>
    unfold wds
    rw [if_pos (by decide +kernel)]
  | cons w r =>
    have ne : (Txt.join spaceS (w :: r) == ("" : Str)) = false := by
      refine beq_eq_false_iff_ne.mpr fun e => ?_
      have e2 : TL.tl (Txt.join spaceS (w :: r)) = [] := by rw [e]; rfl
      rw [TL.join_eq, TL.tl_join] at e2
      have hw := (h w List.mem_cons_self).1
      have : TL.tl w = [] := by
        cases r with
        | nil => exact e2
        | cons x r => exact (List.append_eq_nil_iff.mp e2).1
      have l0 : w.length = 0 := by
        rw [TL.len_tl, this]
        rfl
      omega
    unfold wds
    rw [ne, if_neg Bool.false_ne_true]
    exact TL.split_join (s := 32) (S := []) (by decide +kernel) (by decide +kernel) (by simp) fun p hp => (h p hp).2
theorem trunc_any {n : Nat} {d : D} {η : List Cell} : ∃ η2, trunc n (.ok d η) = .ok d η2 := by
  by_cases h : n ≤ η.length ∧ dUnder n d = true ∧ (η.take n).all (cUnder n) = true
  · exact ⟨η.take n, if_pos h⟩
  · exact ⟨η, if_neg h⟩
end Ev
end
section
set_option Elab.async false
set_option linter.all false
set_option maxRecDepth 100000
set_option maxHeartbeats 4000000
namespace K12
open PySem PySem.Spec PyProof.Rows L2 Ms Cod
def top (i : Nat) : Stmt := PySem.Challenge.pw_markscript_k12_papers_and_works_written.main.body.getD i (.Pass ⟨0, 0, 0, 0⟩)
def mth (i j : Nat) : Stmt := match top i with
  | .ClassDef _ _ _ b _ _ _ _ _ _ _ => b.getD j (.Pass ⟨0, 0, 0, 0⟩)
  | st => st
def fd_is_number : FD := ⟨"is_number", ["part", "low", "high"], ["part", "low", "high"], c_is_number, none, none⟩
def fd_is_word : FD := ⟨"is_word", ["part"], ["part"], c_is_word, none, none⟩
def fd_kids_of : FD := ⟨"kids_of", ["scheme"], ["scheme", "shape"], c_kids_of, none, none⟩
def fd_is_part : FD := ⟨"is_part", ["part", "sort", "number", "many"], ["part", "sort", "number", "many"], c_is_part, none, none⟩
def fd_is_scheme : FD := ⟨"is_scheme", ["scheme", "place", "number", "many"], ["scheme", "place", "number", "many", "shape", "part", "sort"], c_is_scheme, none, none⟩
def fd_nodes_of : FD := ⟨"nodes_of", ["scheme", "number", "many"], ["scheme", "number", "many", "found", "left", "place", "one", "k", "kid"], c_nodes_of, none, none⟩
def fd_need_paper : FD := ⟨"need_paper", ["paper"], ["paper", "steps", "gates", "number", "scheme", "words", "place", "one", "used", "k"], c_need_paper, none, none⟩
def fd_is_step : FD := ⟨"is_step", ["step"], ["step"], c_is_step, none, none⟩
def fd_is_next : FD := ⟨"is_next", ["step", "was_wrong"], ["step", "was_wrong"], c_is_next, none, none⟩
def fd_need_work : FD := ⟨"need_work", ["work"], ["work", "was_wrong", "number", "step"], c_need_work, none, none⟩
def fd_words_by : FD := ⟨"words_by", ["scheme"], ["scheme", "found", "part", "sort", "kid"], c_words_by, none, none⟩
def fd_written : FD := ⟨"written", ["paper"], ["paper", "scheme"], c_written, none, none⟩
def fd_Words___init : FD := ⟨"Words.__init__", ["self", "row", "ahead"], ["self", "row", "ahead"], c_Words___init, none, some ("Words", "__init__")⟩
def fd_Words_next_one : FD := ⟨"Words.next_one", ["self"], ["self"], c_Words_next_one, none, some ("Words", "next_one")⟩
def fd_Words_spot : FD := ⟨"Words.spot", ["self"], ["self"], c_Words_spot, none, some ("Words", "spot")⟩
def fd_Words_figures : FD := ⟨"Words.figures", ["self"], ["self", "word", "sign"], c_Words_figures, none, some ("Words", "figures")⟩
def fd_Words_next_scheme : FD := ⟨"Words.next_scheme", ["self"], ["self", "word", "found", "sort", "many", "kid"], c_Words_next_scheme, none, some ("Words", "next_scheme")⟩
def fd_Words_whole : FD := ⟨"Words.whole", ["self"], ["self", "found"], c_Words_whole, none, some ("Words", "whole")⟩
def fd_read : FD := ⟨"read", ["text"], ["text", "found", "ahead", "row", "words"], c_read, none, none⟩
def fd_written_work : FD := ⟨"written_work", ["work"], ["work"], c_written_work, none, none⟩
def fd_read_work : FD := ⟨"read_work", ["text"], ["text", "found", "place", "word"], c_read_work, none, none⟩
def fd_law_begun : FD := ⟨"_law_begun", ["_law_script"], ["_law_script", "_law_stirred", "_law_cell"], c_law_begun, none, none⟩
def fd_law_take : FD := ⟨"_law_take", ["_law_box", "_law_many"], ["_law_box", "_law_many", "_law_number"], c_law_take, none, none⟩
def fd_law_alike : FD := ⟨"_law_alike", ["_law_found", "_law_due"], ["_law_found", "_law_due", "_law_k"], c_law_alike, none, none⟩
def fd_law_letters : FD := ⟨"_law_letters", ["_law_box"], ["_law_box", "_law_left", "_law_found", "_law_turn"], c_law_letters, none, none⟩
def fd_law_scheme : FD := ⟨"_law_scheme", ["_law_box", "_law_letters_here", "_law_left", "_law_deep", "_law_uses"], ["_law_box", "_law_letters_here", "_law_left", "_law_deep", "_law_uses", "_law_word", "_law_way", "_law_some", "_law_one", "_law_kids", "_law_turn"], c_law_scheme, none, none⟩
def fd_law_counted : FD := ⟨"_law_counted", ["_law_scheme_here", "_law_uses"], ["_law_scheme_here", "_law_uses", "_law_one", "_law_found", "_law_kid", "_law_more"], c_law_counted, none, none⟩
def fd_law_paper : FD := ⟨"_law_paper", ["_law_box", "_law_letters_here"], ["_law_box", "_law_letters_here", "_law_left", "_law_words", "_law_turn", "_law_steps", "_law_word", "_law_whole", "_law_many", "_law_found", "_law_uses", "_law_number", "_law_scheme_here"], c_law_paper, none, none⟩
def fd_law_step : FD := ⟨"_law_step", ["_law_box", "_law_letters_here", "_law_was_wrong"], ["_law_box", "_law_letters_here", "_law_was_wrong", "_law_sign"], c_law_step, none, none⟩
def fd_law_work : FD := ⟨"_law_work", ["_law_box", "_law_letters_here", "_law_most"], ["_law_box", "_law_letters_here", "_law_most", "_law_found", "_law_turn", "_law_step_here"], c_law_work, none, none⟩
def c_law_text : Ss :=
  (.cons (.if_ (.cmp .in_ (.sub (.loc 0) (.cst (.int 0))) (.tup (.cons (.cst (.str "all")) (.cons (.cst (.str "best")) .nil)))) (.cons (.ret (.mt .join (.cst (.str " ")) (.cons (.bin .add (.lst false (.cons (.sub (.loc 0) (.cst (.int 0))) (.cons (.bi .str (.cons (.bi .len (.cons (.sub (.loc 0) (.cst (.int 1))) .nil)) .nil)) .nil))) (.lc false [1] (.name 1) (.val (.sub (.loc 0) (.cst (.int 1)))) .none (.call 50 (.cons (.loc 1) .nil)))) .nil)))
    .nil) .nil)
    (.cons (.ret (.mt .join (.cst (.str " ")) (.cons (.lc false [2] (.name 2) (.val (.loc 0)) .none (.ite (.isi (.loc 2) "tuple") (.call 50 (.cons (.loc 2) .nil)) (.bi .str (.cons (.loc 2) .nil)))) .nil)))
    .nil))
def fd_law_text : FD := ⟨"_law_text", ["_law_scheme_here"], ["_law_scheme_here", "_law_kid", "_law_part"], c_law_text, none, none⟩
def c_law : Ss :=
  (.cons (.asg (.name 1) (.call 22 (.cons (.loc 0) .nil)))
    (.cons (.for_ (.name 2) (.rng1 (.cst (.int 4))) (.cons (.asg (.name 3) (.call 25 (.cons (.loc 1) .nil)))
    (.cons (.asg (.name 4) (.call 28 (.cons (.loc 1) (.cons (.loc 3) .nil))))
    (.cons (.asg (.name 5) (.mt .join (.cst (.str "\n")) (.cons (.lc false [6] (.name 6) (.val (.loc 4)) .none (.call 50 (.cons (.loc 6) .nil))) .nil)))
    (.cons (.if_ (.or_ (.cons (.not_ (.call 24 (.cons (.call 32 (.cons (.loc 4) .nil)) (.cons (.loc 5) .nil)))) (.cons (.not_ (.call 24 (.cons (.call 39 (.cons (.loc 5) .nil)) (.cons (.loc 4) .nil)))) .nil))) (.cons (.ret (.cst (.bool false)))
    .nil) .nil)
    (.cons (.asg (.name 7) (.call 30 (.cons (.loc 1) (.cons (.loc 3) (.cons (.cst (.int 12)) .nil)))))
    (.cons (.asg (.name 8) (.bi .list (.cons (.loc 7) .nil)))
    (.cons (.asg (.name 9) (.mt .join (.cst (.str " ")) (.cons (.loc 7) .nil)))
    (.cons (.if_ (.or_ (.cons (.not_ (.call 24 (.cons (.call 40 (.cons (.loc 8) .nil)) (.cons (.loc 9) .nil)))) (.cons (.cmp .ne (.loc 8) (.loc 7)) .nil))) (.cons (.ret (.cst (.bool false)))
    .nil) .nil)
    (.cons (.for_ (.name 10) (.rng1 (.cst (.int 2))) (.cons (.asg (.name 11) (.call 41 (.cons (.loc 9) .nil)))
    (.cons (.if_ (.not_ (.call 24 (.cons (.loc 11) (.cons (.loc 7) .nil)))) (.cons (.ret (.cst (.bool false)))
    .nil) .nil)
    (.cons (.ex (.mt .append (.loc 11) (.cons (.cst (.str "xx")) .nil)))
    .nil))))
    .nil))))))))))
    (.cons (.ret (.and_ (.cons (.cmp .eq (.call 41 (.cons (.cst (.str "")) .nil)) (.lst false .nil)) (.cons (.cmp .eq (.call 40 (.cons (.lst false .nil) .nil)) (.cst (.str ""))) .nil))))
    .nil)))
def fd_law : FD := ⟨"law", ["_law_script"], ["_law_script", "_law_box", "_law_turn", "_law_letters_here", "_law_paper_here", "_law_text_here", "_law_scheme_here", "_law_work_here", "_law_handed", "_law_line", "_law_again", "_law_found"], c_law, none, none⟩
def fns : List FD := ([fd_is_number, fd_is_word, fd_kids_of, fd_is_part, fd_is_scheme, fd_nodes_of, fd_need_paper, fd_is_step, fd_is_next, fd_need_work, fd_is_word, fd_is_word, fd_is_word, fd_is_word, fd_is_word, fd_is_word, fd_is_word, fd_is_word, fd_is_word, fd_is_word] : List FD) ++ ([fd_is_word, fd_is_word, fd_law_begun, fd_law_take, fd_law_alike, fd_law_letters, fd_law_scheme, fd_law_counted, fd_law_paper, fd_law_step, fd_law_work, fd_words_by, fd_written, fd_Words___init, fd_Words_next_one, fd_Words_spot, fd_Words_figures, fd_Words_next_scheme, fd_Words_whole, fd_read] : List FD) ++ ([fd_written_work, fd_read_work, fd_is_word, fd_is_word, fd_is_word, fd_is_word, fd_is_word, fd_is_word, fd_is_word, fd_is_word, fd_law_text, fd_law] : List FD)
def cs : List (Str × Const) := ([("WORDS", (.str "abcdefgh")), ("MOST_SCHEMES", (.int 5)), ("MOST_PARTS", (.int 4)), ("MOST_DEEP", (.int 5)), ("MOST_POINTS", (.int 9)), ("MOST_MOST", (.int 30)), ("MOST_NODES", (.int 12)), ("MOST_STEPS_TOLD", (.int 7)), ("MOST_GATES", (.int 3)), ("STEP", (.str "step")), ("ALL", (.str "all")), ("BEST", (.str "best")), ("MOST", (.str "most")), ("HALF", (.str "half")), ("SEEN", (.str "seen")), ("BEHIND", (.str "behind")), ("CARRY", (.str "carry")), ("END", (.str "end")), ("USE", (.str "use")), ("MOST_STEPS", (.int 12))] : List (Str × Const)) ++ ([("RIGHT", (.str "r")), ("CARRIED", (.str "c")), ("WRONG", (.str "w")), ("FIGURES", (.str "0123456789")), ("LINE", (.str "\n"))] : List (Str × Const))
def tab : Tab := { fns := fns, cs := cs, xs := [], told := "told", cls := [("Words", ["words", "at", "ahead"])], shs := [("SHAPES", shSHAPES)] }
def okB (fd : FD) (st : Stmt) : Bool := chkSs { tab with lam := fd.lam } fd.N (defScope st) fd.code (defBody st) && scopeB fd.N fd.ps (defScope st)
theorem ok_is_number : okB fd_is_number (top 26) = true := by decide +kernel
theorem ok_is_word : okB fd_is_word (top 27) = true := by decide +kernel
theorem ok_kids_of : okB fd_kids_of (top 28) = true := by decide +kernel
theorem ok_is_part : okB fd_is_part (top 29) = true := by decide +kernel
theorem ok_is_scheme : okB fd_is_scheme (top 30) = true := by decide +kernel
theorem ok_nodes_of : okB fd_nodes_of (top 31) = true := by decide +kernel
theorem ok_need_paper : okB fd_need_paper (top 32) = true := by decide +kernel
theorem ok_is_step : okB fd_is_step (top 38) = true := by decide +kernel
theorem ok_is_next : okB fd_is_next (top 39) = true := by decide +kernel
theorem ok_need_work : okB fd_need_work (top 40) = true := by decide +kernel
theorem ok_words_by : okB fd_words_by (top 44) = true := by decide +kernel
theorem ok_written : okB fd_written (top 45) = true := by decide +kernel
theorem ok_Words___init : okB fd_Words___init (mth 46 0) = true := by decide +kernel
theorem ok_Words_next_one : okB fd_Words_next_one (mth 46 1) = true := by decide +kernel
theorem ok_Words_spot : okB fd_Words_spot (mth 46 2) = true := by decide +kernel
theorem ok_Words_figures : okB fd_Words_figures (mth 46 3) = true := by decide +kernel
theorem ok_Words_next_scheme : okB fd_Words_next_scheme (mth 46 4) = true := by decide +kernel
theorem ok_Words_whole : okB fd_Words_whole (mth 46 5) = true := by decide +kernel
theorem ok_read : okB fd_read (top 47) = true := by decide +kernel
theorem ok_written_work : okB fd_written_work (top 48) = true := by decide +kernel
theorem ok_read_work : okB fd_read_work (top 49) = true := by decide +kernel
theorem ok_law_begun : okB fd_law_begun (top 51) = true := by decide +kernel
theorem ok_law_take : okB fd_law_take (top 52) = true := by decide +kernel
theorem ok_law_alike : okB fd_law_alike (top 53) = true := by decide +kernel
theorem ok_law_letters : okB fd_law_letters (top 54) = true := by decide +kernel
theorem ok_law_scheme : okB fd_law_scheme (top 55) = true := by decide +kernel
theorem ok_law_counted : okB fd_law_counted (top 56) = true := by decide +kernel
theorem ok_law_paper : okB fd_law_paper (top 57) = true := by decide +kernel
theorem ok_law_step : okB fd_law_step (top 58) = true := by decide +kernel
theorem ok_law_work : okB fd_law_work (top 59) = true := by decide +kernel
theorem ok_law_text : okB fd_law_text (top 60) = true := by decide +kernel
theorem ok_law : okB fd_law (top 61) = true := by decide +kernel
theorem okB_1 {fd : FD} {st : Stmt} (h : okB fd st = true) : chkSs { tab with lam := fd.lam } fd.N (defScope st) fd.code (defBody st) = true := (Bool.and_eq_true _ _ ▸ h : _ ∧ _).1
theorem okB_2 {fd : FD} {st : Stmt} (h : okB fd st = true) : FnScope fd.N fd.ps (defScope st) := scopeB_ok (Bool.and_eq_true _ _ ▸ h : _ ∧ _).2
end K12
end
section
set_option Elab.async false
set_option linter.all false
set_option maxRecDepth 100000
set_option maxHeartbeats 0
namespace K12
open PySem PySem.Spec PyProof.Rows L2 Ms Cod
def df (x : Str) (i : Nat) : He.DefD := ⟨(x, none), x, x, defArgs (top i), defBody (top i), defScope (top i), [], []⟩
def dm (c m qn : Str) (i j : Nat) : He.DefD := ⟨(c, some m), m, qn, defArgs (mth i j), defBody (mth i j), defScope (mth i j), [], []⟩
def dfs : List He.DefD := ([df "is_number" 26, df "is_word" 27, df "kids_of" 28, df "is_part" 29, df "is_scheme" 30, df "nodes_of" 31, df "need_paper" 32, df "is_step" 38, df "is_next" 39, df "need_work" 40, df "words_by" 44, df "written" 45, dm "Words" "__init__" "Words.__init__" 46 0, dm "Words" "next_one" "Words.next_one" 46 1, dm "Words" "spot" "Words.spot" 46 2, dm "Words" "figures" "Words.figures" 46 3, dm "Words" "next_scheme" "Words.next_scheme" 46 4, dm "Words" "whole" "Words.whole" 46 5, df "read" 47, df "written_work" 48] : List He.DefD) ++ ([df "read_work" 49, df "_law_begun" 51, df "_law_take" 52, df "_law_alike" 53, df "_law_letters" 54, df "_law_scheme" 55, df "_law_counted" 56, df "_law_paper" 57, df "_law_step" 58, df "_law_work" 59, df "_law_text" 60, df "law" 61] : List He.DefD)
def gl : List Str := (["is_number", "is_word", "kids_of", "is_part", "is_scheme", "nodes_of", "need_paper", "is_step", "is_next", "need_work", "words_by", "written", "read", "written_work", "read_work", "_law_begun", "_law_take", "_law_alike", "_law_letters", "_law_scheme"] : List Str) ++ (["_law_counted", "_law_paper", "_law_step", "_law_work", "_law_text", "law", "Words", "SHAPES"] : List Str)
def fa : List He.Fa := gl.map He.Fa.glo ++ builtinNames.map He.Fa.free ++ (([.str "WORDS" "abcdefgh", .int "MOST_SCHEMES" 5, .int "MOST_PARTS" 4, .int "MOST_DEEP" 5, .int "MOST_POINTS" 9, .int "MOST_MOST" 30, .int "MOST_NODES" 12, .int "MOST_STEPS_TOLD" 7, .int "MOST_GATES" 3, .str "STEP" "step", .str "ALL" "all", .str "BEST" "best", .str "MOST" "most", .str "HALF" "half", .str "SEEN" "seen", .str "BEHIND" "behind", .str "CARRY" "carry", .str "END" "end", .str "USE" "use", .int "MOST_STEPS" 12] : List He.Fa) ++ ([.str "RIGHT" "r", .str "CARRIED" "c", .str "WRONG" "w", .str "FIGURES" "0123456789", .str "LINE" "\n", .cls "Words", .mkr "Words", .noat "Words" "words", .noat "Words" "at", .noat "Words" "ahead", .meth "Words" "__init__", .meth "Words" "next_one", .meth "Words" "spot", .meth "Words" "figures", .meth "Words" "next_scheme", .meth "Words" "whole"] : List He.Fa))
def tf : List He.Defn := []
def ts : List He.Tab := [((fun K => He.ga K "SHAPES"), shSHAPES.map (·.1))]
def ex (K : PySem.W.Frag) : Bool := shB K "SHAPES" shSHAPES
abbrev R : PySem.W.OpenRow := PySem.W.OpenLaw.row PySem.Challenge.rw_markscript_k12_papers_and_works_written
abbrev hk : PySem.W.Hook := hookY 5 fa dfs ts tf ex
def ob (s : PySem.W.SharedT) : He.AlX := obsY 5 fa dfs ts tf ex (HandSHeadRun.getT s)
theorem ob_eq (s : PySem.W.SharedT) : ob s = hk.obs s.abs := obsY_eq (HandSHeadRun.getT_eq s)
def loose : List Str := (["MarkError", "BadPaper", "BadWork", "BadText", "WORDS", "MOST_SCHEMES", "MOST_PARTS", "MOST_DEEP", "MOST_POINTS", "MOST_MOST", "MOST_NODES", "MOST_STEPS_TOLD", "MOST_GATES", "STEP", "ALL", "BEST", "MOST", "HALF", "SEEN", "BEHIND"] : List Str) ++ (["CARRY", "END", "USE", "SHAPES", "is_number", "is_word", "kids_of", "is_part", "is_scheme", "nodes_of", "need_paper", "MOST_STEPS", "RIGHT", "CARRIED", "WRONG", "is_step", "is_next", "need_work", "FIGURES", "LINE"] : List Str) ++ (["words_by", "written", "Words", "read", "written_work", "read_work", "_law_begun", "_law_take", "_law_alike", "_law_letters", "_law_scheme", "_law_counted", "_law_paper", "_law_step", "_law_work", "_law_text"] : List Str)
theorem runF (w : World) : HandSHeadRun.RunEq R (PySem.W.view R.prog [61]) hk ob 6000 loose (w.withFollow "special-get-raises" false) := by
  intro os
  kernel_rfl
theorem runT (w : World) : HandSHeadRun.RunEq R (PySem.W.view R.prog [61]) hk ob 6000 loose (w.withFollow "special-get-raises" true) := by
  intro os
  kernel_rfl
theorem run (w : World) : HandSHeadRun.RunEq R (PySem.W.view R.prog [61]) hk ob 6000 loose w :=
  PySem.W.byRow2 "special-get-raises" (P := fun w => HandSHeadRun.RunEq R (PySem.W.view R.prog [61]) hk ob 6000 loose w) runF runT w
end K12
end
section
set_option Elab.async false
set_option linter.all false
set_option maxRecDepth 100000
set_option maxHeartbeats 4000000
namespace K12
open PySem PySem.Spec PyProof.Rows L2 Ms Cod
section
variable {P : Program} {w : World} {K : PySem.W.Frag} {h base : Heap} {mg : Str → Option Value}
theorem glo (X : K.In h) (G : h.Ns mainGlobals mg) (c : He.SaysX fa dfs ts tf ex w h K) {x : Str} (hx : x ∈ gl) : mg x = some (.ref (He.ga K x)) :=
  He.glo_ok X G (c.t.d.facts (f := .glo x) (List.mem_append_left _ (List.mem_append_left _ (List.mem_map_of_mem hx))))
theorem fre (X : K.In h) (G : h.Ns mainGlobals mg) (c : He.SaysX fa dfs ts tf ex w h K) {x : Str} (hx : x ∈ builtinNames) : mg x = none :=
  He.free_ok X G (c.t.d.facts (f := .free x) (List.mem_append_left _ (List.mem_append_right _ (List.mem_map_of_mem hx))))
theorem defAt (c : He.SaysX fa dfs ts tf ex w h K) {d : He.DefD} (hd : d ∈ dfs) : ∃ fd, FunD K d.name d.qual d.params d.body d.scope (d.dvs K) (d.kws K) (He.fAd K d.at_) fd := c.t.d.defs hd
theorem at_is_number (X : K.In h) (G : h.Ns mainGlobals mg) (c : He.SaysX fa dfs ts tf ex w h K) : FdOk K mg base tab fd_is_number := by
  obtain ⟨dt, F⟩ := defAt c (d := df "is_number" 26) (List.mem_of_getElem? (i := 0) rfl)
  exact ⟨_, dt, _, _, _, _, _, .fun_ rfl (glo X G c (x := "is_number") (by decide +kernel)) F.kp, F, (F.bindsN fun _ _ _ _ _ _ us hl => match us, hl with | [_, _, _], _ => rfl), okB_2 ok_is_number, okB_1 ok_is_number, fun L z => nomatch z⟩
theorem at_is_word (X : K.In h) (G : h.Ns mainGlobals mg) (c : He.SaysX fa dfs ts tf ex w h K) : FdOk K mg base tab fd_is_word := by
  obtain ⟨dt, F⟩ := defAt c (d := df "is_word" 27) (List.mem_of_getElem? (i := 1) rfl)
  exact ⟨_, dt, _, _, _, _, _, .fun_ rfl (glo X G c (x := "is_word") (by decide +kernel)) F.kp, F, (F.bindsN fun _ _ _ _ _ _ us hl => match us, hl with | [_], _ => rfl), okB_2 ok_is_word, okB_1 ok_is_word, fun L z => nomatch z⟩
theorem at_kids_of (X : K.In h) (G : h.Ns mainGlobals mg) (c : He.SaysX fa dfs ts tf ex w h K) : FdOk K mg base tab fd_kids_of := by
  obtain ⟨dt, F⟩ := defAt c (d := df "kids_of" 28) (List.mem_of_getElem? (i := 2) rfl)
  exact ⟨_, dt, _, _, _, _, _, .fun_ rfl (glo X G c (x := "kids_of") (by decide +kernel)) F.kp, F, (F.bindsN fun _ _ _ _ _ _ us hl => match us, hl with | [_], _ => rfl), okB_2 ok_kids_of, okB_1 ok_kids_of, fun L z => nomatch z⟩
theorem at_is_part (X : K.In h) (G : h.Ns mainGlobals mg) (c : He.SaysX fa dfs ts tf ex w h K) : FdOk K mg base tab fd_is_part := by
  obtain ⟨dt, F⟩ := defAt c (d := df "is_part" 29) (List.mem_of_getElem? (i := 3) rfl)
  exact ⟨_, dt, _, _, _, _, _, .fun_ rfl (glo X G c (x := "is_part") (by decide +kernel)) F.kp, F, (F.bindsN fun _ _ _ _ _ _ us hl => match us, hl with | [_, _, _, _], _ => rfl), okB_2 ok_is_part, okB_1 ok_is_part, fun L z => nomatch z⟩
theorem at_is_scheme (X : K.In h) (G : h.Ns mainGlobals mg) (c : He.SaysX fa dfs ts tf ex w h K) : FdOk K mg base tab fd_is_scheme := by
  obtain ⟨dt, F⟩ := defAt c (d := df "is_scheme" 30) (List.mem_of_getElem? (i := 4) rfl)
  exact ⟨_, dt, _, _, _, _, _, .fun_ rfl (glo X G c (x := "is_scheme") (by decide +kernel)) F.kp, F, (F.bindsN fun _ _ _ _ _ _ us hl => match us, hl with | [_, _, _, _], _ => rfl), okB_2 ok_is_scheme, okB_1 ok_is_scheme, fun L z => nomatch z⟩
theorem at_nodes_of (X : K.In h) (G : h.Ns mainGlobals mg) (c : He.SaysX fa dfs ts tf ex w h K) : FdOk K mg base tab fd_nodes_of := by
  obtain ⟨dt, F⟩ := defAt c (d := df "nodes_of" 31) (List.mem_of_getElem? (i := 5) rfl)
  exact ⟨_, dt, _, _, _, _, _, .fun_ rfl (glo X G c (x := "nodes_of") (by decide +kernel)) F.kp, F, (F.bindsN fun _ _ _ _ _ _ us hl => match us, hl with | [_, _, _], _ => rfl), okB_2 ok_nodes_of, okB_1 ok_nodes_of, fun L z => nomatch z⟩
theorem at_need_paper (X : K.In h) (G : h.Ns mainGlobals mg) (c : He.SaysX fa dfs ts tf ex w h K) : FdOk K mg base tab fd_need_paper := by
  obtain ⟨dt, F⟩ := defAt c (d := df "need_paper" 32) (List.mem_of_getElem? (i := 6) rfl)
  exact ⟨_, dt, _, _, _, _, _, .fun_ rfl (glo X G c (x := "need_paper") (by decide +kernel)) F.kp, F, (F.bindsN fun _ _ _ _ _ _ us hl => match us, hl with | [_], _ => rfl), okB_2 ok_need_paper, okB_1 ok_need_paper, fun L z => nomatch z⟩
theorem at_is_step (X : K.In h) (G : h.Ns mainGlobals mg) (c : He.SaysX fa dfs ts tf ex w h K) : FdOk K mg base tab fd_is_step := by
  obtain ⟨dt, F⟩ := defAt c (d := df "is_step" 38) (List.mem_of_getElem? (i := 7) rfl)
  exact ⟨_, dt, _, _, _, _, _, .fun_ rfl (glo X G c (x := "is_step") (by decide +kernel)) F.kp, F, (F.bindsN fun _ _ _ _ _ _ us hl => match us, hl with | [_], _ => rfl), okB_2 ok_is_step, okB_1 ok_is_step, fun L z => nomatch z⟩
theorem at_is_next (X : K.In h) (G : h.Ns mainGlobals mg) (c : He.SaysX fa dfs ts tf ex w h K) : FdOk K mg base tab fd_is_next := by
  obtain ⟨dt, F⟩ := defAt c (d := df "is_next" 39) (List.mem_of_getElem? (i := 8) rfl)
  exact ⟨_, dt, _, _, _, _, _, .fun_ rfl (glo X G c (x := "is_next") (by decide +kernel)) F.kp, F, (F.bindsN fun _ _ _ _ _ _ us hl => match us, hl with | [_, _], _ => rfl), okB_2 ok_is_next, okB_1 ok_is_next, fun L z => nomatch z⟩
theorem at_need_work (X : K.In h) (G : h.Ns mainGlobals mg) (c : He.SaysX fa dfs ts tf ex w h K) : FdOk K mg base tab fd_need_work := by
  obtain ⟨dt, F⟩ := defAt c (d := df "need_work" 40) (List.mem_of_getElem? (i := 9) rfl)
  exact ⟨_, dt, _, _, _, _, _, .fun_ rfl (glo X G c (x := "need_work") (by decide +kernel)) F.kp, F, (F.bindsN fun _ _ _ _ _ _ us hl => match us, hl with | [_], _ => rfl), okB_2 ok_need_work, okB_1 ok_need_work, fun L z => nomatch z⟩
theorem at_words_by (X : K.In h) (G : h.Ns mainGlobals mg) (c : He.SaysX fa dfs ts tf ex w h K) : FdOk K mg base tab fd_words_by := by
  obtain ⟨dt, F⟩ := defAt c (d := df "words_by" 44) (List.mem_of_getElem? (i := 10) rfl)
  exact ⟨_, dt, _, _, _, _, _, .fun_ rfl (glo X G c (x := "words_by") (by decide +kernel)) F.kp, F, (F.bindsN fun _ _ _ _ _ _ us hl => match us, hl with | [_], _ => rfl), okB_2 ok_words_by, okB_1 ok_words_by, fun L z => nomatch z⟩
theorem at_written (X : K.In h) (G : h.Ns mainGlobals mg) (c : He.SaysX fa dfs ts tf ex w h K) : FdOk K mg base tab fd_written := by
  obtain ⟨dt, F⟩ := defAt c (d := df "written" 45) (List.mem_of_getElem? (i := 11) rfl)
  exact ⟨_, dt, _, _, _, _, _, .fun_ rfl (glo X G c (x := "written") (by decide +kernel)) F.kp, F, (F.bindsN fun _ _ _ _ _ _ us hl => match us, hl with | [_], _ => rfl), okB_2 ok_written, okB_1 ok_written, fun L z => nomatch z⟩
theorem at_Words___init (X : K.In h) (G : h.Ns mainGlobals mg) (c : He.SaysX fa dfs ts tf ex w h K) : FdOk K mg base tab fd_Words___init := by
  obtain ⟨dt, F⟩ := defAt c (d := dm "Words" "__init__" "Words.__init__" 46 0) (List.mem_of_getElem? (i := 12) rfl)
  exact ⟨_, dt, _, _, _, _, _, .meth_ rfl (He.meth_ok (c.t.d.facts (f := .meth "Words" "__init__") (List.mem_append_right _ (List.mem_of_getElem? (i := 30) rfl)))) (fun _ => He.mkr_ok (c.t.d.facts (f := .mkr "Words") (List.mem_append_right _ (List.mem_of_getElem? (i := 26) rfl)))), F, (F.bindsN fun _ _ _ _ _ _ us hl => match us, hl with | [_, _, _], _ => rfl), okB_2 ok_Words___init, okB_1 ok_Words___init, fun L z => nomatch z⟩
theorem at_Words_next_one (X : K.In h) (G : h.Ns mainGlobals mg) (c : He.SaysX fa dfs ts tf ex w h K) : FdOk K mg base tab fd_Words_next_one := by
  obtain ⟨dt, F⟩ := defAt c (d := dm "Words" "next_one" "Words.next_one" 46 1) (List.mem_of_getElem? (i := 13) rfl)
  exact ⟨_, dt, _, _, _, _, _, .meth_ rfl (He.meth_ok (c.t.d.facts (f := .meth "Words" "next_one") (List.mem_append_right _ (List.mem_of_getElem? (i := 31) rfl)))) (fun e => absurd e (by decide +kernel)), F, (F.bindsN fun _ _ _ _ _ _ us hl => match us, hl with | [_], _ => rfl), okB_2 ok_Words_next_one, okB_1 ok_Words_next_one, fun L z => nomatch z⟩
theorem at_Words_spot (X : K.In h) (G : h.Ns mainGlobals mg) (c : He.SaysX fa dfs ts tf ex w h K) : FdOk K mg base tab fd_Words_spot := by
  obtain ⟨dt, F⟩ := defAt c (d := dm "Words" "spot" "Words.spot" 46 2) (List.mem_of_getElem? (i := 14) rfl)
  exact ⟨_, dt, _, _, _, _, _, .meth_ rfl (He.meth_ok (c.t.d.facts (f := .meth "Words" "spot") (List.mem_append_right _ (List.mem_of_getElem? (i := 32) rfl)))) (fun e => absurd e (by decide +kernel)), F, (F.bindsN fun _ _ _ _ _ _ us hl => match us, hl with | [_], _ => rfl), okB_2 ok_Words_spot, okB_1 ok_Words_spot, fun L z => nomatch z⟩
theorem at_Words_figures (X : K.In h) (G : h.Ns mainGlobals mg) (c : He.SaysX fa dfs ts tf ex w h K) : FdOk K mg base tab fd_Words_figures := by
  obtain ⟨dt, F⟩ := defAt c (d := dm "Words" "figures" "Words.figures" 46 3) (List.mem_of_getElem? (i := 15) rfl)
  exact ⟨_, dt, _, _, _, _, _, .meth_ rfl (He.meth_ok (c.t.d.facts (f := .meth "Words" "figures") (List.mem_append_right _ (List.mem_of_getElem? (i := 33) rfl)))) (fun e => absurd e (by decide +kernel)), F, (F.bindsN fun _ _ _ _ _ _ us hl => match us, hl with | [_], _ => rfl), okB_2 ok_Words_figures, okB_1 ok_Words_figures, fun L z => nomatch z⟩
theorem at_Words_next_scheme (X : K.In h) (G : h.Ns mainGlobals mg) (c : He.SaysX fa dfs ts tf ex w h K) : FdOk K mg base tab fd_Words_next_scheme := by
  obtain ⟨dt, F⟩ := defAt c (d := dm "Words" "next_scheme" "Words.next_scheme" 46 4) (List.mem_of_getElem? (i := 16) rfl)
  exact ⟨_, dt, _, _, _, _, _, .meth_ rfl (He.meth_ok (c.t.d.facts (f := .meth "Words" "next_scheme") (List.mem_append_right _ (List.mem_of_getElem? (i := 34) rfl)))) (fun e => absurd e (by decide +kernel)), F, (F.bindsN fun _ _ _ _ _ _ us hl => match us, hl with | [_], _ => rfl), okB_2 ok_Words_next_scheme, okB_1 ok_Words_next_scheme, fun L z => nomatch z⟩
theorem at_Words_whole (X : K.In h) (G : h.Ns mainGlobals mg) (c : He.SaysX fa dfs ts tf ex w h K) : FdOk K mg base tab fd_Words_whole := by
  obtain ⟨dt, F⟩ := defAt c (d := dm "Words" "whole" "Words.whole" 46 5) (List.mem_of_getElem? (i := 17) rfl)
  exact ⟨_, dt, _, _, _, _, _, .meth_ rfl (He.meth_ok (c.t.d.facts (f := .meth "Words" "whole") (List.mem_append_right _ (List.mem_of_getElem? (i := 35) rfl)))) (fun e => absurd e (by decide +kernel)), F, (F.bindsN fun _ _ _ _ _ _ us hl => match us, hl with | [_], _ => rfl), okB_2 ok_Words_whole, okB_1 ok_Words_whole, fun L z => nomatch z⟩
theorem at_read (X : K.In h) (G : h.Ns mainGlobals mg) (c : He.SaysX fa dfs ts tf ex w h K) : FdOk K mg base tab fd_read := by
  obtain ⟨dt, F⟩ := defAt c (d := df "read" 47) (List.mem_of_getElem? (i := 18) rfl)
  exact ⟨_, dt, _, _, _, _, _, .fun_ rfl (glo X G c (x := "read") (by decide +kernel)) F.kp, F, (F.bindsN fun _ _ _ _ _ _ us hl => match us, hl with | [_], _ => rfl), okB_2 ok_read, okB_1 ok_read, fun L z => nomatch z⟩
theorem at_written_work (X : K.In h) (G : h.Ns mainGlobals mg) (c : He.SaysX fa dfs ts tf ex w h K) : FdOk K mg base tab fd_written_work := by
  obtain ⟨dt, F⟩ := defAt c (d := df "written_work" 48) (List.mem_of_getElem? (i := 19) rfl)
  exact ⟨_, dt, _, _, _, _, _, .fun_ rfl (glo X G c (x := "written_work") (by decide +kernel)) F.kp, F, (F.bindsN fun _ _ _ _ _ _ us hl => match us, hl with | [_], _ => rfl), okB_2 ok_written_work, okB_1 ok_written_work, fun L z => nomatch z⟩
theorem at_read_work (X : K.In h) (G : h.Ns mainGlobals mg) (c : He.SaysX fa dfs ts tf ex w h K) : FdOk K mg base tab fd_read_work := by
  obtain ⟨dt, F⟩ := defAt c (d := df "read_work" 49) (List.mem_of_getElem? (i := 20) rfl)
  exact ⟨_, dt, _, _, _, _, _, .fun_ rfl (glo X G c (x := "read_work") (by decide +kernel)) F.kp, F, (F.bindsN fun _ _ _ _ _ _ us hl => match us, hl with | [_], _ => rfl), okB_2 ok_read_work, okB_1 ok_read_work, fun L z => nomatch z⟩
theorem at_law_begun (X : K.In h) (G : h.Ns mainGlobals mg) (c : He.SaysX fa dfs ts tf ex w h K) : FdOk K mg base tab fd_law_begun := by
  obtain ⟨dt, F⟩ := defAt c (d := df "_law_begun" 51) (List.mem_of_getElem? (i := 21) rfl)
  exact ⟨_, dt, _, _, _, _, _, .fun_ rfl (glo X G c (x := "_law_begun") (by decide +kernel)) F.kp, F, (F.bindsN fun _ _ _ _ _ _ us hl => match us, hl with | [_], _ => rfl), okB_2 ok_law_begun, okB_1 ok_law_begun, fun L z => nomatch z⟩
theorem at_law_take (X : K.In h) (G : h.Ns mainGlobals mg) (c : He.SaysX fa dfs ts tf ex w h K) : FdOk K mg base tab fd_law_take := by
  obtain ⟨dt, F⟩ := defAt c (d := df "_law_take" 52) (List.mem_of_getElem? (i := 22) rfl)
  exact ⟨_, dt, _, _, _, _, _, .fun_ rfl (glo X G c (x := "_law_take") (by decide +kernel)) F.kp, F, (F.bindsN fun _ _ _ _ _ _ us hl => match us, hl with | [_, _], _ => rfl), okB_2 ok_law_take, okB_1 ok_law_take, fun L z => nomatch z⟩
theorem at_law_alike (X : K.In h) (G : h.Ns mainGlobals mg) (c : He.SaysX fa dfs ts tf ex w h K) : FdOk K mg base tab fd_law_alike := by
  obtain ⟨dt, F⟩ := defAt c (d := df "_law_alike" 53) (List.mem_of_getElem? (i := 23) rfl)
  exact ⟨_, dt, _, _, _, _, _, .fun_ rfl (glo X G c (x := "_law_alike") (by decide +kernel)) F.kp, F, (F.bindsN fun _ _ _ _ _ _ us hl => match us, hl with | [_, _], _ => rfl), okB_2 ok_law_alike, okB_1 ok_law_alike, fun L z => nomatch z⟩
theorem at_law_letters (X : K.In h) (G : h.Ns mainGlobals mg) (c : He.SaysX fa dfs ts tf ex w h K) : FdOk K mg base tab fd_law_letters := by
  obtain ⟨dt, F⟩ := defAt c (d := df "_law_letters" 54) (List.mem_of_getElem? (i := 24) rfl)
  exact ⟨_, dt, _, _, _, _, _, .fun_ rfl (glo X G c (x := "_law_letters") (by decide +kernel)) F.kp, F, (F.bindsN fun _ _ _ _ _ _ us hl => match us, hl with | [_], _ => rfl), okB_2 ok_law_letters, okB_1 ok_law_letters, fun L z => nomatch z⟩
theorem at_law_scheme (X : K.In h) (G : h.Ns mainGlobals mg) (c : He.SaysX fa dfs ts tf ex w h K) : FdOk K mg base tab fd_law_scheme := by
  obtain ⟨dt, F⟩ := defAt c (d := df "_law_scheme" 55) (List.mem_of_getElem? (i := 25) rfl)
  exact ⟨_, dt, _, _, _, _, _, .fun_ rfl (glo X G c (x := "_law_scheme") (by decide +kernel)) F.kp, F, (F.bindsN fun _ _ _ _ _ _ us hl => match us, hl with | [_, _, _, _, _], _ => rfl), okB_2 ok_law_scheme, okB_1 ok_law_scheme, fun L z => nomatch z⟩
theorem at_law_counted (X : K.In h) (G : h.Ns mainGlobals mg) (c : He.SaysX fa dfs ts tf ex w h K) : FdOk K mg base tab fd_law_counted := by
  obtain ⟨dt, F⟩ := defAt c (d := df "_law_counted" 56) (List.mem_of_getElem? (i := 26) rfl)
  exact ⟨_, dt, _, _, _, _, _, .fun_ rfl (glo X G c (x := "_law_counted") (by decide +kernel)) F.kp, F, (F.bindsN fun _ _ _ _ _ _ us hl => match us, hl with | [_, _], _ => rfl), okB_2 ok_law_counted, okB_1 ok_law_counted, fun L z => nomatch z⟩
theorem at_law_paper (X : K.In h) (G : h.Ns mainGlobals mg) (c : He.SaysX fa dfs ts tf ex w h K) : FdOk K mg base tab fd_law_paper := by
  obtain ⟨dt, F⟩ := defAt c (d := df "_law_paper" 57) (List.mem_of_getElem? (i := 27) rfl)
  exact ⟨_, dt, _, _, _, _, _, .fun_ rfl (glo X G c (x := "_law_paper") (by decide +kernel)) F.kp, F, (F.bindsN fun _ _ _ _ _ _ us hl => match us, hl with | [_, _], _ => rfl), okB_2 ok_law_paper, okB_1 ok_law_paper, fun L z => nomatch z⟩
theorem at_law_step (X : K.In h) (G : h.Ns mainGlobals mg) (c : He.SaysX fa dfs ts tf ex w h K) : FdOk K mg base tab fd_law_step := by
  obtain ⟨dt, F⟩ := defAt c (d := df "_law_step" 58) (List.mem_of_getElem? (i := 28) rfl)
  exact ⟨_, dt, _, _, _, _, _, .fun_ rfl (glo X G c (x := "_law_step") (by decide +kernel)) F.kp, F, (F.bindsN fun _ _ _ _ _ _ us hl => match us, hl with | [_, _, _], _ => rfl), okB_2 ok_law_step, okB_1 ok_law_step, fun L z => nomatch z⟩
theorem at_law_work (X : K.In h) (G : h.Ns mainGlobals mg) (c : He.SaysX fa dfs ts tf ex w h K) : FdOk K mg base tab fd_law_work := by
  obtain ⟨dt, F⟩ := defAt c (d := df "_law_work" 59) (List.mem_of_getElem? (i := 29) rfl)
  exact ⟨_, dt, _, _, _, _, _, .fun_ rfl (glo X G c (x := "_law_work") (by decide +kernel)) F.kp, F, (F.bindsN fun _ _ _ _ _ _ us hl => match us, hl with | [_, _, _], _ => rfl), okB_2 ok_law_work, okB_1 ok_law_work, fun L z => nomatch z⟩
theorem at_law_text (X : K.In h) (G : h.Ns mainGlobals mg) (c : He.SaysX fa dfs ts tf ex w h K) : FdOk K mg base tab fd_law_text := by
  obtain ⟨dt, F⟩ := defAt c (d := df "_law_text" 60) (List.mem_of_getElem? (i := 30) rfl)
  exact ⟨_, dt, _, _, _, _, _, .fun_ rfl (glo X G c (x := "_law_text") (by decide +kernel)) F.kp, F, (F.bindsN fun _ _ _ _ _ _ us hl => match us, hl with | [_], _ => rfl), okB_2 ok_law_text, okB_1 ok_law_text, fun L z => nomatch z⟩
theorem at_law (X : K.In h) (G : h.Ns mainGlobals mg) (c : He.SaysX fa dfs ts tf ex w h K) : FdOk K mg base tab fd_law := by
  obtain ⟨dt, F⟩ := defAt c (d := df "law" 61) (List.mem_of_getElem? (i := 31) rfl)
  exact ⟨_, dt, _, _, _, _, _, .fun_ rfl (glo X G c (x := "law") (by decide +kernel)) F.kp, F, (F.bindsN fun _ _ _ _ _ _ us hl => match us, hl with | [_], _ => rfl), okB_2 ok_law, okB_1 ok_law, fun L z => nomatch z⟩
theorem all_fd (X : K.In h) (G : h.Ns mainGlobals mg) (c : He.SaysX fa dfs ts tf ex w h K) : ∀ fd ∈ tab.fns, FdOk K mg base tab fd := by
  have q : ∀ fd ∈ fns, FdOk K mg base tab fd := by
    unfold fns
    simp only [List.cons_append, List.nil_append]
    refine List.forall_mem_cons.mpr ⟨at_is_number X G c, ?_⟩
    refine List.forall_mem_cons.mpr ⟨at_is_word X G c, ?_⟩
    refine List.forall_mem_cons.mpr ⟨at_kids_of X G c, ?_⟩
    refine List.forall_mem_cons.mpr ⟨at_is_part X G c, ?_⟩
    refine List.forall_mem_cons.mpr ⟨at_is_scheme X G c, ?_⟩
    refine List.forall_mem_cons.mpr ⟨at_nodes_of X G c, ?_⟩
    refine List.forall_mem_cons.mpr ⟨at_need_paper X G c, ?_⟩
    refine List.forall_mem_cons.mpr ⟨at_is_step X G c, ?_⟩
    refine List.forall_mem_cons.mpr ⟨at_is_next X G c, ?_⟩
    refine List.forall_mem_cons.mpr ⟨at_need_work X G c, ?_⟩
    refine List.forall_mem_cons.mpr ⟨at_is_word X G c, ?_⟩
    refine List.forall_mem_cons.mpr ⟨at_is_word X G c, ?_⟩
    refine List.forall_mem_cons.mpr ⟨at_is_word X G c, ?_⟩
    refine List.forall_mem_cons.mpr ⟨at_is_word X G c, ?_⟩
    refine List.forall_mem_cons.mpr ⟨at_is_word X G c, ?_⟩
    refine List.forall_mem_cons.mpr ⟨at_is_word X G c, ?_⟩
    refine List.forall_mem_cons.mpr ⟨at_is_word X G c, ?_⟩
    refine List.forall_mem_cons.mpr ⟨at_is_word X G c, ?_⟩
    refine List.forall_mem_cons.mpr ⟨at_is_word X G c, ?_⟩
    refine List.forall_mem_cons.mpr ⟨at_is_word X G c, ?_⟩
    refine List.forall_mem_cons.mpr ⟨at_is_word X G c, ?_⟩
    refine List.forall_mem_cons.mpr ⟨at_is_word X G c, ?_⟩
    refine List.forall_mem_cons.mpr ⟨at_law_begun X G c, ?_⟩
    refine List.forall_mem_cons.mpr ⟨at_law_take X G c, ?_⟩
    refine List.forall_mem_cons.mpr ⟨at_law_alike X G c, ?_⟩
    refine List.forall_mem_cons.mpr ⟨at_law_letters X G c, ?_⟩
    refine List.forall_mem_cons.mpr ⟨at_law_scheme X G c, ?_⟩
    refine List.forall_mem_cons.mpr ⟨at_law_counted X G c, ?_⟩
    refine List.forall_mem_cons.mpr ⟨at_law_paper X G c, ?_⟩
    refine List.forall_mem_cons.mpr ⟨at_law_step X G c, ?_⟩
    refine List.forall_mem_cons.mpr ⟨at_law_work X G c, ?_⟩
    refine List.forall_mem_cons.mpr ⟨at_words_by X G c, ?_⟩
    refine List.forall_mem_cons.mpr ⟨at_written X G c, ?_⟩
    refine List.forall_mem_cons.mpr ⟨at_Words___init X G c, ?_⟩
    refine List.forall_mem_cons.mpr ⟨at_Words_next_one X G c, ?_⟩
    refine List.forall_mem_cons.mpr ⟨at_Words_spot X G c, ?_⟩
    refine List.forall_mem_cons.mpr ⟨at_Words_figures X G c, ?_⟩
    refine List.forall_mem_cons.mpr ⟨at_Words_next_scheme X G c, ?_⟩
    refine List.forall_mem_cons.mpr ⟨at_Words_whole X G c, ?_⟩
    refine List.forall_mem_cons.mpr ⟨at_read X G c, ?_⟩
    refine List.forall_mem_cons.mpr ⟨at_written_work X G c, ?_⟩
    refine List.forall_mem_cons.mpr ⟨at_read_work X G c, ?_⟩
    refine List.forall_mem_cons.mpr ⟨at_is_word X G c, ?_⟩
    refine List.forall_mem_cons.mpr ⟨at_is_word X G c, ?_⟩
    refine List.forall_mem_cons.mpr ⟨at_is_word X G c, ?_⟩
    refine List.forall_mem_cons.mpr ⟨at_is_word X G c, ?_⟩
    refine List.forall_mem_cons.mpr ⟨at_is_word X G c, ?_⟩
    refine List.forall_mem_cons.mpr ⟨at_is_word X G c, ?_⟩
    refine List.forall_mem_cons.mpr ⟨at_is_word X G c, ?_⟩
    refine List.forall_mem_cons.mpr ⟨at_is_word X G c, ?_⟩
    refine List.forall_mem_cons.mpr ⟨at_law_text X G c, ?_⟩
    refine List.forall_mem_cons.mpr ⟨at_law X G c, ?_⟩
    exact fun fd h => nomatch h
  exact q
theorem cs_all (X : K.In h) (G : h.Ns mainGlobals mg) (c : He.SaysX fa dfs ts tf ex w h K) : ∀ p ∈ cs, ∃ u d, mg p.1 = some u ∧ constD p.2 = some d ∧ RelV (vOf d) u ∧ flatD d = true := by
  unfold cs
  refine List.forall_mem_cons.mpr ⟨let ⟨t, e⟩ := He.str_ok X G (c.t.d.facts (f := .str "WORDS" "abcdefgh") (List.mem_append_right _ (List.mem_of_getElem? (i := 0) rfl))); ⟨_, _, e, rfl, ⟨t, rfl⟩, rfl⟩, ?_⟩
  refine List.forall_mem_cons.mpr ⟨let ⟨t, e⟩ := He.int_ok X G (c.t.d.facts (f := .int "MOST_SCHEMES" 5) (List.mem_append_right _ (List.mem_of_getElem? (i := 1) rfl))); ⟨_, _, e, rfl, ⟨t, rfl⟩, rfl⟩, ?_⟩
  refine List.forall_mem_cons.mpr ⟨let ⟨t, e⟩ := He.int_ok X G (c.t.d.facts (f := .int "MOST_PARTS" 4) (List.mem_append_right _ (List.mem_of_getElem? (i := 2) rfl))); ⟨_, _, e, rfl, ⟨t, rfl⟩, rfl⟩, ?_⟩
  refine List.forall_mem_cons.mpr ⟨let ⟨t, e⟩ := He.int_ok X G (c.t.d.facts (f := .int "MOST_DEEP" 5) (List.mem_append_right _ (List.mem_of_getElem? (i := 3) rfl))); ⟨_, _, e, rfl, ⟨t, rfl⟩, rfl⟩, ?_⟩
  refine List.forall_mem_cons.mpr ⟨let ⟨t, e⟩ := He.int_ok X G (c.t.d.facts (f := .int "MOST_POINTS" 9) (List.mem_append_right _ (List.mem_of_getElem? (i := 4) rfl))); ⟨_, _, e, rfl, ⟨t, rfl⟩, rfl⟩, ?_⟩
  refine List.forall_mem_cons.mpr ⟨let ⟨t, e⟩ := He.int_ok X G (c.t.d.facts (f := .int "MOST_MOST" 30) (List.mem_append_right _ (List.mem_of_getElem? (i := 5) rfl))); ⟨_, _, e, rfl, ⟨t, rfl⟩, rfl⟩, ?_⟩
  refine List.forall_mem_cons.mpr ⟨let ⟨t, e⟩ := He.int_ok X G (c.t.d.facts (f := .int "MOST_NODES" 12) (List.mem_append_right _ (List.mem_of_getElem? (i := 6) rfl))); ⟨_, _, e, rfl, ⟨t, rfl⟩, rfl⟩, ?_⟩
  refine List.forall_mem_cons.mpr ⟨let ⟨t, e⟩ := He.int_ok X G (c.t.d.facts (f := .int "MOST_STEPS_TOLD" 7) (List.mem_append_right _ (List.mem_of_getElem? (i := 7) rfl))); ⟨_, _, e, rfl, ⟨t, rfl⟩, rfl⟩, ?_⟩
  refine List.forall_mem_cons.mpr ⟨let ⟨t, e⟩ := He.int_ok X G (c.t.d.facts (f := .int "MOST_GATES" 3) (List.mem_append_right _ (List.mem_of_getElem? (i := 8) rfl))); ⟨_, _, e, rfl, ⟨t, rfl⟩, rfl⟩, ?_⟩
  refine List.forall_mem_cons.mpr ⟨let ⟨t, e⟩ := He.str_ok X G (c.t.d.facts (f := .str "STEP" "step") (List.mem_append_right _ (List.mem_of_getElem? (i := 9) rfl))); ⟨_, _, e, rfl, ⟨t, rfl⟩, rfl⟩, ?_⟩
  refine List.forall_mem_cons.mpr ⟨let ⟨t, e⟩ := He.str_ok X G (c.t.d.facts (f := .str "ALL" "all") (List.mem_append_right _ (List.mem_of_getElem? (i := 10) rfl))); ⟨_, _, e, rfl, ⟨t, rfl⟩, rfl⟩, ?_⟩
  refine List.forall_mem_cons.mpr ⟨let ⟨t, e⟩ := He.str_ok X G (c.t.d.facts (f := .str "BEST" "best") (List.mem_append_right _ (List.mem_of_getElem? (i := 11) rfl))); ⟨_, _, e, rfl, ⟨t, rfl⟩, rfl⟩, ?_⟩
  refine List.forall_mem_cons.mpr ⟨let ⟨t, e⟩ := He.str_ok X G (c.t.d.facts (f := .str "MOST" "most") (List.mem_append_right _ (List.mem_of_getElem? (i := 12) rfl))); ⟨_, _, e, rfl, ⟨t, rfl⟩, rfl⟩, ?_⟩
  refine List.forall_mem_cons.mpr ⟨let ⟨t, e⟩ := He.str_ok X G (c.t.d.facts (f := .str "HALF" "half") (List.mem_append_right _ (List.mem_of_getElem? (i := 13) rfl))); ⟨_, _, e, rfl, ⟨t, rfl⟩, rfl⟩, ?_⟩
  refine List.forall_mem_cons.mpr ⟨let ⟨t, e⟩ := He.str_ok X G (c.t.d.facts (f := .str "SEEN" "seen") (List.mem_append_right _ (List.mem_of_getElem? (i := 14) rfl))); ⟨_, _, e, rfl, ⟨t, rfl⟩, rfl⟩, ?_⟩
  refine List.forall_mem_cons.mpr ⟨let ⟨t, e⟩ := He.str_ok X G (c.t.d.facts (f := .str "BEHIND" "behind") (List.mem_append_right _ (List.mem_of_getElem? (i := 15) rfl))); ⟨_, _, e, rfl, ⟨t, rfl⟩, rfl⟩, ?_⟩
  refine List.forall_mem_cons.mpr ⟨let ⟨t, e⟩ := He.str_ok X G (c.t.d.facts (f := .str "CARRY" "carry") (List.mem_append_right _ (List.mem_of_getElem? (i := 16) rfl))); ⟨_, _, e, rfl, ⟨t, rfl⟩, rfl⟩, ?_⟩
  refine List.forall_mem_cons.mpr ⟨let ⟨t, e⟩ := He.str_ok X G (c.t.d.facts (f := .str "END" "end") (List.mem_append_right _ (List.mem_of_getElem? (i := 17) rfl))); ⟨_, _, e, rfl, ⟨t, rfl⟩, rfl⟩, ?_⟩
  refine List.forall_mem_cons.mpr ⟨let ⟨t, e⟩ := He.str_ok X G (c.t.d.facts (f := .str "USE" "use") (List.mem_append_right _ (List.mem_of_getElem? (i := 18) rfl))); ⟨_, _, e, rfl, ⟨t, rfl⟩, rfl⟩, ?_⟩
  refine List.forall_mem_cons.mpr ⟨let ⟨t, e⟩ := He.int_ok X G (c.t.d.facts (f := .int "MOST_STEPS" 12) (List.mem_append_right _ (List.mem_of_getElem? (i := 19) rfl))); ⟨_, _, e, rfl, ⟨t, rfl⟩, rfl⟩, ?_⟩
  refine List.forall_mem_cons.mpr ⟨let ⟨t, e⟩ := He.str_ok X G (c.t.d.facts (f := .str "RIGHT" "r") (List.mem_append_right _ (List.mem_of_getElem? (i := 20) rfl))); ⟨_, _, e, rfl, ⟨t, rfl⟩, rfl⟩, ?_⟩
  refine List.forall_mem_cons.mpr ⟨let ⟨t, e⟩ := He.str_ok X G (c.t.d.facts (f := .str "CARRIED" "c") (List.mem_append_right _ (List.mem_of_getElem? (i := 21) rfl))); ⟨_, _, e, rfl, ⟨t, rfl⟩, rfl⟩, ?_⟩
  refine List.forall_mem_cons.mpr ⟨let ⟨t, e⟩ := He.str_ok X G (c.t.d.facts (f := .str "WRONG" "w") (List.mem_append_right _ (List.mem_of_getElem? (i := 22) rfl))); ⟨_, _, e, rfl, ⟨t, rfl⟩, rfl⟩, ?_⟩
  refine List.forall_mem_cons.mpr ⟨let ⟨t, e⟩ := He.str_ok X G (c.t.d.facts (f := .str "FIGURES" "0123456789") (List.mem_append_right _ (List.mem_of_getElem? (i := 23) rfl))); ⟨_, _, e, rfl, ⟨t, rfl⟩, rfl⟩, ?_⟩
  refine List.forall_mem_cons.mpr ⟨let ⟨t, e⟩ := He.str_ok X G (c.t.d.facts (f := .str "LINE" "\n") (List.mem_append_right _ (List.mem_of_getElem? (i := 24) rfl))); ⟨_, _, e, rfl, ⟨t, rfl⟩, rfl⟩, ?_⟩
  exact fun p h => nomatch h
theorem cl_all (X : K.In h) (G : h.Ns mainGlobals mg) (c : He.SaysX fa dfs ts tf ex w h K) : ∀ p ∈ tab.cls, ClsAt K mg p.1 p.2 := by
  unfold tab
  try dsimp only
  refine List.forall_mem_cons.mpr ⟨⟨glo X G c (x := "Words") (by decide +kernel), He.cls_ok (c.t.d.facts (f := .cls "Words") (List.mem_append_right _ (List.mem_of_getElem? (i := 25) rfl))), ?_⟩, ?_⟩
  · dsimp only
    refine List.forall_mem_cons.mpr ⟨He.noat_ok (c.t.d.facts (f := .noat "Words" "words") (List.mem_append_right _ (List.mem_of_getElem? (i := 27) rfl))), ?_⟩
    refine List.forall_mem_cons.mpr ⟨He.noat_ok (c.t.d.facts (f := .noat "Words" "at") (List.mem_append_right _ (List.mem_of_getElem? (i := 28) rfl))), ?_⟩
    refine List.forall_mem_cons.mpr ⟨He.noat_ok (c.t.d.facts (f := .noat "Words" "ahead") (List.mem_append_right _ (List.mem_of_getElem? (i := 29) rfl))), ?_⟩
    exact fun p h => nomatch h
  exact fun p h => nomatch h
theorem sh_all (X : K.In h) (G : h.Ns mainGlobals mg) (c : He.SaysX fa dfs ts tf ex w h K) : ∀ p ∈ tab.shs, ShAt K w mg p.1 p.2 := by
  unfold tab
  try dsimp only
  have m0 : shB K "SHAPES" shSHAPES = true := c.more
  refine List.forall_mem_cons.mpr ⟨let ⟨es, n, kd⟩ := c.t.tab 0 (t := ((fun K => He.ga K "SHAPES"), shSHAPES.map (·.1))) rfl; sh_ok (glo X G c (x := "SHAPES") (by decide +kernel)) kd m0, ?_⟩
  exact fun p h => nomatch h
theorem md (X : K.In h) (G : h.Ns mainGlobals mg) (c : He.SaysX fa dfs ts tf ex w h K) : Mod1 P w K mg base (clsOf K) tab where
  glo := fun x cc hx => cs_all X G c (x, cc) hx
  bl := fun x hx => fre X G c hx
  fn := fn_of_all (all_fd X G c)
  cl := fun C fs h => cl_all X G c (C, fs) h
  sh := fun x tb h => sh_all X G c (x, tb) h
  xs := fun c x fs h => nomatch h
  told := fun L fd hf hl => absurd hl (by
    have q : ∀ fd ∈ fns, fd.lam = none := by decide +kernel
    rw [q fd hf]
    exact fun z => nomatch z)
end
end K12
open PySem PySem.W PySem.Calls PyProof.Rows
theorem PySem.Challenge.k12_from (hlaw : ∀ ns : List Int, ns.length ≤ 63 → ∃ η, Ms.evF K12.fns 50 51 [.scr (ns.map Ms.D.int)] [] = .ok (.bl true) η) : PySem.Challenge.rw_markscript_k12_papers_and_works_written.Holds := by
  w_on; o_law
  refine HandSHeadRun.head_any (r := OpenLaw.row PySem.Challenge.rw_markscript_k12_papers_and_works_written) (q := view (OpenLaw.row PySem.Challenge.rw_markscript_k12_papers_and_works_written).prog [61]) (H := K12.hk) (ob := K12.ob) (M := 6000) (loose := K12.loose) (d := HandSHeadRun.topDef (OpenLaw.row PySem.Challenge.rw_markscript_k12_papers_and_works_written).prog 61) (kwd := []) K12.ob_eq
    (by kernel_rfl) (fun s => by kernel_rfl) K12.run (by kernel_rfl) (by kernel_rfl) (by kernel_rfl) (by rfl) (by first | assumption | decide +kernel) (by decide +kernel) ⟨rfl, rfl, rfl, rfl, rfl, by decide +kernel⟩ ?hw ?hc
  case hw => w_witness2
  case hc =>
    refine LamX.walk_ofTsE (l := PySem.Challenge.rw_markscript_k12_papers_and_works_written) (n := 63) (k := 202) (x := "_law_script") (CX := fun w => L2.CX (PySem.Challenge.rw_markscript_k12_papers_and_works_written).prog w) rfl (by decide) (by kernel_rfl) ⟨rfl, by decide, by decide⟩ ?F (fun w H s e s' z => ?_)
    · intro w mg fa h Y G hmg0
      obtain ⟨K, KX, c⟩ := Y
      have hmg : mg ("law" : PySem.Str) = some (.ref fa) := by
        have e : (HandSHeadRun.topDef (OpenLaw.row PySem.Challenge.rw_markscript_k12_papers_and_works_written).prog 61).name = ("law" : PySem.Str) := by kernel_rfl
        rw [← e]
        exact hmg0
      have e := hmg.symm.trans (K12.glo KX G c (x := "law") (by decide +kernel))
      cases e
      obtain ⟨fd, F⟩ := K12.defAt c (d := K12.df "law" 61) (List.mem_of_getElem? (i := 31) rfl)
      refine ⟨K, KX, fd, [], Ms.spF (Ms.clsOf K) K 1 (Ms.evF K12.fns 50 51), ?_, ?_, ?_, ?_, ?_, ?_⟩
      · exact fun p hp => nomatch hp
      · exact fun p hp => nomatch hp
      · exact fun p hp => nomatch hp
      · intro s u
        exact L2.FunD.bindsA (ps := ["_law_script"]) F (fun _ _ _ _ _ _ us hl => match us, hl with | [_], _ => rfl) s [u] rfl
      · intro H a ns hl _ hT hS
        exact Ms.begin0 hS (hlaw ns hl)
      · intro base hb hG tb
        exact Ms.fn_all (T := K12.tab) (K12.md KX G c) 50 51 K12.fd_law rfl _ fd _ _ _ _ _ F (K12.okB_2 K12.ok_law) (K12.okB_1 K12.ok_law) fun L z => nomatch z
    · obtain ⟨_, _, _, _, _, _, _, _, _, _, _, _, q⟩ := z
      exact q.elim
end
section
set_option Elab.async false
set_option linter.all false
set_option maxRecDepth 100000
set_option maxHeartbeats 2000000
/-! The law's text of a scheme. -/
namespace Ev
open PySem L2 Ms Cod
theorem joinL_app {S : List Nat} : ∀ {a b : List (List Nat)}, a ≠ [] → b ≠ [] → TL.joinL S (a ++ b) = TL.joinL S a ++ (S ++ TL.joinL S b)
  | [], _, h, _ => absurd rfl h
  | [x], y :: b, _, _ => rfl
  | [x], [], _, h => absurd rfl h
  | x :: z :: a, b, _, h => by
    show x ++ (S ++ TL.joinL S ((z :: a) ++ b)) = (x ++ (S ++ TL.joinL S (z :: a))) ++ (S ++ TL.joinL S b)
    rw [joinL_app (by simp) h]
    simp [List.append_assoc]
theorem joinL_flat {S : List Nat} : ∀ {gs : List (List (List Nat))}, (∀ g ∈ gs, g ≠ []) → TL.joinL S (gs.map (TL.joinL S)) = TL.joinL S gs.flatten
  | [], _ => rfl
  | [g], _ => by
    rw [List.flatten_cons, List.flatten_nil, List.append_nil]
    rfl
  | g :: g2 :: gs, h => by
    rw [List.flatten_cons, joinL_app (h g List.mem_cons_self) (fun z => h g2 (List.mem_cons_of_mem _ List.mem_cons_self) (by
      rw [List.flatten_cons] at z
      exact (List.append_eq_nil_iff.mp z).1)), ← joinL_flat fun v hv => h v (List.mem_cons_of_mem _ hv)]
    rfl
theorem join_flat (z : Str) {gs : List (List Str)} (h : ∀ g ∈ gs, g ≠ []) : Txt.join z (gs.map (Txt.join z)) = Txt.join z gs.flatten := by
  refine TL.ext_tl ?_
  have q := joinL_flat (S := TL.tl z) (gs := gs.map (List.map TL.tl)) fun g hg => by
    obtain ⟨v, hv, rfl⟩ := List.mem_map.mp hg
    intro e
    exact h v hv (List.map_eq_nil_iff.mp e)
  rw [TL.join_eq, TL.join_eq, TL.tl_join, TL.tl_join, List.map_map, List.map_flatten, ← q, List.map_map]
  congr 1
  refine List.map_congr_left fun g _ => ?_
  simp only [Function.comp_apply, TL.join_eq, TL.tl_join]
theorem join_one (z v : Str) : Txt.join z [v] = v := by
  rw [TL.join_eq]
  rfl
theorem partW_ne (s : Sch) : ∀ g ∈ s.partW, g ≠ [] := fun g hg => by
  cases s <;> simp only [Sch.partW, List.mem_cons, List.mem_nil_iff, or_false] at hg
  case step => rcases hg with rfl | rfl <;> simp
  case many => subst hg; simp
  case gate => rcases hg with rfl | rfl <;> simp [words_ne]
  case fin => rcases hg with rfl | rfl | rfl <;> simp [words_ne]
  case most => rcases hg with rfl | rfl <;> simp [words_ne]
  case hc => subst hg; simp [words_ne]
  case use => subst hg; simp
/-- a part's text -/
def Sch.partT (s : Sch) : List Str := s.partW.map (Txt.join spaceS)
theorem text_parts (s : Sch) : s.text = Txt.join spaceS (s.head :: s.partT) := by
  have q := join_flat spaceS (gs := [s.head] :: s.partW) fun g hg => by
    rcases List.mem_cons.mp hg with rfl | hg
    · simp
    · exact partW_ne s g hg
  unfold Sch.text
  rw [words_parts]
  rw [List.map_cons, join_one, List.flatten_cons, List.singleton_append] at q
  exact q.symm
theorem text_many (b : Bool) (ks : List Sch) : (Sch.many b ks).text = Txt.join spaceS (Sch.head (.many b ks) :: Ev.num ks.length :: ks.map Sch.text) := by
  have q := join_flat spaceS (gs := [Sch.head (.many b ks)] :: [num ks.length] :: ks.map Sch.words) fun g hg => by
    rcases List.mem_cons.mp hg with rfl | hg
    · simp
    · rcases List.mem_cons.mp hg with rfl | hg
      · simp
      · obtain ⟨s, _, rfl⟩ := List.mem_map.mp hg
        exact words_ne s
  unfold Sch.text
  rw [words_parts]
  simp only [Sch.partW, List.flatten_cons, List.flatten_nil, List.append_nil, wordsL_map]
  rw [List.map_cons, List.map_cons, join_one, join_one, List.flatten_cons, List.flatten_cons, List.singleton_append, List.singleton_append, List.map_map] at q
  exact q.symm
section
variable {T : List FD}
def txA : Ss := match K12.c_law_text with
  | .cons (.if_ _ a _) _ => a
  | _ => .nil
def txB : S := stAt 1 K12.c_law_text
theorem tx_code : K12.c_law_text = .cons (.if_ (.cmp .in_ (.sub (.loc 0) (.cst (.int 0))) (.tup (.cons (.cst (.str "all")) (.cons (.cst (.str "best")) .nil)))) txA .nil) (.cons txB .nil) := rfl
def isMany : Sch → Bool
  | .many .. => true
  | _ => false
theorem many_head2 (s : Sch) : inFlat (.str s.head) [.str "all", .str "best"] = isMany s := by
  rw [many_head]
  cases s <;> rfl
theorem tx_test {cf : Nat → List D → M D} (s : Sch) {A : Ss} {B : S} : evSs cf (.cons (.if_ (.cmp .in_ (.sub (.loc 0) (.cst (.int 0))) (.tup (.cons (.cst (.str "all")) (.cons (.cst (.str "best")) .nil)))) A .nil) (.cons B .nil)) [some s.toD, none, none] =
    bnd (if isMany s = true then evSs cf A [some s.toD, none, none] else Ms.ret (.nx [some s.toD, none, none])) fun fl => match fl with
      | .nx ρ' => evSs cf (.cons B .nil) ρ'
      | .rt d => Ms.ret (.rt d) := by
  rw [evSs_step]
  congr 1
  simp only [evS, evE, evEs, cmpD, constD, List.getElem?_cons_zero, Option.join_some, fromO_some, bnd_ret, bnd_assoc, ix0_toD, LE2, List.length_cons, List.length_nil, if_true, in_two, many_head2, asB_bl]
  cases isMany s <;> simp only [evSs_nil, if_true, if_false, Bool.false_eq_true]
theorem txt_many {cf : Nat → List D → M D} {b : Bool} {ks : List Sch} (hn : ks.length ≤ 4) (ih : ∀ v ∈ (Sch.many b ks).kids, cf 50 [v.toD] = Ms.ret (.str v.text)) (kl : ∀ v ∈ (Sch.many b ks).kids, v.text.length ≤ 2100) :
    evSs cf K12.c_law_text [some (Sch.many b ks).toD, none, none] = Ms.ret (.rt (.str (Sch.many b ks).text)) := by
  have lim : LIM = 1000000 := rfl
  rw [tx_code, tx_test, show isMany (.many b ks) = true from rfl, if_pos rfl]
  have i1 : idxD (Sch.many b ks).toD (.int 1) = Ms.ret (.tup (ks.map Sch.toD)) := by
    rw [Sch.toD, ix_tup, show (1 : Int) = ((1 : Nat) : Int) from rfl, at_nat (i := 1) rfl, toDs_map]
    rfl
  have lp := lc_map (bind := fun d => bindT (.name 1) d (wipeD [some (Sch.many b ks).toD, none, none] [1])) (cond := evC cf .none) (elt := evE cf (.call 50 (.cons (.loc 1) .nil))) (f := fun d => match (cf 50 [d] []) with | .ok x _ => x | _ => .non) (xs := ks.map Sch.toD) (acc := []) (by simp; omega) fun d hd => by
    obtain ⟨v, hv, rfl⟩ := List.mem_map.mp hd
    refine ⟨_, rfl, by simp only [evSs, evS, evE, evEs, evAnd, evOr, evO, evC, evIt, startD, List.map_cons, List.map_nil, List.length_cons, List.length_nil, List.cons_append, List.nil_append, List.replicate, List.getElem?_cons_zero, List.getElem?_cons_succ, Option.join_some, List.set_cons_zero, List.set_cons_succ, fromO_some, bnd_ret, bnd_assoc, constD, cmpD, binD, biD, bindT, setAll, asB_bnd, asB_bl, if_true, if_false, Bool.false_eq_true, Bool.not_true, Bool.not_false, LE0, LE1, LE2, LE3, LE4], ?_⟩
    simp only [evSs, evS, evE, evEs, evAnd, evOr, evO, evC, evIt, startD, List.map_cons, List.map_nil, List.length_cons, List.length_nil, List.cons_append, List.nil_append, List.replicate, List.getElem?_cons_zero, List.getElem?_cons_succ, Option.join_some, List.set_cons_zero, List.set_cons_succ, fromO_some, bnd_ret, bnd_assoc, constD, cmpD, binD, biD, bindT, setAll, asB_bnd, asB_bl, if_true, if_false, Bool.false_eq_true, Bool.not_true, Bool.not_false, LE0, LE1, LE2, LE3, LE4, wipeD, ih v hv]
    rfl
  have e1 : (ks.map Sch.toD).map (fun d => match (cf 50 [d] []) with | .ok x _ => x | _ => .non) = txts (ks.map Sch.text) := by
    rw [txts, List.map_map, List.map_map]
    refine List.map_congr_left fun v hv => ?_
    simp only [Function.comp_apply, ih v hv, Ms.ret]
  rw [List.nil_append, e1] at lp
  have hd := Wd.head (.many b ks)
  have hnum : Wd (Ev.num ks.length) := .num (by omega)
  have jn := join_fl (z := spaceS) (ws := Sch.head (.many b ks) :: Ev.num ks.length :: ks.map Sch.text) (by
    have h1 := sum_len (n := 2100) (ws := Sch.head (.many b ks) :: Ev.num ks.length :: ks.map Sch.text) fun w hw => by
      rcases List.mem_cons.mp hw with rfl | hw
      · have := hd.len; omega
      · rcases List.mem_cons.mp hw with rfl | hw
        · have := hnum.len; omega
        · obtain ⟨v, hv, rfl⟩ := List.mem_map.mp hw
          exact kl v hv
    rw [space_len]
    simp only [List.length_cons, List.length_map] at h1 ⊢
    omega)
  have ad : addD (.fl [.str (Sch.head (.many b ks)), .str (Ev.num ks.length)]) (.fl (txts (ks.map Sch.text))) = Ms.ret (.fl (txts (Sch.head (.many b ks) :: Ev.num ks.length :: ks.map Sch.text))) := add_fl (by simp [txts]; omega)
  rw [show txA = .cons (.ret (.mt .join (.cst (.str " ")) (.cons (.bin .add (.lst false (.cons (.sub (.loc 0) (.cst (.int 0))) (.cons (.bi .str (.cons (.bi .len (.cons (.sub (.loc 0) (.cst (.int 1))) .nil)) .nil)) .nil))) (.lc false [1] (.name 1) (.val (.sub (.loc 0) (.cst (.int 1)))) .none (.call 50 (.cons (.loc 1) .nil)))) .nil))) .nil from rfl]
  have rv : ∀ z : Str, (fun η => if recvOk Mt.join (.str z) η = true then Res.ok () η else Res.bad) = Ms.ret () := fun z => by
    funext η
    rfl
  simp only [evSs, evS, evE, evEs, evAnd, evOr, evO, evC, evIt, startD, List.map_cons, List.map_nil, List.length_cons, List.length_nil, List.cons_append, List.nil_append, List.replicate, List.getElem?_cons_zero, List.getElem?_cons_succ, Option.join_some, List.set_cons_zero, List.set_cons_succ, fromO_some, bnd_ret, bnd_assoc, constD, cmpD, binD, biD, bindT, setAll, asB_bnd, asB_bl, if_true, if_false, Bool.false_eq_true, Bool.not_true, Bool.not_false, LE0, LE1, LE2, LE3, LE4] at lp
  simp only [evSs, evS, evE, evEs, evAnd, evOr, evO, evC, evIt, startD, List.map_cons, List.map_nil, List.length_cons, List.length_nil, List.cons_append, List.nil_append, List.replicate, List.getElem?_cons_zero, List.getElem?_cons_succ, Option.join_some, List.set_cons_zero, List.set_cons_succ, fromO_some, bnd_ret, bnd_assoc, constD, cmpD, binD, biD, bindT, setAll, asB_bnd, asB_bl, if_true, if_false, Bool.false_eq_true, Bool.not_true, Bool.not_false, LE0, LE1, LE2, LE3, LE4, rv, ix0_toD, i1, len_tup, List.length_map, str_num (show ks.length < 1000 by omega), nl2, it_tup, lp]
  rw [newL_f (by simp [txts]; omega), bnd_ret, ad, bnd_ret, show D.str " " = .str spaceS from rfl, jn]
  simp only [evSs, evS, evE, evEs, evAnd, evOr, evO, evC, evIt, startD, List.map_cons, List.map_nil, List.length_cons, List.length_nil, List.cons_append, List.nil_append, List.replicate, List.getElem?_cons_zero, List.getElem?_cons_succ, Option.join_some, List.set_cons_zero, List.set_cons_succ, fromO_some, bnd_ret, bnd_assoc, constD, cmpD, binD, biD, bindT, setAll, asB_bnd, asB_bl, if_true, if_false, Bool.false_eq_true, Bool.not_true, Bool.not_false, LE0, LE1, LE2, LE3, LE4, text_many]
theorem lc_zip {bind : D → Option Ms.Env} {cond : Ms.Env → M Bool} {elt : Ms.Env → M D} : ∀ {qs : List (D × Str)} {acc : List D}, acc.length + qs.length ≤ 100000 → (∀ q ∈ qs, ∃ ρ, bind q.1 = some ρ ∧ cond ρ = Ms.ret true ∧ elt ρ = Ms.ret (.str q.2)) → lcL [] bind cond elt (qs.map (·.1)) acc = Ms.ret (acc ++ txts (qs.map (·.2)))
  | [], acc, _, _ => by
    show lcL [] bind cond elt [] acc = Ms.ret (acc ++ [])
    unfold lcL
    rw [chk_nil, bnd_ret, List.append_nil]
  | q :: qs, acc, hl, h => by
    simp only [List.length_cons] at hl
    have lim : LIM = 1000000 := rfl
    obtain ⟨ρ, h1, h2, h3⟩ := h q List.mem_cons_self
    rw [List.map_cons]
    unfold lcL
    rw [chk_nil, bnd_ret, h1]
    try dsimp only
    rw [h2, noX_ret, bnd_ret, if_pos rfl, h3, noX_ret, bnd_ret, if_pos (by omega), lc_zip (by simp; omega) fun e he => h e (List.mem_cons_of_mem _ he)]
    rw [List.append_assoc]
    rfl
def Sch.txtQ : Sch → List (D × Str)
  | .step w n => [(.str (S1 w), S1 w), (.int n, Ev.num n)]
  | .many .. => []
  | .gate _ w s => [(.str (S1 w), S1 w), (s.toD, s.text)]
  | .fin w n s => [(.str (S1 w), S1 w), (.int n, Ev.num n), (s.toD, s.text)]
  | .most n s => [(.int n, Ev.num n), (s.toD, s.text)]
  | .hc _ s => [(s.toD, s.text)]
  | .use k => [(.int k, Ev.num k)]
theorem txtQ_1 {s : Sch} (hs : isMany s = false) : s.txtQ.map (·.1) = s.parts.map (·.1) := by
  cases s <;> first | rfl | cases hs
theorem txtQ_2 {s : Sch} (hs : isMany s = false) : s.txtQ.map (·.2) = s.partT := by
  cases s <;> first | (simp only [Sch.txtQ, Sch.partT, Sch.partW, List.map_cons, List.map_nil, join_one]; done) | (simp only [Sch.txtQ, Sch.partT, Sch.partW, List.map_cons, List.map_nil, join_one]; rfl) | cases hs
theorem txtQ_ok {num many : Nat} {s : Sch} (hm : many < 100) (hh : s.here num many) : ∀ q ∈ s.txtQ, (∃ v ∈ s.kids, q = (v.toD, v.text)) ∨ (∃ w, q = (.str w, w) ∧ w.length ≤ 6) ∨ (∃ n : Nat, n < 100 ∧ q = (.int n, Ev.num n)) := by
  have kid : ∀ {t : Sch}, s.kids = [t] → ∀ q : D × Str, q = (t.toD, t.text) → (∃ v ∈ s.kids, q = (v.toD, v.text)) ∨ (∃ w, q = (.str w, w) ∧ w.length ≤ 6) ∨ (∃ n : Nat, n < 100 ∧ q = (.int n, Ev.num n)) := fun {t} h q hq => .inl ⟨t, by rw [h]; exact List.mem_cons_self, hq⟩
  have let_ : ∀ w : Nat, (S1 w).length ≤ 6 := fun w => by simp [Str.length]
  intro q hq
  cases s with
  | step w n =>
    simp only [Sch.txtQ, List.mem_cons, List.mem_nil_iff, or_false] at hq
    rcases hq with rfl | rfl
    · exact .inr (.inl ⟨_, rfl, let_ w⟩)
    · exact .inr (.inr ⟨n, by have := hh.2.2; omega, rfl⟩)
  | many b ks => simp [Sch.txtQ] at hq
  | gate b w s =>
    simp only [Sch.txtQ, List.mem_cons, List.mem_nil_iff, or_false] at hq
    rcases hq with rfl | rfl
    · exact .inr (.inl ⟨_, rfl, let_ w⟩)
    · exact kid rfl _ rfl
  | fin w n s =>
    simp only [Sch.txtQ, List.mem_cons, List.mem_nil_iff, or_false] at hq
    rcases hq with rfl | rfl | rfl
    · exact .inr (.inl ⟨_, rfl, let_ w⟩)
    · exact .inr (.inr ⟨n, by have := hh.2.2; omega, rfl⟩)
    · exact kid rfl _ rfl
  | most n s =>
    simp only [Sch.txtQ, List.mem_cons, List.mem_nil_iff, or_false] at hq
    rcases hq with rfl | rfl
    · exact .inr (.inr ⟨n, by have : n ≤ 30 := hh; omega, rfl⟩)
    · exact kid rfl _ rfl
  | hc b s =>
    simp only [Sch.txtQ, List.mem_cons, List.mem_nil_iff, or_false] at hq
    subst hq
    exact kid rfl _ rfl
  | use k =>
    simp only [Sch.txtQ, List.mem_cons, List.mem_nil_iff, or_false] at hq
    subst hq
    exact .inr (.inr ⟨k, by have := hh.2; omega, rfl⟩)
theorem txt_rest {cf : Nat → List D → M D} {num many : Nat} {s : Sch} (hs : isMany s = false) (ih : ∀ v ∈ s.kids, cf 50 [v.toD] = Ms.ret (.str v.text)) (kl : ∀ v ∈ s.kids, v.text.length ≤ 2100) (hm : many < 100) (hh : s.here num many) :
    evSs cf K12.c_law_text [some s.toD, none, none] = Ms.ret (.rt (.str s.text)) := by
  rw [tx_code, tx_test, hs, if_neg Bool.false_ne_true, bnd_ret]
  try dsimp only
  have lim : LIM = 1000000 := rfl
  have ls : ∀ w : Str, strD [.str w] = Ms.ret (.str w) := fun _ => rfl
  have it : itVal s.toD = Ms.ret (((.str s.head, s.head) :: s.txtQ).map (·.1), []) := by
    rw [toD_parts, it_tup, List.map_cons, txtQ_1 hs]
  have hd := Wd.head s
  have pl := parts_len s
  have ql : s.txtQ.length = s.parts.length := by
    have := congrArg List.length (txtQ_1 hs)
    simpa using this
  have lp := lc_zip (bind := fun d => bindT (.name 2) d (wipeD [some s.toD, none, none] [2])) (cond := evC cf .none) (elt := evE cf (.ite (.isi (.loc 2) "tuple") (.call 50 (.cons (.loc 2) .nil)) (.bi .str (.cons (.loc 2) .nil)))) (qs := (.str s.head, s.head) :: s.txtQ) (acc := []) (by simp; omega) fun q hq => by
    have hq2 : (∃ v ∈ s.kids, q = (v.toD, v.text)) ∨ (∃ w, q = (.str w, w) ∧ w.length ≤ 6) ∨ (∃ n : Nat, n < 100 ∧ q = (.int n, Ev.num n)) := by
      rcases List.mem_cons.mp hq with rfl | hq
      · exact .inr (.inl ⟨_, rfl, hd.len⟩)
      · exact txtQ_ok hm hh q hq
    refine ⟨_, rfl, by simp only [evSs, evS, evE, evEs, evAnd, evOr, evO, evC, evIt, startD, List.map_cons, List.map_nil, List.length_cons, List.length_nil, List.cons_append, List.nil_append, List.replicate, List.getElem?_cons_zero, List.getElem?_cons_succ, Option.join_some, List.set_cons_zero, List.set_cons_succ, fromO_some, bnd_ret, bnd_assoc, constD, cmpD, binD, biD, bindT, setAll, asB_bnd, asB_bl, if_true, if_false, Bool.false_eq_true, Bool.not_true, Bool.not_false, LE0, LE1, LE2, LE3, LE4], ?_⟩
    rcases hq2 with ⟨v, hv, rfl⟩ | ⟨w, rfl, _⟩ | ⟨n, hn, rfl⟩
    · have is : isiD "tuple" v.toD = Ms.ret (.bl true) := by
        rw [toD_parts]
        exact isi_tup "tuple" _ rfl
      simp only [evSs, evS, evE, evEs, evAnd, evOr, evO, evC, evIt, startD, List.map_cons, List.map_nil, List.length_cons, List.length_nil, List.cons_append, List.nil_append, List.replicate, List.getElem?_cons_zero, List.getElem?_cons_succ, Option.join_some, List.set_cons_zero, List.set_cons_succ, fromO_some, bnd_ret, bnd_assoc, constD, cmpD, binD, biD, bindT, setAll, asB_bnd, asB_bl, if_true, if_false, Bool.false_eq_true, Bool.not_true, Bool.not_false, LE0, LE1, LE2, LE3, LE4, wipeD, is, ih v hv]
    · simp only [evSs, evS, evE, evEs, evAnd, evOr, evO, evC, evIt, startD, List.map_cons, List.map_nil, List.length_cons, List.length_nil, List.cons_append, List.nil_append, List.replicate, List.getElem?_cons_zero, List.getElem?_cons_succ, Option.join_some, List.set_cons_zero, List.set_cons_succ, fromO_some, bnd_ret, bnd_assoc, constD, cmpD, binD, biD, bindT, setAll, asB_bnd, asB_bl, if_true, if_false, Bool.false_eq_true, Bool.not_true, Bool.not_false, LE0, LE1, LE2, LE3, LE4, wipeD, isi_st "tuple" _ rfl, show isSub "str" "tuple" = false from rfl, ls]
    · simp only [evSs, evS, evE, evEs, evAnd, evOr, evO, evC, evIt, startD, List.map_cons, List.map_nil, List.length_cons, List.length_nil, List.cons_append, List.nil_append, List.replicate, List.getElem?_cons_zero, List.getElem?_cons_succ, Option.join_some, List.set_cons_zero, List.set_cons_succ, fromO_some, bnd_ret, bnd_assoc, constD, cmpD, binD, biD, bindT, setAll, asB_bnd, asB_bl, if_true, if_false, Bool.false_eq_true, Bool.not_true, Bool.not_false, LE0, LE1, LE2, LE3, LE4, wipeD, isi_int "tuple" _ rfl, show isSub "int" "tuple" = false from rfl, str_num (show n < 1000 by omega)]
  rw [List.nil_append, List.map_cons, List.map_cons, txtQ_2 hs] at lp
  rw [List.map_cons] at it
  have pT : s.partT.length = s.parts.length := by
    rw [← txtQ_2 hs, List.length_map, ql]
  have jn := join_fl (z := spaceS) (ws := s.head :: s.partT) (by
    have h1 := sum_len (n := 2100) (ws := s.head :: s.partT) fun w hw => by
      rcases List.mem_cons.mp hw with rfl | hw
      · have := hd.len; omega
      · rw [← txtQ_2 hs] at hw
        obtain ⟨q, hq, rfl⟩ := List.mem_map.mp hw
        rcases txtQ_ok hm hh q hq with ⟨v, hv, rfl⟩ | ⟨w, rfl, hw⟩ | ⟨n, hn, rfl⟩
        · exact kl v hv
        · show w.length ≤ 2100
          omega
        · have := (Wd.num hn).len
          show (Ev.num n).length ≤ 2100
          omega
    rw [space_len]
    simp only [List.length_cons] at h1 ⊢
    omega)
  have rv : ∀ z : Str, (fun η => if recvOk Mt.join (.str z) η = true then Res.ok () η else Res.bad) = Ms.ret () := fun z => by
    funext η
    rfl
  rw [show txB = .ret (.mt .join (.cst (.str " ")) (.cons (.lc false [2] (.name 2) (.val (.loc 0)) .none (.ite (.isi (.loc 2) "tuple") (.call 50 (.cons (.loc 2) .nil)) (.bi .str (.cons (.loc 2) .nil)))) .nil)) from rfl]
  simp only [evSs, evS, evE, evEs, evAnd, evOr, evO, evC, evIt, startD, List.map_cons, List.map_nil, List.length_cons, List.length_nil, List.cons_append, List.nil_append, List.replicate, List.getElem?_cons_zero, List.getElem?_cons_succ, Option.join_some, List.set_cons_zero, List.set_cons_succ, fromO_some, bnd_ret, bnd_assoc, constD, cmpD, binD, biD, bindT, setAll, asB_bnd, asB_bl, if_true, if_false, Bool.false_eq_true, Bool.not_true, Bool.not_false, LE0, LE1, LE2, LE3, LE4] at lp
  simp only [evSs, evS, evE, evEs, evAnd, evOr, evO, evC, evIt, startD, List.map_cons, List.map_nil, List.length_cons, List.length_nil, List.cons_append, List.nil_append, List.replicate, List.getElem?_cons_zero, List.getElem?_cons_succ, Option.join_some, List.set_cons_zero, List.set_cons_succ, fromO_some, bnd_ret, bnd_assoc, constD, cmpD, binD, biD, bindT, setAll, asB_bnd, asB_bl, if_true, if_false, Bool.false_eq_true, Bool.not_true, Bool.not_false, LE0, LE1, LE2, LE3, LE4, rv, it, lp]
  rw [newL_f (by simp [txts]; omega), bnd_ret, show D.str " " = .str spaceS from rfl, jn]
  simp only [evSs, evS, evE, evEs, evAnd, evOr, evO, evC, evIt, startD, List.map_cons, List.map_nil, List.length_cons, List.length_nil, List.cons_append, List.nil_append, List.replicate, List.getElem?_cons_zero, List.getElem?_cons_succ, Option.join_some, List.set_cons_zero, List.set_cons_succ, fromO_some, bnd_ret, bnd_assoc, constD, cmpD, binD, biD, bindT, setAll, asB_bnd, asB_bl, if_true, if_false, Bool.false_eq_true, Bool.not_true, Bool.not_false, LE0, LE1, LE2, LE3, LE4, text_parts]
theorem law_text_ok (h : At T 50 K12.c_law_text 1 3) {num many : Nat} (hm : many < 100) {d : Nat} {s : Sch} (hg : Good num many d s) : ∀ k, cost (fun _ => 1) s ≤ 100 → evF T (d + k) 50 [s.toD] = Ms.ret (.str s.text) := by
  induction hg with
  | @mk d s hh hk ih =>
    intro k hc
    have ek : d + 1 + k = d + k + 1 := by omega
    rw [ek]
    have lim : LIM = 1000000 := rfl
    refine evF_ret (fl := .rt (.str s.text)) h rfl ?_
    show evSs (evF T (d + k)) K12.c_law_text [some s.toD, none, none] = _
    have kc : ∀ v ∈ s.kids, cost (fun _ => 1) v ≤ 100 := fun v hv => by
      have := costs_mem (f := fun _ => 1) hv
      rw [cost_kids] at hc
      omega
    have kl : ∀ v ∈ s.kids, v.text.length ≤ 2100 := fun v hv => by
      have := text_len hm (hk v hv)
      have := kc v hv
      omega
    have hl := words_len s
    cases s with
    | many b ks =>
      exact txt_many hh.2 (fun v hv => ih v hv k (kc v hv)) kl
    | step w n => exact txt_rest (by rfl) (fun v hv => ih v hv k (kc v hv)) kl hm hh
    | gate b w s => exact txt_rest (by rfl) (fun v hv => ih v hv k (kc v hv)) kl hm hh
    | fin w n s => exact txt_rest (by rfl) (fun v hv => ih v hv k (kc v hv)) kl hm hh
    | most n s => exact txt_rest (by rfl) (fun v hv => ih v hv k (kc v hv)) kl hm hh
    | hc b s => exact txt_rest (by rfl) (fun v hv => ih v hv k (kc v hv)) kl hm hh
    | use j => exact txt_rest (by rfl) (fun v hv => ih v hv k (kc v hv)) kl hm hh
end
end Ev
end
section
set_option Elab.async false
set_option linter.all false
set_option maxRecDepth 100000
set_option maxHeartbeats 4000000
/-! The law. -/
namespace K12
open PySem L2 Ms Cod Ev
theorem wr : WrOk fns := ⟨⟨⟨⟨fd_is_number, rfl, rfl, rfl, rfl⟩⟩, ⟨⟨fd_is_word, rfl, rfl, rfl, rfl⟩⟩, ⟨⟨fd_kids_of, rfl, rfl, rfl, rfl⟩⟩, ⟨⟨fd_is_part, rfl, rfl, rfl, rfl⟩⟩, ⟨⟨fd_is_scheme, rfl, rfl, rfl, rfl⟩⟩, ⟨⟨fd_nodes_of, rfl, rfl, rfl, rfl⟩⟩, ⟨⟨fd_need_paper, rfl, rfl, rfl, rfl⟩⟩⟩, ⟨⟨fd_words_by, rfl, rfl, rfl, rfl⟩⟩, ⟨⟨fd_written, rfl, rfl, rfl, rfl⟩⟩⟩
theorem rds : Rds fns := ⟨wr.toPapers, ⟨⟨fd_Words___init, rfl, rfl, rfl, rfl⟩⟩, ⟨⟨fd_Words_next_one, rfl, rfl, rfl, rfl⟩⟩, ⟨⟨fd_Words_figures, rfl, rfl, rfl, rfl⟩⟩, ⟨⟨fd_Words_next_scheme, rfl, rfl, rfl, rfl⟩⟩, ⟨⟨fd_Words_whole, rfl, rfl, rfl, rfl⟩⟩, ⟨⟨fd_read, rfl, rfl, rfl, rfl⟩⟩⟩
theorem wks : Works fns := ⟨⟨⟨fd_is_word, rfl, rfl, rfl, rfl⟩⟩, ⟨⟨fd_is_step, rfl, rfl, rfl, rfl⟩⟩, ⟨⟨fd_is_next, rfl, rfl, rfl, rfl⟩⟩, ⟨⟨fd_need_work, rfl, rfl, rfl, rfl⟩⟩⟩
theorem a22 : At fns 22 c_law_begun 1 3 := ⟨⟨fd_law_begun, rfl, rfl, rfl, rfl⟩⟩
theorem a23 : At fns 23 c_law_take 2 3 := ⟨⟨fd_law_take, rfl, rfl, rfl, rfl⟩⟩
theorem a24 : At fns 24 c_law_alike 2 3 := ⟨⟨fd_law_alike, rfl, rfl, rfl, rfl⟩⟩
theorem a25 : At fns 25 c_law_letters 1 4 := ⟨⟨fd_law_letters, rfl, rfl, rfl, rfl⟩⟩
theorem a26 : At fns 26 c_law_scheme 5 11 := ⟨⟨fd_law_scheme, rfl, rfl, rfl, rfl⟩⟩
theorem a27 : At fns 27 c_law_counted 2 6 := ⟨⟨fd_law_counted, rfl, rfl, rfl, rfl⟩⟩
theorem a28 : At fns 28 c_law_paper 2 13 := ⟨⟨fd_law_paper, rfl, rfl, rfl, rfl⟩⟩
theorem a29 : At fns 29 c_law_step 3 4 := ⟨⟨fd_law_step, rfl, rfl, rfl, rfl⟩⟩
theorem a30 : At fns 30 c_law_work 3 6 := ⟨⟨fd_law_work, rfl, rfl, rfl, rfl⟩⟩
theorem a40 : At fns 40 c_written_work 1 1 := ⟨⟨fd_written_work, rfl, rfl, rfl, rfl⟩⟩
theorem a41 : At fns 41 c_read_work 1 4 := ⟨⟨fd_read_work, rfl, rfl, rfl, rfl⟩⟩
theorem a50 : At fns 50 c_law_text 1 3 := ⟨⟨fd_law_text, rfl, rfl, rfl, rfl⟩⟩
theorem a51 : At fns 51 c_law 1 12 := ⟨⟨fd_law, rfl, rfl, rfl, rfl⟩⟩
def lbody : Ss := match c_law with
  | .cons _ (.cons (.for_ _ _ b) _) => b
  | _ => .nil
def lb (i : Nat) : S := stAt i lbody
theorem lb_code : lbody = .cons (lb 0) (.cons (lb 1) (.cons (lb 2) (.cons (lb 3) (.cons (lb 4) (.cons (lb 5) (.cons (lb 6) (.cons (lb 7) (.cons (lb 8) .nil)))))))) := rfl
def again : Ss := match lb 8 with
  | .for_ _ _ b => b
  | _ => .nil
abbrev cf : Nat → List D → M D := evF fns 49
section
variable {η : List Cell} {ρ : Ms.Env} {ss : List Sch} {u1 u2 : Nat → Nat} {ws : List Str} {cs : List Nat}
theorem s2 (P : Paper ss u1 u2) {x0 x1 x2 x3 x5 x6 x7 x8 x9 x10 x11 : Option D} : evS cf (lb 2) [x0, x1, x2, x3, some (paperD ss), x5, x6, x7, x8, x9, x10, x11] = Ms.ret (.nx [x0, x1, x2, x3, some (paperD ss), some (.str (textP ss)), x6, x7, x8, x9, x10, x11]) := by
  have hi := P.hi
  have lim : LIM = 1000000 := rfl
  have lp := lc_zip (bind := fun d => bindT (.name 6) d (wipeD [x0, x1, x2, x3, some (paperD ss), x5, x6, x7, x8, x9, x10, x11] [6])) (cond := evC cf .none) (elt := evE cf (.call 50 (.cons (.loc 6) .nil))) (qs := ss.map fun s => (s.toD, s.text)) (acc := []) (by simp; omega) fun q hq => by
    obtain ⟨s, hs, rfl⟩ := List.mem_map.mp hq
    obtain ⟨i, g⟩ := P.at_mem hs
    refine ⟨_, rfl, by simp only [evSs, evS, evE, evEs, evAnd, evOr, evO, evC, evIt, startD, List.map_cons, List.map_nil, List.length_cons, List.length_nil, List.cons_append, List.nil_append, List.replicate, List.getElem?_cons_zero, List.getElem?_cons_succ, Option.join_some, List.set_cons_zero, List.set_cons_succ, fromO_some, bnd_ret, bnd_assoc, constD, cmpD, binD, biD, bindT, setAll, asB_bnd, asB_bl, if_true, if_false, Bool.false_eq_true, Bool.not_true, Bool.not_false, LE0, LE1, LE2, LE3, LE4], ?_⟩
    have lt : evF fns 49 50 [s.toD] = Ms.ret (.str s.text) := law_text_ok a50 (by omega) g 44 (by have := P.size s hs; omega)
    simp only [evSs, evS, evE, evEs, evAnd, evOr, evO, evC, evIt, startD, List.map_cons, List.map_nil, List.length_cons, List.length_nil, List.cons_append, List.nil_append, List.replicate, List.getElem?_cons_zero, List.getElem?_cons_succ, Option.join_some, List.set_cons_zero, List.set_cons_succ, fromO_some, bnd_ret, bnd_assoc, constD, cmpD, binD, biD, bindT, setAll, asB_bnd, asB_bl, if_true, if_false, Bool.false_eq_true, Bool.not_true, Bool.not_false, LE0, LE1, LE2, LE3, LE4, wipeD]
    exact lt
  have e1 : (ss.map fun s => (s.toD, s.text)).map (·.1) = ss.map Sch.toD := by rw [List.map_map]; rfl
  have e2 : txts ((ss.map fun s => (s.toD, s.text)).map (·.2)) = txts (ss.map Sch.text) := by rw [List.map_map]; rfl
  rw [e1, e2, List.nil_append] at lp
  have it : itVal (paperD ss) = Ms.ret (ss.map Sch.toD, []) := it_tup _
  rw [show lb 2 = .asg (.name 5) (.mt .join (.cst (.str "\n")) (.cons (.lc false [6] (.name 6) (.val (.loc 4)) .none (.call 50 (.cons (.loc 6) .nil))) .nil)) from rfl]
  simp only [evSs, evS, evE, evEs, evAnd, evOr, evO, evC, evIt, startD, List.map_cons, List.map_nil, List.length_cons, List.length_nil, List.cons_append, List.nil_append, List.replicate, List.getElem?_cons_zero, List.getElem?_cons_succ, Option.join_some, List.set_cons_zero, List.set_cons_succ, fromO_some, bnd_ret, bnd_assoc, constD, cmpD, binD, biD, bindT, setAll, asB_bnd, asB_bl, if_true, if_false, Bool.false_eq_true, Bool.not_true, Bool.not_false, LE0, LE1, LE2, LE3, LE4] at lp
  simp only [evSs, evS, evE, evEs, evAnd, evOr, evO, evC, evIt, startD, List.map_cons, List.map_nil, List.length_cons, List.length_nil, List.cons_append, List.nil_append, List.replicate, List.getElem?_cons_zero, List.getElem?_cons_succ, Option.join_some, List.set_cons_zero, List.set_cons_succ, fromO_some, bnd_ret, bnd_assoc, constD, cmpD, binD, biD, bindT, setAll, asB_bnd, asB_bl, if_true, if_false, Bool.false_eq_true, Bool.not_true, Bool.not_false, LE0, LE1, LE2, LE3, LE4, rv_str (m := .join) (by decide), it, lp]
  rw [newL_f (by simp [txts]; omega)]
  simp only [evSs, evS, evE, evEs, evAnd, evOr, evO, evC, evIt, startD, List.map_cons, List.map_nil, List.length_cons, List.length_nil, List.cons_append, List.nil_append, List.replicate, List.getElem?_cons_zero, List.getElem?_cons_succ, Option.join_some, List.set_cons_zero, List.set_cons_succ, fromO_some, bnd_ret, bnd_assoc, constD, cmpD, binD, biD, bindT, setAll, asB_bnd, asB_bl, if_true, if_false, Bool.false_eq_true, Bool.not_true, Bool.not_false, LE0, LE1, LE2, LE3, LE4, join_fl (texts_sum P)]
  rfl
theorem s3 (P : Paper ss u1 u2) (hη : Wf η) {x0 x1 x2 x3 x6 x7 x8 x9 x10 x11 : Option D} : evS cf (lb 3) [x0, x1, x2, x3, some (paperD ss), some (.str (textP ss)), x6, x7, x8, x9, x10, x11] η = .ok (.nx [x0, x1, x2, x3, some (paperD ss), some (.str (textP ss)), x6, x7, x8, x9, x10, x11]) η := by
  have w : cf 32 [paperD ss] η = .ok (.str (textP ss)) η := written_ok wr P (k := 42) hη
  have r : cf 39 [.str (textP ss)] η = .ok (paperD ss) η := read_ok rds P (k := 40) hη
  have l1 : cf 24 [.str (textP ss), .str (textP ss)] η = .ok (.bl true) η := alike_pl a24 (n := 0) (.str (textP_ok P)) 48 η
  have l2 : cf 24 [paperD ss, paperD ss] η = .ok (.bl true) η := alike_pl a24 (paper_pl P) 37 η
  rw [show lb 3 = .if_ (.or_ (.cons (.not_ (.call 24 (.cons (.call 32 (.cons (.loc 4) .nil)) (.cons (.loc 5) .nil)))) (.cons (.not_ (.call 24 (.cons (.call 39 (.cons (.loc 5) .nil)) (.cons (.loc 4) .nil)))) .nil))) (.cons (.ret (.cst (.bool false))) .nil) .nil from rfl]
  simp only [evSs, evS, evE, evEs, evAnd, evOr, evO, evC, evIt, startD, List.map_cons, List.map_nil, List.length_cons, List.length_nil, List.cons_append, List.nil_append, List.replicate, List.getElem?_cons_zero, List.getElem?_cons_succ, Option.join_some, List.set_cons_zero, List.set_cons_succ, fromO_some, bnd_ret, bnd_assoc, constD, cmpD, binD, biD, bindT, setAll, asB_bnd, asB_bl, if_true, if_false, Bool.false_eq_true, Bool.not_true, Bool.not_false, LE0, LE1, LE2, LE3, LE4]
  rw [bnd_ok w, bnd_ok (asB_at l1)]
  simp only [evSs, evS, evE, evEs, evAnd, evOr, evO, evC, evIt, startD, List.map_cons, List.map_nil, List.length_cons, List.length_nil, List.cons_append, List.nil_append, List.replicate, List.getElem?_cons_zero, List.getElem?_cons_succ, Option.join_some, List.set_cons_zero, List.set_cons_succ, fromO_some, bnd_ret, bnd_assoc, constD, cmpD, binD, biD, bindT, setAll, asB_bnd, asB_bl, if_true, if_false, Bool.false_eq_true, Bool.not_true, Bool.not_false, LE0, LE1, LE2, LE3, LE4]
  rw [bnd_ok r, bnd_ok (asB_at l2)]
  rfl
theorem s567 (hc : Ltrs cs) (wk : Wk cs ws) (hl : ws.length ≤ 12) {x0 x1 x2 x3 x4 x5 x6 x8 x9 x10 x11 : Option D} {B : Ss} : evSs cf (.cons (lb 5) (.cons (lb 6) (.cons (lb 7) B))) [x0, x1, x2, x3, x4, x5, x6, some (.fl (txts ws)), x8, x9, x10, x11] η =
    evSs cf B [x0, x1, x2, x3, x4, x5, x6, some (.fl (txts ws)), some (.fl (txts ws)), some (.str (Txt.join spaceS ws)), x10, x11] η := by
  have lim : LIM = 1000000 := rfl
  have ok := fun w (hw : w ∈ ws) => wk.okw hc.mem hw
  have ll := line_len2 (fun w hw => (ok w hw).2.2.1) (by omega)
  have sl := space_len
  have jn : mtD .join (.str " ") [.fl (txts ws)] = Ms.ret (.str (Txt.join spaceS ws)) := join_fl (z := spaceS) (by omega)
  have oj : PyData.strOk (Txt.join spaceS ws) = true := ok_join (by decide +kernel) fun w hw => (ok w hw).1.ok
  have ww : cf 40 [.fl (txts ws)] η = .ok (.str (Txt.join spaceS ws)) η := written_work_ok wks a40 (k := 44) (fun w hw => (ok w hw).1) (by rw [sl] at ll; omega) (wk.nw hc.mem hl)
  have l1 : cf 24 [.str (Txt.join spaceS ws), .str (Txt.join spaceS ws)] η = .ok (.bl true) η := alike_pl a24 (n := 0) (.str oj) 48 η
  have ne := (eq_same (txts_sh fun w hw => (ok w hw).1.ok)).2
  rw [show lb 5 = .asg (.name 8) (.bi .list (.cons (.loc 7) .nil)) from rfl, show lb 6 = .asg (.name 9) (.mt .join (.cst (.str " ")) (.cons (.loc 7) .nil)) from rfl, show lb 7 = .if_ (.or_ (.cons (.not_ (.call 24 (.cons (.call 40 (.cons (.loc 8) .nil)) (.cons (.loc 9) .nil)))) (.cons (.cmp .ne (.loc 8) (.loc 7)) .nil))) (.cons (.ret (.cst (.bool false))) .nil) .nil from rfl]
  generalize hB : evSs cf B = K
  simp only [evSs, evS, evE, evEs, evAnd, evOr, evO, evC, evIt, startD, List.map_cons, List.map_nil, List.length_cons, List.length_nil, List.cons_append, List.nil_append, List.replicate, List.getElem?_cons_zero, List.getElem?_cons_succ, Option.join_some, List.set_cons_zero, List.set_cons_succ, fromO_some, bnd_ret, bnd_assoc, constD, cmpD, binD, biD, bindT, setAll, asB_bnd, asB_bl, if_true, if_false, Bool.false_eq_true, Bool.not_true, Bool.not_false, LE0, LE1, LE2, LE3, LE4, list_fl, rv_str (m := .join) (by decide), jn, hB]
  rw [bnd_ok ww, bnd_ok (asB_at l1)]
  simp only [evSs, evS, evE, evEs, evAnd, evOr, evO, evC, evIt, startD, List.map_cons, List.map_nil, List.length_cons, List.length_nil, List.cons_append, List.nil_append, List.replicate, List.getElem?_cons_zero, List.getElem?_cons_succ, Option.join_some, List.set_cons_zero, List.set_cons_succ, fromO_some, bnd_ret, bnd_assoc, constD, cmpD, binD, biD, bindT, setAll, asB_bnd, asB_bl, if_true, if_false, Bool.false_eq_true, Bool.not_true, Bool.not_false, LE0, LE1, LE2, LE3, LE4, ne]
theorem s8 (hc : Ltrs cs) (wk : Wk cs ws) (hl : ws.length ≤ 12) {x0 x1 x2 x3 x4 x5 x6 x7 x8 x10 x11 : Option D} (h7 : x7 = some (.fl (txts ws))) : evSs cf again [x0, x1, x2, x3, x4, x5, x6, x7, x8, some (.str (Txt.join spaceS ws)), x10, x11] η =
    .ok (.nx [x0, x1, x2, x3, x4, x5, x6, x7, x8, some (.str (Txt.join spaceS ws)), x10, some (.ref η.length)]) (η ++ [.lst (txts ws ++ [.str "xx"])]) := by
  subst h7
  have lim : LIM = 1000000 := rfl
  have ok := fun w (hw : w ∈ ws) => wk.okw hc.mem hw
  have wd := line_wds (ws := ws) fun w hw => ⟨(ok w hw).2.2.1, (ok w hw).2.2.2⟩
  have oj : PyData.strOk (Txt.join spaceS ws) = true := ok_join (by decide +kernel) fun w hw => (ok w hw).1.ok
  have ll := line_len2 (fun w hw => (ok w hw).2.2.1) (by omega)
  have jl := join_len spaceS ws
  have rw_ : cf 41 [.str (Txt.join spaceS ws)] η = .ok (.ref η.length) (η ++ [.lst (txts ws)]) := by
    have := read_work_ok wks a41 (k := 44) (η := η) oj (by omega) (by rw [wd]; exact fun w hw => ⟨(ok w hw).1, (ok w hw).2.1⟩) (by rw [wd]; omega) (by rw [wd]; exact wk.nw hc.mem hl)
    rwa [wd] at this
  have al : cf 24 [.ref η.length, .fl (txts ws)] (η ++ [.lst (txts ws)]) = .ok (.bl true) (η ++ [.lst (txts ws)]) := alike_ref a24 (n := 0) get_last (fun x hx => by
    obtain ⟨w, hw, rfl⟩ := List.mem_map.mp hx
    exact .str (ok w hw).1.ok) (by rw [txts_len]; omega) 47
  rw [show again = .cons (.asg (.name 11) (.call 41 (.cons (.loc 9) .nil))) (.cons (.if_ (.not_ (.call 24 (.cons (.loc 11) (.cons (.loc 7) .nil)))) (.cons (.ret (.cst (.bool false))) .nil) .nil) (.cons (.ex (.mt .append (.loc 11) (.cons (.cst (.str "xx")) .nil))) .nil)) from rfl]
  simp only [evSs, evS, evE, evEs, evAnd, evOr, evO, evC, evIt, startD, List.map_cons, List.map_nil, List.length_cons, List.length_nil, List.cons_append, List.nil_append, List.replicate, List.getElem?_cons_zero, List.getElem?_cons_succ, Option.join_some, List.set_cons_zero, List.set_cons_succ, fromO_some, bnd_ret, bnd_assoc, constD, cmpD, binD, biD, bindT, setAll, asB_bnd, asB_bl, if_true, if_false, Bool.false_eq_true, Bool.not_true, Bool.not_false, LE0, LE1, LE2, LE3, LE4]
  rw [bnd_ok rw_]
  try simp only [evSs, evS, evE, evEs, evAnd, evOr, evO, evC, evIt, startD, List.map_cons, List.map_nil, List.length_cons, List.length_nil, List.cons_append, List.nil_append, List.replicate, List.getElem?_cons_zero, List.getElem?_cons_succ, Option.join_some, List.set_cons_zero, List.set_cons_succ, fromO_some, bnd_ret, bnd_assoc, constD, cmpD, binD, biD, bindT, setAll, asB_bnd, asB_bl, if_true, if_false, Bool.false_eq_true, Bool.not_true, Bool.not_false, LE0, LE1, LE2, LE3, LE4]
  rw [bnd_ok (asB_at al)]
  try simp only [evSs, evS, evE, evEs, evAnd, evOr, evO, evC, evIt, startD, List.map_cons, List.map_nil, List.length_cons, List.length_nil, List.cons_append, List.nil_append, List.replicate, List.getElem?_cons_zero, List.getElem?_cons_succ, Option.join_some, List.set_cons_zero, List.set_cons_succ, fromO_some, bnd_ret, bnd_assoc, constD, cmpD, binD, biD, bindT, setAll, asB_bnd, asB_bl, if_true, if_false, Bool.false_eq_true, Bool.not_true, Bool.not_false, LE0, LE1, LE2, LE3, LE4]
  rw [bnd_ok (cl_rec rfl get_last)]
  try simp only [evSs, evS, evE, evEs, evAnd, evOr, evO, evC, evIt, startD, List.map_cons, List.map_nil, List.length_cons, List.length_nil, List.cons_append, List.nil_append, List.replicate, List.getElem?_cons_zero, List.getElem?_cons_succ, Option.join_some, List.set_cons_zero, List.set_cons_succ, fromO_some, bnd_ret, bnd_assoc, constD, cmpD, binD, biD, bindT, setAll, asB_bnd, asB_bl, if_true, if_false, Bool.false_eq_true, Bool.not_true, Bool.not_false, LE0, LE1, LE2, LE3, LE4]
  rw [bnd_ok (cl_app get_last (by rw [txts_len]; omega) _), set_last]
  rfl
theorem s0 {x0 x2 x3 x4 x5 x6 x7 x8 x9 x10 x11 : Option D} {b : D} : evS cf (lb 0) [x0, some b, x2, x3, x4, x5, x6, x7, x8, x9, x10, x11] = bnd (cf 25 [b]) fun d => Ms.ret (.nx [x0, some b, x2, some d, x4, x5, x6, x7, x8, x9, x10, x11]) := by
  rw [show lb 0 = .asg (.name 3) (.call 25 (.cons (.loc 1) .nil)) from rfl]
  simp only [evSs, evS, evE, evEs, evAnd, evOr, evO, evC, evIt, startD, List.map_cons, List.map_nil, List.length_cons, List.length_nil, List.cons_append, List.nil_append, List.replicate, List.getElem?_cons_zero, List.getElem?_cons_succ, Option.join_some, List.set_cons_zero, List.set_cons_succ, fromO_some, bnd_ret, bnd_assoc, constD, cmpD, binD, biD, bindT, setAll, asB_bnd, asB_bl, if_true, if_false, Bool.false_eq_true, Bool.not_true, Bool.not_false, LE0, LE1, LE2, LE3, LE4]
theorem s1 {x0 x2 x4 x5 x6 x7 x8 x9 x10 x11 : Option D} {b c : D} : evS cf (lb 1) [x0, some b, x2, some c, x4, x5, x6, x7, x8, x9, x10, x11] = bnd (cf 28 [b, c]) fun d => Ms.ret (.nx [x0, some b, x2, some c, some d, x5, x6, x7, x8, x9, x10, x11]) := by
  rw [show lb 1 = .asg (.name 4) (.call 28 (.cons (.loc 1) (.cons (.loc 3) .nil))) from rfl]
  simp only [evSs, evS, evE, evEs, evAnd, evOr, evO, evC, evIt, startD, List.map_cons, List.map_nil, List.length_cons, List.length_nil, List.cons_append, List.nil_append, List.replicate, List.getElem?_cons_zero, List.getElem?_cons_succ, Option.join_some, List.set_cons_zero, List.set_cons_succ, fromO_some, bnd_ret, bnd_assoc, constD, cmpD, binD, biD, bindT, setAll, asB_bnd, asB_bl, if_true, if_false, Bool.false_eq_true, Bool.not_true, Bool.not_false, LE0, LE1, LE2, LE3, LE4]
theorem s4 {x0 x2 x4 x5 x6 x7 x8 x9 x10 x11 : Option D} {b c : D} : evS cf (lb 4) [x0, some b, x2, some c, x4, x5, x6, x7, x8, x9, x10, x11] = bnd (cf 30 [b, c, .int 12]) fun d => Ms.ret (.nx [x0, some b, x2, some c, x4, x5, x6, some d, x8, x9, x10, x11]) := by
  rw [show lb 4 = .asg (.name 7) (.call 30 (.cons (.loc 1) (.cons (.loc 3) (.cons (.cst (.int 12)) .nil)))) from rfl]
  simp only [evSs, evS, evE, evEs, evAnd, evOr, evO, evC, evIt, startD, List.map_cons, List.map_nil, List.length_cons, List.length_nil, List.cons_append, List.nil_append, List.replicate, List.getElem?_cons_zero, List.getElem?_cons_succ, Option.join_some, List.set_cons_zero, List.set_cons_succ, fromO_some, bnd_ret, bnd_assoc, constD, cmpD, binD, biD, bindT, setAll, asB_bnd, asB_bl, if_true, if_false, Bool.false_eq_true, Bool.not_true, Bool.not_false, LE0, LE1, LE2, LE3, LE4]
theorem turn_ev {rest : List Cell} (hr : flatCs rest = true) {x0 x2 x3 x4 x5 x6 x7 x8 x9 x10 x11 : Option D} {Q : Fl → List Cell → Prop}
    (q : ∀ y3 y4 y5 y6 y7 y8 y9 y10 y11 r, flatCs r = true → Q (.nx [x0, some (bx []), x2, y3, y4, y5, y6, y7, y8, y9, y10, y11]) r) : Ev [] (evSs cf lbody [x0, some (bx []), x2, x3, x4, x5, x6, x7, x8, x9, x10, x11]) rest Q := by
  have hp : flatCs [] = true := rfl
  rw [lb_code, evSs_step]
  refine .bnd ?_
  rw [s0]
  refine .bnd (letters_ev a23 a25 hp hr (k := 47) fun cs hc => .ret ?_)
  try dsimp only
  rw [evSs_step]
  refine .bnd ?_
  rw [s1]
  refine .bnd (paper_ev a23 a26 a27 a28 hp hr hc (k := 41) fun ss u1 u2 P => .ret ?_)
  try dsimp only
  rw [evSs_step, s2 P, bnd_ret]
  try dsimp only
  rw [evSs_step]
  refine .step (fun l s => s3 P (boxed_wf hp hr)) ?_
  try dsimp only
  rw [evSs_step]
  refine .bnd ?_
  rw [s4]
  refine .bnd (work_ev a23 a29 a30 hp hr hc (m := 12) (by decide) (k := 46) fun ws wk hl => .ret ?_)
  try dsimp only
  intro l s o
  rw [s567 hc wk hl]
  obtain ⟨a8, e8⟩ : ∃ a8, a8 = again := ⟨_, rfl⟩
  rw [show (lb 8) = .for_ (.name 10) (.rng1 (.cst (.int 2))) again from rfl]
  have t1 := fun x10 x11 η => s8 (η := η) hc wk hl (x0 := x0) (x1 := some (bx [])) (x2 := x2) (x3 := some (.fl (ltrs cs))) (x4 := some (paperD ss)) (x5 := some (.str (textP ss))) (x6 := x6) (x7 := some (.fl (txts ws))) (x8 := some (.fl (txts ws))) (x10 := x10) (x11 := x11) rfl
  have r2 : itR1 (.int 2) = Ms.ret ([.int 0, .int 1], []) := rfl
  have f2 : ∀ (x10 x11 : Option D) (η : List Cell), ∃ y11, forL [] (bindT (.name 10)) (evSs cf again) [.int 0, .int 1] [x0, some (bx []), x2, some (.fl (ltrs cs)), some (paperD ss), some (.str (textP ss)), x6, some (.fl (txts ws)), some (.fl (txts ws)), some (.str (Txt.join spaceS ws)), x10, x11] η =
      .ok (.nx [x0, some (bx []), x2, some (.fl (ltrs cs)), some (paperD ss), some (.str (textP ss)), x6, some (.fl (txts ws)), some (.fl (txts ws)), some (.str (Txt.join spaceS ws)), some (.int 1), y11]) (η ++ [.lst (txts ws ++ [.str "xx"])] ++ [.lst (txts ws ++ [.str "xx"])]) := fun x10 x11 η => by
    refine ⟨some (.ref (η ++ [Cell.lst (txts ws ++ [D.str "xx"])]).length), ?_⟩
    conv => lhs; unfold forL
    rw [chk_nil, bnd_ret]
    show bnd (evSs cf again [x0, some (bx []), x2, some (.fl (ltrs cs)), some (paperD ss), some (.str (textP ss)), x6, some (.fl (txts ws)), some (.fl (txts ws)), some (.str (Txt.join spaceS ws)), some (.int 0), x11]) _ _ = _
    rw [bnd_ok (t1 _ _ _)]
    try dsimp only
    conv => lhs; unfold forL
    rw [chk_nil, bnd_ret]
    show bnd (evSs cf again [x0, some (bx []), x2, some (.fl (ltrs cs)), some (paperD ss), some (.str (textP ss)), x6, some (.fl (txts ws)), some (.fl (txts ws)), some (.str (Txt.join spaceS ws)), some (.int 1), _]) _ _ = _
    rw [bnd_ok (t1 _ _ _)]
    rfl
  obtain ⟨y11, f3⟩ := f2 x10 x11 (boxed [] l s rest)
  rw [boxed_snoc, boxed_snoc] at f3
  refine ⟨_, l, s, _, o, ?_, q (some (.fl (ltrs cs))) (some (paperD ss)) (some (.str (textP ss))) x6 (some (.fl (txts ws))) (some (.fl (txts ws))) (some (.str (Txt.join spaceS ws))) (some (.int 1)) y11 (rest ++ [Cell.lst (txts ws ++ [D.str "xx"])] ++ [Cell.lst (txts ws ++ [D.str "xx"])]) ?_⟩
  · rw [evSs_step]
    conv => lhs; unfold evS
    simp only [evIt, evE, constD, fromO_some, bnd_ret, bnd_assoc, r2]
    rw [bnd_ok f3]
    try dsimp only
    rw [evSs_nil]
    rfl
  · have fl : flatC (Cell.lst (txts ws ++ [D.str "xx"])) = true := by
      show frozens (txts ws ++ [.str "xx"]) = true
      rw [frozens_app, txts_flat]
      rfl
    exact flat_snoc (flat_snoc hr fl) fl
theorem last_ev {rest : List Cell} {ρ : Ms.Env} {η : List Cell} : ∃ η2, evS cf (.ret (.and_ (.cons (.cmp .eq (.call 41 (.cons (.cst (.str "")) .nil)) (.lst false .nil)) (.cons (.cmp .eq (.call 40 (.cons (.lst false .nil) .nil)) (.cst (.str ""))) .nil)))) ρ η = .ok (.rt (.bl true)) η2 := by
  have lim : LIM = 1000000 := rfl
  have w0 : wds ("" : Str) = [] := by
    unfold wds
    rw [if_pos (by decide +kernel)]
  have oE : PyData.strOk ("" : Str) = true := by decide +kernel
  have rw_ : cf 41 [.str ""] η = .ok (.ref η.length) (η ++ [.lst []]) := by
    have := read_work_ok wks a41 (k := 44) (η := η) (z := "") oE (by decide +kernel) (by rw [w0]; exact fun w hw => nomatch hw) (by rw [w0]; decide) (by rw [w0]; rfl)
    rwa [w0] at this
  have ww : cf 40 [.fl []] (η ++ [.lst []]) = .ok (.str (Txt.join spaceS [])) (η ++ [.lst []]) := written_work_ok wks a40 (k := 44) (ws := []) (fun w hw => nomatch hw) (by decide) rfl
  have j0 : Txt.join spaceS [] = ("" : Str) := by decide +kernel
  rw [j0] at ww
  have n0 : newL false [] = Ms.ret (.fl []) := newL_f (Nat.zero_le _)
  refine ⟨η ++ [.lst []], ?_⟩
  simp only [evSs, evS, evE, evEs, evAnd, evOr, evO, evC, evIt, startD, List.map_cons, List.map_nil, List.length_cons, List.length_nil, List.cons_append, List.nil_append, List.replicate, List.getElem?_cons_zero, List.getElem?_cons_succ, Option.join_some, List.set_cons_zero, List.set_cons_succ, fromO_some, bnd_ret, bnd_assoc, constD, cmpD, binD, biD, bindT, setAll, asB_bnd, asB_bl, if_true, if_false, Bool.false_eq_true, Bool.not_true, Bool.not_false, LE0, LE1, LE2, LE3, LE4]
  rw [bnd_ok rw_]
  simp only [evSs, evS, evE, evEs, evAnd, evOr, evO, evC, evIt, startD, List.map_cons, List.map_nil, List.length_cons, List.length_nil, List.cons_append, List.nil_append, List.replicate, List.getElem?_cons_zero, List.getElem?_cons_succ, Option.join_some, List.set_cons_zero, List.set_cons_succ, fromO_some, bnd_ret, bnd_assoc, constD, cmpD, binD, biD, bindT, setAll, asB_bnd, asB_bl, if_true, if_false, Bool.false_eq_true, Bool.not_true, Bool.not_false, LE0, LE1, LE2, LE3, LE4, n0]
  rw [bnd_ok (asB_at (eq_nil0 get_last))]
  simp only [evSs, evS, evE, evEs, evAnd, evOr, evO, evC, evIt, startD, List.map_cons, List.map_nil, List.length_cons, List.length_nil, List.cons_append, List.nil_append, List.replicate, List.getElem?_cons_zero, List.getElem?_cons_succ, Option.join_some, List.set_cons_zero, List.set_cons_succ, fromO_some, bnd_ret, bnd_assoc, constD, cmpD, binD, biD, bindT, setAll, asB_bnd, asB_bl, if_true, if_false, Bool.false_eq_true, Bool.not_true, Bool.not_false, LE0, LE1, LE2, LE3, LE4, n0]
  rw [bnd_ok ww]
  simp only [evSs, evS, evE, evEs, evAnd, evOr, evO, evC, evIt, startD, List.map_cons, List.map_nil, List.length_cons, List.length_nil, List.cons_append, List.nil_append, List.replicate, List.getElem?_cons_zero, List.getElem?_cons_succ, Option.join_some, List.set_cons_zero, List.set_cons_succ, fromO_some, bnd_ret, bnd_assoc, constD, cmpD, binD, biD, bindT, setAll, asB_bnd, asB_bl, if_true, if_false, Bool.false_eq_true, Bool.not_true, Bool.not_false, LE0, LE1, LE2, LE3, LE4, eq_str oE oE]
  rfl
theorem turns_ev {x0 : Option D} {Q : Fl → List Cell → Prop} : ∀ (ts : List D) (rest : List Cell) (x2 x3 x4 x5 x6 x7 x8 x9 x10 x11 : Option D), flatCs rest = true →
    (∀ y2 y3 y4 y5 y6 y7 y8 y9 y10 y11 r, Q (.nx [x0, some (bx []), y2, y3, y4, y5, y6, y7, y8, y9, y10, y11]) r) → Ev [] (forL [] (bindT (.name 2)) (evSs cf lbody) ts [x0, some (bx []), x2, x3, x4, x5, x6, x7, x8, x9, x10, x11]) rest Q
  | [], rest, x2, x3, x4, x5, x6, x7, x8, x9, x10, x11, hr, q => by
    unfold forL
    rw [chk_nil, bnd_ret]
    exact .ret (q _ _ _ _ _ _ _ _ _ _ _)
  | t :: ts, rest, x2, x3, x4, x5, x6, x7, x8, x9, x10, x11, hr, q => by
    unfold forL
    rw [chk_nil, bnd_ret]
    show Ev [] (bnd (evSs cf lbody [x0, some (bx []), some t, x3, x4, x5, x6, x7, x8, x9, x10, x11]) _) rest Q
    refine .bnd (turn_ev hr fun y3 y4 y5 y6 y7 y8 y9 y10 y11 r hr2 => ?_)
    exact turns_ev ts r _ _ _ _ _ _ _ _ _ _ hr2 q
theorem law_true (ns : List Int) (hl : ns.length ≤ 63) : ∃ η, evF fns 50 51 [.scr (ns.map D.int)] [] = .ok (.bl true) η := by
  obtain ⟨s, hs, h1⟩ := begun_ok a22 (k := 48) (p := []) (ns := ns)
  have r4 : itR1 (.int 4) = Ms.ret ((List.range 4).map fun i => .int ((i : Nat) : Int), []) := rng1 (n := 4) (by decide)
  obtain ⟨fl, l2, s2, r2, o2, e2, q2⟩ := turns_ev (x0 := some (.scr (ns.map D.int))) (Q := fun fl r => ∃ ρ, fl = .nx ρ) ((List.range 4).map fun i => .int ((i : Nat) : Int)) [] none none none none none none none none none none rfl (fun _ _ _ _ _ _ _ _ _ _ _ => ⟨_, rfl⟩) ns s ⟨hs, by omega⟩
  obtain ⟨ρ, rfl⟩ := q2
  obtain ⟨η3, e3⟩ := last_ev (rest := []) (ρ := ρ) (η := boxed [] l2 s2 r2)
  rw [evF_at a51 rfl]
  have e : evSs (evF fns 49) c_law (startD 12 [.scr (ns.map D.int)]) [] = .ok (.rt (.bl true)) η3 := by
    rw [show c_law = .cons (.asg (.name 1) (.call 22 (.cons (.loc 0) .nil))) (.cons (.for_ (.name 2) (.rng1 (.cst (.int 4))) lbody) (.cons (.ret (.and_ (.cons (.cmp .eq (.call 41 (.cons (.cst (.str "")) .nil)) (.lst false .nil)) (.cons (.cmp .eq (.call 40 (.cons (.lst false .nil) .nil)) (.cst (.str ""))) .nil)))) .nil)) from rfl]
    rw [evSs_step]
    have g1 : evS (evF fns 49) (.asg (.name 1) (.call 22 (.cons (.loc 0) .nil))) (startD 12 [.scr (ns.map D.int)]) [] = .ok (.nx [some (.scr (ns.map D.int)), some (bx []), none, none, none, none, none, none, none, none, none, none]) (boxed [] ns s []) := by
      simp only [evSs, evS, evE, evEs, evAnd, evOr, evO, evC, evIt, startD, List.map_cons, List.map_nil, List.length_cons, List.length_nil, List.cons_append, List.nil_append, List.replicate, List.getElem?_cons_zero, List.getElem?_cons_succ, Option.join_some, List.set_cons_zero, List.set_cons_succ, fromO_some, bnd_ret, bnd_assoc, constD, cmpD, binD, biD, bindT, setAll, asB_bnd, asB_bl, if_true, if_false, Bool.false_eq_true, Bool.not_true, Bool.not_false, LE0, LE1, LE2, LE3, LE4]
      exact (bnd_ok h1).trans rfl
    rw [bnd_ok g1]
    try dsimp only
    rw [evSs_step]
    have g2 : evS (evF fns 49) (.for_ (.name 2) (.rng1 (.cst (.int 4))) lbody) [some (.scr (ns.map D.int)), some (bx []), none, none, none, none, none, none, none, none, none, none] (boxed [] ns s []) = .ok (.nx ρ) (boxed [] l2 s2 r2) := by
      conv => lhs; unfold evS
      simp only [evIt, evE, constD, fromO_some, bnd_ret, bnd_assoc, r4]
      exact e2
    rw [bnd_ok g2]
    try dsimp only
    rw [evSs_step, bnd_ok e3]
    rfl
  rw [e]
  exact trunc_any
end
end K12
open PySem PySem.W PySem.Calls PyProof.Rows
theorem PySem.Challenge.cw_markscript_k12_papers_and_works_written_holds : PySem.Challenge.rw_markscript_k12_papers_and_works_written.Holds := by
  exact PySem.Challenge.k12_from K12.law_true
end
