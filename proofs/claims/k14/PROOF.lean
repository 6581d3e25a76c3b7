import PyProof.Rows.All
import Wide.All
import OpenK.AllK
import Wide.FinOn
import HandS.ForSpec
import HandS.ForMost
import HandS.Walk
import HandS.TupAny
import HandS.TupMul
import HandS.Deep
import HandS.Lambda
import HandS.HeadHook4
import HandS.IsInst
import HandS.Style
import HandS.SortInts
import PyProof.P3Statements
import PyProof.EqLayable
import PyProof.ListStr
import HandS.SetFor
import HandS.ExcInit
import KE.GoesEnum
import HandS.Head0
import HandS.Head1
import HandS.Head2
import HandS.HeadEnd
import HandS.HeadHook1
import HandS.HeadHook2
import HandS.Defaults
import HandS.ExcIs
import HandS.ExcField
import HandS.ClsMeth
import HandS.HeadWalk
import PyProof.StrLawsChain
import PyProof.Rows.StrSplitJoin
import PyProof.Rows.StrItems
import PySem.Challenge.RW_markscript_k14_works_texts_refused
section
set_option Elab.async false
set_option linter.all false
set_option maxRecDepth 100000
set_option maxHeartbeats 4000000
/-! Values, cells and their relation with the heap. -/
namespace Ms
open PySem L2

/-- data: what cannot change is written out, what can is a cell -/
inductive D where
  | non | bl (b : Bool) | int (i : Int) | str (s : Str) | tup (xs : List D) | fl (xs : List D) | scr (xs : List D) | ref (n : Nat)
  deriving Inhabited

inductive Cell where
  | lst (xs : List D)
  /-- the table of code objects that belongs to the def at p; q: the name that they bear -/
  | tab (p : Str × Option Str) (q : Str)
  | dead

/-- how a run ends -/
inductive Res (α : Type) where
  | ok (a : α) (η : List Cell)
  | exc (c : Nat) (fs : List (Str × D)) (η : List Cell)
  | bad

abbrev M (α : Type) := List Cell → Res α

def Res.bind {α β : Type} (r : Res α) (k : α → M β) : Res β :=
  match r with
  | .ok a η => k a η
  | .exc c fs η => .exc c fs η
  | .bad => .bad
def ret {α : Type} (a : α) : M α := fun η => .ok a η
def bad {α : Type} : M α := fun _ => .bad
def bnd {α β : Type} (m : M α) (k : α → M β) : M β := fun η => (m η).bind k

section
variable (K : PySem.W.Frag) (G : Hp) (ι : List Addr)
mutual
/-- the value in the heap that a datum stands for -/
inductive Rep : V → D → Prop where
  | non : Rep .non .non
  | bl (b : Bool) : Rep (.bl b) (.bl b)
  | int (i : Int) : Rep (.int i) (.int i)
  | str (s : Str) : Rep (.str s) (.str s)
  | tup {a : Addr} {vs : List V} {ds : List D} : G a = some (.tup vs) → Reps vs ds → Rep (.ref a) (.tup ds)
  | fl {a : Addr} {vs : List V} {ds : List D} : G a = some (.lst vs) → Reps vs ds → Rep (.ref a) (.fl ds)
  | scr {a : Addr} {vs : List V} {ds : List D} : SqL K G a vs → Reps vs ds → Rep (.ref a) (.scr ds)
  | ref {n : Nat} {a : Addr} : ι[n]? = some a → Rep (.ref a) (.ref n)
inductive Reps : List V → List D → Prop where
  | nil : Reps [] []
  | cons {v : V} {vs : List V} {d : D} {ds : List D} : Rep v d → Reps vs ds → Reps (v :: vs) (d :: ds)
end
end

/-- more is known -/
structure Ext (G : Hp) (ι : List Addr) (G' : Hp) (ι' : List Addr) : Prop where
  g : Same G G'
  i : ι <+: ι'
theorem Ext.refl (G : Hp) (ι : List Addr) : Ext G ι G ι := ⟨Same.refl G, List.prefix_refl ι⟩
theorem Ext.trans {G G1 G2 : Hp} {ι ι1 ι2 : List Addr} (a : Ext G ι G1 ι1) (b : Ext G1 ι1 G2 ι2) : Ext G ι G2 ι2 := ⟨a.g.trans b.g, a.i.trans b.i⟩

theorem prefix_get {α : Type} {l l' : List α} (h : l <+: l') {n : Nat} {a : α} (e : l[n]? = some a) : l'[n]? = some a := by
  obtain ⟨t, rfl⟩ := h
  obtain ⟨h1, h2⟩ := List.getElem?_eq_some_iff.mp e
  rw [List.getElem?_append_left h1]
  exact e

theorem sqT_same {K : PySem.W.Frag} {G G' : Hp} {a : Addr} {xs : List V} (e : Same G G') (h : SqT K G a xs) : SqT K G' a xs := by
  rcases h with (h | ⟨o, h⟩) | h
  · exact .inl (.inl (e _ _ h))
  · exact .inl (.inr ⟨o, e _ _ h⟩)
  · exact .inr h

section
variable {K : PySem.W.Frag} {G G' : Hp} {ι ι' : List Addr}
mutual
theorem Rep.mono (x : Ext G ι G' ι') : ∀ {v : V} {d : D}, Rep K G ι v d → Rep K G' ι' v d
  | _, _, .non => .non
  | _, _, .bl b => .bl b
  | _, _, .int i => .int i
  | _, _, .str s => .str s
  | _, _, .tup h t => .tup (x.g _ _ h) (Reps.mono x t)
  | _, _, .fl h t => .fl (x.g _ _ h) (Reps.mono x t)
  | _, _, .scr h t => .scr (x.g.seq h) (Reps.mono x t)
  | _, _, .ref e => .ref (prefix_get x.i e)
theorem Reps.mono (x : Ext G ι G' ι') : ∀ {vs : List V} {ds : List D}, Reps K G ι vs ds → Reps K G' ι' vs ds
  | _, _, .nil => .nil
  | _, _, .cons h t => .cons (Rep.mono x h) (Reps.mono x t)
end
theorem Reps.length : ∀ {vs : List V} {ds : List D}, Reps K G ι vs ds → vs.length = ds.length
  | _, _, .nil => rfl
  | _, _, .cons _ t => congrArg (· + 1) (Reps.length t)
theorem Reps.get : ∀ {vs : List V} {ds : List D} {i : Nat} {d : D}, Reps K G ι vs ds → ds[i]? = some d → ∃ v, vs[i]? = some v ∧ Rep K G ι v d
  | _, _, _, _, .nil, e => by simp at e
  | _, _, 0, _, .cons h _, e => by
    simp at e
    subst e
    exact ⟨_, rfl, h⟩
  | _, _, i + 1, d, .cons _ t, e => by
    obtain ⟨v, h1, h2⟩ := Reps.get (i := i) (d := d) t (by simpa using e)
    exact ⟨v, by simpa using h1, h2⟩
theorem Reps.getV : ∀ {vs : List V} {ds : List D} {i : Nat} {v : V}, Reps K G ι vs ds → vs[i]? = some v → ∃ d, ds[i]? = some d ∧ Rep K G ι v d
  | _, _, _, _, .nil, e => by simp at e
  | _, _, 0, _, .cons h _, e => by
    simp at e
    subst e
    exact ⟨_, rfl, h⟩
  | _, _, i + 1, d, .cons _ t, e => by
    obtain ⟨v, h1, h2⟩ := Reps.getV (i := i) (v := d) t (by simpa using e)
    exact ⟨v, by simpa using h1, h2⟩
theorem Reps.append : ∀ {vs ws : List V} {ds es : List D}, Reps K G ι vs ds → Reps K G ι ws es → Reps K G ι (vs ++ ws) (ds ++ es)
  | _, _, _, _, .nil, s => s
  | _, _, _, _, .cons h t, s => .cons h (Reps.append t s)
theorem Reps.take (n : Nat) : ∀ {vs : List V} {ds : List D}, Reps K G ι vs ds → Reps K G ι (vs.take n) (ds.take n) := by
  induction n with
  | zero => intro vs ds _; simp; exact .nil
  | succ n ih =>
    intro vs ds h
    cases h with
    | nil => exact .nil
    | cons h t => exact .cons h (ih t)
theorem Reps.drop (n : Nat) : ∀ {vs : List V} {ds : List D}, Reps K G ι vs ds → Reps K G ι (vs.drop n) (ds.drop n) := by
  induction n with
  | zero => intro vs ds h; exact h
  | succ n ih =>
    intro vs ds h
    cases h with
    | nil => exact .nil
    | cons h t => exact ih t
theorem Reps.set {v : V} {d : D} (r : Rep K G ι v d) : ∀ {vs : List V} {ds : List D} (i : Nat), Reps K G ι vs ds → Reps K G ι (vs.set i v) (ds.set i d)
  | _, _, _, .nil => .nil
  | _, _, 0, .cons _ t => .cons r t
  | _, _, i + 1, .cons q t => .cons q (Reps.set r i t)
theorem Reps.reverse {vs : List V} {ds : List D} (h : Reps K G ι vs ds) : Reps K G ι vs.reverse ds.reverse := by
  induction vs generalizing ds with
  | nil => cases h; exact .nil
  | cons v vs ih =>
    cases h with
    | cons a t =>
      rw [List.reverse_cons, List.reverse_cons]
      exact (ih t).append (.cons a .nil)
end

/-- what a cell is in the heap -/
def CellOk (K : PySem.W.Frag) (G : Hp) (ι : List Addr) (H : Hp) (a : Addr) : Cell → Prop
  | .lst ds => ∃ vs, H a = some (.lst vs) ∧ Reps K G ι vs ds
  | .tab p q => a = (He.cT K p).2 ∧ ∃ ps : Array Value, H a = some (.tbl ps) ∧ TriplesOk ps.toList ∧ ∀ (pos : Pos) (cv : Value), codeAmong pos ps.toList = some cv → ∃ c, cv = .ref c ∧ G c = some (LamX.CodeO c q)
  | .dead => G a ≠ none
theorem CellOk.mono {K : PySem.W.Frag} {G G' : Hp} {ι ι' : List Addr} {H H' : Hp} {a : Addr} {c : Cell} (x : Ext G ι G' ι') (e : H' a = H a) (h : CellOk K G ι H a c) : CellOk K G' ι' H' a c := by
  cases c with
  | lst ds =>
    obtain ⟨vs, h1, h2⟩ := h
    exact ⟨vs, e.trans h1, h2.mono x⟩
  | tab p q =>
    obtain ⟨ha, ps, h1, h2, h3⟩ := h
    exact ⟨ha, ps, e.trans h1, h2, fun pos cv z => let ⟨c, z1, z2⟩ := h3 pos cv z; ⟨c, z1, x.g _ _ z2⟩⟩
  | dead =>
    cases q : G a with
    | none => exact absurd q h
    | some o =>
      show G' a ≠ none
      rw [x.g _ _ q]
      exact fun z => nomatch z

/-- the heap holds what is known: G what never changes, ι the places of the cells -/
structure RS (K : PySem.W.Frag) (G H : Hp) (ι : List Addr) (η : List Cell) : Prop where
  sub : Same G H
  len : ι.length = η.length
  nd : ι.Nodup
  out : ∀ (n : Nat) (a : Addr) (c : Cell), ι[n]? = some a → η[n]? = some c → c ≠ Cell.dead → G a = none
  cells : ∀ (n : Nat) (a : Addr) (c : Cell), ι[n]? = some a → η[n]? = some c → CellOk K G ι H a c
  there : ∀ (n : Nat) (a : Addr), ι[n]? = some a → H a ≠ none
  ntb : ∀ (b : Addr) (ps : Array Value), G b ≠ some (.tbl ps)

/-- the slots -/
structure Slots (K : PySem.W.Frag) (G : Hp) (ι : List Addr) (σ : L2.St) (ρ : List (Option D)) : Prop where
  len : σ.length = ρ.length
  at_ : ∀ (i : Nat) (d : D), ρ[i]? = some (some d) → ∃ v, σ[i]? = some (some v) ∧ Rep K G ι v d
theorem Slots.mono {K : PySem.W.Frag} {G G' : Hp} {ι ι' : List Addr} {σ : L2.St} {ρ : List (Option D)} (x : Ext G ι G' ι') (h : Slots K G ι σ ρ) : Slots K G' ι' σ ρ :=
  ⟨h.len, fun i d e => let ⟨v, a, b⟩ := h.at_ i d e; ⟨v, a, b.mono x⟩⟩
theorem Slots.set {K : PySem.W.Frag} {G : Hp} {ι : List Addr} {σ : L2.St} {ρ : List (Option D)} {v : V} {d : D} (h : Slots K G ι σ ρ) (i : Nat) (r : Rep K G ι v d) : Slots K G ι (σ.set i (some v)) (ρ.set i (some d)) := by
  refine ⟨by simp [h.len], fun j e q => ?_⟩
  by_cases hj : i = j
  · subst hj
    by_cases hi : i < ρ.length
    · rw [List.getElem?_set_self hi] at q
      cases q
      exact ⟨v, List.getElem?_set_self (by rw [h.len]; exact hi), r⟩
    · rw [List.getElem?_eq_none (by simpa using hi)] at q
      cases q
  · rw [List.getElem?_set_ne hj] at q ⊢
    exact h.at_ j e q

/-- nothing stands there, or a table -/
def Fr1 (H : Hp) (b : Addr) : Prop := ∀ o, H b = some o → ∃ ps, o = HO.tbl ps
theorem Fr1.none {H : Hp} {b : Addr} (e : H b = none) : Fr1 H b := fun o z => by rw [e] at z; cases z
/-- .. and all that was tracked stands but for the cells (and tables); new cells are new -/
structure Stp (G H : Hp) (ι : List Addr) (G' H' : Hp) (ι' : List Addr) : Prop where
  x : Ext G ι G' ι'
  fr : ∀ (b : Addr) (o : HO), H b = some o → (∀ ps, o ≠ .tbl ps) → b ∉ ι → H' b = some o
  nw : ∀ b : Addr, b ∈ ι' → b ∈ ι ∨ Fr1 H b
  gn : ∀ (b : Addr) (o : HO), G' b = some o → G b = some o ∨ Fr1 H b ∨ b ∈ ι ∨ (H b = some o ∧ ∀ xs, o ≠ .lst xs)
theorem Stp.refl (G H : Hp) (ι : List Addr) : Stp G H ι G H ι := ⟨Ext.refl G ι, fun _ _ e _ _ => e, fun _ h => .inl h, fun _ _ h => .inl h⟩
theorem Stp.trans {G H G1 H1 G2 H2 : Hp} {ι ι1 ι2 : List Addr} (a : Stp G H ι G1 H1 ι1) (b : Stp G1 H1 ι1 G2 H2 ι2) : Stp G H ι G2 H2 ι2 := by
  have gone : ∀ c : Addr, Fr1 H1 c → c ∈ ι ∨ Fr1 H c := fun c h => by
    by_cases hc : c ∈ ι
    · exact .inl hc
    · refine .inr fun o q => ?_
      by_cases ho : ∃ ps, o = HO.tbl ps
      · exact ho
      · exact h o (a.fr c o q (fun ps z => ho ⟨ps, z⟩) hc)
  have out : ∀ (c : Addr) (o : HO), H c = some o → (∀ ps, o ≠ .tbl ps) → c ∉ ι → c ∉ ι1 := fun c o e nt n m => by
    rcases a.nw c m with h | h
    · exact n h
    · obtain ⟨ps, z⟩ := h o e
      exact nt ps z
  refine ⟨a.x.trans b.x, fun c o e nt n => b.fr c o (a.fr c o e nt n) nt (out c o e nt n), fun c m => ?_, fun c o e => ?_⟩
  · rcases b.nw c m with h | h
    · exact a.nw c h
    · exact gone c h
  · have or3 : ∀ {p q r : Prop}, p ∨ q → q ∨ p ∨ r := fun h => h.elim (fun h => .inr (.inl h)) .inl
    rcases b.gn c o e with h | h | h | ⟨h, hl⟩
    · exact a.gn c o h
    · exact .inr (or3 (gone c h))
    · exact .inr (or3 (a.nw c h))
    · by_cases hc : c ∈ ι
      · exact .inr (.inr (.inl hc))
      · by_cases hf : Fr1 H c
        · exact .inr (.inl hf)
        · have : ∃ u, H c = some u ∧ ∀ ps, u ≠ HO.tbl ps := by
            cases q : H c with
            | none => exact absurd (Fr1.none q) hf
            | some u => exact ⟨u, rfl, fun ps z => hf fun o' e' => by rw [q] at e'; cases e'; exact ⟨ps, z⟩⟩
          obtain ⟨u, q, nt⟩ := this
          have q2 := a.fr c u q nt hc
          rw [h] at q2
          cases q2
          exact .inr (.inr (.inr ⟨q, hl⟩))

/-- an exception that leaves: its class at C (of the table cls), its own dict -/
def Post {α : Type} (cls : Nat → Addr) (K : PySem.W.Frag) (G H : Hp) (ι : List Addr) (r : Res α) (Q : α → Hp → List Addr → List Cell → Hp → Prop) (W : Value → Option Addr → Hp → Prop) : Prop :=
  match r with
  | .ok a η' => ∀ G' ι' H', Stp G H ι G' H' ι' → RS K G' H' ι' η' → Q a G' ι' η' H'
  | .exc c fs η' => ∀ G' ι' H' dx fvs, Stp G H ι G' H' ι' → RS K G' H' ι' η' → H' dx = some (.xd fvs) → fvs.map (·.1) = fs.map (·.1) → Reps K G' ι' (fvs.map (·.2)) (fs.map (·.2)) → W (.ref (cls c)) (some dx) H'
  | .bad => False

section
variable {α β : Type} {cls : Nat → Addr} {K : PySem.W.Frag} {G H G1 H1 : Hp} {ι ι1 : List Addr}
theorem Post.ext {r : Res α} {Q : α → Hp → List Addr → List Cell → Hp → Prop} {W : Value → Option Addr → Hp → Prop} (x : Stp G H ι G1 H1 ι1) (h : Post cls K G H ι r Q W) : Post cls K G1 H1 ι1 r Q W := by
  cases r with
  | ok a η => exact fun G' ι' H' y => h G' ι' H' (x.trans y)
  | exc c fs η => exact fun G' ι' H' dx fvs y => h G' ι' H' dx fvs (x.trans y)
  | bad => exact h
theorem Post.imp {r : Res α} {Q Q' : α → Hp → List Addr → List Cell → Hp → Prop} {W W' : Value → Option Addr → Hp → Prop} (h : Post cls K G H ι r Q W) (hq : ∀ a G' ι' η' H', Stp G H ι G' H' ι' → RS K G' H' ι' η' → Q a G' ι' η' H' → Q' a G' ι' η' H')
    (hw : ∀ c d H', W c d H' → W' c d H') : Post cls K G H ι r Q' W' := by
  cases r with
  | ok a η => exact fun G' ι' H' y z => hq a G' ι' η H' y z (h G' ι' H' y z)
  | exc c fs η => exact fun G' ι' H' dx fvs y z a b e => hw _ _ _ (h G' ι' H' dx fvs y z a b e)
  | bad => exact h
theorem Post.bind {m : Res α} {k : α → M β} {Q : β → Hp → List Addr → List Cell → Hp → Prop} {W : Value → Option Addr → Hp → Prop} (h : Post cls K G H ι (m.bind k) Q W) :
    Post cls K G H ι m (fun a G1 ι1 η1 H1 => Post cls K G1 H1 ι1 (k a η1) Q W) W := by
  cases m with
  | ok a η => exact fun G' ι' H' y z => Post.ext (r := k a η) y h
  | exc c fs η => exact h
  | bad => exact h
end

/-! ### the heap's steps -/
section
variable {K : PySem.W.Frag} {G H : Hp} {ι : List Addr} {η : List Cell}
theorem ext_new {p : Addr} {o : HO} (e : G p = none) : Ext G ι (upd G p o) ι := ⟨fun b u q => by rw [upd_ne (ne_of_none q e)]; exact q, List.prefix_refl ι⟩
/-- a new thing that never changes -/
theorem RS.frozen {p : Addr} {o : HO} (h : RS K G H ι η) (e : H p = none) (nt : ∀ ps, o ≠ .tbl ps := by intro ps z; cases z) : RS K (upd G p o) (upd H p o) ι η := by
  have eG : G p = none := h.sub.free e
  have ne : ∀ (n : Nat) (a : Addr), ι[n]? = some a → a ≠ p := fun n a q z => h.there n a q (by rw [z]; exact e)
  refine ⟨fun b u q => ?_, h.len, h.nd, fun n a c q q2 q3 => ?_, fun n a c q1 q2 => ?_, fun n a q => ?_, fun b ps => ?_⟩
  · by_cases hb : b = p
    · subst hb; rw [upd_same] at q ⊢; exact q
    · rw [upd_ne hb] at q ⊢; exact h.sub b u q
  · rw [upd_ne (ne n a q)]; exact h.out n a c q q2 q3
  · exact (h.cells n a c q1 q2).mono (ext_new eG) (by rw [upd_ne (ne n a q1)])
  · rw [upd_ne (ne n a q)]; exact h.there n a q
  · by_cases hb : b = p
    · rw [hb, upd_same]; exact fun z => nt ps (Option.some.inj z)
    · rw [upd_ne hb]; exact h.ntb b ps
theorem snoc_get {α : Type} {l : List α} {p a : α} {n : Nat} (q : (l ++ [p])[n]? = some a) : (l[n]? = some a ∧ n < l.length) ∨ (n = l.length ∧ a = p) := by
  by_cases hn : n < l.length
  · rw [List.getElem?_append_left hn] at q; exact .inl ⟨q, hn⟩
  · rw [List.getElem?_append_right (by omega)] at q
    by_cases h0 : n - l.length = 0
    · rw [h0] at q
      simp at q
      exact .inr ⟨by omega, q.symm⟩
    · rw [List.getElem?_eq_none (by simp; omega)] at q; cases q
/-- a new cell -/
theorem RS.cell {p : Addr} {o : HO} {c : Cell} (h : RS K G H ι η) (e : H p = none) (hc : CellOk K G (ι ++ [p]) (upd H p o) p c) : RS K G (upd H p o) (ι ++ [p]) (η ++ [c]) := by
  have eG : G p = none := h.sub.free e
  have ne : ∀ (n : Nat) (a : Addr), ι[n]? = some a → a ≠ p := fun n a q z => h.there n a q (by rw [z]; exact e)
  refine ⟨fun b u q => ?_, by simp [h.len], ?_, fun n a c' q q2 q3 => ?_, fun n a c' q1 q2 => ?_, fun n a q => ?_, h.ntb⟩
  · rw [upd_ne (ne_of_none (h.sub b u q) e)]; exact h.sub b u q
  · rw [List.nodup_append]
    refine ⟨h.nd, by simp, fun a ha b hb => ?_⟩
    obtain ⟨n, hn, rfl⟩ := List.mem_iff_getElem.mp ha
    simp at hb
    subst hb
    exact ne n _ (List.getElem?_eq_getElem hn)
  · rcases snoc_get q with ⟨q, hn⟩ | ⟨_, rfl⟩
    · rw [List.getElem?_append_left (by rw [← h.len]; exact hn)] at q2
      exact h.out n a c' q q2 q3
    · exact eG
  · rcases snoc_get q1 with ⟨q, hn⟩ | ⟨hn, rfl⟩
    · rw [List.getElem?_append_left (by rw [← h.len]; exact hn)] at q2
      exact (h.cells n a c' q q2).mono ⟨Same.refl G, List.prefix_append ι [p]⟩ (by rw [upd_ne (ne n a q)])
    · rw [hn, h.len, List.getElem?_append_right (Nat.le_refl _)] at q2
      simp at q2
      subst q2
      exact hc
  · rcases snoc_get q with ⟨q, _⟩ | ⟨_, rfl⟩
    · rw [upd_ne (ne n a q)]; exact h.there n a q
    · rw [upd_same]; simp
theorem RS.inj (h : RS K G H ι η) {n m : Nat} {a : Addr} (e : ι[n]? = some a) (q : ι[m]? = some a) : m = n := by
  obtain ⟨h1, e1⟩ := List.getElem?_eq_some_iff.mp e
  obtain ⟨h2, e2⟩ := List.getElem?_eq_some_iff.mp q
  exact (List.getElem_inj h.nd).mp (e2.trans e1.symm)
/-- a cell is written -/
theorem RS.write {n : Nat} {a : Addr} {o : HO} {c c0 : Cell} (h : RS K G H ι η) (e : ι[n]? = some a) (e0 : η[n]? = some c0) (l0 : c0 ≠ Cell.dead) (hc : CellOk K G ι (upd H a o) a c) : RS K G (upd H a o) ι (η.set n c) := by
  have eG : G a = none := h.out n a c0 e e0 l0
  have hm : n < η.length := (List.getElem?_eq_some_iff.mp e0).1
  refine ⟨fun b u q => ?_, by simp [h.len], h.nd, fun m b c' q q2 q3 => ?_, fun m b c' q1 q2 => ?_, fun m b q => ?_, h.ntb⟩
  · rw [upd_ne (ne_of_none q eG)]; exact h.sub b u q
  · by_cases hb : b = a
    · rw [hb]; exact eG
    · have hn : n ≠ m := fun z => hb (by
        rw [z, q] at e
        exact Option.some.inj e)
      rw [List.getElem?_set_ne hn] at q2
      exact h.out m b c' q q2 q3
  · by_cases hb : b = a
    · subst hb
      have := h.inj e q1
      subst this
      rw [List.getElem?_set_self hm] at q2
      cases q2
      exact hc
    · have hn : n ≠ m := fun z => hb (by
        rw [z, q1] at e
        exact Option.some.inj e)
      rw [List.getElem?_set_ne hn] at q2
      exact (h.cells m b c' q1 q2).mono (Ext.refl G ι) (by rw [upd_ne hb])
  · by_cases hb : b = a
    · subst hb; rw [upd_same]; simp
    · rw [upd_ne hb]; exact h.there m b q
/-- a cell is no more: its list never changes from now on -/
theorem RS.freeze {n : Nat} {a : Addr} {c0 : Cell} {o : HO} (h : RS K G H ι η) (e : ι[n]? = some a) (e0 : η[n]? = some c0) (l0 : c0 ≠ Cell.dead) (hl : H a = some o) (nt : ∀ ps, o ≠ .tbl ps := by intro ps z; cases z) :
    Stp G H ι (upd G a o) H ι ∧ RS K (upd G a o) H ι (η.set n .dead) := by
  have eG : G a = none := h.out n a c0 e e0 l0
  refine ⟨⟨ext_new eG, fun _ _ q _ _ => q, fun _ q => .inl q, fun b u q => by
    by_cases hb : b = a
    · rw [hb]; exact .inr (.inr (.inl (by
        obtain ⟨h1, h2⟩ := List.getElem?_eq_some_iff.mp e
        rw [← h2]; exact List.getElem_mem h1)))
    · rw [upd_ne hb] at q; exact .inl q⟩, fun b u q => ?_, by simp [h.len], h.nd, fun m b c' q q2 q3 => ?_, fun m b c' q1 q2 => ?_, h.there, fun b ps => by
    by_cases hb : b = a
    · rw [hb, upd_same]; exact fun z => nt ps (Option.some.inj z)
    · rw [upd_ne hb]; exact h.ntb b ps⟩
  · by_cases hb : b = a
    · rw [hb] at q ⊢; rw [upd_same] at q; rw [hl, q]
    · rw [upd_ne hb] at q; exact h.sub b u q
  · by_cases hn : n = m
    · subst hn
      have hm : n < η.length := (List.getElem?_eq_some_iff.mp e0).1
      rw [List.getElem?_set_self hm] at q2
      cases q2
      exact absurd rfl q3
    · rw [List.getElem?_set_ne hn] at q2
      have hb : b ≠ a := fun z => hn ((h.inj e (by rw [← z]; exact q)).symm)
      rw [upd_ne hb]
      exact h.out m b c' q q2 q3
  · by_cases hn : n = m
    · subst hn
      have hm : n < η.length := (List.getElem?_eq_some_iff.mp e0).1
      rw [List.getElem?_set_self hm] at q2
      cases q2
      rw [e] at q1
      cases q1
      show upd G a o a ≠ none
      rw [upd_same]
      exact fun z => nomatch z
    · rw [List.getElem?_set_ne hn] at q2
      exact (h.cells m b c' q1 q2).mono (ext_new eG) rfl
theorem RS.stpNew {p : Addr} {o : HO} (h : RS K G H ι η) (e : H p = none) : Stp G H ι (upd G p o) (upd H p o) ι :=
  ⟨ext_new (h.sub.free e), fun b u q _ _ => by rw [upd_ne (ne_of_none q e)]; exact q, fun _ q => .inl q, fun b u q => by
    by_cases hb : b = p
    · rw [hb]; exact .inr (.inl (Fr1.none e))
    · rw [upd_ne hb] at q; exact .inl q⟩
theorem RS.stpCell {p : Addr} {o : HO} (e : H p = none) : Stp G H ι G (upd H p o) (ι ++ [p]) :=
  ⟨⟨Same.refl G, List.prefix_append ι [p]⟩, fun b u q _ _ => by rw [upd_ne (ne_of_none q e)]; exact q, fun b q => (List.mem_append.mp q).imp id fun z => by simp at z; rw [z]; exact Fr1.none e, fun _ _ q => .inl q⟩
theorem RS.stpWrite {n : Nat} {a : Addr} {o : HO} (e : ι[n]? = some a) : Stp G H ι G (upd H a o) ι :=
  ⟨Ext.refl G ι, fun b u q _ m => by
    rw [upd_ne]
    · exact q
    · intro z
      obtain ⟨h1, h2⟩ := List.getElem?_eq_some_iff.mp e
      exact m (by rw [z, ← h2]; exact List.getElem_mem h1), fun _ q => .inl q, fun _ _ q => .inl q⟩
end
end Ms
end
section
set_option Elab.async false
set_option linter.all false
set_option maxRecDepth 100000
set_option maxHeartbeats 4000000
/-! What operators and built-ins do with data, and that the heap does likewise. -/
namespace Ms
open PySem L2

def LIM : Nat := 1000000
theorem lim_line : LIM ≤ sizeLine := by rw [sizeLine_eq]; decide

/-- the value post -/
def PV (cls : Nat → Addr) (K : PySem.W.Frag) (G H : Hp) (ι : List Addr) (r : Res D) (Q : VK) (W : Value → Option Addr → Hp → Prop) : Prop :=
  Post cls K G H ι r (fun d G' ι' _ H' => ∀ v, Rep K G' ι' v d → Q v H') W
abbrev NoW : Value → Option Addr → Hp → Prop := fun _ _ _ => False

section
variable {cls : Nat → Addr} {K : PySem.W.Frag} {G H : Hp} {ι : List Addr} {η : List Cell} {Q : VK} {W : Value → Option Addr → Hp → Prop}
theorem PV.now {d : D} {v : V} (h : PV cls K G H ι (.ok d η) Q W) (s : RS K G H ι η) (r : Rep K G ι v d) : Q v H := h G ι H (Stp.refl G H ι) s v r
theorem sqT_upd {p : Addr} {vs : List V} : SqT K (upd G p (.tup vs)) p vs := .inl (.inl upd_same)
theorem PV.tup {ds : List D} {vs : List V} (h : PV cls K G H ι (.ok (.tup ds) η) Q W) (s : RS K G H ι η) (r : Reps K G ι vs ds) : ∀ p, H p = none → Q (.ref p) (upd H p (.tup vs)) := fun p e =>
  h _ ι _ (s.stpNew e) (s.frozen e) _ (.tup upd_same (r.mono (ext_new (s.sub.free e))))
theorem PV.fl {ds : List D} {vs : List V} (h : PV cls K G H ι (.ok (.fl ds) η) Q W) (s : RS K G H ι η) (r : Reps K G ι vs ds) : ∀ p, H p = none → Q (.ref p) (upd H p (.lst vs)) := fun p e =>
  h _ ι _ (s.stpNew e) (s.frozen e) _ (.fl upd_same (r.mono (ext_new (s.sub.free e))))
theorem PV.new {ds : List D} {vs : List V} (h : PV cls K G H ι (.ok (.ref η.length) (η ++ [.lst ds])) Q W) (s : RS K G H ι η) (r : Reps K G ι vs ds) : ∀ p, H p = none → Q (.ref p) (upd H p (.lst vs)) := fun p e => by
  have x : Ext G ι G (ι ++ [p]) := ⟨Same.refl G, List.prefix_append ι [p]⟩
  refine h G (ι ++ [p]) _ (RS.stpCell e) (s.cell e ⟨vs, upd_same, r.mono x⟩) _ (.ref ?_)
  rw [← s.len, List.getElem?_append_right (Nat.le_refl _)]
  simp
theorem PV.bad (h : PV cls K G H ι .bad Q W) : False := h
end

/-! ### looking at lists -/
def asL (η : List Cell) : D → Option (List D)
  | .fl xs => some xs
  | .ref n => match η[n]? with
    | some (.lst xs) => some xs
    | _ => none
  | _ => none
/-- lists, tuples, the script -/
def asQ (η : List Cell) : D → Option (List D)
  | .tup xs => some xs
  | .scr xs => some xs
  | d => asL η d
section
variable {K : PySem.W.Frag} {G H : Hp} {ι : List Addr} {η : List Cell}
theorem asL_ok {d : D} {v : V} {ds : List D} (s : RS K G H ι η) (r : Rep K G ι v d) (e : asL η d = some ds) : ∃ a vs, v = .ref a ∧ H a = some (.lst vs) ∧ Reps K G ι vs ds := by
  cases r with
  | fl h t =>
    cases e
    exact ⟨_, _, rfl, s.sub _ _ h, t⟩
  | @ref n a h =>
    unfold asL at e
    simp only at e
    split at e
    · rename_i xs hc
      cases e
      obtain ⟨vs, h1, h2⟩ := s.cells n a _ h hc
      exact ⟨a, vs, rfl, h1, h2⟩
    · cases e
  | _ => cases e
theorem asQ_ok {d : D} {v : V} {ds : List D} (s : RS K G H ι η) (r : Rep K G ι v d) (e : asQ η d = some ds) : ∃ a vs, v = .ref a ∧ (SqL K H a vs ∨ SqT K H a vs) ∧ Reps K G ι vs ds := by
  cases r with
  | tup h t =>
    cases e
    exact ⟨_, _, rfl, .inr (SqT.of (s.sub _ _ h)), t⟩
  | scr h t =>
    cases e
    exact ⟨_, _, rfl, .inl (s.sub.seq h), t⟩
  | @fl a vs ds h t =>
    cases e
    exact ⟨_, _, rfl, .inl (SqL.of (s.sub _ _ h)), t⟩
  | @ref n a h =>
    obtain ⟨b, vs, h1, h2, h3⟩ := asL_ok s (.ref h) (show asL η (.ref n) = some ds from e)
    exact ⟨b, vs, h1, .inl (SqL.of h2), h3⟩
  | _ => cases e
end

/-! ### data as the library's data -/
mutual
def toP : D → Option PyData
  | .non => some .none
  | .bl b => some (.bool b)
  | .int i => some (.int i)
  | .str s => some (.str s)
  | .tup xs => (toPs xs).map .tuple
  | .fl xs => (toPs xs).map .list
  | .scr _ => none
  | .ref _ => none
def toPs : List D → Option (List PyData)
  | [] => some []
  | d :: ds => match toP d, toPs ds with
    | some p, some ps => some (p :: ps)
    | _, _ => none
end
def derP (η : List Cell) : D → Option PyData
  | .ref n => match η[n]? with
    | some (.lst xs) => (toPs xs).map .list
    | _ => none
  | d => toP d
section
variable {K : PySem.W.Frag} {G H : Hp} {ι : List Addr} {η : List Cell}
mutual
theorem toP_ok (s : Same G H) : ∀ {v : V} {d : D} {p : PyData}, Rep K G ι v d → toP d = some p → Dp K H v p
  | _, _, _, .non, e => by cases e; exact .non
  | _, _, _, .bl b, e => by cases e; exact .bl b
  | _, _, _, .int b, e => by cases e; exact .int b
  | _, _, _, .str b, e => by cases e; exact .str b
  | _, _, _, .tup (ds := ds) h t, e => by
    cases q : toPs ds with
    | none => simp [toP, q] at e
    | some ps =>
      simp [toP, q] at e
      subst e
      exact .tup (SqT.of (s _ _ h)) (toPs_ok s t q)
  | _, _, _, .fl (ds := ds) h t, e => by
    cases q : toPs ds with
    | none => simp [toP, q] at e
    | some ps =>
      simp [toP, q] at e
      subst e
      exact .lst (SqL.of (s _ _ h)) (toPs_ok s t q)
  | _, _, _, .scr h t, e => by simp [toP] at e
  | _, _, _, .ref h, e => by simp [toP] at e
theorem toPs_ok (s : Same G H) : ∀ {vs : List V} {ds : List D} {ps : List PyData}, Reps K G ι vs ds → toPs ds = some ps → DpAll K H vs ps
  | _, _, _, .nil, e => by simp [toPs] at e; subst e; exact .nil
  | _, _, _, .cons (d := d) (ds := ds) h t, e => by
    cases q1 : toP d with
    | none => simp [toPs, q1] at e
    | some p =>
      cases q2 : toPs ds with
      | none => simp [toPs, q1, q2] at e
      | some ps =>
        simp [toPs, q1, q2] at e
        subst e
        exact .cons (toP_ok s h q1) (toPs_ok s t q2)
end
theorem derP_ok {d : D} {v : V} {p : PyData} (s : RS K G H ι η) (r : Rep K G ι v d) (e : derP η d = some p) : Dp K H v p := by
  have r0 := r
  cases r with
  | @ref n a h =>
    unfold derP at e
    simp only at e
    split at e
    · rename_i xs hc
      obtain ⟨vs, h1, h2⟩ := s.cells n a _ h hc
      cases q : toPs xs with
      | none => simp [q] at e
      | some ps =>
        simp [q] at e
        subst e
        exact .lst (SqL.of h1) (toPs_ok s.sub h2 q)
    · cases e
  | _ => exact toP_ok s.sub r0 e
end

/-! ### operators -/
section
variable (cls : Nat → Addr) (K : PySem.W.Frag)
/-- a reading of two values by data -/
def rD2 (f : D → D → M D) : R2 := fun x y H Q => ∃ W0 G ι η d e, RS K G H ι η ∧ Rep K G ι x d ∧ Rep K G ι y e ∧ PV cls K G H ι (f d e η) Q W0
def rD1 (f : D → M D) : V → Hp → VK → Prop := fun x H Q => ∃ W0 G ι η d, RS K G H ι η ∧ Rep K G ι x d ∧ PV cls K G H ι (f d η) Q W0
/-- .. of a list of values -/
def rDN (f : List D → M D) : List V → Hp → VK → Prop := fun xs H Q => ∃ W0 G ι η ds, RS K G H ι η ∧ Reps K G ι xs ds ∧ PV cls K G H ι (f ds η) Q W0
/-- .. of a receiver and a list -/
def rDM (f : D → List D → M D) : V → List V → Hp → VK → Prop := fun x xs H Q => ∃ W0 G ι η d ds, RS K G H ι η ∧ Rep K G ι x d ∧ Reps K G ι xs ds ∧ PV cls K G H ι (f d ds η) Q W0
end
section
variable {cls : Nat → Addr} {X : Cx}

def addD : D → D → M D
  | .int i, .int j => ret (.int (i + j))
  | .str s, .str t => if s.length + t.length ≤ LIM then ret (.str (s ++ t)) else bad
  | .tup xs, .tup ys => if xs.length + ys.length ≤ LIM then ret (.tup (xs ++ ys)) else bad
  | x, y => fun η => match asL η x, asL η y with
    | some xs, some ys => if xs.length + ys.length ≤ LIM then .ok (.fl (xs ++ ys)) η else .bad
    | _, _ => .bad
theorem lists_add {K : PySem.W.Frag} {x y : V} {d e : D} {G H : Hp} {ι : List Addr} {η : List Cell} {Q : VK} {W0 : Value → Option Addr → Hp → Prop} {v u : Value} {pins : List (Addr × Obj)} {s : Shared} {σ : L2.St} (I : Inv X pins σ H s) (rv : RelV x v) (ru : RelV y u) (S : RS X.K G H ι η) (r1 : Rep X.K G ι x d) (r2 : Rep X.K G ι y e)
    (h : PV cls X.K G H ι (match asL η d, asL η e with
      | some xs, some ys => if xs.length + ys.length ≤ LIM then .ok (.fl (xs ++ ys)) η else .bad
      | _, _ => .bad) Q W0) : wpAny (model X.prog X.w) X.A (binaryOp .Add v u) (EP X pins σ Q) X.xe s := by
  cases q1 : asL η d with
  | none => rw [q1] at h; exact h.bad.elim
  | some xs =>
    cases q2 : asL η e with
    | none => rw [q1, q2] at h; exact h.bad.elim
    | some ys =>
      rw [q1, q2] at h
      simp only at h
      by_cases hl : xs.length + ys.length ≤ LIM
      · rw [if_pos hl] at h
        obtain ⟨a, vs, rfl, h1, h2⟩ := asL_ok S r1 q1
        obtain ⟨b, ws, rfl, h3, h4⟩ := asL_ok S r2 q2
        exact op_cat pins s σ H _ _ v u Q I rv ru ⟨a, b, vs, ws, rfl, rfl, h1, h3, by rw [h2.length, h4.length]; exact Nat.le_trans hl lim_line, h.fl S (h2.append h4)⟩
      · rw [if_neg hl] at h; exact h.bad.elim
theorem op_addD : OpR X (binaryOp .Add) (rD2 cls X.K addD) := by
  intro pins s σ H x y v u Q I rv ru h
  obtain ⟨W0, G, ι, η, d, e, S, r1, r2, h⟩ := h
  unfold addD at h
  split at h
  · cases r1; cases r2
    exact op_add pins s σ H _ _ v u Q I rv ru ⟨_, _, rfl, rfl, h.now S (.int _)⟩
  · cases r1; cases r2
    split at h
    · rename_i hl
      exact op_add_str pins s σ H _ _ v u Q I rv ru ⟨_, _, rfl, rfl, Nat.le_trans hl lim_line, h.now S (.str _)⟩
    · exact h.bad.elim
  · split at h
    · rename_i hl
      cases r1 with
      | @tup a vs ds h1 t1 =>
      cases r2 with
      | @tup b ws es h2 t2 =>
      refine op_catA pins s σ H _ _ v u Q I rv ru ⟨a, b, vs, ws, rfl, rfl, SqT.of (S.sub _ _ h1), SqT.of (S.sub _ _ h2), by rw [t1.length, t2.length]; exact Nat.le_trans hl lim_line, fun z => ?_, fun _ z => ?_, fun _ _ => h.tup S (t1.append t2)⟩
      · subst z
        cases t1
        exact h.now S (.tup h2 t2)
      · subst z
        cases t2
        refine h.now S ?_
        rw [List.append_nil]
        exact .tup h1 t1
    · exact h.bad.elim
  · exact lists_add (K := X.K) I rv ru S r1 r2 h

def subD : D → D → M D
  | .int i, .int j => ret (.int (i - j))
  | _, _ => bad
theorem op_subD : OpR X (binaryOp .Sub) (rD2 cls X.K subD) := by
  intro pins s σ H x y v u Q I rv ru h
  obtain ⟨W0, G, ι, η, d, e, S, r1, r2, h⟩ := h
  unfold subD at h
  split at h
  · cases r1; cases r2
    exact op_sub pins s σ H _ _ v u Q I rv ru ⟨_, _, rfl, rfl, h.now S (.int _)⟩
  · exact h.bad.elim

def smallI (i : Int) : Bool := decide (-(2 ^ 64) < i) && decide (i < 2 ^ 64)
def repD (k : Int) (xs : List D) : List D := (List.replicate k.toNat xs).flatten
def mulD : D → D → M D
  | .int i, .int j => if smallI i || smallI j then ret (.int (i * j)) else bad
  | .tup xs, .int k => if xs ≠ [] ∧ 2 ≤ k ∧ k ≤ 1000 ∧ xs.length ≤ 1000 then ret (.tup (repD k xs)) else bad
  | x, .int k => fun η => match asL η x with
    | some xs => if -1000 ≤ k ∧ k ≤ 1000 ∧ xs.length ≤ 1000 then .ok (.fl (repD k xs)) η else .bad
    | none => .bad
  | _, _ => bad
theorem reps_rep {K : PySem.W.Frag} {G : Hp} {ι : List Addr} {vs : List V} {ds : List D} (h : Reps K G ι vs ds) : ∀ n : Nat, Reps K G ι (List.replicate n vs).flatten (List.replicate n ds).flatten
  | 0 => .nil
  | n + 1 => by
    rw [List.replicate_succ, List.replicate_succ, List.flatten_cons, List.flatten_cons]
    exact h.append (reps_rep h n)
theorem op_mulD : OpR X (binaryOp .Mult) (rD2 cls X.K mulD) := by
  intro pins s σ H x y v u Q I rv ru h
  obtain ⟨W0, G, ι, η, d, e, S, r1, r2, h⟩ := h
  unfold mulD at h
  split at h
  · cases r1; cases r2
    split at h
    · rename_i hs
      refine op_mul pins s σ H _ _ v u Q I rv ru ⟨_, _, rfl, rfl, ?_, h.now S (.int _)⟩
      simp only [smallI, Bool.or_eq_true, Bool.and_eq_true, decide_eq_true_eq] at hs
      exact hs
    · exact h.bad.elim
  · cases r2
    split at h
    · rename_i hc
      obtain ⟨h1, h2, h3, h4⟩ := hc
      cases r1 with
      | @tup a vs ds q1 t1 =>
      exact op_repT pins s σ H _ _ v u Q I rv ru ⟨a, _, vs, rfl, rfl, SqT.of (S.sub _ _ q1), fun z => h1 (by subst z; cases t1; rfl), h2, h3, by rw [t1.length]; exact h4, h.tup S (reps_rep t1 _)⟩
    · exact h.bad.elim
  · rename_i k _ _
    cases r2
    simp -failIfUnchanged only [] at h
    split at h
    · rename_i xs hx
      split at h
      · rename_i hc
        obtain ⟨h1, h2, h3⟩ := hc
        obtain ⟨a, vs, rfl, q1, q2⟩ := asL_ok S r1 hx
        refine op_rep pins s σ H _ _ v u Q I rv ru ⟨a, _, vs, rfl, rfl, q1, by omega, by omega, ?_, ?_⟩
        · rw [q2.length, sizeLine_eq]
          calc xs.length * k.toNat ≤ 1000 * 1000 := Nat.mul_le_mul h3 (by omega)
            _ ≤ _ := by decide
        · exact h.fl S (reps_rep q2 _)
      · exact h.bad.elim
    · exact h.bad.elim
  · exact h.bad.elim

def fdivD : D → D → M D
  | .int i, .int j => if 0 < j ∧ j < 1073741824 then ret (.int (i / j)) else bad
  | _, _ => bad
theorem op_fdivD : OpR X (binaryOp .FloorDiv) (rD2 cls X.K fdivD) := by
  intro pins s σ H x y v u Q I rv ru h
  obtain ⟨W0, G, ι, η, d, e, S, r1, r2, h⟩ := h
  unfold fdivD at h
  split at h
  · cases r1; cases r2
    split at h
    · rename_i hc
      exact op_fdiv pins s σ H _ _ v u Q I rv ru ⟨_, _, rfl, rfl, hc, h.now S (.int _)⟩
    · exact h.bad.elim
  · exact h.bad.elim
def modD : D → D → M D
  | .int i, .int j => if 0 < j then ret (.int (i % j)) else bad
  | _, _ => bad
theorem op_modD : OpR X (binaryOp .Mod) (rD2 cls X.K modD) := by
  intro pins s σ H x y v u Q I rv ru h
  obtain ⟨W0, G, ι, η, d, e, S, r1, r2, h⟩ := h
  unfold modD at h
  split at h
  · cases r1; cases r2
    split at h
    · rename_i hc
      exact op_mod pins s σ H _ _ v u Q I rv ru ⟨_, _, rfl, rfl, hc, h.now S (.int _)⟩
    · exact h.bad.elim
  · exact h.bad.elim

/-! ### comparisons -/
def eqD (x y : D) : M D := fun η => match derP η x, derP η y with
  | some p, some q => if SeqAt.shaped p = true ∧ SeqAt.shaped q = true then .ok (.bl (PyData.eqv p q)) η else .bad
  | _, _ => .bad
def neD (x y : D) : M D := fun η => match derP η x, derP η y with
  | some p, some q => if SeqAt.shaped p = true ∧ SeqAt.shaped q = true then .ok (.bl (!PyData.eqv p q)) η else .bad
  | _, _ => .bad
theorem op_eqD' (hu : X.A.units + 64 < cLine) : OpR X (compareOp .Eq) (rD2 cls X.K eqD) := by
  intro pins s σ H x y v u Q I rv ru h
  obtain ⟨W0, G, ι, η, d, e, S, r1, r2, h⟩ := h
  unfold eqD at h
  split at h
  · rename_i p q hp hq
    split at h
    · rename_i hc
      exact op_eqD hu pins s σ H _ _ v u Q I rv ru ⟨p, q, derP_ok S r1 hp, derP_ok S r2 hq, hc.1, hc.2, h.now S (.bl _)⟩
    · exact h.bad.elim
  · exact h.bad.elim
theorem op_neD' (hu : X.A.units + 64 < cLine) : OpR X (compareOp .NotEq) (rD2 cls X.K neD) := by
  intro pins s σ H x y v u Q I rv ru h
  obtain ⟨W0, G, ι, η, d, e, S, r1, r2, h⟩ := h
  unfold neD at h
  split at h
  · rename_i p q hp hq
    split at h
    · rename_i hc
      exact op_neD hu pins s σ H _ _ v u Q I rv ru ⟨p, q, derP_ok S r1 hp, derP_ok S r2 hq, hc.1, hc.2, h.now S (.bl _)⟩
    · exact h.bad.elim
  · exact h.bad.elim
def ltD : D → D → M D
  | .int i, .int j => ret (.bl (decide (i < j)))
  | _, _ => bad
def leD : D → D → M D
  | .int i, .int j => ret (.bl (decide (i ≤ j)))
  | _, _ => bad
def gtD : D → D → M D
  | .int i, .int j => ret (.bl (decide (j < i)))
  | _, _ => bad
def geD : D → D → M D
  | .int i, .int j => ret (.bl (decide (j ≤ i)))
  | _, _ => bad
theorem op_ltD : OpR X (compareOp .Lt) (rD2 cls X.K ltD) := by
  intro pins s σ H x y v u Q I rv ru h
  obtain ⟨W0, G, ι, η, d, e, S, r1, r2, h⟩ := h
  unfold ltD at h
  split at h
  · cases r1; cases r2
    exact op_lt pins s σ H _ _ v u Q I rv ru ⟨_, _, rfl, rfl, h.now S (.bl _)⟩
  · exact h.bad.elim
theorem op_leD : OpR X (compareOp .LtE) (rD2 cls X.K leD) := by
  intro pins s σ H x y v u Q I rv ru h
  obtain ⟨W0, G, ι, η, d, e, S, r1, r2, h⟩ := h
  unfold leD at h
  split at h
  · cases r1; cases r2
    exact op_le pins s σ H _ _ v u Q I rv ru ⟨_, _, rfl, rfl, h.now S (.bl _)⟩
  · exact h.bad.elim
theorem op_gtD : OpR X (compareOp .Gt) (rD2 cls X.K gtD) := by
  intro pins s σ H x y v u Q I rv ru h
  obtain ⟨W0, G, ι, η, d, e, S, r1, r2, h⟩ := h
  unfold gtD at h
  split at h
  · cases r1; cases r2
    exact op_gt pins s σ H _ _ v u Q I rv ru ⟨_, _, rfl, rfl, h.now S (.bl _)⟩
  · exact h.bad.elim
theorem op_geD : OpR X (compareOp .GtE) (rD2 cls X.K geD) := by
  intro pins s σ H x y v u Q I rv ru h
  obtain ⟨W0, G, ι, η, d, e, S, r1, r2, h⟩ := h
  unfold geD at h
  split at h
  · cases r1; cases r2
    exact op_ge pins s σ H _ _ v u Q I rv ru ⟨_, _, rfl, rfl, h.now S (.bl _)⟩
  · exact h.bad.elim
def isNone : D → Bool
  | .non => true
  | _ => false
def isND : D → D → M D
  | x, .non => ret (.bl (isNone x))
  | _, _ => bad
def notND : D → D → M D
  | x, .non => ret (.bl (!isNone x))
  | _, _ => bad
theorem rep_none {K : PySem.W.Frag} {G : Hp} {ι : List Addr} {v : V} {d : D} (r : Rep K G ι v d) : decide (v = .non) = isNone d := by
  cases r <;> first | rfl | exact decide_eq_false (fun z => by cases z)
theorem op_isND : OpR X (compareOp .Is) (rD2 cls X.K isND) := by
  intro pins s σ H x y v u Q I rv ru h
  obtain ⟨W0, G, ι, η, d, e, S, r1, r2, h⟩ := h
  unfold isND at h
  split at h
  · cases r2
    refine op_isN pins s σ H _ _ v u Q I rv ru ⟨rfl, ?_⟩
    rw [rep_none r1]
    exact h.now S (.bl _)
  · exact h.bad.elim
theorem op_notND : OpR X (compareOp .IsNot) (rD2 cls X.K notND) := by
  intro pins s σ H x y v u Q I rv ru h
  obtain ⟨W0, G, ι, η, d, e, S, r1, r2, h⟩ := h
  unfold notND at h
  split at h
  · cases r2
    refine op_notN pins s σ H _ _ v u Q I rv ru ⟨rfl, ?_⟩
    rw [rep_none r1]
    exact h.now S (.bl _)
  · exact h.bad.elim
/-! in -/
def flatD : D → Bool
  | .non => true
  | .bl _ => true
  | .int _ => true
  | .str _ => true
  | _ => false
def vOf : D → V
  | .bl b => .bl b
  | .int i => .int i
  | .str s => .str s
  | _ => .non
theorem vOf_ok {K : PySem.W.Frag} {G : Hp} {ι : List Addr} {v : V} {d : D} (r : Rep K G ι v d) (f : flatD d = true) : v = vOf d ∧ flatV v = true := by
  cases r <;> first | exact ⟨rfl, rfl⟩ | cases f
theorem vOfs_ok {K : PySem.W.Frag} {G : Hp} {ι : List Addr} : ∀ {vs : List V} {ds : List D}, Reps K G ι vs ds → ds.all flatD = true → vs = ds.map vOf ∧ vs.all flatV = true
  | _, _, .nil, _ => ⟨rfl, rfl⟩
  | _, _, .cons h t, f => by
    simp only [List.all_cons, Bool.and_eq_true] at f
    obtain ⟨e1, e2⟩ := vOf_ok h f.1
    obtain ⟨e3, e4⟩ := vOfs_ok t f.2
    exact ⟨by rw [e3, List.map_cons, ← e1], by simp only [List.all_cons, Bool.and_eq_true]; exact ⟨e2, e4⟩⟩
/-- x among these -/
def inFlat (x : D) (ys : List D) : Bool := (ys.map vOf).any fun y => eqV y (vOf x)
def inStr (x z : Str) : Bool := !(Builtin.Str.occurrences z x 0 z.length 1).isEmpty
def inD (neg : Bool) : D → D → M D
  | .str x, .str z => ret (.bl (if neg then !inStr x z else inStr x z))
  | x, y => fun η => match asQ η y with
    | some ys => if flatD x = true ∧ ys.all flatD = true then .ok (.bl (if neg then !inFlat x ys else inFlat x ys)) η
      else match toP x, derP η y with
        | some p, some (.list ps) => if SeqAt.shaped p = true ∧ SeqAt.shaped (.list ps) = true then .ok (.bl (if neg then !(ps.any fun z => PyData.eqv z p) else ps.any fun z => PyData.eqv z p)) η else .bad
        | _, _ => .bad
    | none => .bad
theorem op_inD' (hu : X.A.units + 65 < cLine) : OpR X (compareOp .In) (rD2 cls X.K (inD false)) := by
  intro pins s σ H x y v u Q I rv ru h
  obtain ⟨W0, G, ι, η, d, e, S, r1, r2, h⟩ := h
  unfold inD at h
  split at h
  · cases r1; cases r2
    exact op_in_str pins s σ H _ _ v u Q I rv ru ⟨_, _, rfl, rfl, h.now S (.bl _)⟩
  · simp -failIfUnchanged only [] at h
    split at h
    · rename_i ys hy
      obtain ⟨a, vs, rfl, q1, q2⟩ := asQ_ok S r2 hy
      split at h
      · rename_i hc
        obtain ⟨e1, f1⟩ := vOf_ok r1 hc.1
        obtain ⟨e2, f2⟩ := vOfs_ok q2 hc.2
        refine op_in_seq pins s σ H _ _ v u Q I rv ru ⟨a, vs, rfl, q1, f1, f2, ?_⟩
        rw [e2, e1]
        exact h.now S (.bl _)
      · split at h
        · rename_i p ps hp hps
          split at h
          · rename_i hc2
            exact op_inD hu pins s σ H _ _ v u Q I rv ru ⟨p, ps, toP_ok S.sub r1 hp, derP_ok S r2 hps, hc2.1, hc2.2, h.now S (.bl _)⟩
          · exact h.bad.elim
        · exact h.bad.elim
    · exact h.bad.elim
theorem op_notInD' (hu : X.A.units + 65 < cLine) : OpR X (compareOp .NotIn) (rD2 cls X.K (inD true)) := by
  intro pins s σ H x y v u Q I rv ru h
  obtain ⟨W0, G, ι, η, d, e, S, r1, r2, h⟩ := h
  unfold inD at h
  split at h
  · cases r1; cases r2
    exact op_notin_str pins s σ H _ _ v u Q I rv ru ⟨_, _, rfl, rfl, h.now S (.bl _)⟩
  · simp -failIfUnchanged only [] at h
    split at h
    · rename_i ys hy
      obtain ⟨a, vs, rfl, q1, q2⟩ := asQ_ok S r2 hy
      split at h
      · rename_i hc
        obtain ⟨e1, f1⟩ := vOf_ok r1 hc.1
        obtain ⟨e2, f2⟩ := vOfs_ok q2 hc.2
        refine op_notIn_seq pins s σ H _ _ v u Q I rv ru ⟨a, vs, rfl, q1, f1, f2, ?_⟩
        rw [e2, e1]
        exact h.now S (.bl _)
      · split at h
        · rename_i p ps hp hps
          split at h
          · rename_i hc2
            exact op_notInD hu pins s σ H _ _ v u Q I rv ru ⟨p, ps, toP_ok S.sub r1 hp, derP_ok S r2 hps, hc2.1, hc2.2, h.now S (.bl _)⟩
          · exact h.bad.elim
        · exact h.bad.elim
    · exact h.bad.elim
end
end Ms
end
section
set_option Elab.async false
set_option linter.all false
set_option maxRecDepth 100000
set_option maxHeartbeats 4000000
/-! Subscripts, slices, built-ins, methods. -/
namespace Ms
open PySem L2

section
variable {cls : Nat → Addr} {X : Cx}

/-! ### subscripts -/
/-- what may be missing -/
def fromO (o : Option D) : M D := fun η => match o with
  | some d => .ok d η
  | none => .bad
theorem PV.fromO {K : PySem.W.Frag} {G H : Hp} {ι : List Addr} {η : List Cell} {o : Option D} {Q : VK} {W : Value → Option Addr → Hp → Prop} (h : PV cls K G H ι (fromO o η) Q W) : ∃ d, o = some d ∧ PV cls K G H ι (.ok d η) Q W := by
  cases o with
  | none => exact h.bad.elim
  | some d => exact ⟨d, rfl, h⟩
def idxD : D → D → M D
  | .str z, .int i => if z.length ≤ LIM then fromO ((atI z.cps.toList i).map fun c => .str ⟨#[c]⟩) else bad
  | .tup xs, .int i => fromO (atI xs i)
  | x, .int i => fun η => fromO ((asL η x).bind fun xs => atI xs i) η
  | _, _ => bad
theorem atI_rep {K : PySem.W.Frag} {G : Hp} {ι : List Addr} {vs : List V} {ds : List D} {i : Int} {d : D} (r : Reps K G ι vs ds) (e : atI ds i = some d) : ∃ v, atI vs i = some v ∧ Rep K G ι v d := by
  unfold atI at e ⊢
  rw [r.length]
  cases q : ixN ds.length i with
  | none => rw [q] at e; cases e
  | some j =>
    rw [q] at e
    exact r.get (i := j) e
theorem ix_D : IxR X (rD2 cls X.K idxD) := by
  intro value slice pins s σ H x y v u Q I rx ry h hs
  obtain ⟨W0, G, ι, η, d, e, S, r1, r2, h⟩ := h
  unfold idxD at h
  split at h
  · cases r1; cases r2
    split at h
    · rename_i z i hl
      obtain ⟨d', e1, h⟩ := h.fromO
      cases q : atI z.cps.toList i with
      | none => rw [q] at e1; cases e1
      | some c =>
        rw [q] at e1
        cases e1
        exact ix_str value slice pins s σ H _ _ v u Q I rx ry ⟨_, _, c, rfl, rfl, Nat.le_trans hl lim_line, q, h.now S (.str _)⟩ hs
    · exact h.bad.elim
  · cases r2
    obtain ⟨d', hd, h⟩ := h.fromO
    cases r1 with
    | @tup a vs ds h1 t1 =>
    obtain ⟨w, e1, rw1⟩ := atI_rep t1 hd
    exact ix_tup value slice pins s σ H _ _ v u Q I rx ry ⟨a, vs, _, w, rfl, rfl, SqT.of (S.sub _ _ h1), e1, h.now S rw1⟩ hs
  · cases r2
    obtain ⟨d', hd, h⟩ := h.fromO
    cases hx : asL η d with
    | none => rw [hx] at hd; cases hd
    | some xs =>
      rw [hx] at hd
      obtain ⟨a, vs, rfl, h1, h2⟩ := asL_ok S r1 hx
      obtain ⟨w, e1, rw1⟩ := atI_rep h2 (show atI xs _ = some d' from hd)
      exact ix_list value slice pins s σ H _ _ v u Q I rx ry ⟨a, vs, _, w, rfl, rfl, SqL.of h1, e1, h.now S rw1⟩ hs
  · exact h.bad.elim

/-! ### slices -/
def cutD (xs : List D) (lo hi : Option Int) : List D := (xs.drop (HT.sIx xs.length 0 lo)).take (HT.sIx xs.length xs.length hi - HT.sIx xs.length 0 lo)
theorem cutD_rep {K : PySem.W.Frag} {G : Hp} {ι : List Addr} {vs : List V} {ds : List D} (r : Reps K G ι vs ds) (lo hi : Option Int) : Reps K G ι (cutV vs lo hi) (cutD ds lo hi) := by
  unfold cutV cutD
  rw [r.length]
  exact (r.drop _).take _
def sliceD (x : D) (lo hi : Option Int) : M D := match x with
  | .str z => if z.length ≤ LIM then ret (.str (cutS z lo hi)) else bad
  | .tup xs => ret (.tup (cutD xs lo hi))
  | x => fun η => match asL η x with
    | some xs => .ok (.fl (cutD xs lo hi)) η
    | none => .bad
def rSlD (cls : Nat → Addr) (K : PySem.W.Frag) : V → Option Int → Option Int → Hp → VK → Prop := fun x lo hi H Q => ∃ W0 G ι η d, RS K G H ι η ∧ Rep K G ι x d ∧ PV cls K G H ι (sliceD d lo hi η) Q W0
theorem sl_D : SlR X (rSlD cls X.K) := by
  intro pins s σ H x v vl vu lo hi sl Q I rx hs pl pu h
  obtain ⟨W0, G, ι, η, d, S, r1, h⟩ := h
  unfold sliceD at h
  split at h
  · cases r1
    split at h
    · rename_i hl
      exact sl_str pins s σ H _ v vl vu lo hi sl Q I rx hs pl pu ⟨_, rfl, Nat.le_trans hl lim_line, h.now S (.str _)⟩
    · exact h.bad.elim
  · cases r1 with
    | @tup a vs ds h1 t1 =>
    refine sl_tupA pins s σ H _ v vl vu lo hi sl Q I rx hs pl pu ⟨a, vs, rfl, SqT.of (S.sub _ _ h1), fun z => ?_, fun _ => h.tup S (cutD_rep t1 lo hi)⟩
    rename_i ds
    have e : cutD ds lo hi = ds := by
      unfold cutD
      rw [t1.length] at z
      rw [z.1, z.2, List.drop_zero, Nat.sub_zero, List.take_length]
    rw [e] at h
    exact h.now S (.tup h1 t1)
  · simp -failIfUnchanged only [] at h
    split at h
    · rename_i xs hx
      obtain ⟨a, vs, rfl, h1, h2⟩ := asL_ok S r1 hx
      exact sl_list pins s σ H _ v vl vu lo hi sl Q I rx hs pl pu ⟨a, vs, rfl, SqL.of h1, h.fl S (cutD_rep h2 lo hi)⟩
    · exact h.bad.elim

/-! ### built-ins -/
def lenD : List D → M D
  | [.str z] => if z.length ≤ LIM then ret (.int z.length) else bad
  | [d] => fun η => match asQ η d with
    | some xs => .ok (.int xs.length) η
    | none => .bad
  | _ => bad
theorem call_lenD' : CallR X (.builtin "len") (rDN cls X.K lenD) := by
  intro pins s σ H xs us Q I r h
  obtain ⟨W0, G, ι, η, ds, S, r1, h⟩ := h
  unfold lenD at h
  split at h
  · cases r1 with
    | cons a b =>
    cases b; cases a
    split at h
    · rename_i hl
      exact call_len pins s σ H _ us Q I r ⟨_, _, rfl, ⟨Nat.le_trans hl lim_line, rfl⟩, h.now S (.int _)⟩
    · exact h.bad.elim
  · cases r1 with
    | cons a b =>
    cases b
    simp -failIfUnchanged only [] at h
    split at h
    · rename_i ys hy
      obtain ⟨p, vs, rfl, h1, h2⟩ := asQ_ok S a hy
      refine call_len_seq pins s σ H _ us Q I r ⟨p, vs, rfl, h1, ?_⟩
      rw [h2.length]
      exact h.now S (.int _)
    · exact h.bad.elim
  · exact h.bad.elim
def intD : List D → M D
  | [.int i] => ret (.int i)
  | [.bl b] => ret (.int (if b then 1 else 0))
  | _ => bad
theorem call_intD : CallR X (.type "int") (rDN cls X.K intD) := by
  intro pins s σ H xs us Q I r h
  obtain ⟨W0, G, ι, η, ds, S, r1, h⟩ := h
  unfold intD at h
  split at h
  · cases r1 with
    | cons a b =>
    cases b; cases a
    exact call_int1 pins s σ H _ us Q I r (.inl ⟨_, rfl, h.now S (.int _)⟩)
  · cases r1 with
    | cons a b =>
    cases b; cases a
    exact call_int1 pins s σ H _ us Q I r (.inr ⟨_, rfl, h.now S (.int _)⟩)
  · exact h.bad.elim
def signs (z : Str) : List D := z.cps.toList.map fun c => .str ⟨#[c]⟩
def listD : List D → M D
  | [.str z] => if z.length ≤ LIM then ret (.fl (signs z)) else bad
  | [d] => fun η => match asQ η d with
    | some xs => .ok (.fl xs) η
    | none => .bad
  | _ => bad
theorem signs_rep {K : PySem.W.Frag} {G : Hp} {ι : List Addr} : ∀ l : List Nat, Reps K G ι (l.map fun c => V.str ⟨#[c]⟩) (l.map fun c => D.str ⟨#[c]⟩)
  | [] => .nil
  | c :: l => .cons (.str _) (signs_rep l)
theorem vals_signs {z : Str} {its : Array Value} (h : ItemsOf (SignAt z) its z.cps.size) : Vals (z.cps.toList.map fun c => V.str ⟨#[c]⟩) its.toList := by
  obtain ⟨h1, h2⟩ := h
  have key : ∀ (l : List Nat) (k : List Value), l.length = k.length → (∀ (j : Nat) (v : Value), k[j]? = some v → ∃ (c : Nat) (u : Tok), l[j]? = some c ∧ v = Value.str ⟨#[c]⟩ u) → Vals (l.map fun c => V.str ⟨#[c]⟩) k := by
    intro l
    induction l with
    | nil =>
      intro k e _
      cases k with
      | nil => exact .nil
      | cons a b => cases e
    | cons c l ih =>
      intro k e f
      cases k with
      | nil => cases e
      | cons a b =>
        obtain ⟨c', u, e1, e2⟩ := f 0 a rfl
        simp at e1
        subst e1 e2
        refine .cons ⟨u, rfl⟩ (ih b (by simpa using e) fun j v q => ?_)
        obtain ⟨c2, u2, e3, e4⟩ := f (j + 1) v (by simpa using q)
        exact ⟨c2, u2, by simpa using e3, e4⟩
  refine key _ _ (by simp [h1]) fun j v q => ?_
  obtain ⟨c, u, e1, e2⟩ := h2 j v (by simpa using q)
  exact ⟨c, u, by simpa using e1, e2⟩
theorem call_listD' (hc : X.calm = true) : CallR X (.type "list") (rDN cls X.K listD) := by
  intro pins s σ H xs us Q I r h
  obtain ⟨W0, G, ι, η, ds, S, r1, h⟩ := h
  unfold listD at h
  split at h
  · cases r1 with
    | cons a b =>
    cases b; cases a
    split at h
    · rename_i z hl
      obtain ⟨u, rfl, t, rfl⟩ := vals1 r
      have hz : z.cps.size ≤ sizeLine := Nat.le_trans hl lim_line
      refine call_list_str (I.ok.hd hc) z t (fun h' tk acc' c' k e it => ?_) (hn := hz)
      have rv := vals_signs it
      have nw : ObjOk X.prog X.w (upd H s.heap.objs.size (.lst (z.cps.toList.map fun c => V.str ⟨#[c]⟩))) h' s.heap.objs.size (.lst (z.cps.toList.map fun c => V.str ⟨#[c]⟩)) :=
        ⟨by simpa using hz, acc'.toList, c', rv, by simpa using e⟩
      exact ⟨.ref s.heap.objs.size, _, I.laid (t' := tk) k (Nat.le_refl _) nw, rfl, h.fl S (signs_rep _) _ (I.hok.fresh (Nat.le_refl _))⟩
    · exact h.bad.elim
  · cases r1 with
    | cons a b =>
    cases b
    simp -failIfUnchanged only [] at h
    split at h
    · rename_i ys hy
      obtain ⟨p, vs, rfl, h1, h2⟩ := asQ_ok S a hy
      exact call_list_of pins s σ H _ us Q I r ⟨p, vs, rfl, h1, h.fl S h2⟩
    · exact h.bad.elim
  · exact h.bad.elim
/-- .. a list that may change -/
def listMD : List D → M D
  | [.str z] => if z.length ≤ LIM then fun η => .ok (.ref η.length) (η ++ [.lst (signs z)]) else bad
  | [d] => fun η => match asQ η d with
    | some xs => .ok (.ref η.length) (η ++ [.lst xs])
    | none => .bad
  | _ => bad
theorem call_listMD' (hc : X.calm = true) : CallR X (.type "list") (rDN cls X.K listMD) := by
  intro pins s σ H xs us Q I r h
  obtain ⟨W0, G, ι, η, ds, S, r1, h⟩ := h
  unfold listMD at h
  split at h
  · cases r1 with
    | cons a b =>
    cases b; cases a
    split at h
    · rename_i z hl
      obtain ⟨u, rfl, t, rfl⟩ := vals1 r
      have hz : z.cps.size ≤ sizeLine := Nat.le_trans hl lim_line
      refine call_list_str (I.ok.hd hc) z t (fun h' tk acc' c' k e it => ?_) (hn := hz)
      have rv := vals_signs it
      have nw : ObjOk X.prog X.w (upd H s.heap.objs.size (.lst (z.cps.toList.map fun c => V.str ⟨#[c]⟩))) h' s.heap.objs.size (.lst (z.cps.toList.map fun c => V.str ⟨#[c]⟩)) :=
        ⟨by simpa using hz, acc'.toList, c', rv, by simpa using e⟩
      exact ⟨.ref s.heap.objs.size, _, I.laid (t' := tk) k (Nat.le_refl _) nw, rfl, PV.new h S (signs_rep _) _ (I.hok.fresh (Nat.le_refl _))⟩
    · exact h.bad.elim
  · cases r1 with
    | cons a b =>
    cases b
    simp -failIfUnchanged only [] at h
    split at h
    · rename_i ys hy
      obtain ⟨p, vs, rfl, h1, h2⟩ := asQ_ok S a hy
      exact call_list_of pins s σ H _ us Q I r ⟨p, vs, rfl, h1, PV.new h S h2⟩
    · exact h.bad.elim
  · exact h.bad.elim
def tupleD : List D → M D
  | [.tup xs] => ret (.tup xs)
  | [d] => fun η => match asL η d with
    | some xs => .ok (.tup xs) η
    | none => .bad
  | _ => bad
theorem call_tupleD : CallR X (.type "tuple") (rDN cls X.K tupleD) := by
  intro pins s σ H xs us Q I r h
  obtain ⟨W0, G, ι, η, ds, S, r1, h⟩ := h
  unfold tupleD at h
  split at h
  · cases r1 with
    | cons a b =>
    cases b
    cases a with
    | @tup p vs ds h1 t1 =>
    exact call_tuple_of pins s σ H _ us Q I r ⟨p, vs, rfl, .inr ⟨SqT.of (S.sub _ _ h1), h.now S (.tup h1 t1)⟩⟩
  · cases r1 with
    | cons a b =>
    cases b
    simp -failIfUnchanged only [] at h
    split at h
    · rename_i ys hy
      obtain ⟨p, vs, rfl, h1, h2⟩ := asL_ok S a hy
      exact call_tuple_of pins s σ H _ us Q I r ⟨p, vs, rfl, .inl ⟨SqL.of h1, h.tup S h2⟩⟩
    · exact h.bad.elim
  · exact h.bad.elim
/-- a list of truths, of ints -/
def asBs : List D → Option (List Bool)
  | [] => some []
  | .bl b :: r => (asBs r).map (b :: ·)
  | _ => none
def asIs : List D → Option (List Int)
  | [] => some []
  | .int b :: r => (asIs r).map (b :: ·)
  | _ => none
theorem asBs_ok {K : PySem.W.Frag} {G : Hp} {ι : List Addr} : ∀ {vs : List V} {ds : List D} {bs : List Bool}, Reps K G ι vs ds → asBs ds = some bs → vs = bs.map V.bl
  | _, _, _, .nil, e => by cases e; rfl
  | _, _, _, .cons (ds := ds) h t, e => by
    cases h with
    | bl b =>
      cases q : asBs ds with
      | none => simp [asBs, q] at e
      | some r =>
        simp [asBs, q] at e
        subst e
        rw [List.map_cons, ← asBs_ok t q]
    | _ => simp [asBs] at e
theorem asIs_ok {K : PySem.W.Frag} {G : Hp} {ι : List Addr} : ∀ {vs : List V} {ds : List D} {bs : List Int}, Reps K G ι vs ds → asIs ds = some bs → vs = bs.map V.int
  | _, _, _, .nil, e => by cases e; rfl
  | _, _, _, .cons (ds := ds) h t, e => by
    cases h with
    | int b =>
      cases q : asIs ds with
      | none => simp [asIs, q] at e
      | some r =>
        simp [asIs, q] at e
        subst e
        rw [List.map_cons, ← asIs_ok t q]
    | _ => simp [asIs] at e
def allD : List D → M D
  | [d] => fun η => match asL η d with
    | some xs => (match asBs xs with
      | some bs => .ok (.bl (bs.all id)) η
      | none => .bad)
    | none => .bad
  | _ => bad
def anyD : List D → M D
  | [d] => fun η => match asL η d with
    | some xs => (match asBs xs with
      | some bs => .ok (.bl (bs.any id)) η
      | none => .bad)
    | none => .bad
  | _ => bad
theorem call_allD (hc : X.calm = true) : CallR X (.builtin "all") (rDN cls X.K allD) := by
  intro pins s σ H xs us Q I r h
  obtain ⟨W0, G, ι, η, ds, S, r1, h⟩ := h
  unfold allD at h
  split at h
  · cases r1 with
    | cons a b =>
    cases b
    simp -failIfUnchanged only [] at h
    split at h
    · rename_i ys hy
      obtain ⟨p, vs, rfl, h1, h2⟩ := asL_ok S a hy
      split at h
      · rename_i bs hb
        exact cr_all hc pins s σ H _ us Q I r ⟨p, bs, rfl, by rw [← asBs_ok h2 hb]; exact SqL.of h1, h.now S (.bl _)⟩
      · exact h.bad.elim
    · exact h.bad.elim
  · exact h.bad.elim
theorem call_anyD (hc : X.calm = true) : CallR X (.builtin "any") (rDN cls X.K anyD) := by
  intro pins s σ H xs us Q I r h
  obtain ⟨W0, G, ι, η, ds, S, r1, h⟩ := h
  unfold anyD at h
  split at h
  · cases r1 with
    | cons a b =>
    cases b
    simp -failIfUnchanged only [] at h
    split at h
    · rename_i ys hy
      obtain ⟨p, vs, rfl, h1, h2⟩ := asL_ok S a hy
      split at h
      · rename_i bs hb
        exact cr_any hc pins s σ H _ us Q I r ⟨p, bs, rfl, by rw [← asBs_ok h2 hb]; exact SqL.of h1, h.now S (.bl _)⟩
      · exact h.bad.elim
    · exact h.bad.elim
  · exact h.bad.elim
def sumD : List D → M D
  | [d] => fun η => match asL η d with
    | some xs => (match asIs xs with
      | some bs => .ok (.int bs.sum) η
      | none => .bad)
    | none => .bad
  | _ => bad
theorem call_sumD (hc : X.calm = true) : CallR X (.builtin "sum") (rDN cls X.K sumD) := by
  intro pins s σ H xs us Q I r h
  obtain ⟨W0, G, ι, η, ds, S, r1, h⟩ := h
  unfold sumD at h
  split at h
  · cases r1 with
    | cons a b =>
    cases b
    simp -failIfUnchanged only [] at h
    split at h
    · rename_i ys hy
      obtain ⟨p, vs, rfl, h1, h2⟩ := asL_ok S a hy
      split at h
      · rename_i bs hb
        exact cr_sum hc pins s σ H _ us Q I r ⟨p, bs, rfl, by rw [← asIs_ok h2 hb]; exact SqL.of h1, h.now S (.int _)⟩
      · exact h.bad.elim
    · exact h.bad.elim
  · exact h.bad.elim
def minD : List D → M D
  | [.int i, .int j] => ret (.int (if j < i then j else i))
  | _ => bad
def maxI : List Int → Option Int
  | [] => none
  | i :: r => match maxI r with
    | none => some i
    | some m => some (if m > i then m else i)
def maxD : List D → M D
  | [.int i, .int j] => ret (.int (if j > i then j else i))
  | [d] => fun η => match asL η d with
    | some xs => (match (asIs xs).bind maxI with
      | some m => .ok (.int m) η
      | none => .bad)
    | none => .bad
  | _ => bad
theorem call_minD (hc : X.calm = true) : CallR X (.builtin "min") (rDN cls X.K minD) := by
  intro pins s σ H xs us Q I r h
  obtain ⟨W0, G, ι, η, ds, S, r1, h⟩ := h
  unfold minD at h
  split at h
  · cases r1 with
    | cons a b =>
    cases b with
    | cons b c =>
    cases c; cases a; cases b
    exact call_min2 hc pins s σ H _ us Q I r ⟨_, _, rfl, h.now S (.int _)⟩
  · exact h.bad.elim
theorem maxI_ok : ∀ {l : List Int} {m : Int}, maxI l = some m → m ∈ l ∧ ∀ y, y ∈ l → y ≤ m
  | [], _, e => by cases e
  | i :: r, m, e => by
    unfold maxI at e
    cases q : maxI r with
    | none =>
      rw [q] at e
      cases e
      cases r with
      | nil => exact ⟨by simp, by simp⟩
      | cons j s =>
        exfalso
        unfold maxI at q
        cases z : maxI s <;> rw [z] at q <;> cases q
    | some k =>
      rw [q] at e
      obtain ⟨h1, h2⟩ := maxI_ok q
      simp only [Option.some.injEq] at e
      by_cases hk : k > i
      · rw [if_pos hk] at e
        subst e
        refine ⟨List.mem_cons_of_mem _ h1, fun y hy => ?_⟩
        rcases List.mem_cons.mp hy with rfl | hy
        · omega
        · exact h2 y hy
      · rw [if_neg hk] at e
        subst e
        refine ⟨List.mem_cons_self, fun y hy => ?_⟩
        rcases List.mem_cons.mp hy with rfl | hy
        · omega
        · have := h2 y hy
          omega
theorem call_maxD (hc : X.calm = true) : CallR X (.builtin "max") (rDN cls X.K maxD) := by
  intro pins s σ H xs us Q I r h
  obtain ⟨W0, G, ι, η, ds, S, r1, h⟩ := h
  unfold maxD at h
  split at h
  · cases r1 with
    | cons a b =>
    cases b with
    | cons b c =>
    cases c; cases a; cases b
    exact call_max2 hc pins s σ H _ us Q I r ⟨_, _, rfl, h.now S (.int _)⟩
  · cases r1 with
    | cons a b =>
    cases b
    simp -failIfUnchanged only [] at h
    split at h
    · rename_i ys hy
      obtain ⟨p, vs, rfl, h1, h2⟩ := asL_ok S a hy
      split at h
      · rename_i m hm
        cases hb : asIs ys with
        | none => rw [hb] at hm; cases hm
        | some bs =>
          rw [hb] at hm
          obtain ⟨m1, m2⟩ := maxI_ok (show maxI bs = some m from hm)
          refine cr_max hc pins s σ H _ us Q I r ⟨p, bs, rfl, by rw [← asIs_ok h2 hb]; exact SqL.of h1, List.length_pos_of_mem m1, fun k k1 k2 => ?_⟩
          have : k = m := Int.le_antisymm (m2 k k1) (k2 m m1)
          rw [this]
          exact h.now S (.int _)
      · exact h.bad.elim
    · exact h.bad.elim
  · exact h.bad.elim
end
end Ms
end
section
set_option Elab.async false
set_option linter.all false
set_option maxRecDepth 100000
set_option maxHeartbeats 4000000
/-! Methods, stores, isinstance. -/
namespace Ms
open PySem L2

section
variable {cls : Nat → Addr} {K : PySem.W.Frag} {G H : Hp} {ι : List Addr} {η : List Cell} {Q : VK} {W : Value → Option Addr → Hp → Prop}
theorem RS.live (s : RS K G H ι η) {n : Nat} {v : V} {xs : List D} (r : Rep K G ι v (.ref n)) (e : η[n]? = some (.lst xs)) : ∃ a vs, v = .ref a ∧ ι[n]? = some a ∧ H a = some (.lst vs) ∧ Reps K G ι vs xs := by
  cases r with
  | ref h =>
    obtain ⟨vs, h1, h2⟩ := s.cells n _ _ h e
    exact ⟨_, vs, rfl, h, h1, h2⟩
theorem PV.write {n : Nat} {a : Addr} {xs ds : List D} {vs : List V} {d : D} {v : V} (h : PV cls K G H ι (.ok d (η.set n (.lst ds))) Q W) (s : RS K G H ι η) (e : ι[n]? = some a) (e0 : η[n]? = some (.lst xs)) (r : Reps K G ι vs ds) (rv : Rep K G ι v d) :
    Q v (upd H a (.lst vs)) :=
  h G ι _ (RS.stpWrite e) (s.write e e0 (by intro z; cases z) ⟨vs, upd_same, r⟩) v rv
end

/-- the methods of built-in types -/
inductive Mt where
  | append | pop | popAt | clear | join | split
  deriving DecidableEq

def Mt.name : Mt → Str
  | .append => "append"
  | .pop => "pop"
  | .popAt => "pop"
  | .clear => "clear"
  | .join => "join"
  | .split => "split"
def Mt.id : Mt → String
  | .append => "list.append"
  | .pop => "list.pop"
  | .popAt => "list.pop"
  | .clear => "list.clear"
  | .join => "str.join"
  | .split => "str.split"
def Mt.ty : Mt → String
  | .append => "list"
  | .pop => "list"
  | .popAt => "list"
  | .clear => "list"
  | .join => "str"
  | .split => "str"
/-- no argument -/
def Mt.nul : Mt → Bool
  | .pop => true
  | .clear => true
  | _ => false
def isStr : D → Bool
  | .str _ => true
  | _ => false
/-- the receiver is of the type -/
def recvOk (m : Mt) (d : D) (η : List Cell) : Bool := match m.ty with
  | "list" => (asL η d).isSome
  | _ => isStr d

def asSs : List D → Option (List Str)
  | [] => some []
  | .str b :: r => (asSs r).map (b :: ·)
  | _ => none
theorem asSs_ok {K : PySem.W.Frag} {G : Hp} {ι : List Addr} : ∀ {vs : List V} {ds : List D} {bs : List Str}, Reps K G ι vs ds → asSs ds = some bs → vs = bs.map V.str
  | _, _, _, .nil, e => by cases e; rfl
  | _, _, _, .cons (ds := ds) h t, e => by
    cases h with
    | str b =>
      cases q : asSs ds with
      | none => simp [asSs, q] at e
      | some r =>
        simp [asSs, q] at e
        subst e
        rw [List.map_cons, ← asSs_ok t q]
    | _ => simp [asSs] at e
def txts (ys : List Str) : List D := ys.map D.str
theorem txts_rep {K : PySem.W.Frag} {G : Hp} {ι : List Addr} : ∀ l : List Str, Reps K G ι (l.map V.str) (txts l)
  | [] => .nil
  | c :: l => .cons (.str _) (txts_rep l)

def mtD (m : Mt) (d : D) (ds : List D) : M D := fun η => match m with
  | .append => (match d, ds with
    | .ref n, [y] => (match η[n]? with
      | some (.lst xs) => if xs.length < LIM then .ok .non (η.set n (.lst (xs ++ [y]))) else .bad
      | _ => .bad)
    | _, _ => .bad)
  | .pop => (match d, ds with
    | .ref n, [] => (match η[n]? with
      | some (.lst xs) => (match xs[xs.length - 1]? with
        | some y => .ok y (η.set n (.lst xs.dropLast))
        | none => .bad)
      | _ => .bad)
    | _, _ => .bad)
  | .popAt => (match d, ds with
    | .ref n, [.int i] => (match η[n]? with
      | some (.lst xs) => (match ixN xs.length i with
        | some k => (match xs[k]? with
          | some y => if xs.length ≤ LIM then .ok y (η.set n (.lst (xs.eraseIdx k))) else .bad
          | none => .bad)
        | none => .bad)
      | _ => .bad)
    | _, _ => .bad)
  | .clear => (match d, ds with
    | .ref n, [] => (match η[n]? with
      | some (.lst xs) => .ok .non (η.set n (.lst []))
      | _ => .bad)
    | _, _ => .bad)
  | .join => (match d, ds with
    | .str z, [l] => (match (asQ η l).bind asSs with
      | some ys => if (ys.map (·.length)).sum + ys.length * z.length ≤ LIM then .ok (.str (Txt.join z ys)) η else .bad
      | none => .bad)
    | _, _ => .bad)
  | .split => (match d, ds with
    | .str z, [.str y] => if (y.length == 0) = false ∧ z.length ≤ LIM then .ok (.fl (txts (Txt.split z y))) η else .bad
    | _, _ => .bad)

section
variable {cls : Nat → Addr} {X : Cx}
theorem mt_D (m : Mt) : MtR X m.id (rDM cls X.K (mtD m)) := by
  intro pins s σ H x xs v us Q I rx rs h
  obtain ⟨W0, G, ι, η, d, ds, S, r1, r2, h⟩ := h
  cases m with
  | append =>
    simp only [mtD] at h
    split at h
    · split at h
      · split at h
        · rename_i n y xs hn hl
          obtain ⟨a, vs, rfl, e1, e2, e3⟩ := S.live r1 hn
          cases r2 with
          | cons p q =>
          cases q
          exact mt_append pins s σ H _ _ v us Q I rx rs ⟨a, vs, _, rfl, rfl, e2, by rw [e3.length]; exact Nat.lt_of_lt_of_le hl lim_line, h.write S e1 hn (e3.append (.cons p .nil)) .non⟩
        · exact h.bad.elim
      · exact h.bad.elim
    · exact h.bad.elim
  | pop =>
    simp only [mtD] at h
    split at h
    · split at h
      · split at h
        · rename_i xs hn _ y hy
          obtain ⟨a, vs, rfl, e1, e2, e3⟩ := S.live r1 hn
          cases r2
          obtain ⟨w, f1, f2⟩ := e3.get hy
          refine mt_pop pins s σ H _ _ v us Q I rx rs ⟨a, vs, w, rfl, rfl, e2, by rw [e3.length]; exact f1, h.write S e1 hn ?_ f2⟩
          rw [List.dropLast_eq_take, List.dropLast_eq_take, e3.length]
          exact e3.take _
        · exact h.bad.elim
      · exact h.bad.elim
    · exact h.bad.elim
  | popAt =>
    simp only [mtD] at h
    split at h
    · split at h
      · split at h
        · split at h
          · split at h
            · rename_i xs hn _ k hk _ y hy hl
              obtain ⟨a, vs, rfl, e1, e2, e3⟩ := S.live r1 hn
              cases r2 with
              | cons p q =>
              cases q
              cases p
              obtain ⟨w, f1, f2⟩ := e3.get hy
              obtain ⟨g1, g2, g3, g4⟩ := ixN_seq hk
              have hL : LIM = 1000000 := rfl
              refine mt_popAt pins s σ H _ _ v us Q I rx rs ⟨a, vs, _, k, w, rfl, rfl, e2, by omega, by omega, by rw [e3.length]; exact g1, f1, h.write S e1 hn ?_ f2⟩
              rw [List.eraseIdx_eq_take_drop_succ, List.eraseIdx_eq_take_drop_succ]
              exact (e3.take _).append (e3.drop _)
            · exact h.bad.elim
          · exact h.bad.elim
        · exact h.bad.elim
      · exact h.bad.elim
    · exact h.bad.elim
  | clear =>
    simp only [mtD] at h
    split at h
    · split at h
      · rename_i n xs hn
        obtain ⟨a, vs, rfl, e1, e2, e3⟩ := S.live r1 hn
        cases r2
        exact mt_clear pins s σ H _ _ v us Q I rx rs ⟨a, vs, rfl, rfl, e2, h.write S e1 hn .nil .non⟩
      · exact h.bad.elim
    · exact h.bad.elim
  | join =>
    simp only [mtD] at h
    split at h
    · split at h
      · split at h
        · rename_i z l _ ys hy hl
          cases r1
          cases r2 with
          | cons p q =>
          cases q
          cases hq : asQ η l with
          | none => rw [hq] at hy; cases hy
          | some ls =>
            rw [hq] at hy
            obtain ⟨b, ws, rfl, g1, g2⟩ := asQ_ok S p hq
            have e := asSs_ok g2 (show asSs ls = some ys from hy)
            subst e
            exact mt_join pins s σ H _ _ v us Q I rx rs ⟨z, b, ys, rfl, rfl, g1, Nat.le_trans hl (by decide), h.now S (.str _)⟩
        · exact h.bad.elim
      · exact h.bad.elim
    · exact h.bad.elim
  | split =>
    simp only [mtD] at h
    split at h
    · split at h
      · rename_i z y hc
        cases r1
        cases r2 with
        | cons p q =>
        cases q
        cases p
        exact mt_split pins s σ H _ _ v us Q I rx rs ⟨z, y, rfl, rfl, hc.1, Nat.le_trans (Nat.add_le_add_right hc.2 2) (by rw [sizeLine_eq]; decide), h.fl S (txts_rep _)⟩
      · exact h.bad.elim
    · exact h.bad.elim
theorem recv_ok {K : PySem.W.Frag} {G H : Hp} {ι : List Addr} {η : List Cell} {m : Mt} {d : D} {x : V} (S : RS K G H ι η) (r : Rep K G ι x d) (h : recvOk m d η = true) : tyV K m.ty x H := by
  have hl : m.ty = "list" → (asL η d).isSome = true → tyV K m.ty x H := fun e q => by
    obtain ⟨xs, hx⟩ := Option.isSome_iff_exists.mp q
    obtain ⟨a, vs, rfl, h1, _⟩ := asL_ok S r hx
    exact .inl ⟨e, _, SqL.of h1⟩
  have hs : m.ty = "str" → isStr d = true → tyV K m.ty x H := fun e q => by
    cases r <;> first | exact e | cases q
  cases m
  case append => exact hl rfl h
  case pop => exact hl rfl h
  case popAt => exact hl rfl h
  case clear => exact hl rfl h
  case join => exact hs rfl h
  case split => exact hs rfl h

/-! ### stores -/
def setD (d i y : D) : M Unit := fun η => match d, i with
  | .ref n, .int k => (match η[n]? with
    | some (.lst xs) => (match ixN xs.length k with
      | some j => .ok () (η.set n (.lst (xs.set j y)))
      | none => .bad)
    | _ => .bad)
  | _, _ => .bad
def rSetD (cls : Nat → Addr) (K : PySem.W.Frag) : TSet := fun o i v H Q => ∃ W0 G ι η d e y, RS K G H ι η ∧ Rep K G ι o d ∧ Rep K G ι i e ∧ Rep K G ι v y ∧ Post cls K G H ι (setD d e y η) (fun _ _ _ _ H' => Q H') W0
theorem set_D : PSet X (rSetD cls X.K) := by
  intro pins s σ H o i v ov iv u Q I ro ri rv h
  obtain ⟨W0, G, ι, η, d, e, y, S, r1, r2, r3, h⟩ := h
  unfold setD at h
  split at h
  · split at h
    · split at h
      · rename_i xs hn _ j hj
        obtain ⟨a, vs, rfl, e1, e2, e3⟩ := S.live r1 hn
        cases r2
        refine set_list pins s σ H _ _ v ov iv u Q I ro ri rv ⟨a, vs, _, j, rfl, rfl, e2, by rw [e3.length]; exact hj, ?_⟩
        exact h G ι _ (RS.stpWrite e1) (S.write e1 hn (by intro z; cases z) ⟨_, upd_same, e3.set r3 j⟩)
      · exact h.elim
    · exact h.elim
  · exact h.elim

/-! ### isinstance -/
def tyOf (η : List Cell) : D → Option String
  | .non => some "NoneType"
  | .bl _ => some "bool"
  | .int _ => some "int"
  | .str _ => some "str"
  | .tup _ => some "tuple"
  | .fl _ => some "list"
  | .scr _ => some "list"
  | .ref n => match η[n]? with
    | some (.lst _) => some "list"
    | _ => none
def tyNames : List String := ["NoneType", "bool", "int", "str", "tuple", "list"]
def isSub (a b : String) : Bool := a == b || (a == "bool" && b == "int")
theorem kit_all : tyNames.all (fun a => ["bool", "int", "str", "tuple", "list"].all fun b => decide (kitB a b = some (isSub a b))) = true := by decide +kernel
def isiD (T : String) (d : D) : M D := fun η => match tyOf η d with
  | some t => if ["bool", "int", "str", "tuple", "list"].contains T then .ok (.bl (isSub t T)) η else .bad
  | none => .bad
theorem tyOf_ok {K : PySem.W.Frag} {G H : Hp} {ι : List Addr} {η : List Cell} {d : D} {x : V} {t : String} (S : RS K G H ι η) (r : Rep K G ι x d) (h : tyOf η d = some t) : t ∈ tyNames ∧ TyX K H x (.type t) := by
  cases r with
  | non => cases h; exact ⟨by decide, .base .non⟩
  | bl b => cases h; exact ⟨by decide, .base (.bl b)⟩
  | int b => cases h; exact ⟨by decide, .base (.int b)⟩
  | str b => cases h; exact ⟨by decide, .base (.str b)⟩
  | tup q _ =>
    cases h
    exact ⟨by decide, .base (.tup (S.sub _ _ q))⟩
  | fl q _ => cases h; exact ⟨by decide, .base (.lst (S.sub _ _ q))⟩
  | scr q _ =>
    cases h
    refine ⟨by decide, ?_⟩
    rcases S.sub.seq q with (q | ⟨o, q⟩) | ⟨o, its, n, h1, h2, _⟩
    · exact .base (.lst q)
    · exact .base (.frz q)
    · exact .kList h1 h2
  | @ref n a q =>
    simp only [tyOf] at h
    split at h
    · rename_i xs hx
      cases h
      obtain ⟨vs, h1, _⟩ := S.cells n a _ q hx
      exact ⟨by decide, .base (.lst h1)⟩
    · cases h
def rIsD (cls : Nat → Addr) (K : PySem.W.Frag) (T : String) : List V → Hp → VK → Prop := fun xs H Q => ∃ W0 x G ι η d, xs = [x, .ty T] ∧ RS K G H ι η ∧ Rep K G ι x d ∧ PV cls K G H ι (isiD T d η) Q W0
theorem call_isD (T : String) : CallR X (.builtin "isinstance") (rIsD cls X.K T) := by
  intro pins s σ H xs us Q I r h
  obtain ⟨W0, x, G, ι, η, d, rfl, S, r1, h⟩ := h
  unfold isiD at h
  split at h
  · rename_i t ht
    split at h
    · rename_i hT
      obtain ⟨m, ty⟩ := tyOf_ok S r1 ht
      have hk := List.all_eq_true.mp (List.all_eq_true.mp kit_all t m) T (by simpa using hT)
      exact call_isi pins s σ H _ us Q I r ⟨x, _, _, _, _, rfl, .ty T, ty, kit_ty (of_decide_eq_true hk), h.now S (.bl _)⟩
    · exact h.bad.elim
  · exact h.bad.elim
end
end Ms
end
section
set_option Elab.async false
set_option linter.all false
set_option maxRecDepth 100000
set_option maxHeartbeats 4000000
/-! The language: its code, what the code does with data. -/
namespace Ms
open PySem L2

inductive Bop where
  | add | sub | mul | fdiv | mod
  deriving DecidableEq
inductive Cop where
  | eq | ne | lt | le | gt | ge | is_ | isnt | in_ | notin
  deriving DecidableEq
/-- built-ins by name -/
inductive Bi where
  | len | int | list | listM | tuple | all | any | sum | min | max
  deriving DecidableEq
inductive Tn where
  | name (i : Nat) | tup (is : List Nat)
  deriving DecidableEq

mutual
inductive E where
  | loc (i : Nat)
  | cst (c : Const)
  | glob (x : Str) (c : Const)
  | bin (op : Bop) (a b : E)
  | cmp (op : Cop) (a b : E)
  | chain (o1 o2 : Cop) (a b c : E)
  | and_ (es : Es)
  | or_ (es : Es)
  | not_ (a : E)
  | neg (a : E)
  | ite (c a b : E)
  | tup (es : Es)
  | lst (m : Bool) (es : Es)
  | sub (a i : E)
  | slice (a : E) (lo hi : Eo)
  | rev (a : E)
  | call (f : Nat) (es : Es)
  | bi (b : Bi) (es : Es)
  | mt (m : Mt) (a : E) (es : Es)
  | isi (a : E) (T : String)
  | lc (m : Bool) (own : List (Str × Nat)) (tg : Tn) (it : It) (cond : Eo) (elt : E)
  | frz (a : E)
  /-- told(lambda: e), the table of code objects in cell i -/
  | told (i : Nat) (p : Str × Option Str) (q : Str) (e : E)
inductive Es where
  | nil | cons (e : E) (r : Es)
inductive Eo where
  | none | some (e : E)
inductive It where
  | val (e : E) | rng1 (a : E) | rng2 (a b : E) | rng3 (a b c : E) | enum (e : E) | zip (a b : E)
end
mutual
inductive S where
  | asg (tg : Tn) (e : E)
  | par (i j : Nat) (a b : E)
  | seti (o i e : E)
  | aug (i : Nat) (op : Bop) (e : E)
  | ex (e : E)
  | if_ (c : E) (a b : Ss)
  | for_ (tg : Tn) (it : It) (body : Ss)
  | while_ (c : E) (body : Ss)
  | ret (e : E)
  | retN
  | pass
  | never
  /-- raise C(..) -/
  | rais (c : Nat) (fs : List Str) (es : Es)
inductive Ss where
  | nil | cons (s : S) (r : Ss)
end

abbrev Env := List (Option D)
inductive Fl where
  | nx (ρ : Env) | rt (d : D)

def constD : Const → Option D
  | .none => some .non
  | .bool b => some (.bl b)
  | .int i => some (.int i)
  | .str s => some (.str s)
  | _ => none

def binD : Bop → D → D → M D
  | .add => addD
  | .sub => subD
  | .mul => mulD
  | .fdiv => fdivD
  | .mod => modD
def cmpD : Cop → D → D → M D
  | .eq => eqD
  | .ne => neD
  | .lt => ltD
  | .le => leD
  | .gt => gtD
  | .ge => geD
  | .is_ => isND
  | .isnt => notND
  | .in_ => inD false
  | .notin => inD true
def biD : Bi → List D → M D
  | .len => lenD
  | .int => intD
  | .list => listD
  | .listM => listMD
  | .tuple => tupleD
  | .all => allD
  | .any => anyD
  | .sum => sumD
  | .min => minD
  | .max => maxD
/-- op= on a name: a list's cell grows -/
def augD (op : Bop) (x y : D) : M D := fun η => match op, x with
  | .add, .ref n => (match η[n]?, asL η y with
    | some (.lst xs), some ys => if xs.length + ys.length ≤ LIM then .ok (.ref n) (η.set n (.lst (xs ++ ys))) else .bad
    | _, _ => .bad)
  | .add, .int i => (match y with
    | .int j => .ok (.int (i + j)) η
    | _ => .bad)
  | .sub, .int i => (match y with
    | .int j => .ok (.int (i - j)) η
    | _ => .bad)
  | _, _ => .bad
def asB (m : M D) : M Bool := bnd m fun d => match d with
  | .bl b => ret b
  | _ => bad
def asI (d : D) : M (Option Int) := match d with
  | .int i => ret (some i)
  | _ => bad
def frzD (d : D) : M D := match d with
  | .ref n => fun η => (match η[n]? with
    | some (.lst xs) => .ok (.fl xs) (η.set n .dead)
    | _ => .bad)
  | d => ret d
def newL (m : Bool) (ds : List D) : M D := fun η => if ds.length ≤ LIM then (if m then .ok (.ref η.length) (η ++ [.lst ds]) else .ok (.fl ds) η) else .bad
def negD : D → M D
  | .int i => ret (.int (-i))
  | _ => bad
def revD (d : D) : M D := fun η => match asL η d with
  | some xs => .ok (.fl xs.reverse) η
  | none => .bad

/-- what is walked -/
def itemsOf : D → Option (List D)
  | .str z => if z.length ≤ LIM then some (signs z) else none
  | .tup xs => some xs
  | .fl xs => some xs
  | .scr xs => some xs
  | _ => none
/-- lists that must stay as they are while they are walked -/
abbrev Gd := List (Nat × List D)
def gdOk (g : Gd) (η : List Cell) : Prop := ∀ p ∈ g, η[p.1]? = some (.lst p.2)
mutual
def dBeq : D → D → Bool
  | .non, .non => true
  | .bl a, .bl b => a == b
  | .int a, .int b => decide (a = b)
  | .str a, .str b => decide (a = b)
  | .tup a, .tup b => dsBeq a b
  | .fl a, .fl b => dsBeq a b
  | .scr a, .scr b => dsBeq a b
  | .ref a, .ref b => decide (a = b)
  | _, _ => false
def dsBeq : List D → List D → Bool
  | [], [] => true
  | a :: r, b :: s => dBeq a b && dsBeq r s
  | _, _ => false
end
mutual
theorem dBeq_eq : ∀ {a b : D}, dBeq a b = true → a = b
  | .non, .non, _ => rfl
  | .bl a, .bl b, h => congrArg D.bl (eq_of_beq h)
  | .int a, .int b, h => congrArg D.int (of_decide_eq_true h)
  | .str a, .str b, h => congrArg D.str (of_decide_eq_true h)
  | .tup a, .tup b, h => congrArg D.tup (dsBeq_eq (by simpa [dBeq] using h))
  | .fl a, .fl b, h => congrArg D.fl (dsBeq_eq (by simpa [dBeq] using h))
  | .scr a, .scr b, h => congrArg D.scr (dsBeq_eq (by simpa [dBeq] using h))
  | .ref a, .ref b, h => congrArg D.ref (of_decide_eq_true h)
theorem dsBeq_eq : ∀ {a b : List D}, dsBeq a b = true → a = b
  | [], [], _ => rfl
  | a :: r, b :: s, h => by
    simp only [dsBeq, Bool.and_eq_true] at h
    rw [dBeq_eq h.1, dsBeq_eq h.2]
end
mutual
theorem dBeq_refl : ∀ a : D, dBeq a a = true
  | .non => rfl
  | .bl a => by simp [dBeq]
  | .int a => by simp [dBeq]
  | .str a => by simp [dBeq]
  | .tup a => by rw [dBeq]; exact dsBeq_refl a
  | .fl a => by rw [dBeq]; exact dsBeq_refl a
  | .scr a => by rw [dBeq]; exact dsBeq_refl a
  | .ref a => by simp [dBeq]
theorem dsBeq_refl : ∀ a : List D, dsBeq a a = true
  | [] => rfl
  | a :: r => by rw [dsBeq, dBeq_refl a, dsBeq_refl r]; rfl
end
def gdB (g : Gd) (η : List Cell) : Bool := g.all fun p => match η[p.1]? with
  | some (.lst ys) => dsBeq ys p.2
  | _ => false
theorem gdB_ok {g : Gd} {η : List Cell} : gdB g η = true ↔ gdOk g η := by
  unfold gdB gdOk
  rw [List.all_eq_true]
  refine ⟨fun h p hp => ?_, fun h p hp => ?_⟩
  · have q := h p hp
    split at q
    · rename_i ys e
      rw [e, dsBeq_eq q]
    · cases q
  · rw [h p hp]
    exact dsBeq_refl _
def chkG (g : Gd) : M Unit := fun η => if gdB g η = true then .ok () η else .bad
/-- what is walked; a list that may change is guarded -/
def itemsG (d : D) (η : List Cell) : Option (List D × Gd) := match d with
  | .ref n => (match η[n]? with
    | some (.lst xs) => some (xs, [(n, xs)])
    | _ => none)
  | d => (itemsOf d).map fun xs => (xs, [])
def itVal (d : D) : M (List D × Gd) := fun η => match itemsG d η with
  | some r => .ok r η
  | none => .bad
def enumL : Nat → List D → List D
  | _, [] => []
  | n, d :: r => .tup [.int n, d] :: enumL (n + 1) r
def isScr : D → Bool
  | .scr _ => true
  | _ => false
def zItems (d : D) (η : List Cell) : Option (List D × Gd) := if isScr d then none else itemsG d η
def itEnum (d : D) : M (List D × Gd) := fun η => match zItems d η with
  | some (xs, g) => .ok (enumL 0 xs, g) η
  | none => .bad
def itZip (a b : D) : M (List D × Gd) := fun η => match zItems a η, zItems b η with
  | some (xs, g), some (ys, g2) => .ok (List.zipWith (fun x y => .tup [x, y]) xs ys, g ++ g2) η
  | _, _ => .bad
def itR1 : D → M (List D × Gd)
  | .int j => if -1000000 ≤ j ∧ j ≤ 1000000 then ret ((List.range j.toNat).map fun k => .int ((k : Nat) : Int), []) else bad
  | _ => bad
def itR2 : D → D → M (List D × Gd)
  | .int i, .int j => if -1000000 ≤ i ∧ i ≤ 1000000 ∧ -1000000 ≤ j ∧ j ≤ 1000000 then ret ((List.range (j - i).toNat).map fun k => .int (i + (k : Nat)), []) else bad
  | _, _ => bad
def itR3 : D → D → D → M (List D × Gd)
  | .int i, .int j, .int c => if c = -1 ∧ -1000000 ≤ i ∧ i ≤ 1000000 ∧ -1000000 ≤ j ∧ j ≤ 1000000 then ret ((List.range (i - j).toNat).map fun k => .int (i + (k : Nat) * -1), []) else bad
  | _, _, _ => bad

/-- names get what is handed -/
def setAll : List Nat → List D → Env → Option Env
  | [], [], ρ => some ρ
  | i :: is, d :: ds, ρ => setAll is ds (ρ.set i (some d))
  | _, _, _ => none
def bindT (tg : Tn) (d : D) (ρ : Env) : Option Env := match tg with
  | .name i => some (ρ.set i (some d))
  | .tup is => match d with
    | .tup ds => setAll is ds ρ
    | _ => none
def wipeD (ρ : Env) : List Nat → Env
  | [] => ρ
  | v :: vs => (wipeD ρ vs).set v none

/-- what is told of an error -/
def excNames : List Str := ["BadPaper", "BadWork", "BadStep", "BadCount", "NoWork", "BadText"]
def wordsOf {α : Type} (st : Str → α) (it : Int → α) (c : Nat) (fs : List (Str × α)) : Option (List α) := match c with
  | 0 => (match fs.lookup ("scheme" : Str), fs.lookup ("place" : Str) with
    | some a, some b => some [st "BadPaper", a, b]
    | _, _ => none)
  | 1 => (fs.lookup ("number" : Str)).map fun a => [st "BadWork", a]
  | 2 => some [st "BadStep", it 0]
  | 3 => some [st "BadCount", it 0]
  | 4 => some [st "NoWork", it 0]
  | 5 => (fs.lookup ("place" : Str)).map fun a => [st "BadText", a]
  | _ => none
def toldD (p : Str × Option Str) (q : Str) (i : Nat) (m : M D) : M D := fun η => match η[i]? with
  | some (.tab p' q') => if p' = p ∧ q' = q then (match m η with
    | .ok d η' => .ok d η'
    | .exc c fs η' => (match wordsOf D.str D.int c fs with
      | some ds => .ok (.tup ds) η'
      | none => .bad)
    | .bad => .bad) else .bad
  | _ => .bad
/-- an error with its fields -/
def raisD (c : Nat) (fs : List Str) (ds : List D) : M Fl := fun η => if ds.length = fs.length then .exc c (fs.zip ds).reverse η else .bad
/-- nothing is raised in here -/
def noX {α : Type} (m : M α) : M α := fun η => match m η with
  | .ok a η' => .ok a η'
  | _ => .bad
/-- a comprehension's turns -/
def lcL (g : Gd) (bind : D → Option Env) (cond : Env → M Bool) (elt : Env → M D) : List D → List D → M (List D)
  | [], acc => bnd (chkG g) fun _ => ret acc
  | d :: r, acc => bnd (chkG g) fun _ => match bind d with
    | none => bad
    | some ρ => bnd (noX (cond ρ)) fun b => if b then bnd (noX (elt ρ)) fun y => if acc.length < LIM then lcL g bind cond elt r (acc ++ [y]) else bad
      else lcL g bind cond elt r acc
def forL (g : Gd) (bind : D → Env → Option Env) (body : Env → M Fl) : List D → Env → M Fl
  | [], ρ => bnd (chkG g) fun _ => ret (.nx ρ)
  | d :: r, ρ => bnd (chkG g) fun _ => match bind d ρ with
    | none => bad
    | some ρ2 => bnd (body ρ2) fun fl => match fl with
      | .nx ρ3 => forL g bind body r ρ3
      | .rt v => ret (.rt v)
def whileL (test : Env → M Bool) (body : Env → M Fl) : Nat → Env → M Fl
  | 0, _ => bad
  | n + 1, ρ => bnd (test ρ) fun b => if b then bnd (body ρ) fun fl => (match fl with
      | .nx ρ3 => whileL test body n ρ3
      | .rt v => ret (.rt v))
    else ret (.nx ρ)
def WF : Nat := 1000000

section
variable (cf : Nat → List D → M D)
mutual
def evE : E → Env → M D
  | .loc i, ρ => fromO (ρ[i]?.join)
  | .cst c, _ => fromO (constD c)
  | .glob _ c, _ => fromO (constD c)
  | .bin op a b, ρ => bnd (evE a ρ) fun x => bnd (evE b ρ) fun y => binD op x y
  | .cmp op a b, ρ => bnd (evE a ρ) fun x => bnd (evE b ρ) fun y => cmpD op x y
  | .chain o1 o2 a b c, ρ => bnd (evE a ρ) fun x => bnd (evE b ρ) fun y => bnd (asB (cmpD o1 x y)) fun k => if k then bnd (evE c ρ) fun z => cmpD o2 y z else ret (.bl false)
  | .and_ es, ρ => evAnd es ρ
  | .or_ es, ρ => evOr es ρ
  | .not_ a, ρ => bnd (asB (evE a ρ)) fun b => ret (.bl (!b))
  | .neg a, ρ => bnd (evE a ρ) negD
  | .ite c a b, ρ => bnd (asB (evE c ρ)) fun k => if k then evE a ρ else evE b ρ
  | .tup es, ρ => bnd (evEs es ρ) fun ds => if ds.length ≤ LIM then ret (.tup ds) else bad
  | .lst m es, ρ => bnd (evEs es ρ) (newL m)
  | .sub a i, ρ => bnd (evE a ρ) fun x => bnd (evE i ρ) fun y => idxD x y
  | .slice a lo hi, ρ => bnd (evE a ρ) fun x => bnd (evO lo ρ) fun l => bnd (evO hi ρ) fun h => sliceD x l h
  | .rev a, ρ => bnd (evE a ρ) revD
  | .call f es, ρ => bnd (evEs es ρ) (cf f)
  | .bi b es, ρ => bnd (evEs es ρ) (biD b)
  | .mt m a es, ρ => bnd (evE a ρ) fun d => bnd (fun η => if recvOk m d η then .ok () η else .bad) fun _ => bnd (evEs es ρ) (mtD m d)
  | .isi a T, ρ => bnd (evE a ρ) (isiD T)
  | .lc m own tg it cond elt, ρ => bnd (evIt it ρ) fun items => bnd (lcL items.2 (fun d => bindT tg d (wipeD ρ (own.map (·.2)))) (evC cond) (evE elt) items.1 []) (newL m)
  | .frz a, ρ => bnd (evE a ρ) frzD
  | .told i p q e, ρ => toldD p q i (evE e ρ)
def evEs : Es → Env → M (List D)
  | .nil, _ => ret []
  | .cons e r, ρ => bnd (evE e ρ) fun d => bnd (evEs r ρ) fun ds => ret (d :: ds)
def evAnd : Es → Env → M D
  | .nil, _ => bad
  | .cons e .nil, ρ => evE e ρ
  | .cons e r, ρ => bnd (asB (evE e ρ)) fun k => if k then evAnd r ρ else ret (.bl false)
def evOr : Es → Env → M D
  | .nil, _ => bad
  | .cons e .nil, ρ => evE e ρ
  | .cons e r, ρ => bnd (asB (evE e ρ)) fun k => if k then ret (.bl true) else evOr r ρ
def evO : Eo → Env → M (Option Int)
  | .none, _ => ret none
  | .some e, ρ => bnd (evE e ρ) asI
/-- a comprehension's test -/
def evC : Eo → Env → M Bool
  | .none, _ => ret true
  | .some e, ρ => asB (evE e ρ)
def evIt : It → Env → M (List D × Gd)
  | .val e, ρ => bnd (evE e ρ) itVal
  | .rng1 a, ρ => bnd (evE a ρ) itR1
  | .rng2 a b, ρ => bnd (evE a ρ) fun x => bnd (evE b ρ) fun y => itR2 x y
  | .rng3 a b c, ρ => bnd (evE a ρ) fun x => bnd (evE b ρ) fun y => bnd (evE c ρ) fun z => itR3 x y z
  | .enum e, ρ => bnd (evE e ρ) itEnum
  | .zip a b, ρ => bnd (evE a ρ) fun x => bnd (evE b ρ) fun y => itZip x y
end
mutual
def evS : S → Env → M Fl
  | .asg tg e, ρ => bnd (evE cf e ρ) fun d => match bindT tg d ρ with
    | some ρ' => ret (.nx ρ')
    | none => bad
  | .par i j a b, ρ => bnd (evE cf a ρ) fun x => bnd (evE cf b ρ) fun y => ret (.nx ((ρ.set i (some x)).set j (some y)))
  | .seti o i e, ρ => bnd (evE cf e ρ) fun y => bnd (evE cf o ρ) fun d => bnd (evE cf i ρ) fun k => bnd (setD d k y) fun _ => ret (.nx ρ)
  | .aug i op e, ρ => bnd (fromO (ρ[i]?.join)) fun x => bnd (evE cf e ρ) fun y => bnd (augD op x y) fun z => ret (.nx (ρ.set i (some z)))
  | .ex e, ρ => bnd (evE cf e ρ) fun _ => ret (.nx ρ)
  | .if_ c a b, ρ => bnd (asB (evE cf c ρ)) fun k => if k then evSs a ρ else evSs b ρ
  | .for_ tg it body, ρ => bnd (evIt cf it ρ) fun items => forL items.2 (bindT tg) (evSs body) items.1 ρ
  | .while_ c body, ρ => whileL (fun ρ => asB (evE cf c ρ)) (evSs body) WF ρ
  | .ret e, ρ => bnd (evE cf e ρ) fun d => ret (.rt d)
  | .retN, _ => ret (.rt .non)
  | .pass, ρ => ret (.nx ρ)
  | .never, _ => bad
  | .rais c fs es, ρ => bnd (evEs cf es ρ) (raisD c fs)
def evSs : Ss → Env → M Fl
  | .nil, ρ => ret (.nx ρ)
  | .cons s r, ρ => bnd (evS s ρ) fun fl => match fl with
    | .nx ρ' => evSs r ρ'
    | .rt d => ret (.rt d)
end
end

/-! ### cells that nobody needs -/
mutual
def dUnder (n : Nat) : D → Bool
  | .tup xs => dUnders n xs
  | .fl xs => dUnders n xs
  | .scr xs => dUnders n xs
  | .ref m => decide (m < n)
  | _ => true
def dUnders (n : Nat) : List D → Bool
  | [] => true
  | d :: r => dUnder n d && dUnders n r
end
def cUnder (n : Nat) : Cell → Bool
  | .lst xs => dUnders n xs
  | .tab _ _ => true
  | .dead => true
/-- what was laid since, forgotten, if it is no longer needed -/
def trunc (n : Nat) : Res D → Res D
  | .ok d η => if n ≤ η.length ∧ dUnder n d = true ∧ (η.take n).all (cUnder n) = true then .ok d (η.take n) else .ok d η
  | r => r
def runB : Res Fl → Res D
  | .ok (.nx _) η => .ok .non η
  | .ok (.rt d) η => .ok d η
  | .exc c fs η => .exc c fs η
  | .bad => .bad

/-- where lambdas are made: the table's cell, the def, the lambda's qualified name -/
structure LamI where
  i : Nat
  p : Str × Option Str
  q : Str
  deriving DecidableEq
structure FD where
  name : Str
  ps : List Str
  N : List Str
  code : Ss
  lam : Option LamI := none
def startD (n : Nat) (ds : List D) : Env := ds.map some ++ List.replicate (n - ds.length) none
def evF (T : List FD) : Nat → Nat → List D → M D
  | 0 => fun _ _ => bad
  | k + 1 => fun f ds η => match T[f]? with
    | some fd => if ds.length = fd.ps.length then trunc η.length (runB (evSs (evF T k) fd.code (startD fd.N.length ds) η)) else .bad
    | none => .bad
end Ms
end
section
set_option Elab.async false
set_option linter.all false
set_option maxRecDepth 100000
set_option maxHeartbeats 4000000
/-! What the code's texts must be like. -/
namespace Ms
open PySem L2

def visB (sc : Scope) (x : Str) : Bool := match sc.names.lookup x with
  | some .local => true
  | some .cell => true
  | some .free => true
  | _ => false
def glB (sc : Scope) (x : Str) : Bool := match sc.names.lookup x with
  | some .globalImplicit => true
  | _ => false
def nameB (x : Str) : Bool := !(x == ("__debug__" : Str)) && !(x == ("__classdict__" : Str))
theorem visB_ok {sc : Scope} {x : Str} (h : visB sc x = true) : Vis sc x := by
  unfold visB at h
  split at h <;> first | exact .inl (by assumption) | exact .inr (.inl (by assumption)) | exact .inr (.inr (by assumption)) | cases h
theorem glB_ok {X : Cx} {x : Str} (h : glB X.env.scope x = true) : Gl X x := by
  unfold glB at h
  split at h
  · assumption
  · cases h
theorem nameB_ok {x : Str} (h : nameB x = true) : (x == ("__debug__" : Str)) = false ∧ (x == ("__classdict__" : Str)) = false := by
  simp only [nameB, Bool.and_eq_true, Bool.not_eq_true'] at h
  exact h
/-- no star ahead of it -/
def noStar : Expr → Bool
  | .Starred _ _ => false
  | _ => true
theorem noStar_ok {e : Expr} {es : List Expr} {env : PySem.Env} (h : noStar e = true) : starEach (e :: es) env = (false, eval e env) :: starEach es env := by
  cases e <;> first | rfl | cases h
/-- a subscript that is no slice -/
def noSlice : Expr → Bool
  | .Slice _ _ _ _ => false
  | _ => true
theorem noSlice_ok {e : Expr} (h : noSlice e = true) : PlainIx e := by
  intro o i
  cases e <;> first | rfl | cases h
def noSet : Expr → Bool
  | .Set _ _ _ => false
  | _ => true
theorem noSet_folded {e : Expr} {env : PySem.Env} (h : noSet e = true) (x : Value) : foldedSetIterable e env x = pure x := by
  cases e <;> first | rfl | cases h
theorem noSet_behind {e : Expr} {op : CmpOp} (h : noSet e = true) : behindInMarks op e = false := by
  cases e <;> first | rfl | cases h
/-- a receiver that is not super() -/
def noSuper : Expr → Bool
  | .Call (.Name x _) [] [] _ => !(x == ("super" : Str))
  | _ => true
theorem noSuper_ok {e : Expr} {f : Str} {env : PySem.Env} (h : noSuper e = true) : attributeBase e f env (eval e env) = eval e env := by
  unfold noSuper at h
  unfold attributeBase
  split at h
  · simp only [Bool.not_eq_true'] at h
    have h2 : (bne ‹Str› ("super" : Str)) = true := by
      simp only [bne, h, Bool.not_false]
    simp only [h2, Bool.true_or, if_true]
  · rename_i hne
    split
    · rename_i x p1 p2
      exact absurd rfl (hne _ _ _)
    · rfl
def noComp : Expr → Bool
  | .ListComp _ _ _ _ => false
  | .SetComp _ _ _ _ => false
  | .DictComp _ _ _ _ _ => false
  | _ => true
theorem noComp_ok {e : Expr} {t : Option Expr} {l : Nat} {env : PySem.Env} (h : noComp e = true) : swapsWith e t l env = pure false := by
  cases e <;> first | rfl | cases h
/-- tests that are read by their truth -/
def plainT : Expr → Bool
  | .UnaryOp .Not _ _ => false
  | .BoolOp _ _ _ => false
  | .IfExp _ _ _ _ => false
  | .Compare _ _ _ _ => false
  | _ => true
theorem plainT_ok {e : Expr} {env : PySem.Env} (h : plainT e = true) (w : Sem Value) : isTrue e env w = (do let v ← w; standAt e.pos; holding [v] (truthy v)) := by
  cases e <;> first | rfl | cases h | (rename_i op a p; cases op <;> first | rfl | cases h)

/-- ops by name -/
def Bop.op : Bop → Operator
  | .add => .Add
  | .sub => .Sub
  | .mul => .Mult
  | .fdiv => .FloorDiv
  | .mod => .Mod
def Cop.op : Cop → CmpOp
  | .eq => .Eq
  | .ne => .NotEq
  | .lt => .Lt
  | .le => .LtE
  | .gt => .Gt
  | .ge => .GtE
  | .is_ => .Is
  | .isnt => .IsNot
  | .in_ => .In
  | .notin => .NotIn
def Bi.name : Bi → Str
  | .len => "len"
  | .int => "int"
  | .list => "list"
  | .listM => "list"
  | .tuple => "tuple"
  | .all => "all"
  | .any => "any"
  | .sum => "sum"
  | .min => "min"
  | .max => "max"
/-- a built-in class -/
def Bi.ty : Bi → Bool
  | .int => true
  | .list => true
  | .listM => true
  | .tuple => true
  | _ => false
def isTys : List String := ["bool", "int", "str", "tuple", "list"]
def builtinNames : List Str := ["len", "int", "list", "tuple", "all", "any", "sum", "min", "max", "isinstance", "range", "enumerate", "zip", "bool", "str"]

/-- no parameters -/
def noArgs (a : Arguments) : Bool := a.posonlyargs.isEmpty && a.args.isEmpty && a.vararg.isNone && a.kwonlyargs.isEmpty && a.kw_defaults.isEmpty && a.kwarg.isNone && a.defaults.isEmpty
/-- what the module has: defs and constants -/
structure Tab where
  fns : List FD
  cs : List (Str × Const)
  /-- errors: their names, their fields -/
  xs : List (Nat × Str × List Str) := []
  /-- the def that tells of errors -/
  told : Str := "told"
  lam : Option LamI := none

section
variable (T : Tab) (N : List Str)
/-- targets -/
def chkN (sc : Scope) (i : Nat) : Expr → Bool
  | .Name x _ => decide (N[i]? = some x) && (match sc.names.lookup x with
    | some .local => true
    | some .cell => true
    | _ => false)
  | _ => false
def chkNs (sc : Scope) : List Nat → List Expr → Bool
  | [], [] => true
  | i :: is, e :: es => chkN N sc i e && chkNs sc is es
  | _, _ => false
def chkTn (sc : Scope) : Tn → Expr → Bool
  | .name i, e => chkN N sc i e
  | .tup is, .Tuple es _ _ => chkNs N sc is es
  | _, _ => false
def isTuple : Expr → Bool
  | .Tuple _ _ _ => true
  | _ => false
end
mutual
def chkE (T : Tab) (N : List Str) (sc : Scope) : E → Expr → Bool
  | .loc i, .Name x _ => decide (N[i]? = some x) && visB sc x && nameB x
  | .cst c, .Constant c' _ _ => decide (c = c') && (constD c).isSome
  | .glob x c, .Name y _ => decide (x = y) && glB sc y && nameB y && decide ((x, c) ∈ T.cs)
  | .bin op a b, .BinOp l o r _ => decide (o = op.op) && chkE T N sc a l && chkE T N sc b r
  | .cmp op a b, .Compare l [o] [r] _ => decide (o = op.op) && chkE T N sc a l && chkE T N sc b r && noSet r
  | .chain o1 o2 a b c, .Compare l [p1, p2] [r, z] _ => decide (p1 = o1.op) && decide (p2 = o2.op) && chkE T N sc a l && chkE T N sc b r && chkE T N sc c z && noSet z
  | .and_ es, .BoolOp .And vs _ => chkB T N sc es vs
  | .or_ es, .BoolOp .Or vs _ => chkB T N sc es vs
  | .not_ a, .UnaryOp .Not x _ => chkE T N sc a x
  | .neg a, .UnaryOp .USub x _ => chkE T N sc a x
  | .ite c a b, .IfExp t x y _ => chkT T N sc c t && chkE T N sc a x && chkE T N sc b y
  | .tup es, .Tuple xs _ _ => chkEs T N sc es xs
  | .lst _ es, .List xs _ => chkEs T N sc es xs
  | .sub a i, .Subscript v s _ => chkE T N sc a v && chkE T N sc i s && noSlice s
  | .slice a lo hi, .Subscript v (.Slice l h none _) _ => chkE T N sc a v && chkO T N sc lo l && chkO T N sc hi h
  | .rev a, .Subscript v (.Slice none none (some (.UnaryOp .USub (.Constant (.int 1) _ _) _)) _) _ => chkE T N sc a v
  | .call f es, .Call (.Name x _) xs [] _ => (match T.fns[f]? with
    | some fd => decide (fd.name = x) && glB sc x && nameB x && chkEs T N sc es xs && !xs.isEmpty
    | none => false)
  | .bi b es, .Call (.Name x _) xs [] _ => decide (b.name = x) && glB sc x && chkEs T N sc es xs && !xs.isEmpty
  | .mt m a es, .Call (.Attribute o n ap) xs [] p => decide (m.name = n) && chkE T N sc a o && noSuper o && chkEs T N sc es xs && (ap.endLine == p.line) && (if m.nul then xs.isEmpty else (xs.length == 1))
  | .isi a ty, .Call (.Name x _) [v, .Name y _] [] _ => decide (x = ("isinstance" : Str)) && glB sc x && chkE T N sc a v && noStar v && decide (y = PySem.Str.ofString ty) && glB sc y && decide (ty ∈ isTys)
  | .lc _ own tg it cond elt, .ListComp e [⟨t, i, ifs, 0⟩] scope _ => blkC N sc scope own && chkTn N (relS scope sc) tg t && chkTn N scope tg t && (match tg with
      | .name j => decide (j ∈ own.map (·.2))
      | .tup js => js.all fun j => decide (j ∈ own.map (·.2))) && chkIt T N sc it t i && chkC T N (relS scope sc) cond ifs && chkE T N (relS scope sc) elt e && noSet i
  | .frz a, e => chkE T N sc a e
  | .told i p q a, .Call (.Name x _) [.Lambda pr b scope _] [] _ => decide (T.lam = some ⟨i, p, q⟩) && decide (x = T.told) && glB sc x && nameB x && noArgs pr && LamX.lamSB sc scope && chkE { T with lam := none } N scope a b
  | _, _ => false
/-- as a test -/
def chkT (T : Tab) (N : List Str) (sc : Scope) : E → Expr → Bool
  | .cmp op a b, .Compare l [o] [r] _ => decide (o = op.op) && chkE T N sc a l && chkE T N sc b r && noSet r
  | .chain o1 o2 a b c, .Compare l [p1, p2] [r, z] _ => decide (p1 = o1.op) && decide (p2 = o2.op) && chkE T N sc a l && chkE T N sc b r && chkE T N sc c z && noSet z
  | .and_ es, .BoolOp .And vs _ => chkTB T N sc es vs
  | .or_ es, .BoolOp .Or vs _ => chkTB T N sc es vs
  | .not_ a, .UnaryOp .Not x _ => chkT T N sc a x
  | .loc i, .Name x _ => decide (N[i]? = some x) && visB sc x && nameB x
  | .sub a i, .Subscript v s _ => chkE T N sc a v && chkE T N sc i s && noSlice s
  | .call f es, .Call (.Name x _) xs [] _ => (match T.fns[f]? with
    | some fd => decide (fd.name = x) && glB sc x && nameB x && chkEs T N sc es xs && !xs.isEmpty
    | none => false)
  | .bi b es, .Call (.Name x _) xs [] _ => decide (b.name = x) && glB sc x && chkEs T N sc es xs && !xs.isEmpty
  | .isi a ty, .Call (.Name x _) [v, .Name y _] [] _ => decide (x = ("isinstance" : Str)) && glB sc x && chkE T N sc a v && noStar v && decide (y = PySem.Str.ofString ty) && glB sc y && decide (ty ∈ isTys)
  | _, _ => false
def chkEs (T : Tab) (N : List Str) (sc : Scope) : Es → List Expr → Bool
  | .nil, [] => true
  | .cons e r, x :: xs => chkE T N sc e x && noStar x && chkEs T N sc r xs
  | _, _ => false
/-- and, or as values: all but the last one tests by value -/
def chkB (T : Tab) (N : List Str) (sc : Scope) : Es → List Expr → Bool
  | .cons e .nil, [x] => chkE T N sc e x
  | .cons e r, x :: xs => chkE T N sc e x && chkB T N sc r xs
  | _, _ => false
def chkTB (T : Tab) (N : List Str) (sc : Scope) : Es → List Expr → Bool
  | .cons e .nil, [x] => chkT T N sc e x
  | .cons e r, x :: xs => chkT T N sc e x && chkTB T N sc r xs
  | _, _ => false
def chkO (T : Tab) (N : List Str) (sc : Scope) : Eo → Option Expr → Bool
  | .none, none => true
  | .some e, some x => chkE T N sc e x
  | _, _ => false
def chkC (T : Tab) (N : List Str) (sc : Scope) : Eo → List Expr → Bool
  | .none, [] => true
  | .some e, [x] => chkT T N sc e x
  | _, _ => false
def chkIt (T : Tab) (N : List Str) (sc : Scope) : It → Expr → Expr → Bool
  | .val e, _, x => chkE T N sc e x
  | .rng1 a, _, .Call (.Name x _) [u] [] _ => decide (x = ("range" : Str)) && glB sc x && chkE T N sc a u && noStar u
  | .rng2 a b, _, .Call (.Name x _) [u, v] [] _ => decide (x = ("range" : Str)) && glB sc x && chkE T N sc a u && noStar u && chkE T N sc b v && noStar v
  | .rng3 a b c, _, .Call (.Name x _) [u, v, w] [] _ => decide (x = ("range" : Str)) && glB sc x && chkE T N sc a u && noStar u && chkE T N sc b v && noStar v && chkE T N sc c w && noStar w
  | .enum e, t, .Call (.Name x _) [v] [] _ => decide (x = ("enumerate" : Str)) && glB sc x && chkE T N sc e v && noStar v && isTuple t
  | .zip a b, t, .Call (.Name x _) [v, u] [] _ => decide (x = ("zip" : Str)) && glB sc x && chkE T N sc a v && noStar v && chkE T N sc b u && noStar u && isTuple t
  | _, _, _ => false
end
section
variable (T : Tab) (N : List Str)
/-- name = [..] on one line -/
def lcAsg (sc : Scope) (e : E) (tg v : Expr) : Bool := match e, tg, v with
  | .lc _ _ _ _ _ _, .Name y p, .ListComp _ _ scope pos => decide (sc.names.lookup y = some .local) && (p.line == pos.line) && !(scope.names.any fun (n, k) => n == y && (k == .local || k == .cell))
  | _, _, _ => false
/-- no stores by turns -/
def plainAsg (tg v : Expr) : Bool := match tg, v with
  | .Tuple _ _ _, .Tuple _ _ _ => false
  | .List _ _, _ => false
  | _, _ => true
def chkPar (sc : Scope) (i j : Nat) (a b : E) : List Expr → Expr → Bool
  | [.Tuple [.Name x p1, .Name y p2] _ _], .Tuple [u, v] _ _ => decide (N[i]? = some x) && decide (N[j]? = some y) && decide (i ≠ j) && decide (sc.names.lookup x = some .local) && decide (sc.names.lookup y = some .local) &&
      chkE T N sc a u && chkE T N sc b v && noStar u && noStar v && decide (x ≠ y) && (p1.line == p2.line) && !([u, v].all (foldedForSure 8)) && !([u, v].all (constantsAlone 8))
  | _, _ => false
def chkSeti (sc : Scope) (o i e : E) : List Expr → Expr → Bool
  | [.Subscript x y _], v => chkE T N sc o x && chkE T N sc i y && noSlice y && chkE T N sc e v
  | _, _ => false
mutual
def chkS (sc : Scope) : S → Stmt → Bool
  | .asg tg e, .Assign [t] v _ => chkTn N sc tg t && chkE T N sc e v && plainAsg t v && (noComp v || lcAsg sc e t v)
  | .par i j a b, .Assign ts v _ => chkPar T N sc i j a b ts v
  | .seti o i e, .Assign ts v _ => chkSeti T N sc o i e ts v
  | .aug i op e, .AugAssign (.Name x _) o v _ => chkN N sc i (.Name x ⟨0, 0, 0, 0⟩) && decide (o = op.op) && (match op with
      | .add => true
      | .sub => true
      | _ => false) && chkE T N sc e v
  | .ex e, .Expr v _ => chkE T N sc e v && noComp v
  | .if_ c a b, .If t x y _ => chkT T N sc c t && chkSs sc a x && chkSs sc b y
  | .for_ tg it body, .For t i b [] _ => chkTn N sc tg t && chkIt T N sc it t i && chkSs sc body b && noSet i
  | .while_ c body, .While t b [] _ => chkT T N sc c t && chkSs sc body b
  | .ret e, .Return (some v) _ => chkE T N sc e v
  | .retN, .Return none _ => true
  | .pass, .Pass _ => true
  | .never, _ => true
  | .rais c fs es, .Raise (some (.Call (.Name x _) xs [] _)) none _ => decide ((c, x, fs) ∈ T.xs) && glB sc x && nameB x && chkEs T N sc es xs && !xs.isEmpty && decide (fs.length ≤ 1000)
  | _, _ => false
def chkSs (sc : Scope) : Ss → List Stmt → Bool
  | .nil, [] => true
  | .cons s r, x :: xs => chkS sc s x && chkSs sc r xs
  | _, _ => false
end
end
end Ms
end
section
set_option Elab.async false
set_option linter.all false
set_option maxRecDepth 100000
set_option maxHeartbeats 4000000
/-! The readings of expressions by data. -/
namespace Ms
open PySem L2

theorem PE.imp {X : Cx} {e : Expr} {t t' : TE} (h : PE X e t) (hi : ∀ σ H Q, t' σ H Q → t σ H Q) : PE X e t' := ⟨fun pins s σ H Q I q => h.run pins s σ H Q I (hi _ _ _ q)⟩
theorem PT.imp {X : Cx} {e : Expr} {t t' : TT} (h : PT X e t) (hi : ∀ σ H Q, t' σ H Q → t σ H Q) : PT X e t' := ⟨fun pins s σ H Q I q => h.run pins s σ H Q I (hi _ _ _ q)⟩
theorem PW.imp {X : Cx} {e : Expr} {t t' : TT} (h : PW X e t) (hi : ∀ σ H Q, t' σ H Q → t σ H Q) : PW X e t' := ⟨fun w pins s σ H Q I q => h.run w pins s σ H Q I (hi _ _ _ q)⟩
theorem PA.imp {X : Cx} {e : List Expr} {t t' : TA} (h : PA X e t) (hi : ∀ σ H Q, t' σ H Q → t σ H Q) : PA X e t' := ⟨fun p pins s σ H Q I q => h.run p pins s σ H Q I (hi _ _ _ q)⟩
theorem PO.imp {X : Cx} {e : Option Expr} {t t' : TO} (h : PO X e t) (hi : ∀ σ H Q, t' σ H Q → t σ H Q) : PO X e t' := ⟨fun pins s σ H Q I q => h.run pins s σ H Q I (hi _ _ _ q)⟩
theorem PTs.imp {X : Cx} {e : List Expr} {t t' : TT} (h : PTs X e t) (hi : ∀ σ H Q, t' σ H Q → t σ H Q) : PTs X e t' := ⟨fun pins s σ H Q I q => h.run pins s σ H Q I (hi _ _ _ q)⟩
theorem PI.imp {X : Cx} {tg e : Expr} {t t' : TI} (h : PI X tg e t) (hi : ∀ σ H R, t' σ H R → t σ H R) : PI X tg e t' := ⟨fun pins s σ H Q I q => h.run pins s σ H Q I (hi _ _ _ q)⟩

/-- a walk over data -/
def ItOk (K : PySem.W.Frag) (G : Hp) (ι : List Addr) (J : L2.It) (ds : List D) (g : Gd) : Prop :=
  Walk J ds.length (fun H2 => ∃ G2 ι2 η2, Ext G ι G2 ι2 ∧ RS K G2 H2 ι2 η2 ∧ gdOk g η2)
    (fun i H2 x H3 => ∀ G2 ι2 η2 d, Ext G ι G2 ι2 → RS K G2 H2 ι2 η2 → gdOk g η2 → ds[i]? = some d → ∃ G3, Stp G2 H2 ι2 G3 H3 ι2 ∧ RS K G3 H3 ι2 η2 ∧ Rep K G3 ι2 x d)

section
variable (cls : Nat → Addr) (K : PySem.W.Frag) (W : WX)
def tE (f : Env → M D) : TE := fun σ H Q => ∃ G ι η ρ, RS K G H ι η ∧ Slots K G ι σ ρ ∧ PV cls K G H ι (f ρ η) Q (fun c d H' => W c d σ H')
def tA (f : Env → M (List D)) : TA := fun σ H Q => ∃ G ι η ρ, RS K G H ι η ∧ Slots K G ι σ ρ ∧ Post cls K G H ι (f ρ η) (fun ds G' ι' _ H' => ∀ vs, Reps K G' ι' vs ds → Q vs H') (fun c d H' => W c d σ H')
def tT (f : Env → M Bool) : TT := fun σ H Q => ∃ G ι η ρ, RS K G H ι η ∧ Slots K G ι σ ρ ∧ Post cls K G H ι (f ρ η) (fun b _ _ _ H' => Q b H') (fun c d H' => W c d σ H')
def tO (f : Env → M (Option Int)) : TO := fun σ H Q => ∃ G ι η ρ, RS K G H ι η ∧ Slots K G ι σ ρ ∧ Post cls K G H ι (f ρ η) (fun o _ _ _ H' => Q o H') (fun c d H' => W c d σ H')
def tI (f : Env → M (List D × Gd)) : TI := fun σ H R => ∃ G ι η ρ, RS K G H ι η ∧ Slots K G ι σ ρ ∧ Post cls K G H ι (f ρ η) (fun ds G' ι' _ H' => ∀ J, ItOk K G' ι' J ds.1 ds.2 → R J H') (fun c d H' => W c d σ H')
end

/-- a def's promise: its data are reckoned by m -/
def spF (cls : Nat → Addr) (K : PySem.W.Frag) (np : Nat) (m : List D → M D) : Sp := fun vs H Q E => vs.length = np ∧ ∃ G ι η ds, RS K G H ι η ∧ Reps K G ι vs ds ∧ PV cls K G H ι (m ds η) Q (fun c d H' => E c d H')

/-- what C.__init__ does: the fields are put -/
def spX (K : PySem.W.Frag) (C : Addr) (fs : List Str) : Sp := fun vs H Q _ => ∃ (a : Addr) (ws : List V), vs = .ref a :: ws ∧ ws.length = fs.length ∧ H a = some (exo a C none) ∧
  ∀ d, H d = none → d ≠ a → Q .non (upd (upd H d (exd d (fs.zip ws).reverse)) a (exo a C (some d)))
/-- an error's class, ready to be made -/
def ExcF (P : Program) (w : World) (K : PySem.W.Frag) (mg : Str → Option Value) (base : Heap) (C : Addr) (fs : List Str) : Prop :=
  OexC K C ∧ ∃ (fI : Addr) (dt : FuncData) (ps : List Str), PySem.W.findIn K (.ref C) "__init__" = some (some (.ref fI)) ∧ PySem.W.typeIn K (.ref fI) = some (.type "function") ∧ Binds K dt ps [] ∧ FnOk P w K mg base (L2.CX P w) 1 fI dt ps (spX K C fs)
/-- what an error comes to when it is told -/
def TTD (K : PySem.W.Frag) (cls : Nat → Addr) : (XK → Hp → VK → Prop) → Hp → VK → Prop := fun tl H Q =>
  tl (fun cl d H' => ∃ (c : Nat) (dx : Addr) (fvs : List (Str × V)) (ws : List V), cl = .ref (cls c) ∧ d = some dx ∧ H' dx = some (.xd fvs) ∧ wordsOf V.str V.int c fvs = some ws ∧ ∀ (H2 : Hp) (p : Addr), Same H' H2 → H' p = none → H2 p = some (.tup ws) → Q (.ref p) H2) H Q
/-- the def that tells -/
def ToldF (cls : Nat → Addr) (x : Str) (X : Cx) : Prop := ∃ (g : Addr) (pg : Arguments) (bg : List Stmt) (sg : Scope) (dV kV doc pm cdv ct oc : Value) (an od : Option Addr) (osl : Array (Option Value)) (Ng : List Str) (a : Str),
  X.mg x = some (.ref g) ∧ PySem.W.keepIn X.K (.ref g) = true ∧ X.K.lookup g = some ⟨oc, od, .func (PySem.W.fnOf x x pg bg sg dV kV doc pm an cdv ct), osl⟩ ∧ PySem.W.codeIn X.K cdv x = true ∧ L2.Binds X.K (PySem.W.fnOf x x pg bg sg dV kV doc pm an cdv ct) [a] [] ∧ FnScope Ng [a] sg ∧
    Ng[0]? = some a ∧ Vis sg a ∧ (a == ("__debug__" : Str)) = false ∧ (a == ("__classdict__" : Str)) = false ∧ ∀ q, LamX.GivesTo X Ng x sg g cdv bg a q (TTD X.K cls)

/-- where code stands -/
structure CtxD (T : Tab) (cls : Nat → Addr) (k : Nat) (X : Cx) (N : List Str) (sc : Scope) (W : WX) : Prop where
  nEq : X.N = N
  nd : N.Nodup
  scEq : X.env.scope = sc
  kind : sc.kind = .function
  calm : X.calm = true
  room : Room (3 * k + 2) X.A
  tk : Takes X W
  glo : ∀ x c, (x, c) ∈ T.cs → ∃ u d, X.mg x = some u ∧ constD c = some d ∧ RelV (vOf d) u ∧ flatD d = true
  bl : ∀ x ∈ builtinNames, X.mg x = none
  fn : ∀ f fd, T.fns[f]? = some fd → ∃ a dt, X.mg fd.name = some (.ref a) ∧ PySem.W.keepIn X.K (.ref a) = true ∧ Binds X.K dt fd.ps [] ∧ FnOk X.prog X.w X.K X.mg X.base (L2.CX X.prog X.w) (3 * k + 2) a dt fd.ps (spF cls X.K fd.ps.length (evF T.fns k f))
  xs : ∀ c x fs, (c, x, fs) ∈ T.xs → X.mg x = some (.ref (cls c)) ∧ (∀ f ∈ fs, PySem.W.findIn X.K (.ref (cls c)) f = some none) ∧ ExcF X.prog X.w X.K X.mg X.base (cls c) fs
  lam : ∀ L, T.lam = some L → X.env.code = .ref (He.cT X.K L.p).1 ∧ X.env.qual ++ "<lambda>" = L.q ∧ LamX.TabB X.base X.mg (He.cT X.K L.p).1 (He.cT X.K L.p).2 ∧ Room (3 * k + 4) X.A ∧ ToldF cls T.told X

theorem flat_rep {K : PySem.W.Frag} {G : Hp} {ι : List Addr} {d : D} (f : flatD d = true) : Rep K G ι (vOf d) d := by
  cases d <;> first | constructor | cases f
theorem const_flat {c : Const} {d : D} (h : constD c = some d) : flatD d = true := by
  cases c <;> first | (cases h; rfl) | cases h

section
variable {T : Tab} {cls : Nat → Addr} {k : Nat} {X : Cx} {N : List Str} {sc : Scope} {W : WX}
theorem se_loc {i : Nat} {x : Str} {pos : Pos} (C : CtxD T cls k X N sc W) (h1 : N[i]? = some x) (h2 : visB sc x = true) (h3 : nameB x = true) : PE X (.Name x pos) (tE cls X.K W fun ρ => fromO (ρ[i]?.join)) := by
  refine PE.imp (pe_var (i := i) (by rw [C.nEq]; exact h1) (by rw [C.scEq]; exact visB_ok h2) (nameB_ok h3).1 (nameB_ok h3).2) ?_
  rintro σ H Q ⟨G, ι, η, ρ, S, sl, h⟩
  obtain ⟨d, e, h⟩ := h.fromO
  have e' : ρ[i]? = some (some d) := by
    cases q : ρ[i]? with
    | none => rw [q] at e; cases e
    | some o => rw [q] at e; cases o <;> first | (cases e; done) | (cases e; rfl)
  obtain ⟨v, q1, q2⟩ := sl.at_ i d e'
  exact ⟨v, q1, h.now S q2⟩
theorem pe_const {c : Const} {d : D} {j : Nat} {pos : Pos} (h : constD c = some d) : PE X (.Constant c j pos) (tC (vOf d)) := by
  cases c <;> first | (cases h; first | exact pe_non | exact pe_bl | exact pe_int | exact pe_str) | cases h
theorem se_cst {c : Const} {j : Nat} {pos : Pos} (h : (constD c).isSome = true) : PE X (.Constant c j pos) (tE cls X.K W fun _ => fromO (constD c)) := by
  obtain ⟨d, hd⟩ := Option.isSome_iff_exists.mp h
  refine PE.imp (pe_const hd) ?_
  rintro σ H Q ⟨G, ι, η, ρ, S, sl, h⟩
  obtain ⟨d', e, h⟩ := h.fromO
  rw [hd] at e
  cases e
  exact h.now S (flat_rep (const_flat hd))
theorem se_glob {x : Str} {c : Const} {pos : Pos} (C : CtxD T cls k X N sc W) (h1 : glB sc x = true) (h2 : nameB x = true) (h3 : (x, c) ∈ T.cs) : PE X (.Name x pos) (tE cls X.K W fun _ => fromO (constD c)) := by
  obtain ⟨u, d, e1, e2, r, f⟩ := C.glo x c h3
  refine PE.imp (pe_glob (v := vOf d) (glB_ok (by rw [C.scEq]; exact h1)) e1 r (nameB_ok h2).1) ?_
  rintro σ H Q ⟨G, ι, η, ρ, S, sl, h⟩
  obtain ⟨d', e, h⟩ := h.fromO
  rw [e2] at e
  cases e
  exact h.now S (flat_rep f)

/-- two expressions, then something by values -/
theorem two_imp {fa fb : Env → M D} {f : D → D → M D} {σ : L2.St} {H : Hp} {Q : VK} (h : tE cls X.K W (fun ρ => bnd (fa ρ) fun x => bnd (fb ρ) fun y => f x y) σ H Q) :
    tE cls X.K W fa σ H fun x H1 => tE cls X.K W fb σ H1 fun y H2 => rD2 cls X.K f x y H2 Q := by
  obtain ⟨G, ι, η, ρ, S, sl, h⟩ := h
  refine ⟨G, ι, η, ρ, S, sl, (Post.bind h).imp (fun d G1 ι1 η1 H1 st1 S1 h1 v r => ?_) fun _ _ _ z => z⟩
  refine ⟨G1, ι1, η1, ρ, S1, sl.mono st1.x, (Post.bind h1).imp (fun e G2 ι2 η2 H2 st2 S2 h2 u r2 => ?_) fun _ _ _ z => z⟩
  exact ⟨_, G2, ι2, η2, d, e, S2, r.mono st2.x, r2, h2⟩
theorem binop_D (op : Bop) : OpR X (binaryOp op.op) (rD2 cls X.K (binD op)) := by
  cases op
  · exact op_addD
  · exact op_subD
  · exact op_mulD
  · exact op_fdivD
  · exact op_modD
theorem se_bin {op : Bop} {a b : Expr} {fa fb : Env → M D} {pos : Pos} (ha : PE X a (tE cls X.K W fa)) (hb : PE X b (tE cls X.K W fb)) : PE X (.BinOp a op.op b pos) (tE cls X.K W fun ρ => bnd (fa ρ) fun x => bnd (fb ρ) fun y => binD op x y) :=
  PE.imp (pe_op (binop_D op) ha hb) fun _ _ _ h => two_imp h
theorem cmp_D (C : CtxD T cls k X N sc W) (op : Cop) : OpR X (compareOp op.op) (rD2 cls X.K (cmpD op)) := by
  have h1 := C.room.units
  have h2 : X.A.units + 65 < cLine := by have := C.room.un; omega
  cases op
  · exact op_eqD' h1
  · exact op_neD' h1
  · exact op_ltD
  · exact op_leD
  · exact op_gtD
  · exact op_geD
  · exact op_isND
  · exact op_notND
  · exact op_inD' h2
  · exact op_notInD' h2
theorem se_cmp {op : Cop} {a b : Expr} {fa fb : Env → M D} {pos : Pos} (C : CtxD T cls k X N sc W) (ha : PE X a (tE cls X.K W fa)) (hb : PE X b (tE cls X.K W fb)) (hs : noSet b = true) : PE X (.Compare a [op.op] [b] pos) (tE cls X.K W fun ρ => bnd (fa ρ) fun x => bnd (fb ρ) fun y => cmpD op x y) :=
  PE.imp (pe_cmpR (cmp_D C op) ha hb (noSet_behind hs)) fun _ _ _ h => two_imp h
/-- a value's truth -/
theorem post_asB {G H : Hp} {ι : List Addr} {m : Res D} {Q : Bool → Hp → Prop} {W' : Value → Option Addr → Hp → Prop} (h : Post cls X.K G H ι (m.bind fun d => match d with | .bl b => ret b | _ => bad) (fun b _ _ _ H' => Q b H') W') :
    PV cls X.K G H ι m (fun v H' => ∃ b, v = .bl b ∧ Q b H') W' := by
  refine (Post.bind h).imp (fun d G1 ι1 η1 H1 st S1 h1 v r => ?_) fun _ _ _ z => z
  cases r with
  | bl b => exact ⟨b, rfl, h1 G1 ι1 H1 (Stp.refl _ _ _) S1⟩
  | _ => exact h1.elim
theorem test_imp {f : Env → M D} {σ : L2.St} {H : Hp} {Q : Bool → Hp → Prop} (h : tT cls X.K W (fun ρ => asB (f ρ)) σ H Q) : tE cls X.K W f σ H fun x H1 => ∃ c, x = .bl c ∧ Q c H1 := by
  obtain ⟨G, ι, η, ρ, S, sl, h⟩ := h
  exact ⟨G, ι, η, ρ, S, sl, post_asB h⟩
theorem st_val {e : Expr} {f : Env → M D} (he : PE X e (tE cls X.K W f)) (hp : plainT e = true) : PT X e (tT cls X.K W fun ρ => asB (f ρ)) :=
  PT.imp (pt_val he (plainT_ok hp)) fun _ _ _ h => test_imp h
theorem st_cmp {op : Cop} {a b : Expr} {fa fb : Env → M D} {pos : Pos} (C : CtxD T cls k X N sc W) (ha : PE X a (tE cls X.K W fa)) (hb : PE X b (tE cls X.K W fb)) (hs : noSet b = true) :
    PT X (.Compare a [op.op] [b] pos) (tT cls X.K W fun ρ => asB (bnd (fa ρ) fun x => bnd (fb ρ) fun y => cmpD op x y)) :=
  PT.imp (pt_cmpR (cmp_D C op) ha hb (noSet_behind hs)) fun _ _ _ h => two_imp (test_imp h)
/-- a op b op c -/
theorem chain_imp {o1 o2 : Cop} {fa fb fc : Env → M D} {σ : L2.St} {H : Hp} {Q : VK}
    (h : tE cls X.K W (fun ρ => bnd (fa ρ) fun x => bnd (fb ρ) fun y => bnd (asB (cmpD o1 x y)) fun k => if k then bnd (fc ρ) fun z => cmpD o2 y z else ret (.bl false)) σ H Q) :
    tChain (rD2 cls X.K (cmpD o1)) (rD2 cls X.K (cmpD o2)) (tE cls X.K W fa) (tE cls X.K W fb) (tE cls X.K W fc) σ H Q := by
  obtain ⟨G, ι, η, ρ, S, sl, h⟩ := h
  refine ⟨G, ι, η, ρ, S, sl, (Post.bind h).imp (fun d G1 ι1 η1 H1 st1 S1 h1 v r => ?_) fun _ _ _ z => z⟩
  refine ⟨G1, ι1, η1, ρ, S1, sl.mono st1.x, (Post.bind h1).imp (fun e G2 ι2 η2 H2 st2 S2 h2 u r2 => ?_) fun _ _ _ z => z⟩
  refine ⟨fun c d H' => W c d σ H', G2, ι2, η2, d, e, S2, r.mono st2.x, r2, ?_⟩
  have h3 : Post cls X.K G2 H2 ι2 ((cmpD o1 d e η2).bind fun q => ((match q with | .bl b => ret b | _ => bad : M Bool) : M Bool)) (fun b G3 ι3 η3 H3 => PV cls X.K G3 H3 ι3 ((if b = true then bnd (fc ρ) fun z => cmpD o2 e z else ret (.bl false)) η3) Q fun c d H' => W c d σ H') _ := Post.bind h2
  refine (Post.bind h3).imp (fun q G3 ι3 η3 H3 st3 S3 h4 w r3 => ?_) fun _ _ _ z => z
  cases r3 with
  | bl b =>
    refine ⟨b, rfl, ?_⟩
    have h5 := h4 G3 ι3 H3 (Stp.refl _ _ _) S3
    cases b with
    | true =>
      rw [if_pos rfl] at h5 ⊢
      refine ⟨G3, ι3, η3, ρ, S3, (sl.mono (st1.x.trans st2.x)).mono st3.x, (Post.bind h5).imp (fun z G4 ι4 η4 H4 st4 S4 h6 w2 r4 => ?_) fun _ _ _ z => z⟩
      exact ⟨_, G4, ι4, η4, e, z, S4, (r2.mono st3.x).mono st4.x, r4, h6⟩
    | false =>
      rw [if_neg Bool.false_ne_true] at h5 ⊢
      exact PV.now h5 S3 (.bl false)
  | _ => exact h4.elim
theorem lastM {o1 o2 : CmpOp} {b c : Expr} (h : noSet c = true) : lastMarks [o1, o2] [b, c] = false := by
  show behindInMarks o2 c = false
  exact noSet_behind h
theorem se_chain {o1 o2 : Cop} {a b c : Expr} {fa fb fc : Env → M D} {pos : Pos} (C : CtxD T cls k X N sc W) (ha : PE X a (tE cls X.K W fa)) (hb : PE X b (tE cls X.K W fb)) (hc : PE X c (tE cls X.K W fc)) (hs : noSet c = true) :
    PE X (.Compare a [o1.op, o2.op] [b, c] pos) (tE cls X.K W fun ρ => bnd (fa ρ) fun x => bnd (fb ρ) fun y => bnd (asB (cmpD o1 x y)) fun k => if k then bnd (fc ρ) fun z => cmpD o2 y z else ret (.bl false)) :=
  PE.imp (pe_chain (cmp_D C o1) (cmp_D C o2) ha hb hc (lastM hs)) fun _ _ _ h => chain_imp h
theorem st_chain {o1 o2 : Cop} {a b c : Expr} {fa fb fc : Env → M D} {pos : Pos} (C : CtxD T cls k X N sc W) (ha : PE X a (tE cls X.K W fa)) (hb : PE X b (tE cls X.K W fb)) (hc : PE X c (tE cls X.K W fc)) (hs : noSet c = true) :
    PT X (.Compare a [o1.op, o2.op] [b, c] pos) (tT cls X.K W fun ρ => asB (bnd (fa ρ) fun x => bnd (fb ρ) fun y => bnd (asB (cmpD o1 x y)) fun k => if k then bnd (fc ρ) fun z => cmpD o2 y z else ret (.bl false))) :=
  PT.imp (pt_chain (cmp_D C o1) (cmp_D C o2) ha hb hc (lastM hs)) fun _ _ _ h => chain_imp (test_imp h)
/-- and, or: values -/
theorem se_and {a b : Expr} {rest : List Expr} {fa fb : Env → M D} {pos : Pos} (ha : PE X a (tE cls X.K W fa)) (hb : PE X (.BoolOp .And (b :: rest) pos) (tE cls X.K W fb)) : PE X (.BoolOp .And (a :: b :: rest) pos) (tE cls X.K W fun ρ => bnd (asB (fa ρ)) fun k => if k then fb ρ else ret (.bl false)) := by
  refine PE.imp (pe_and ha hb) ?_
  rintro σ H Q ⟨G, ι, η, ρ, S, sl, h⟩
  have h' : Post cls X.K G H ι ((fa ρ η).bind fun q => ((match q with | .bl b => ret b | _ => bad : M Bool) : M Bool)) (fun b G3 ι3 η3 H3 => PV cls X.K G3 H3 ι3 ((if b = true then fb ρ else ret (.bl false)) η3) Q fun c d H' => W c d σ H') _ := Post.bind h
  refine ⟨G, ι, η, ρ, S, sl, (Post.bind h').imp (fun q G1 ι1 η1 H1 st1 S1 h1 v r => ?_) fun _ _ _ z => z⟩
  cases r with
  | bl b =>
    refine ⟨b, rfl, ?_⟩
    have h5 := h1 G1 ι1 H1 (Stp.refl _ _ _) S1
    cases b with
    | true =>
      rw [if_pos rfl] at h5 ⊢
      exact ⟨G1, ι1, η1, ρ, S1, sl.mono st1.x, h5⟩
    | false =>
      rw [if_neg Bool.false_ne_true] at h5 ⊢
      exact PV.now h5 S1 (.bl false)
  | _ => exact h1.elim
theorem se_or {a b : Expr} {rest : List Expr} {fa fb : Env → M D} {pos : Pos} (ha : PE X a (tE cls X.K W fa)) (hb : PE X (.BoolOp .Or (b :: rest) pos) (tE cls X.K W fb)) : PE X (.BoolOp .Or (a :: b :: rest) pos) (tE cls X.K W fun ρ => bnd (asB (fa ρ)) fun k => if k then ret (.bl true) else fb ρ) := by
  refine PE.imp (pe_or ha hb) ?_
  rintro σ H Q ⟨G, ι, η, ρ, S, sl, h⟩
  have h' : Post cls X.K G H ι ((fa ρ η).bind fun q => ((match q with | .bl b => ret b | _ => bad : M Bool) : M Bool)) (fun b G3 ι3 η3 H3 => PV cls X.K G3 H3 ι3 ((if b = true then ret (.bl true) else fb ρ) η3) Q fun c d H' => W c d σ H') _ := Post.bind h
  refine ⟨G, ι, η, ρ, S, sl, (Post.bind h').imp (fun q G1 ι1 η1 H1 st1 S1 h1 v r => ?_) fun _ _ _ z => z⟩
  cases r with
  | bl b =>
    refine ⟨b, rfl, ?_⟩
    have h5 := h1 G1 ι1 H1 (Stp.refl _ _ _) S1
    cases b with
    | true =>
      rw [if_pos rfl] at h5 ⊢
      exact PV.now h5 S1 (.bl true)
    | false =>
      rw [if_neg Bool.false_ne_true] at h5 ⊢
      exact ⟨G1, ι1, η1, ρ, S1, sl.mono st1.x, h5⟩
  | _ => exact h1.elim
/-! as tests -/
theorem asB_bind (m : M Bool) (f : Bool → M D) (η : List Cell) : asB (bnd m f) η = (m η).bind fun b => asB (f b) := by
  unfold asB bnd
  cases m η <;> rfl
theorem st_and {a b : Expr} {rest : List Expr} {fa : Env → M Bool} {fb : Env → M D} {pos : Pos} (ha : PT X a (tT cls X.K W fa)) (hb : PW X (.BoolOp .And (b :: rest) pos) (tT cls X.K W fun ρ => asB (fb ρ))) :
    PW X (.BoolOp .And (a :: b :: rest) pos) (tT cls X.K W fun ρ => asB (bnd (fa ρ) fun k => if k then fb ρ else ret (.bl false))) := by
  refine PW.imp (pw_and ha hb) ?_
  rintro σ H Q ⟨G, ι, η, ρ, S, sl, h⟩
  dsimp only at h
  rw [asB_bind] at h
  refine ⟨G, ι, η, ρ, S, sl, (Post.bind h).imp (fun q G1 ι1 η1 H1 st1 S1 h1 => ?_) fun _ _ _ z => z⟩
  cases q with
  | true =>
    rw [if_pos rfl] at h1 ⊢
    exact ⟨G1, ι1, η1, ρ, S1, sl.mono st1.x, h1⟩
  | false =>
    rw [if_neg Bool.false_ne_true] at h1 ⊢
    exact h1 G1 ι1 H1 (Stp.refl _ _ _) S1
theorem st_or {a b : Expr} {rest : List Expr} {fa : Env → M Bool} {fb : Env → M D} {pos : Pos} (ha : PT X a (tT cls X.K W fa)) (hb : PW X (.BoolOp .Or (b :: rest) pos) (tT cls X.K W fun ρ => asB (fb ρ))) :
    PW X (.BoolOp .Or (a :: b :: rest) pos) (tT cls X.K W fun ρ => asB (bnd (fa ρ) fun k => if k then ret (.bl true) else fb ρ)) := by
  refine PW.imp (pw_or ha hb) ?_
  rintro σ H Q ⟨G, ι, η, ρ, S, sl, h⟩
  dsimp only at h
  rw [asB_bind] at h
  refine ⟨G, ι, η, ρ, S, sl, (Post.bind h).imp (fun q G1 ι1 η1 H1 st1 S1 h1 => ?_) fun _ _ _ z => z⟩
  cases q with
  | true =>
    rw [if_pos rfl] at h1 ⊢
    exact h1 G1 ι1 H1 (Stp.refl _ _ _) S1
  | false =>
    rw [if_neg Bool.false_ne_true] at h1 ⊢
    exact ⟨G1, ι1, η1, ρ, S1, sl.mono st1.x, h1⟩
theorem st_not {a : Expr} {fa : Env → M Bool} {pos : Pos} (ha : PT X a (tT cls X.K W fa)) : PT X (.UnaryOp .Not a pos) (tT cls X.K W fun ρ => asB (bnd (fa ρ) fun b => ret (.bl (!b)))) := by
  refine PT.imp (pt_not ha) ?_
  rintro σ H Q ⟨G, ι, η, ρ, S, sl, h⟩
  dsimp only at h
  rw [asB_bind] at h
  refine ⟨G, ι, η, ρ, S, sl, (Post.bind h).imp (fun q G1 ι1 η1 H1 st1 S1 h1 => ?_) fun _ _ _ z => z⟩
  exact h1 G1 ι1 H1 (Stp.refl _ _ _) S1
/-- not as a value, by the test -/
theorem se_not {a : Expr} {fa : Env → M D} {pos : Pos} (ha : PE X a (tE cls X.K W fa)) : PE X (.UnaryOp .Not a pos) (tE cls X.K W fun ρ => bnd (asB (fa ρ)) fun b => ret (.bl (!b))) := by
  refine PE.imp (pe_not ha) ?_
  rintro σ H Q ⟨G, ι, η, ρ, S, sl, h⟩
  have h' : Post cls X.K G H ι ((fa ρ η).bind fun q => ((match q with | .bl b => ret b | _ => bad : M Bool) : M Bool)) (fun b G3 ι3 η3 H3 => PV cls X.K G3 H3 ι3 (ret (.bl (!b)) η3) Q fun c d H' => W c d σ H') _ := Post.bind h
  refine ⟨G, ι, η, ρ, S, sl, (Post.bind h').imp (fun q G1 ι1 η1 H1 st1 S1 h1 v r => ?_) fun _ _ _ z => z⟩
  cases r with
  | bl b => exact ⟨b, rfl, PV.now (h1 G1 ι1 H1 (Stp.refl _ _ _) S1) S1 (.bl _)⟩
  | _ => exact h1.elim
theorem se_neg {a : Expr} {fa : Env → M D} {pos : Pos} (ha : PE X a (tE cls X.K W fa)) : PE X (.UnaryOp .USub a pos) (tE cls X.K W fun ρ => bnd (fa ρ) negD) := by
  refine PE.imp (pe_un un_neg ha) ?_
  rintro σ H Q ⟨G, ι, η, ρ, S, sl, h⟩
  refine ⟨G, ι, η, ρ, S, sl, (Post.bind h).imp (fun q G1 ι1 η1 H1 st1 S1 h1 v r => ?_) fun _ _ _ z => z⟩
  cases r with
  | int i => exact ⟨i, rfl, PV.now h1 S1 (.int _)⟩
  | _ => exact h1.elim
theorem se_ite {c a b : Expr} {fc : Env → M Bool} {fa fb : Env → M D} {pos : Pos} (hc : PT X c (tT cls X.K W fc)) (ha : PE X a (tE cls X.K W fa)) (hb : PE X b (tE cls X.K W fb)) :
    PE X (.IfExp c a b pos) (tE cls X.K W fun ρ => bnd (fc ρ) fun k => if k then fa ρ else fb ρ) := by
  refine PE.imp (pe_ifExp hc ha hb) ?_
  rintro σ H Q ⟨G, ι, η, ρ, S, sl, h⟩
  refine ⟨G, ι, η, ρ, S, sl, (Post.bind h).imp (fun q G1 ι1 η1 H1 st1 S1 h1 => ?_) fun _ _ _ z => z⟩
  cases q with
  | true =>
    rw [if_pos rfl] at h1 ⊢
    exact ⟨G1, ι1, η1, ρ, S1, sl.mono st1.x, h1⟩
  | false =>
    rw [if_neg Bool.false_ne_true] at h1 ⊢
    exact ⟨G1, ι1, η1, ρ, S1, sl.mono st1.x, h1⟩
/-! argument lists -/
theorem sa_nil : PA X [] (tA cls X.K W fun _ => ret []) := by
  refine PA.imp pa_nil ?_
  rintro σ H Q ⟨G, ι, η, ρ, S, sl, h⟩
  exact h G ι H (Stp.refl _ _ _) S [] .nil
theorem sa_cons {e : Expr} {es : List Expr} {f : Env → M D} {g : Env → M (List D)} (he : PE X e (tE cls X.K W f)) (hs : PA X es (tA cls X.K W g)) (hn : noStar e = true) : PA X (e :: es) (tA cls X.K W fun ρ => bnd (f ρ) fun d => bnd (g ρ) fun ds => ret (d :: ds)) := by
  refine PA.imp (pa_cons he hs (noStar_ok hn)) ?_
  rintro σ H Q ⟨G, ι, η, ρ, S, sl, h⟩
  refine ⟨G, ι, η, ρ, S, sl, (Post.bind h).imp (fun d G1 ι1 η1 H1 st1 S1 h1 v r => ?_) fun _ _ _ z => z⟩
  refine ⟨G1, ι1, η1, ρ, S1, sl.mono st1.x, (Post.bind h1).imp (fun ds G2 ι2 η2 H2 st2 S2 h2 vs r2 => ?_) fun _ _ _ z => z⟩
  exact h2 G2 ι2 H2 (Stp.refl _ _ _) S2 _ (.cons (r.mono st2.x) r2)
theorem se_tup {es : List Expr} {g : Env → M (List D)} {x1 : Nat} {pos : Pos} (hs : PA X es (tA cls X.K W g)) : PE X (.Tuple es x1 pos) (tE cls X.K W fun ρ => bnd (g ρ) fun ds => if ds.length ≤ LIM then ret (.tup ds) else bad) := by
  refine PE.imp (pe_tup hs) ?_
  rintro σ H Q ⟨G, ι, η, ρ, S, sl, h⟩
  refine ⟨G, ι, η, ρ, S, sl, (Post.bind h).imp (fun ds G1 ι1 η1 H1 st1 S1 h1 vs r => ?_) fun _ _ _ z => z⟩
  by_cases hl : ds.length ≤ LIM
  · rw [if_pos hl] at h1
    exact ⟨by rw [r.length]; exact Nat.le_trans hl lim_line, PV.tup h1 S1 r⟩
  · rw [if_neg hl] at h1
    exact h1.elim
theorem newL_ok {G H : Hp} {ι : List Addr} {η : List Cell} {m : Bool} {ds : List D} {vs : List V} {Q : VK} {W' : Value → Option Addr → Hp → Prop} (S : RS X.K G H ι η) (r : Reps X.K G ι vs ds) (h : PV cls X.K G H ι (newL m ds η) Q W') :
    vs.length ≤ sizeLine ∧ ∀ p, H p = none → Q (.ref p) (upd H p (.lst vs)) := by
  unfold newL at h
  by_cases hl : ds.length ≤ LIM
  · rw [if_pos hl] at h
    refine ⟨by rw [r.length]; exact Nat.le_trans hl lim_line, ?_⟩
    cases m with
    | true => exact PV.new h S r
    | false => exact PV.fl h S r
  · rw [if_neg hl] at h
    exact h.elim
theorem se_lst {es : List Expr} {g : Env → M (List D)} {m : Bool} {pos : Pos} (hs : PA X es (tA cls X.K W g)) : PE X (.List es pos) (tE cls X.K W fun ρ => bnd (g ρ) (newL m)) := by
  refine PE.imp (pe_lst hs) ?_
  rintro σ H Q ⟨G, ι, η, ρ, S, sl, h⟩
  refine ⟨G, ι, η, ρ, S, sl, (Post.bind h).imp (fun ds G1 ι1 η1 H1 st1 S1 h1 vs r => ?_) fun _ _ _ z => z⟩
  exact newL_ok S1 r h1
theorem se_sub {a b : Expr} {fa fb : Env → M D} {pos : Pos} (ha : PE X a (tE cls X.K W fa)) (hb : PE X b (tE cls X.K W fb)) (hs : noSlice b = true) : PE X (.Subscript a b pos) (tE cls X.K W fun ρ => bnd (fa ρ) fun x => bnd (fb ρ) fun y => idxD x y) :=
  PE.imp (pe_ix ix_D ha hb (noSlice_ok hs)) fun _ _ _ h => two_imp h
theorem so_none : PO X none (tO cls X.K W fun _ => ret none) := by
  refine PO.imp po_none ?_
  rintro σ H Q ⟨G, ι, η, ρ, S, sl, h⟩
  exact h G ι H (Stp.refl _ _ _) S
theorem so_some {e : Expr} {f : Env → M D} (he : PE X e (tE cls X.K W f)) : PO X (some e) (tO cls X.K W fun ρ => bnd (f ρ) asI) := by
  refine PO.imp (po_some he) ?_
  rintro σ H Q ⟨G, ι, η, ρ, S, sl, h⟩
  refine ⟨G, ι, η, ρ, S, sl, (Post.bind h).imp (fun d G1 ι1 η1 H1 st1 S1 h1 v r => ?_) fun _ _ _ z => z⟩
  cases r with
  | int i => exact ⟨i, rfl, h1 G1 ι1 H1 (Stp.refl _ _ _) S1⟩
  | _ => exact h1.elim
theorem se_slice {a : Expr} {lo hi : Option Expr} {fa : Env → M D} {fl fh : Env → M (Option Int)} {p2 pos : Pos} (ha : PE X a (tE cls X.K W fa)) (hl : PO X lo (tO cls X.K W fl)) (hh : PO X hi (tO cls X.K W fh)) :
    PE X (.Subscript a (.Slice lo hi none p2) pos) (tE cls X.K W fun ρ => bnd (fa ρ) fun x => bnd (fl ρ) fun l => bnd (fh ρ) fun h => sliceD x l h) := by
  refine PE.imp (pe_slice (r := rSlD cls X.K) sl_D ha hl hh) ?_
  rintro σ H Q ⟨G, ι, η, ρ, S, sl, h⟩
  refine ⟨G, ι, η, ρ, S, sl, (Post.bind h).imp (fun d G1 ι1 η1 H1 st1 S1 h1 v r => ?_) fun _ _ _ z => z⟩
  refine ⟨G1, ι1, η1, ρ, S1, sl.mono st1.x, (Post.bind h1).imp (fun l G2 ι2 η2 H2 st2 S2 h2 => ?_) fun _ _ _ z => z⟩
  refine ⟨G2, ι2, η2, ρ, S2, sl.mono (st1.x.trans st2.x), (Post.bind h2).imp (fun l G3 ι3 η3 H3 st3 S3 h3 => ?_) fun _ _ _ z => z⟩
  exact ⟨_, G3, ι3, η3, d, S3, (r.mono st2.x).mono st3.x, h3⟩
theorem se_rev {a : Expr} {fa : Env → M D} {j : Nat} {p1 p2 p3 pos : Pos} (ha : PE X a (tE cls X.K W fa)) : PE X (.Subscript a (.Slice none none (some (.UnaryOp .USub (.Constant (.int 1) j p1) p2)) p3) pos) (tE cls X.K W fun ρ => bnd (fa ρ) revD) := by
  refine PE.imp (pe_revL ha) ?_
  rintro σ H Q ⟨G, ι, η, ρ, S, sl, h⟩
  refine ⟨G, ι, η, ρ, S, sl, (Post.bind h).imp (fun d G1 ι1 η1 H1 st1 S1 h1 v r => ?_) fun _ _ _ z => z⟩
  unfold revD at h1
  cases q : asL η1 d with
  | none => rw [q] at h1; exact h1.elim
  | some xs =>
    rw [q] at h1
    obtain ⟨a, vs, rfl, e1, e2⟩ := asL_ok S1 r q
    exact ⟨a, vs, rfl, SqL.of e1, PV.fl h1 S1 e2.reverse⟩
end
end Ms
end
section
set_option Elab.async false
set_option linter.all false
set_option maxRecDepth 100000
set_option maxHeartbeats 4000000
/-! What is walked. -/
namespace Ms
open PySem L2 PySem.Spec PyProof.Rows

/-- new pairs of what px and py tell -/
def ItP (S : Hp → Prop) (n : Nat) (px py : Nat → Hp → V → Prop) : L2.It :=
  ⟨fun i H => S H ∧ i < n, fun i H v H' => ∃ T x y, v = .ref T ∧ H T = none ∧ H' = upd H T (.tup [x, y]) ∧ px i H x ∧ py i H y, fun i H => S H ∧ i = n⟩
theorem turn_walk {P : Program} {w : World} {K : PySem.W.Frag} {elts : List Expr} {kk : Nat} {tpos : Pos} (own : List Addr) (I0 : Addr) (n : Nat) (px py : Nat → Hp → V → Prop) (StO : Nat → Heap → Prop) (SrcOk : Hp → Prop)
    (hmem : I0 ∈ own) (hobj : ∀ i h, StO i h → ∀ b ∈ own, ∃ o, h.get? b = some o ∧ ∀ v, o.data ≠ .cell v)
    (hkeep : ∀ i h h', StO i h → (∀ b ∈ own, ∀ o, h.get? b = some o → h'.get? b = some o) → StO i h')
    (hW : ∀ (X : Cx) (pins : List (Addr × Obj)) (σ : L2.St) (H : Hp) (s : Shared) (i0 : Nat), X.prog = P → X.w = w → X.K = K → X.calm = true → Inv X pins σ H s → SrcOk H → (∀ b ∈ own, FpOk X pins H b) → StO i0 s.heap →
      ∃ fp wr Pt St Mid, WalksT P w X.A I0 fp wr n Pt St Mid ∧ (∀ b ∈ wr, b ∈ own) ∧ (St i0 s.heap) ∧ (∀ i h, St i h → StO i h) ∧
        ∀ i vals, Pt i vals → ∃ u1 u2 x y, vals = #[u1, u2] ∧ RelV x u1 ∧ RelV y u2 ∧ px i H x ∧ py i H y)
    (hself : ∀ (A : Around) (i : Nat) (s : Shared) (Q : Value → Shared → Prop) (E : Value → Shared → Prop), StO i s.heap → Q (.ref I0) s → wpAny (model P w) A (pyIter (.ref I0)) Q E s) :
    Turn P w K (.Tuple elts kk tpos) (ItP SrcOk n px py) own I0 StO where
  mem := hmem
  obj := hobj
  keep := hkeep
  item := by
    intro X hP hw hK hc i pins s σ H E I hf st hg
    obtain ⟨fp, wr, Pt, St, Mid, Wk, h1, h2, h3, h4⟩ := hW X pins σ H s i hP hw hK hc I hg.1 hf st
    subst hP hw hK
    refine Wk.item i s _ _ hg.2 h2 fun T vals h' tk hp hT ht hm hk => ?_
    obtain ⟨u1, u2, x, y, rfl, r1, r2, p1, p2⟩ := h4 i vals hp
    refine ⟨.ref T, rfl, Wk.go elts kk tpos i T _ _ _ hm fun h'' hs hk2 => ?_⟩
    have hk3 : ∀ b o, b ∉ wr → s.heap.get? b = some o → h''.get? b = some o := fun b o hb e => hk2 b o hb (hk b o hb e)
    have nT : T ∉ wr := Wk.apart i T _ hm
    obtain ⟨oT, e1, e2⟩ := ht
    have new : ObjOk X.prog X.w (upd H T (.tup [x, y])) h'' T (.tup [x, y]) := ⟨by show 2 ≤ sizeLine; decide, [u1, u2], .cons r1 (.cons r2 .nil), oT, hk2 T oT nT e1, e2⟩
    have I1 : Inv X pins σ (upd H T (.tup [x, y])) { s with heap := h'', toks := tk } := I.turnedNew (ch := wr) hk3 (fun b hb => hf b (h1 b hb)) hT new
    refine ⟨.ref T, _, I1, rfl, ⟨T, x, y, rfl, I.hok.fresh hT, rfl, p1, p2⟩, h3 _ _ hs, fun b hb => ?_⟩
    obtain ⟨o, ho, _⟩ := hobj i s.heap st b hb
    rw [upd_ne (Nat.ne_of_lt (Nat.lt_of_lt_of_le (Heap.lt_size ho) hT))]
    exact (hf b hb).1
  done := by
    intro X hP hw hK hc i pins s σ H E I hf st hg
    obtain ⟨fp, wr, Pt, St, Mid, Wk, h1, h2, h3, h4⟩ := hW X pins σ H s i hP hw hK hc I hg.1 hf st
    subst hP hw hK
    obtain ⟨_, hn⟩ := hg
    subst hn
    exact Wk.done s _ _ h2 fun h' tk hk => ⟨rfl, I.turnedL (ch := wr) (t' := tk) hk fun b hb => hf b (h1 b hb)⟩
  self := hself

/-! ### sources -/
inductive Src where
  | lst (a : Addr) (vs : List V) | tup (a : Addr) (vs : List V) | str (z : Str) | dyn (a : Addr) (n : Nat)
def Src.ok (H : Hp) : Src → Prop
  | .lst a vs => H a = some (.lst vs)
  | .tup a vs => H a = some (.tup vs)
  | .str z => z.length ≤ sizeLine
  | .dyn a n => ∃ vs, H a = some (.lst vs) ∧ vs.length = n
def Src.n : Src → Nat
  | .lst _ vs => vs.length
  | .tup _ vs => vs.length
  | .str z => z.cps.size
  | .dyn _ n => n
def Src.at_ (i : Nat) (H : Hp) (y : V) : Src → Prop
  | .lst _ vs => vs[i]? = some y
  | .tup _ vs => vs[i]? = some y
  | .str z => (z.cps.toList.map fun c => V.str ⟨#[c]⟩)[i]? = some y
  | .dyn a _ => ∃ vs, H a = some (.lst vs) ∧ vs[i]? = some y
def Src.own (it : Addr) : Src → Nat → Heap → Prop
  | .lst a _, i, h => h.IsListIter it a i
  | .tup a _, i, h => h.IsTupleIter it a i
  | .str z, i, h => ∃ t, h.IsStrIter it (strIterType z) z t i
  | .dyn a _, i, h => h.IsListIter it a i
def Src.val : Src → V
  | .lst a _ => .ref a
  | .tup a _ => .ref a
  | .str z => .str z
  | .dyn a _ => .ref a
theorem Src.obj {r : Src} {it : Addr} {i : Nat} {h : Heap} (q : r.own it i h) : ∃ o, h.get? it = some o ∧ ∀ v, o.data ≠ .cell v := by
  cases r with
  | lst a vs => obtain ⟨o, e, _, d⟩ := q; exact ⟨o, e, fun v z => by rw [d] at z; cases z⟩
  | tup a vs => obtain ⟨o, e, _, d⟩ := q; exact ⟨o, e, fun v z => by rw [d] at z; cases z⟩
  | str z => obtain ⟨t, o, e, _, d⟩ := q; exact ⟨o, e, fun v z => by rw [d] at z; cases z⟩
  | dyn a n => obtain ⟨o, e, _, d⟩ := q; exact ⟨o, e, fun v z => by rw [d] at z; cases z⟩
theorem Src.keep {r : Src} {it : Addr} {i : Nat} {h h' : Heap} (q : r.own it i h) (k : ∀ o, h.get? it = some o → h'.get? it = some o) : r.own it i h' := by
  cases r with
  | lst a vs => obtain ⟨o, e, d⟩ := q; exact ⟨o, k o e, d⟩
  | tup a vs => obtain ⟨o, e, d⟩ := q; exact ⟨o, k o e, d⟩
  | str z => obtain ⟨t, o, e, d⟩ := q; exact ⟨t, o, k o e, d⟩
  | dyn a n => obtain ⟨o, e, d⟩ := q; exact ⟨o, k o e, d⟩
/-- drawing from a source -/
theorem Src.draws {r : Src} {X : Cx} {pins : List (Addr × Obj)} {σ : L2.St} {H : Hp} {s : Shared} {it : Addr} {i0 : Nat} {A : Around} (I : Inv X pins σ H s) (hh : A.handled = none) (ok : r.ok H) (hit : H it = none) (q : r.own it i0 s.heap) :
    ∃ fp St, Draws X.prog X.w A it (it :: fp) r.n (fun i v => ∃ x, r.at_ i H x ∧ RelV x v) St ∧ St i0 s.heap ∧ (∀ i h, St i h → r.own it i h) ∧ ∀ b ∈ fp, ∃ o, H b = some o := by
  cases r with
  | lst a vs =>
    obtain ⟨its, rv, pl, hz⟩ := I.list (SqL.of ok)
    have hn : a ≠ it := ne_of_none ok hit
    have D := Draws.list (prog := X.prog) (w := X.w) hh it a hn its.toArray
    refine ⟨[a], _, ⟨D.live, D.frame, fun i s Q E hi st hQ => D.item i s Q E (by simpa [Src.n, rv.length] using hi) st fun x h' tk hx => hQ x h' tk ?_, fun s Q E st => D.done s Q E (by simpa [Src.n, rv.length] using st)⟩, ⟨q, pl.isList⟩, fun i h z => z.1, fun b hb => ?_⟩
    · have hx' : its[i]? = some x := by simpa using hx
      obtain ⟨hl, e⟩ := List.getElem?_eq_some_iff.mp hx'
      have hv : i < vs.length := by rw [rv.length]; exact hl
      obtain ⟨u, h1, h2⟩ := rv.get (List.getElem?_eq_getElem hv)
      rw [hx'] at h1
      cases h1
      exact ⟨vs[i], List.getElem?_eq_getElem hv, h2⟩
    · simp at hb
      subst hb
      exact ⟨_, ok⟩
  | tup a vs =>
    obtain ⟨its, rv, pl, hz⟩ := I.tuple (SqT.of ok)
    have hn : a ≠ it := ne_of_none ok hit
    have D := Draws.tuple (prog := X.prog) (w := X.w) hh it a hn its.toArray
    refine ⟨[a], _, ⟨D.live, D.frame, fun i s Q E hi st hQ => D.item i s Q E (by simpa [Src.n, rv.length] using hi) st fun x h' tk hx => hQ x h' tk ?_, fun s Q E st => D.done s Q E (by simpa [Src.n, rv.length] using st)⟩, ⟨q, pl⟩, fun i h z => z.1, fun b hb => ?_⟩
    · have hx' : its[i]? = some x := by simpa using hx
      obtain ⟨hl, e⟩ := List.getElem?_eq_some_iff.mp hx'
      have hv : i < vs.length := by rw [rv.length]; exact hl
      obtain ⟨u, h1, h2⟩ := rv.get (List.getElem?_eq_getElem hv)
      rw [hx'] at h1
      cases h1
      exact ⟨vs[i], List.getElem?_eq_getElem hv, h2⟩
    · simp at hb
      subst hb
      exact ⟨_, ok⟩
  | dyn a n =>
    obtain ⟨vs, ok, hn0⟩ := ok
    obtain ⟨its, rv, pl, hz⟩ := I.list (SqL.of ok)
    have hn : a ≠ it := ne_of_none ok hit
    have D := Draws.list (prog := X.prog) (w := X.w) hh it a hn its.toArray
    refine ⟨[a], _, ⟨D.live, D.frame, fun i s Q E hi st hQ => D.item i s Q E (by simpa [Src.n, rv.length, ← hn0] using hi) st fun x h' tk hx => hQ x h' tk ?_, fun s Q E st => D.done s Q E (by simpa [Src.n, rv.length, ← hn0] using st)⟩, ⟨q, pl.isList⟩, fun i h z => z.1, fun b hb => ?_⟩
    · have hx' : its[i]? = some x := by simpa using hx
      obtain ⟨hl, e⟩ := List.getElem?_eq_some_iff.mp hx'
      have hv : i < vs.length := by rw [rv.length]; exact hl
      obtain ⟨u, h1, h2⟩ := rv.get (List.getElem?_eq_getElem hv)
      rw [hx'] at h1
      cases h1
      exact ⟨vs[i], ⟨vs, ok, List.getElem?_eq_getElem hv⟩, h2⟩
    · simp at hb
      subst hb
      exact ⟨_, ok⟩
  | str z =>
    obtain ⟨t, q⟩ := q
    have D := Draws.text (prog := X.prog) (w := X.w) hh it z t
    refine ⟨[], _, ⟨D.live, D.frame, fun i s Q E hi st hQ => D.item i s Q E (by simpa [Src.n] using hi) st fun x h' tk hx => hQ x h' tk ?_, fun s Q E st => D.done s Q E (by simpa [Src.n] using st)⟩, q, fun i h z => ⟨t, z⟩, fun b hb => by simp at hb⟩
    obtain ⟨c, u, e1, e2⟩ := hx
    subst e2
    refine ⟨.str ⟨#[c]⟩, ?_, ⟨u, rfl⟩⟩
    simp [Src.at_, e1]
/-- how it begins -/
theorem Src.begins {r : Src} {X : Cx} {pins : List (Addr × Obj)} {σ : L2.St} {H : Hp} {s : Shared} {v : Value} (I : Inv X pins σ H s) (ok : r.ok H) (rv : RelV r.val v) :
    ∃ o Hs, Begins v o Hs ∧ Hs s.heap ∧ ∀ (h : Heap) (it : Addr), h.get? it = some o → r.own it 0 h := by
  cases r with
  | lst a vs =>
    cases (show v = Value.ref a from rv)
    obtain ⟨its, _, pl, hz⟩ := I.list (SqL.of ok)
    exact ⟨_, _, begins_list a its.toArray, pl.isList, fun h it e => ⟨_, e, rfl, rfl⟩⟩
  | tup a vs =>
    cases (show v = Value.ref a from rv)
    obtain ⟨its, _, pl, hz⟩ := I.tuple (SqT.of ok)
    exact ⟨_, _, begins_tuple a its.toArray, pl, fun h it e => ⟨_, e, rfl, rfl⟩⟩
  | dyn a n =>
    obtain ⟨vs, ok, _⟩ := ok
    cases (show v = Value.ref a from rv)
    obtain ⟨its, _, pl, hz⟩ := I.list (SqL.of ok)
    exact ⟨_, _, begins_list a its.toArray, pl.isList, fun h it e => ⟨_, e, rfl, rfl⟩⟩
  | str z =>
    obtain ⟨t, rfl⟩ := (show ∃ t, v = Value.str z t from rv)
    exact ⟨_, _, begins_text z t, trivial, fun h it e => ⟨t, _, e, rfl, rfl⟩⟩

/-! ### enumerate -/
def enumSt (r : Src) (e it : Addr) (i : Nat) (h : Heap) : Prop := (∃ old, IsEnum h e it ((0 : Int) + (i : Int)) old) ∧ r.own it i h ∧ e ≠ it
theorem turn_enumS {P : Program} {w : World} {K : PySem.W.Frag} {elts : List Expr} {kk : Nat} {tpos : Pos} (r : Src) (e it : Addr) :
    Turn P w K (.Tuple elts kk tpos) (ItP r.ok r.n (fun i _ x => x = .int (i : Nat)) (fun i H y => r.at_ i H y)) [e, it] e (enumSt r e it) := by
  refine turn_walk [e, it] e r.n _ _ (enumSt r e it) r.ok (by simp) ?_ ?_ ?_ ?_
  · rintro i h ⟨⟨old, he⟩, ho, _⟩ b hb
    have e' : b = e ∨ b = it := by simpa using hb
    rcases e' with rfl | rfl
    · exact ⟨_, he, fun v q => nomatch q⟩
    · exact Src.obj ho
  · rintro i h h' ⟨⟨old, he⟩, ho, hne⟩ k
    exact ⟨⟨old, k e (by simp) _ he⟩, Src.keep ho (fun o q => k it (by simp) o q), hne⟩
  · rintro X pins σ H s i0 rfl rfl rfl hc I ok hf ⟨⟨old, he⟩, ho, hne⟩
    have hit : H it = none := (hf it (by simp)).1
    have hE : H e = none := (hf e (by simp)).1
    obtain ⟨fp, St, Dr, s0, so, hfp⟩ := Src.draws (A := X.A.in1) I (I.ok.hd hc) ok hit ho
    have hef : e ∉ it :: fp := fun m => by
      rcases List.mem_cons.mp m with z | z
      · exact hne z
      · obtain ⟨o, q⟩ := hfp e z
        rw [hE] at q
        cases q
    refine ⟨_, _, _, _, _, WalksT.enumFrom 0 Dr e hne hef List.mem_cons_self, fun b hb => hb, ⟨⟨old, he⟩, s0⟩, fun i h z => ⟨z.1, so i h z.2, hne⟩, fun i vals hp => ?_⟩
    obtain ⟨t, x, ⟨y, e1, e2⟩, rfl⟩ := hp
    refine ⟨_, _, .int (i : Nat), y, rfl, ⟨t, ?_⟩, e2, rfl, e1⟩
    rw [Int.zero_add]
  · rintro A i s Q E ⟨⟨old, he⟩, _⟩ h
    exact wpAny_pyIter_enum he h
def iEnumS (ta : TA) : TI := fun σ H R => ta σ H fun vs H1 => ∃ r : Src, vs = [r.val] ∧ r.ok H1 ∧ R (ItP r.ok r.n (fun i _ x => x = .int (i : Nat)) (fun i H y => r.at_ i H y)) H1
abbrev enumO (a : Addr) : Obj := { cls := .type "enumerate", data := .fields #[.none, .bool false, .ref a, rawInt 0, .none, .none] }
set_option maxHeartbeats 1000000 in
theorem meets_enum1 {v : Value} {o : Obj} {Hs : Heap → Prop} (B : Begins v o Hs) :
    Meets (Builtin.«enumerate.__new__» ⟨[.type "enumerate", v], []⟩)
      (fun _ R s => Hs s.heap ∧ R (.ok (.ret (.ref (s.heap.push o).objs.size))) { s with heap := (s.heap.push o).push (enumO s.heap.objs.size) }) :=
  Meets.of_wp fun prog w A R st hst => by
    obtain ⟨hp, gg, dd, tk, oss⟩ := st
    obtain ⟨ha, hb⟩ := hst
    have hsub := sub_enumerate
    have it1 : ∀ {A' : Around} {E : Value → Shared → Prop} {Q : Value → Shared → Prop}, Q (.ref hp.objs.size) ⟨hp.push o, gg, dd, tk, oss⟩ →
        wpAny (model prog w) A' (pyIter v) Q E ⟨hp, gg, dd, tk, oss⟩ := fun q =>
      B.iter prog w _ _ ⟨hp, gg, dd, tk, oss⟩ _ ha q
    wp_walk using it1
    refine wpAny_stack_any (fun sk => wpAny_pure ?_)
    split
    · rename_i c _ _ _ _ _
      cases (c == Value.type "enumerate") <;> (wp_walk using it1; exact ⟨_, rfl, hb⟩)
    · wp_walk using it1
      exact ⟨_, rfl, hb⟩
theorem call_enum1 {prog : Program} {w : World} {A : Around} {E : Value → Shared → Prop} {s : Shared} {v : Value} {o : Obj} {Hs : Heap → Prop} {Q : Value → Shared → Prop} (B : Begins v o Hs) (h1 : Hs s.heap)
    (h : ∀ h', IsEnum h' (s.heap.objs.size + 1) s.heap.objs.size 0 .none → h'.get? s.heap.objs.size = some o → (∀ b o', s.heap.get? b = some o' → h'.get? b = some o') → Q (.ref (s.heap.objs.size + 1)) { s with heap := h' }) :
    wpAny (model prog w) A (call (.type "enumerate") [v]) Q E s := by
  refine callType_new F.called_enumerate (by decide) (F.typeCall_enumerate_1 _) (F.newCall_enumerate_1 _)
    (fun obj => F.args_object_init_2 obj _) F.entry_enumerate_new (meets_enum1 B) ⟨h1, ?_⟩
  have z : (s.heap.push o).objs.size = s.heap.objs.size + 1 := by rw [Heap.size_push]
  have e : IsEnum ((s.heap.push o).push (enumO s.heap.objs.size)) (s.heap.objs.size + 1) s.heap.objs.size 0 .none := by
    rw [← z]
    exact Heap.get?_push_size _ rfl
  show _ ∧ _
  rw [z]
  exact ⟨⟨_, e, rfl⟩, h _ e (Heap.get?_push_of_some _ (Heap.get?_push_size _ B.free)) fun b o' q => Heap.get?_push_of_some _ (Heap.get?_push_of_some _ q)⟩
theorem pi_enumS {X : Cx} {e : Expr} {ta : TA} {p pos tpos : Pos} {elts : List Expr} {kk : Nat} (hg : Gl X "enumerate") (hm : X.mg "enumerate" = none) (ha : PA X [e] ta) (hn : noStar e = true) :
    PI X (.Tuple elts kk tpos) (.Call (.Name "enumerate" p) [e] [] pos) (iEnumS ta) := by
  refine ⟨fun pins s σ H R I h => ?_⟩
  refine Call_ (ld_blt I hg hm boot_enumerate (PyProof.Rows.callWith_type1 (thn (ha.run pos pins s σ H _ I h) fun us s1 ⟨vs, H1, I1, r1, r, ex, ok, q⟩ => ?_) (noStar_ok hn) rfl))
  subst ex
  obtain ⟨u, rfl, rx⟩ := vals1 r1
  obtain ⟨o, Hs, B, b1, b2⟩ := Src.begins I1 ok rx
  refine call_enum1 B b1 fun h' he' ho hk => wpAny_pyIter_enum he' ?_
  have I2 : Inv X pins σ H1 { s1 with heap := h' } := I1.kept (t' := s1.toks) hk
  refine ⟨s1.heap.objs.size + 1, [s1.heap.objs.size + 1, s1.heap.objs.size], _, _, H1, rfl, I2, turn_enumS r (s1.heap.objs.size + 1) s1.heap.objs.size, ⟨⟨.none, he'⟩, b2 _ _ ho, Nat.succ_ne_self _⟩, fun b hb => ?_, q⟩
  have hle : s1.heap.objs.size ≤ b := by
    have e' : b = s1.heap.objs.size + 1 ∨ b = s1.heap.objs.size := by simpa using hb
    rcases e' with z | z <;> rw [z]
    · exact Nat.le_succ _
    · exact Nat.le_refl _
  exact I1.fpOk hle (I1.hok.fresh hle)

/-! ### zip of two -/
def zipSt (r1 r2 : Src) (z TI TO i1 i2 : Addr) (i : Nat) (h : Heap) : Prop :=
  IsZip h z TI TO .none ∧ IsTupOf2 h TI (.ref i1) (.ref i2) ∧ (∃ a1 a2, IsTupOf2 h TO a1 a2) ∧ r1.own i1 i h ∧ r2.own i2 i h
theorem turn_zipS {P : Program} {w : World} {K : PySem.W.Frag} {elts : List Expr} {kk : Nat} {tpos : Pos} (r1 r2 : Src) (N : Nat) :
    Turn P w K (.Tuple elts kk tpos) (ItP (fun H => r1.ok H ∧ r2.ok H) (min r1.n r2.n) (fun i H x => r1.at_ i H x) (fun i H y => r2.at_ i H y)) [N + 4, N + 2, N + 3, N, N + 1] (N + 4)
      (zipSt r1 r2 (N + 4) (N + 2) (N + 3) N (N + 1)) := by
  refine turn_walk [N + 4, N + 2, N + 3, N, N + 1] (N + 4) _ _ _ (zipSt r1 r2 (N + 4) (N + 2) (N + 3) N (N + 1)) (fun H => r1.ok H ∧ r2.ok H) (by simp) ?_ ?_ ?_ ?_
  · rintro i h ⟨h1, h2, ⟨a1, a2, h3⟩, h4, h5⟩ b hb
    have e' : b = N + 4 ∨ b = N + 2 ∨ b = N + 3 ∨ b = N ∨ b = N + 1 := by simpa using hb
    rcases e' with rfl | rfl | rfl | rfl | rfl
    · exact ⟨_, h1, fun v q => nomatch q⟩
    · exact ⟨_, h2, fun v q => nomatch q⟩
    · exact ⟨_, h3, fun v q => nomatch q⟩
    · exact Src.obj h4
    · exact Src.obj h5
  · rintro i h h' ⟨h1, h2, ⟨a1, a2, h3⟩, h4, h5⟩ k
    exact ⟨k _ (by simp) _ h1, k _ (by simp) _ h2, ⟨a1, a2, k _ (by simp) _ h3⟩, Src.keep h4 fun o q => k _ (by simp) o q, Src.keep h5 fun o q => k _ (by simp) o q⟩
  · rintro X pins σ H s i0 rfl rfl rfl hc I ⟨ok1, ok2⟩ hf ⟨h1, h2, h3, h4, h5⟩
    obtain ⟨fp1, St1, D1, s1, so1, hf1⟩ := Src.draws (A := X.A.in1) I (I.ok.hd hc) ok1 (hf N (by simp)).1 h4
    obtain ⟨fp2, St2, D2, s2, so2, hf2⟩ := Src.draws (A := X.A.in1) I (I.ok.hd hc) ok2 (hf (N + 1) (by simp)).1 h5
    have out : ∀ (b c : Addr) (o : HO), c ∈ [N + 4, N + 2, N + 3, N, N + 1] → H b = some o → c ≠ b := fun b c o hc' hb z => by
      have q := (hf c hc').1
      rw [z, hb] at q
      cases q
    have S : ZipSep2 (N + 4) (N + 2) (N + 3) N (N + 1) (N :: fp1) ((N + 1) :: fp2) :=
      { TIz := show (N + 2 : Nat) ≠ N + 4 by omega, TOz := show (N + 3 : Nat) ≠ N + 4 by omega, TITO := show (N + 2 : Nat) ≠ N + 3 by omega
        TIi1 := show (N + 2 : Nat) ≠ N by omega, mem1 := List.mem_cons_self
        zf1 := fun m => by
          rcases List.mem_cons.mp m with q | q
          · exact absurd q (show (N + 4 : Nat) ≠ N by omega)
          · obtain ⟨o, e⟩ := hf1 _ q
            exact out _ (N + 4) o (by simp) e rfl
        Tf1 := fun m => by
          rcases List.mem_cons.mp m with q | q
          · exact absurd q (show (N + 3 : Nat) ≠ N by omega)
          · obtain ⟨o, e⟩ := hf1 _ q
            exact out _ (N + 3) o (by simp) e rfl
        TIi2 := show (N + 2 : Nat) ≠ N + 1 by omega, mem2 := List.mem_cons_self
        zf2 := fun m => by
          rcases List.mem_cons.mp m with q | q
          · exact absurd q (show (N + 4 : Nat) ≠ N + 1 by omega)
          · obtain ⟨o, e⟩ := hf2 _ q
            exact out _ (N + 4) o (by simp) e rfl
        Tf2 := fun m => by
          rcases List.mem_cons.mp m with q | q
          · exact absurd q (show (N + 3 : Nat) ≠ N + 1 by omega)
          · obtain ⟨o, e⟩ := hf2 _ q
            exact out _ (N + 3) o (by simp) e rfl
        sep1_2 := fun m => by
          rcases List.mem_cons.mp m with q | q
          · exact absurd q (show (N : Nat) ≠ N + 1 by omega)
          · obtain ⟨o, e⟩ := hf2 _ q
            exact out _ N o (by simp) e rfl
        sep2_1 := fun m => by
          rcases List.mem_cons.mp m with q | q
          · exact absurd q (show (N + 1 : Nat) ≠ N by omega)
          · obtain ⟨o, e⟩ := hf1 _ q
            exact out _ (N + 1) o (by simp) e rfl }
    refine ⟨_, _, _, _, _, WalksT.zipD2 S D1 D2, fun b hb => ?_, ⟨h1, h2, h3, s1, s2⟩, fun i h q => ⟨q.1, q.2.1, q.2.2.1, so1 i h q.2.2.2.1, so2 i h q.2.2.2.2⟩, fun i vals hp => ?_⟩
    · have e' : b = N + 4 ∨ b = N + 3 ∨ b = N ∨ b = N + 1 := by simpa using hb
      rcases e' with rfl | rfl | rfl | rfl <;> simp
    · obtain ⟨x1, x2, ⟨y1, e1, e2⟩, ⟨y2, e3, e4⟩, rfl⟩ := hp
      exact ⟨x1, x2, y1, y2, rfl, e2, e4, e1, e3⟩
  · rintro A i s Q E ⟨h1, _⟩ h
    exact wpAny_pyIter_zip h1 h
def iZipS (ta : TA) : TI := fun σ H R => ta σ H fun vs H1 => ∃ r1 r2 : Src, vs = [r1.val, r2.val] ∧ r1.ok H1 ∧ r2.ok H1 ∧
  R (ItP (fun H => r1.ok H ∧ r2.ok H) (min r1.n r2.n) (fun i H x => r1.at_ i H x) (fun i H y => r2.at_ i H y)) H1
theorem pi_zipS {X : Cx} {e e2 : Expr} {ta : TA} {p pos tpos : Pos} {elts : List Expr} {kk : Nat} (hg : Gl X "zip") (hm : X.mg "zip" = none) (ha : PA X [e, e2] ta) (hn : noStar e = true) (hn2 : noStar e2 = true) :
    PI X (.Tuple elts kk tpos) (.Call (.Name "zip" p) [e, e2] [] pos) (iZipS ta) := by
  refine ⟨fun pins s σ H R I h => ?_⟩
  refine Call_ (ld_blt I hg hm boot_zip (PyProof.Rows.callWith_type1 (thn (ha.run pos pins s σ H _ I h) fun us s1 ⟨vs, H1, I1, q1, r1, r2, ex, ok1, ok2, q⟩ => ?_) (noStar_ok hn) (by rw [noStar_ok hn2]; rfl)))
  subst ex
  obtain ⟨u1, u2, rfl, rx1, rx2⟩ := vals2 q1
  obtain ⟨o1, Hs1, B1, b1, c1⟩ := Src.begins I1 ok1 rx1
  obtain ⟨o2, Hs2, B2, b2, c2⟩ := Src.begins I1 ok2 rx2
  refine zip_begins2 B1 B2 b1 b2 fun h' hz hT hO g1 g2 hsz hk => wpAny_pyIter_zip hz ?_
  have I2 : Inv X pins σ H1 { s1 with heap := h' } := I1.kept (t' := s1.toks) hk
  refine ⟨s1.heap.objs.size + 4, _, _, _, H1, rfl, I2, turn_zipS r1 r2 s1.heap.objs.size, ⟨hz, hT, ⟨_, _, hO⟩, c1 _ _ g1, c2 _ _ g2⟩, fun b hb => ?_, q⟩
  have hle : s1.heap.objs.size ≤ b := by
    have e' : b = s1.heap.objs.size + 4 ∨ b = s1.heap.objs.size + 2 ∨ b = s1.heap.objs.size + 3 ∨ b = s1.heap.objs.size ∨ b = s1.heap.objs.size + 1 := by simpa using hb
    rcases e' with z | z | z | z | z <;> rw [z]
    · exact Nat.le_add_right _ _
    · exact Nat.le_add_right _ _
    · exact Nat.le_add_right _ _
    · exact Nat.le_refl _
    · exact Nat.le_add_right _ _
  exact I1.fpOk hle (I1.hok.fresh hle)

/-! ### whatever it is -/
def iDyn (K : PySem.W.Frag) (te : TE) : TI := fun σ H R => te σ H fun x H1 => (∃ a vs, x = .ref a ∧ SqL K H1 a vs ∧ R (Itl K a) H1) ∨ (∃ a vs, x = .ref a ∧ SqT K H1 a vs ∧ R (Itt K a) H1) ∨ ∃ z, x = .str z ∧ R (Its z) H1
theorem pi_dyn {X : Cx} {tg e : Expr} {te : TE} (he : PE X e te) : PI X tg e (iDyn X.K te) := by
  refine ⟨fun pins s σ H R I h => ?_⟩
  refine thn (he.run pins s σ H _ I h) fun v s1 ⟨x, H1, I1, r1, q⟩ => ?_
  rcases q with ⟨a, vs, ex, hq, q⟩ | ⟨a, vs, ex, hq, q⟩ | ⟨z, ex, q⟩
  · subst ex
    cases r1
    obtain ⟨its, _, pl, _⟩ := I1.list hq
    exact wpAny_pyIter_list pl.isList (pi_one (tk := s1.toks) I1 _ (turn_list a _) ⟨_, Heap.get?_push_size _ rfl, rfl, rfl⟩ q)
  · subst ex
    cases r1
    obtain ⟨its, _, pl, _⟩ := I1.tuple hq
    exact wpAny_pyIter_tuple (show s1.heap.IsTuple a its.toArray from pl) (pi_one (tk := s1.toks) I1 _ (turn_tuple a _) ⟨_, Heap.get?_push_size _ rfl, rfl, rfl⟩ q)
  · subst ex
    obtain ⟨t, rfl⟩ := r1
    cases ha : z.cps.all (· < 128) with
    | false => exact wpAny_pyIter_wide ha (pi_one (tk := s1.toks) I1 _ (turn_str _ z t "str_iterator" (.inr rfl)) ⟨_, Heap.get?_push_size _ rfl, rfl, rfl⟩ q)
    | true => exact wpAny_pyIter_ascii ha (pi_one (tk := s1.toks) I1 _ (turn_str _ z t "str_ascii_iterator" (.inl rfl)) ⟨_, Heap.get?_push_size _ rfl, rfl, rfl⟩ q)
end Ms
end
section
set_option Elab.async false
set_option linter.all false
set_option maxRecDepth 100000
set_option maxHeartbeats 4000000
/-! Walks over data; comprehensions. -/
namespace Ms
open PySem L2

theorem itOk_at {K : PySem.W.Frag} {G : Hp} {ι : List Addr} {J : L2.It} {vs : List V} {ds : List D} {Gd : Hp → Prop} (w : Walk J vs.length Gd (YAt vs)) (hG : ∀ H2 G2 ι2 η2, Ext G ι G2 ι2 → RS K G2 H2 ι2 η2 → Gd H2) (r : Reps K G ι vs ds) : ItOk K G ι J ds [] := by
  unfold ItOk
  rw [← r.length]
  refine w.mono (fun H2 ⟨G2, ι2, η2, x, S, _⟩ => hG H2 G2 ι2 η2 x S) fun i H2 x H3 hi _ y G2 ι2 η2 d e S _ q => ?_
  obtain ⟨rfl, y⟩ := y
  obtain ⟨v, q1, q2⟩ := r.get q
  rw [y] at q1
  cases q1
  exact ⟨G2, Stp.refl _ _ _, S, q2.mono e⟩
/-- a list that may change, but does not -/
theorem itOk_ref {K : PySem.W.Frag} {G : Hp} {ι : List Addr} {n : Nat} {a : Addr} {ds : List D} (q : ι[n]? = some a) : ItOk K G ι (Itl K a) ds [(n, ds)] := by
  have now : ∀ {H2 G2 : Hp} {ι2 : List Addr} {η2 : List Cell}, Ext G ι G2 ι2 → RS K G2 H2 ι2 η2 → gdOk [(n, ds)] η2 → ∃ vs, H2 a = some (.lst vs) ∧ Reps K G2 ι2 vs ds := fun x S g => by
    obtain ⟨vs, h1, h2⟩ := S.cells n a _ (prefix_get x.i q) (g (n, ds) List.mem_cons_self)
    exact ⟨vs, h1, h2⟩
  refine ⟨fun i H2 hi ⟨G2, ι2, η2, x, S, g⟩ => ?_, fun H2 ⟨G2, ι2, η2, x, S, g⟩ => ?_, fun i H2 x H3 hi _ y G2 ι2 η2 d e S g hd => ?_⟩
  · obtain ⟨vs, h1, h2⟩ := now x S g
    exact ⟨vs, vs[i]'(by rw [h2.length]; exact hi), SqL.of h1, List.getElem?_eq_getElem _⟩
  · obtain ⟨vs, h1, h2⟩ := now x S g
    exact ⟨vs, SqL.of h1, by rw [h2.length]; exact Nat.le_refl _⟩
  · obtain ⟨vs, h1, h2⟩ := now e S g
    obtain ⟨rfl, y⟩ := y
    obtain ⟨v, q1, q2⟩ := h2.get hd
    have := y vs (SqL.of h1)
    rw [q1] at this
    cases this
    exact ⟨G2, Stp.refl _ _ _, S, q2⟩
theorem itOk_fn {K : PySem.W.Frag} {G : Hp} {ι : List Addr} {J : L2.It} {n : Nat} {f : Nat → Int} (w : Walk J n (fun _ => True) (YFn fun i => .int (f i))) : ItOk K G ι J ((List.range n).map fun i => D.int (f i)) [] := by
  unfold ItOk
  rw [List.length_map, List.length_range]
  refine w.mono (fun _ _ => trivial) fun i H2 x H3 hi _ y G2 ι2 η2 d e S _ q => ?_
  obtain ⟨rfl, rfl⟩ := y
  rw [List.getElem?_map, List.getElem?_range hi] at q
  cases q
  exact ⟨G2, Stp.refl _ _ _, S, .int _⟩
theorem itOk_pair {K : PySem.W.Frag} {G : Hp} {ι : List Addr} {Sd : Hp → Prop} {n : Nat} {px py : Nat → Hp → V → Prop} {ds : List D} {g : Gd} (hn : ds.length = n) (hS : ∀ H2 G2 ι2 η2, Ext G ι G2 ι2 → RS K G2 H2 ι2 η2 → gdOk g η2 → Sd H2)
    (hp : ∀ H2 G2 ι2 η2, Ext G ι G2 ι2 → RS K G2 H2 ι2 η2 → gdOk g η2 → ∀ i d x y, ds[i]? = some d → px i H2 x → py i H2 y → ∃ a b, d = .tup [a, b] ∧ Rep K G2 ι2 x a ∧ Rep K G2 ι2 y b) : ItOk K G ι (ItP Sd n px py) ds g := by
  unfold ItOk
  rw [hn]
  refine ⟨fun i H hi ⟨G2, ι2, η2, x, S, g⟩ => ⟨hS _ _ _ _ x S g, hi⟩, fun H ⟨G2, ι2, η2, x, S, g⟩ => ⟨hS _ _ _ _ x S g, rfl⟩, fun i H v H' hi _ y G2 ι2 η2 d e S g q => ?_⟩
  obtain ⟨T, x, z, rfl, hT, rfl, p1, p2⟩ := y
  obtain ⟨a, b, rfl, r1, r2⟩ := hp _ _ _ _ e S g i d x z q p1 p2
  have st := S.stpNew (o := .tup [x, z]) hT
  exact ⟨_, st, S.frozen hT, .tup upd_same (.cons (r1.mono st.x) (.cons (r2.mono st.x) .nil))⟩

section
variable {T : Tab} {cls : Nat → Addr} {k : Nat} {X : Cx} {N : List Str} {sc : Scope} {W : WX}
theorem sqL_str {z : Str} {K : PySem.W.Frag} {G : Hp} {ι : List Addr} : ItOk K G ι (Its z) (signs z) [] := by
  have w : Walk (Its z) (z.cps.toList.map fun c => V.str ⟨#[c]⟩).length (fun _ => True) (YAt (z.cps.toList.map fun c => V.str ⟨#[c]⟩)) := by
    have w0 := walk_str (z := z)
    rw [List.length_map, Array.length_toList]
    refine w0.mono (fun _ h => h) fun i H x H' _ _ y => ?_
    obtain ⟨rfl, c, e, rfl⟩ := y
    exact ⟨rfl, by simp [e]⟩
  exact itOk_at w (fun _ _ _ _ _ _ => trivial) (signs_rep _)
theorem si_val {tg e : Expr} {f : Env → M D} (he : PE X e (tE cls X.K W f)) : PI X tg e (tI cls X.K W fun ρ => bnd (f ρ) itVal) := by
  refine PI.imp (pi_dyn he) ?_
  rintro σ H R ⟨G, ι, η, ρ, S, sl, h⟩
  refine ⟨G, ι, η, ρ, S, sl, (Post.bind h).imp (fun d G1 ι1 η1 H1 st1 S1 h1 v r => ?_) fun _ _ _ z => z⟩
  unfold itVal itemsG itemsOf at h1
  cases r with
  | str z =>
    refine .inr (.inr ⟨z, rfl, ?_⟩)
    by_cases hl : z.length ≤ LIM
    · simp only [hl, if_true] at h1
      exact h1 G1 ι1 H1 (Stp.refl _ _ _) S1 _ sqL_str
    · simp only [hl, if_false] at h1
      exact h1.elim
  | @tup a vs ds q t =>
    refine .inr (.inl ⟨a, vs, rfl, SqT.of (S1.sub _ _ q), ?_⟩)
    exact h1 G1 ι1 H1 (Stp.refl _ _ _) S1 _ (itOk_at walk_tup (fun H2 G2 ι2 η2 x S2 => SqT.of (S2.sub _ _ (x.g _ _ q))) t)
  | @fl a vs ds q t =>
    refine .inl ⟨a, vs, rfl, SqL.of (S1.sub _ _ q), ?_⟩
    exact h1 G1 ι1 H1 (Stp.refl _ _ _) S1 _ (itOk_at walk_list (fun H2 G2 ι2 η2 x S2 => SqL.of (S2.sub _ _ (x.g _ _ q))) t)
  | @scr a vs ds q t =>
    refine .inl ⟨a, vs, rfl, S1.sub.seq q, ?_⟩
    exact h1 G1 ι1 H1 (Stp.refl _ _ _) S1 _ (itOk_at walk_list (fun H2 G2 ι2 η2 x S2 => S2.sub.seq (x.g.seq q)) t)
  | @ref n a q =>
    cases e : η1[n]? with
    | none => simp only [e] at h1; exact h1.elim
    | some c =>
      cases c with
      | dead => simp only [e] at h1; exact h1.elim
      | tab p' q' => simp only [e] at h1; exact h1.elim
      | lst xs =>
        simp only [e] at h1
        obtain ⟨vs, g1, _⟩ := S1.cells n a _ q e
        exact .inl ⟨a, vs, rfl, SqL.of g1, h1 G1 ι1 H1 (Stp.refl _ _ _) S1 _ (itOk_ref q)⟩
  | _ => exact h1.elim
theorem enumL_length : ∀ (n : Nat) (l : List D), (enumL n l).length = l.length
  | _, [] => rfl
  | n, d :: r => congrArg (· + 1) (enumL_length (n + 1) r)
theorem enumL_get : ∀ (n : Nat) (l : List D) (i : Nat) (d : D), (enumL n l)[i]? = some d → ∃ e, l[i]? = some e ∧ d = .tup [.int ((n + i : Nat) : Int), e]
  | _, [], i, d, h => by simp [enumL] at h
  | n, a :: r, 0, d, h => by
    simp [enumL] at h
    exact ⟨a, rfl, by rw [← h]; simp⟩
  | n, a :: r, i + 1, d, h => by
    obtain ⟨e, h1, h2⟩ := enumL_get (n + 1) r i d (by simpa [enumL] using h)
    exact ⟨e, by simpa using h1, by rw [h2, show n + 1 + i = n + (i + 1) by omega]⟩
/-- a source that a datum is -/
theorem src_of {K : PySem.W.Frag} {G H : Hp} {ι : List Addr} {η : List Cell} {d : D} {v : V} {xs : List D} {g : Gd} (S : RS K G H ι η) (r : Rep K G ι v d) (h : zItems d η = some (xs, g)) :
    ∃ s : Src, s.val = v ∧ s.ok H ∧ s.n = xs.length ∧ ∀ H2 G2 ι2 η2, Ext G ι G2 ι2 → RS K G2 H2 ι2 η2 → gdOk g η2 → s.ok H2 ∧ ∀ i y e, s.at_ i H2 y → xs[i]? = some e → Rep K G2 ι2 y e := by
  have stat : ∀ {vs : List V} {ds : List D}, Reps K G ι vs ds → ∀ {G2 : Hp} {ι2 : List Addr}, Ext G ι G2 ι2 → ∀ i y e, vs[i]? = some y → ds[i]? = some e → Rep K G2 ι2 y e := fun r G2 ι2 x i y e h1 h2 => by
    obtain ⟨v, q1, q2⟩ := r.get h2
    rw [h1] at q1
    cases q1
    exact q2.mono x
  unfold zItems itemsG itemsOf at h
  cases r with
  | str z =>
    by_cases hl : z.length ≤ LIM
    · simp only [isScr, Bool.false_eq_true, hl, if_true, if_false, Option.map_some, Option.some.injEq, Prod.mk.injEq] at h
      obtain ⟨rfl, rfl⟩ := h
      exact ⟨.str z, rfl, Nat.le_trans hl lim_line, by simp [Src.n, signs], fun H2 G2 ι2 η2 x S2 _ => ⟨Nat.le_trans hl lim_line, stat (signs_rep _) x⟩⟩
    · simp [isScr, hl] at h
  | @tup a vs ds q t =>
    simp only [isScr, Bool.false_eq_true, if_false, Option.map_some, Option.some.injEq, Prod.mk.injEq] at h
    obtain ⟨rfl, rfl⟩ := h
    exact ⟨.tup a vs, rfl, S.sub _ _ q, t.length, fun H2 G2 ι2 η2 x S2 _ => ⟨S2.sub _ _ (x.g _ _ q), stat t x⟩⟩
  | @fl a vs ds q t =>
    simp only [isScr, Bool.false_eq_true, if_false, Option.map_some, Option.some.injEq, Prod.mk.injEq] at h
    obtain ⟨rfl, rfl⟩ := h
    exact ⟨.lst a vs, rfl, S.sub _ _ q, t.length, fun H2 G2 ι2 η2 x S2 _ => ⟨S2.sub _ _ (x.g _ _ q), stat t x⟩⟩
  | @ref n a q =>
    cases e : η[n]? with
    | none => simp [isScr, e] at h
    | some c =>
      cases c with
      | dead => simp [isScr, e] at h
      | tab p' q' => simp [isScr, e] at h
      | lst ys =>
        simp only [isScr, Bool.false_eq_true, if_false, e, Option.some.injEq, Prod.mk.injEq] at h
        obtain ⟨rfl, rfl⟩ := h
        obtain ⟨vs, g1, g2⟩ := S.cells n a _ q e
        refine ⟨.dyn a ys.length, rfl, ⟨vs, g1, g2.length⟩, rfl, fun H2 G2 ι2 η2 x S2 g => ?_⟩
        obtain ⟨ws, k1, k2⟩ := S2.cells n a _ (prefix_get x.i q) (g (n, ys) List.mem_cons_self)
        refine ⟨⟨ws, k1, k2.length⟩, fun i y d ⟨us, j1, j2⟩ hd => ?_⟩
        rw [k1] at j1
        cases j1
        obtain ⟨v, q1, q2⟩ := k2.get hd
        rw [j2] at q1
        cases q1
        exact q2
  | _ => simp [isScr] at h
theorem si_enum {t e : Expr} {f : Env → M D} {p pos : Pos} (C : CtxD T cls k X N sc W) (hg : glB sc "enumerate" = true) (he : PE X e (tE cls X.K W f)) (hn : noStar e = true) (ht : isTuple t = true) :
    PI X t (.Call (.Name "enumerate" p) [e] [] pos) (tI cls X.K W fun ρ => bnd (f ρ) itEnum) := by
  cases t <;> first | cases ht | skip
  rename_i elts kk tpos
  have ha : PA X [e] (tCons (tE cls X.K W f) tNil) := pa_cons he pa_nil (noStar_ok hn)
  refine PI.imp (pi_enumS (glB_ok (by rw [C.scEq]; exact hg)) (C.bl _ (by decide)) ha hn) ?_
  rintro σ H R ⟨G, ι, η, ρ, S, sl, h⟩
  refine ⟨G, ι, η, ρ, S, sl, (Post.bind h).imp (fun d G1 ι1 η1 H1 st1 S1 h1 v r => ?_) fun _ _ _ z => z⟩
  unfold itEnum at h1
  cases q1 : zItems d η1 with
  | none => rw [q1] at h1; exact h1.elim
  | some r1 =>
    obtain ⟨xs, g⟩ := r1
    obtain ⟨s, e1, o1, p1, k1⟩ := src_of S1 r q1
    subst e1
    rw [q1] at h1
    refine ⟨s, rfl, o1, h1 G1 ι1 H1 (Stp.refl _ _ _) S1 _ (itOk_pair (by rw [enumL_length, p1]) (fun H2 G2 ι2 η2 x S2 g2 => (k1 H2 G2 ι2 η2 x S2 g2).1) fun H2 G2 ι2 η2 x S2 g2 i d x' y q e1 e2 => ?_)⟩
    obtain ⟨e, j1, rfl⟩ := enumL_get 0 xs i d q
    refine ⟨_, _, rfl, ?_, (k1 H2 G2 ι2 η2 x S2 g2).2 i y e e2 j1⟩
    rw [e1, Nat.zero_add]
    exact .int _
theorem si_zip {t e e2 : Expr} {f f2 : Env → M D} {p pos : Pos} (C : CtxD T cls k X N sc W) (hg : glB sc "zip" = true) (he : PE X e (tE cls X.K W f)) (he2 : PE X e2 (tE cls X.K W f2)) (hn : noStar e = true) (hn2 : noStar e2 = true) (ht : isTuple t = true) :
    PI X t (.Call (.Name "zip" p) [e, e2] [] pos) (tI cls X.K W fun ρ => bnd (f ρ) fun x => bnd (f2 ρ) fun y => itZip x y) := by
  cases t <;> first | cases ht | skip
  rename_i elts kk tpos
  have ha : PA X [e, e2] (tCons (tE cls X.K W f) (tCons (tE cls X.K W f2) tNil)) := pa_cons he (pa_cons he2 pa_nil (noStar_ok hn2)) (noStar_ok hn)
  refine PI.imp (pi_zipS (glB_ok (by rw [C.scEq]; exact hg)) (C.bl _ (by decide)) ha hn hn2) ?_
  rintro σ H R ⟨G, ι, η, ρ, S, sl, h⟩
  refine ⟨G, ι, η, ρ, S, sl, (Post.bind h).imp (fun d G1 ι1 η1 H1 st1 S1 h1 v r => ?_) fun _ _ _ z => z⟩
  refine ⟨G1, ι1, η1, ρ, S1, sl.mono st1.x, (Post.bind h1).imp (fun d2 G2 ι2 η2 H2 st2 S2 h2 v2 r2 => ?_) fun _ _ _ z => z⟩
  unfold itZip at h2
  cases q1 : zItems d η2 with
  | none => rw [q1] at h2; exact h2.elim
  | some w1 =>
    obtain ⟨xs, g⟩ := w1
    cases q2 : zItems d2 η2 with
    | none => rw [q1, q2] at h2; exact h2.elim
    | some w2 =>
      obtain ⟨ys, g'⟩ := w2
      obtain ⟨s1, e1, o1, p1, k1⟩ := src_of S2 (r.mono st2.x) q1
      obtain ⟨s2, e2, o2, p2, k2⟩ := src_of S2 r2 q2
      subst e1 e2
      rw [q1, q2] at h2
      have gl : ∀ {η3 : List Cell}, gdOk (g ++ g') η3 → gdOk g η3 ∧ gdOk g' η3 := fun h => ⟨fun p hp => h p (List.mem_append_left _ hp), fun p hp => h p (List.mem_append_right _ hp)⟩
      refine ⟨s1, s2, rfl, o1, o2, h2 G2 ι2 H2 (Stp.refl _ _ _) S2 _ (itOk_pair ?_ (fun H3 G3 ι3 η3 x S3 g3 => ⟨(k1 H3 G3 ι3 η3 x S3 (gl g3).1).1, (k2 H3 G3 ι3 η3 x S3 (gl g3).2).1⟩) fun H3 G3 ι3 η3 x S3 g3 i q x' y' hq e1 e2 => ?_)⟩
      · rw [List.length_zipWith, p1, p2]
      · rw [List.getElem?_zipWith] at hq
        cases j1 : xs[i]? with
        | none => rw [j1] at hq; cases hq
        | some a =>
          cases j2 : ys[i]? with
          | none => rw [j1, j2] at hq; cases hq
          | some b =>
            rw [j1, j2] at hq
            cases hq
            exact ⟨a, b, rfl, (k1 H3 G3 ι3 η3 x S3 (gl g3).1).2 i x' a e1 j1, (k2 H3 G3 ι3 η3 x S3 (gl g3).2).2 i y' b e2 j2⟩
theorem si_r1 {t a : Expr} {f : Env → M D} {p pos : Pos} (C : CtxD T cls k X N sc W) (hg : glB sc "range" = true) (ha : PE X a (tE cls X.K W f)) (na : noStar a = true) :
    PI X t (.Call (.Name "range" p) [a] [] pos) (tI cls X.K W fun ρ => bnd (f ρ) itR1) := by
  refine PI.imp (pi_range1 (glB_ok (by rw [C.scEq]; exact hg)) (C.bl _ (by decide)) (pa_cons ha pa_nil (noStar_ok na)) (noStar_ok na)) ?_
  rintro σ H R ⟨G, ι, η, ρ, S, sl, h⟩
  refine ⟨G, ι, η, ρ, S, sl, (Post.bind h).imp (fun d G1 ι1 η1 H1 st1 S1 h1 v r => ?_) fun _ _ _ z => z⟩
  cases r with
  | int j =>
    simp only [itR1] at h1
    by_cases hj : -1000000 ≤ j ∧ j ≤ 1000000
    · rw [if_pos hj] at h1
      refine ⟨j, rfl, by omega, by omega, ?_⟩
      have w := itOk_fn (K := X.K) (G := G1) (ι := ι1) (f := fun i => (0 : Int) + (i : Nat)) (walk_range (lo := 0) (n := j.toNat))
      simp only [Int.zero_add] at w
      exact h1 G1 ι1 H1 (Stp.refl _ _ _) S1 _ w
    · rw [if_neg hj] at h1
      exact h1.elim
  | _ => exact h1.elim
theorem si_r2 {t a b : Expr} {f f2 : Env → M D} {p pos : Pos} (C : CtxD T cls k X N sc W) (hg : glB sc "range" = true) (ha : PE X a (tE cls X.K W f)) (na : noStar a = true) (hb : PE X b (tE cls X.K W f2)) (nb : noStar b = true) :
    PI X t (.Call (.Name "range" p) [a, b] [] pos) (tI cls X.K W fun ρ => bnd (f ρ) fun x => bnd (f2 ρ) fun y => itR2 x y) := by
  refine PI.imp (pi_range2 (glB_ok (by rw [C.scEq]; exact hg)) (C.bl _ (by decide)) (pa_cons ha (pa_cons hb pa_nil (noStar_ok nb)) (noStar_ok na)) (by rw [noStar_ok na, noStar_ok nb]; rfl) (noStar_ok nb)) ?_
  rintro σ H R ⟨G, ι, η, ρ, S, sl, h⟩
  refine ⟨G, ι, η, ρ, S, sl, (Post.bind h).imp (fun d G1 ι1 η1 H1 st1 S1 h1 v r => ?_) fun _ _ _ z => z⟩
  refine ⟨G1, ι1, η1, ρ, S1, sl.mono st1.x, (Post.bind h1).imp (fun d2 G2 ι2 η2 H2 st2 S2 h2 v2 r2 => ?_) fun _ _ _ z => z⟩
  cases r with
  | int i =>
    cases r2 with
    | int j =>
      simp only [itR2] at h2
      by_cases hj : -1000000 ≤ i ∧ i ≤ 1000000 ∧ -1000000 ≤ j ∧ j ≤ 1000000
      · rw [if_pos hj] at h2
        refine ⟨i, j, rfl, ⟨by omega, by omega, by omega, by omega⟩, ?_⟩
        exact h2 G2 ι2 H2 (Stp.refl _ _ _) S2 _ (itOk_fn (walk_range (lo := i) (n := (j - i).toNat)))
      · rw [if_neg hj] at h2
        exact h2.elim
    | _ => exact h2.elim
  | _ => exact h2.elim
theorem si_r3 {t a b c : Expr} {f f2 f3 : Env → M D} {p pos : Pos} (C : CtxD T cls k X N sc W) (hg : glB sc "range" = true) (ha : PE X a (tE cls X.K W f)) (na : noStar a = true) (hb : PE X b (tE cls X.K W f2)) (nb : noStar b = true)
    (hc : PE X c (tE cls X.K W f3)) (nc : noStar c = true) :
    PI X t (.Call (.Name "range" p) [a, b, c] [] pos) (tI cls X.K W fun ρ => bnd (f ρ) fun x => bnd (f2 ρ) fun y => bnd (f3 ρ) fun z => itR3 x y z) := by
  refine PI.imp (pi_range3 (glB_ok (by rw [C.scEq]; exact hg)) (C.bl _ (by decide)) (pa_cons ha (pa_cons hb (pa_cons hc pa_nil (noStar_ok nc)) (noStar_ok nb)) (noStar_ok na)) (by rw [noStar_ok na, noStar_ok nb, noStar_ok nc] <;> rfl) (by rw [noStar_ok nb, noStar_ok nc] <;> rfl)) ?_
  rintro σ H R ⟨G, ι, η, ρ, S, sl, h⟩
  refine ⟨G, ι, η, ρ, S, sl, (Post.bind h).imp (fun d G1 ι1 η1 H1 st1 S1 h1 v r => ?_) fun _ _ _ z => z⟩
  refine ⟨G1, ι1, η1, ρ, S1, sl.mono st1.x, (Post.bind h1).imp (fun d2 G2 ι2 η2 H2 st2 S2 h2 v2 r2 => ?_) fun _ _ _ z => z⟩
  refine ⟨G2, ι2, η2, ρ, S2, sl.mono (st1.x.trans st2.x), (Post.bind h2).imp (fun d3 G3 ι3 η3 H3 st3 S3 h3 v3 r3 => ?_) fun _ _ _ z => z⟩
  cases r with
  | int i =>
    cases r2 with
    | int j =>
      cases r3 with
      | int c =>
        simp only [itR3] at h3
        by_cases hj : c = -1 ∧ -1000000 ≤ i ∧ i ≤ 1000000 ∧ -1000000 ≤ j ∧ j ≤ 1000000
        · rw [if_pos hj] at h3
          obtain ⟨rfl, hj⟩ := hj
          refine ⟨i, j, -1, (i - j).toNat, rfl, RgC.neg (by omega) (by omega) (by omega) (by omega), ?_⟩
          exact h3 G3 ι3 H3 (Stp.refl _ _ _) S3 _ (itOk_fn (walk_rangeC (lo := i) (c := -1) (n := (i - j).toNat)))
        · rw [if_neg hj] at h3
          exact h3.elim
      | _ => exact h3.elim
    | _ => exact h3.elim
  | _ => exact h3.elim
end
end Ms
end
section
set_option Elab.async false
set_option linter.all false
set_option maxRecDepth 100000
set_option maxHeartbeats 4000000
/-! Calls, methods, comprehensions. -/
namespace Ms
open PySem L2

section
variable {T : Tab} {cls : Nat → Addr} {k : Nat} {X : Cx} {N : List Str} {sc : Scope} {W : WX}
/-- a def called gets as many as it has parameters -/
theorem evF_len {F : List FD} {k f : Nat} {fd : FD} {ds : List D} {η : List Cell} {K : PySem.W.Frag} {G H : Hp} {ι : List Addr} {Q : VK} {W' : Value → Option Addr → Hp → Prop} (hf : F[f]? = some fd) (h : PV cls K G H ι (evF F k f ds η) Q W') : ds.length = fd.ps.length := by
  cases k with
  | zero => exact h.elim
  | succ k =>
    unfold evF at h
    rw [hf] at h
    by_cases hl : ds.length = fd.ps.length
    · exact hl
    · simp only [hl, if_false] at h
      exact h.elim
theorem call_imp {f : Nat} {fd : FD} {g : Env → M (List D)} {σ : L2.St} {H : Hp} {Q : VK} (hf : T.fns[f]? = some fd) (h : tE cls X.K W (fun ρ => bnd (g ρ) (evF T.fns k f)) σ H Q) :
    tCallS (spF cls X.K fd.ps.length (evF T.fns k f)) (WE W) (tA cls X.K W g) σ H Q := by
  obtain ⟨G, ι, η, ρ, S, sl, h⟩ := h
  refine ⟨G, ι, η, ρ, S, sl, (Post.bind h).imp (fun ds G1 ι1 η1 H1 st1 S1 h1 vs r => ?_) fun _ _ _ z => z⟩
  exact ⟨by rw [r.length]; exact evF_len hf h1, G1, ι1, η1, ds, S1, r, h1⟩
theorem se_call {f : Nat} {fd : FD} {x : Str} {xs : List Expr} {g : Env → M (List D)} {p pos : Pos} (C : CtxD T cls k X N sc W) (hf : T.fns[f]? = some fd) (hx : fd.name = x) (hg : glB sc x = true) (hn : nameB x = true) (ha : PA X xs (tA cls X.K W g)) (hne : xs.isEmpty = false)
    (hs : xs.all noStar = true) : PE X (.Call (.Name x p) xs [] pos) (tE cls X.K W fun ρ => bnd (g ρ) (evF T.fns k f)) := by
  obtain ⟨a, dt, e1, e2, e3, F⟩ := C.fn f fd hf
  subst hx
  cases xs with
  | nil => cases hne
  | cons e es =>
    have n1 : noStar e = true := by simp at hs; exact hs.1
    have n2 : ∀ y ∈ es, noStar y = true := by simp at hs; exact hs.2
    have pl : (backTo pos (starEach es X.env)).any (·.1) = false := by
      clear ha hne hs
      induction es with
      | nil => rfl
      | cons y ys ih =>
        rw [noStar_ok (n2 y List.mem_cons_self)]
        exact ih fun z hz => n2 z (List.mem_cons_of_mem _ hz)
    exact PE.imp (pe_callS F C.room (glB_ok (by rw [C.scEq]; exact hg)) e1 e2 e3 (fun σ => passAt C.tk σ) ha (nameB_ok hn).1 (noStar_ok n1) pl) fun _ _ _ h => call_imp hf h

/-- built-ins by their rules -/
theorem bi_D (b : Bi) (hc : X.calm = true) : (b.ty = false → ∃ id, bootBuiltins b.name = some (.builtin id) ∧ CallR X (.builtin id) (rDN cls X.K (biD b))) ∧ (b.ty = true → ∃ t, bootBuiltins b.name = some (.type t) ∧ CallR X (.type t) (rDN cls X.K (biD b))) := by
  cases b
  · exact ⟨fun _ => ⟨"len", by decide +kernel, call_lenD'⟩, fun h => by cases h⟩
  · exact ⟨fun h => (by cases h), fun _ => ⟨"int", by decide +kernel, call_intD⟩⟩
  · exact ⟨fun h => (by cases h), fun _ => ⟨"list", by decide +kernel, call_listD' hc⟩⟩
  · exact ⟨fun h => (by cases h), fun _ => ⟨"list", by decide +kernel, call_listMD' hc⟩⟩
  · exact ⟨fun h => (by cases h), fun _ => ⟨"tuple", by decide +kernel, call_tupleD⟩⟩
  · exact ⟨fun _ => ⟨"all", by decide +kernel, call_allD hc⟩, fun h => by cases h⟩
  · exact ⟨fun _ => ⟨"any", by decide +kernel, call_anyD hc⟩, fun h => by cases h⟩
  · exact ⟨fun _ => ⟨"sum", by decide +kernel, call_sumD hc⟩, fun h => by cases h⟩
  · exact ⟨fun _ => ⟨"min", by decide +kernel, call_minD hc⟩, fun h => by cases h⟩
  · exact ⟨fun _ => ⟨"max", by decide +kernel, call_maxD hc⟩, fun h => by cases h⟩
theorem bi_name (b : Bi) : b.name ∈ builtinNames ∧ b.name ≠ "__name__" ∧ (b.name == ("__debug__" : Str)) = false := by
  cases b <;> exact ⟨by decide +kernel, by decide +kernel, by decide +kernel⟩
theorem bi_imp {b : List D → M D} {g : Env → M (List D)} {σ : L2.St} {H : Hp} {Q : VK} (h : tE cls X.K W (fun ρ => bnd (g ρ) b) σ H Q) : tCB (rDN cls X.K b) (tA cls X.K W g) σ H Q := by
  obtain ⟨G, ι, η, ρ, S, sl, h⟩ := h
  refine ⟨G, ι, η, ρ, S, sl, (Post.bind h).imp (fun ds G1 ι1 η1 H1 st1 S1 h1 vs r => ?_) fun _ _ _ z => z⟩
  exact ⟨_, G1, ι1, η1, ds, S1, r, h1⟩
theorem se_bi {b : Bi} {x : Str} {xs : List Expr} {g : Env → M (List D)} {p pos : Pos} (C : CtxD T cls k X N sc W) (hx : b.name = x) (hg : glB sc x = true) (ha : PA X xs (tA cls X.K W g)) (hne : xs.isEmpty = false) (hs : xs.all noStar = true) :
    PE X (.Call (.Name x p) xs [] pos) (tE cls X.K W fun ρ => bnd (g ρ) (biD b)) := by
  subst hx
  obtain ⟨m1, m2, m3⟩ := bi_name b
  cases xs with
  | nil => cases hne
  | cons e es =>
    have n1 : noStar e = true := by simp at hs; exact hs.1
    have n2 : ∀ y ∈ es, noStar y = true := by simp at hs; exact hs.2
    have pl : (backTo pos (starEach es X.env)).any (·.1) = false := by
      clear ha hne hs
      induction es with
      | nil => rfl
      | cons y ys ih =>
        rw [noStar_ok (n2 y List.mem_cons_self)]
        exact ih fun z hz => n2 z (List.mem_cons_of_mem _ hz)
    have gl : Gl X b.name := glB_ok (by rw [C.scEq]; exact hg)
    obtain ⟨c1, c2⟩ := bi_D (cls := cls) (X := X) b C.calm
    cases hb : b.ty with
    | false =>
      obtain ⟨id, e1, e2⟩ := c1 hb
      exact PE.imp (pe_callB e2 gl (C.bl _ m1) e1 ha m2 m3 (noStar_ok n1) pl) fun _ _ _ h => bi_imp h
    | true =>
      obtain ⟨t, e1, e2⟩ := c2 hb
      exact PE.imp (pe_callTy e2 gl (C.bl _ m1) e1 ha m2 m3 (noStar_ok n1) pl) fun _ _ _ h => bi_imp h
theorem isTy_ok {t : String} (h : t ∈ isTys) : bootBuiltins (PySem.Str.ofString t) = some (.type t) ∧ PySem.Str.ofString t ≠ "__name__" ∧ (PySem.Str.ofString t == ("__debug__" : Str)) = false ∧ PySem.Str.ofString t ∈ builtinNames := by
  simp only [isTys, List.mem_cons, List.not_mem_nil, or_false] at h
  rcases h with rfl | rfl | rfl | rfl | rfl <;> exact ⟨by decide +kernel, by decide +kernel, by decide +kernel, by decide +kernel⟩
theorem se_isi {t : String} {e : Expr} {f : Env → M D} {p p2 pos : Pos} (C : CtxD T cls k X N sc W) (hg : glB sc "isinstance" = true) (hg2 : glB sc (PySem.Str.ofString t) = true) (ht : t ∈ isTys) (he : PE X e (tE cls X.K W f)) (hn : noStar e = true) :
    PE X (.Call (.Name "isinstance" p) [e, .Name (PySem.Str.ofString t) p2] [] pos) (tE cls X.K W fun ρ => bnd (f ρ) (isiD t)) := by
  obtain ⟨b1, b2, b3, b4⟩ := isTy_ok ht
  have hT : PE X (.Name (PySem.Str.ofString t) p2) (tC (.ty t)) := pe_bltn (glB_ok (by rw [C.scEq]; exact hg2)) (C.bl _ b4) b1 rfl b2 b3
  refine PE.imp (pe_callB (call_isD (cls := cls) t) (glB_ok (by rw [C.scEq]; exact hg)) (C.bl _ (by decide +kernel)) (by decide +kernel) (pa_cons he (pa_cons hT pa_nil) (noStar_ok hn)) (by decide +kernel) (by decide +kernel) (noStar_ok hn) rfl) ?_
  rintro σ H Q ⟨G, ι, η, ρ, S, sl, h⟩
  refine ⟨G, ι, η, ρ, S, sl, (Post.bind h).imp (fun d G1 ι1 η1 H1 st1 S1 h1 v r => ?_) fun _ _ _ z => z⟩
  exact ⟨_, v, G1, ι1, η1, d, rfl, S1, r, h1⟩
/-! methods -/
theorem mt_imp {m : Mt} {fo : Env → M D} {g : Env → M (List D)} {σ : L2.St} {H : Hp} {Q : VK} (h : tE cls X.K W (fun ρ => bnd (fo ρ) fun d => bnd (fun η => if recvOk m d η then .ok () η else .bad) fun _ => bnd (g ρ) (mtD m d)) σ H Q) :
    tE cls X.K W fo σ H fun x H1 => tyV X.K m.ty x H1 ∧ tA cls X.K W g σ H1 fun vs H2 => rDM cls X.K (mtD m) x vs H2 Q := by
  obtain ⟨G, ι, η, ρ, S, sl, h⟩ := h
  refine ⟨G, ι, η, ρ, S, sl, (Post.bind h).imp (fun d G1 ι1 η1 H1 st1 S1 h1 v r => ?_) fun _ _ _ z => z⟩
  by_cases hr : recvOk m d η1 = true
  · have e2 : bnd (fun η => if recvOk m d η = true then Res.ok () η else Res.bad) (fun _ => bnd (g ρ) (mtD m d)) η1 = bnd (g ρ) (mtD m d) η1 := by
      show (if recvOk m d η1 = true then Res.ok () η1 else Res.bad).bind (fun _ => bnd (g ρ) (mtD m d)) = _
      rw [if_pos hr]
      rfl
    rw [e2] at h1
    have h2 := h1
    refine ⟨recv_ok S1 r hr, G1, ι1, η1, ρ, S1, sl.mono st1.x, (Post.bind h2).imp (fun ds G2 ι2 η2 H2 st2 S2 h3 vs r2 => ?_) fun _ _ _ z => z⟩
    exact ⟨_, G2, ι2, η2, d, ds, S2, r.mono st2.x, r2, h3⟩
  · have e2 : bnd (fun η => if recvOk m d η = true then Res.ok () η else Res.bad) (fun _ => bnd (g ρ) (mtD m d)) η1 = .bad := by
      show (if recvOk m d η1 = true then Res.ok () η1 else Res.bad).bind (fun _ => bnd (g ρ) (mtD m d)) = _
      rw [if_neg hr]
      rfl
    rw [e2] at h1
    exact h1.elim
theorem evEs_nil (cf : Nat → List D → M D) (ρ : Env) : evEs cf .nil ρ = ret [] := by simp [evEs]
theorem se_mt {m : Mt} {o : Expr} {n : Str} {xs : List Expr} {fo : Env → M D} {g : Env → M (List D)} {ap p : Pos} (C : CtxD T cls k X N sc W) (hn : m.name = n) (ho : PE X o (tE cls X.K W fo)) (hsu : noSuper o = true) (ha : PA X xs (tA cls X.K W g)) (hs : xs.all noStar = true)
    (hl : (ap.endLine == p.line) = true) (hk : (if m.nul then xs.isEmpty else (xs.length == 1)) = true) (hg0 : xs = [] → ∀ ρ, g ρ = ret []) :
    PE X (.Call (.Attribute o n ap) xs [] p) (tE cls X.K W fun ρ => bnd (fo ρ) fun d => bnd (fun η => if recvOk m d η then .ok () η else .bad) fun _ => bnd (g ρ) (mtD m d)) := by
  subst hn
  have nul : ∀ (m : Mt) (id : String) (T : String) (hT : m.ty = T) (hid : m.id = id) (pa : PlainAttrs T) (slot : Slot T m.name id) (hty : typeOf (.builtin id) = pure (.type "method_descriptor")), xs = [] →
      PE X (.Call (.Attribute o m.name ap) xs [] p) (tE cls X.K W fun ρ => bnd (fo ρ) fun d => bnd (fun η => if recvOk m d η then .ok () η else .bad) fun _ => bnd (g ρ) (mtD m d)) := by
    rintro m id T rfl rfl pa slot hty rfl
    refine PE.imp (pe_bm0 pa slot hty (mt_D (cls := cls) m) ho (noSuper_ok hsu) hl) fun σ H Q h => ?_
    obtain ⟨G, ι, η, ρ, S, sl, h⟩ := mt_imp h
    refine ⟨G, ι, η, ρ, S, sl, h.imp (fun d G1 ι1 η1 H1 st1 S1 h1 v r => ?_) fun _ _ _ z => z⟩
    obtain ⟨h2, G2, ι2, η2, ρ2, S2, sl2, h3⟩ := h1 v r
    rw [hg0 rfl] at h3
    exact ⟨h2, h3 G2 ι2 H1 (Stp.refl _ _ _) S2 [] .nil⟩
  have one : ∀ (m : Mt) (id : String) (T : String) (hT : m.ty = T) (hid : m.id = id) (pa : PlainAttrs T) (slot : Slot T m.name id) (hty : typeOf (.builtin id) = pure (.type "method_descriptor")), xs.length = 1 →
      PE X (.Call (.Attribute o m.name ap) xs [] p) (tE cls X.K W fun ρ => bnd (fo ρ) fun d => bnd (fun η => if recvOk m d η then .ok () η else .bad) fun _ => bnd (g ρ) (mtD m d)) := by
    rintro m id T rfl rfl pa slot hty h1
    match xs, h1, ha, hs with
    | [e], _, ha, hs =>
      have n1 : noStar e = true := by simpa using hs
      exact PE.imp (pe_bm pa slot hty (mt_D (cls := cls) m) ho ha (noSuper_ok hsu) (by rw [noStar_ok n1] <;> rfl) hl (noStar_ok n1) rfl) fun σ H Q h => mt_imp h
  cases m
  case append => exact one .append _ _ rfl rfl PySem.F.plainAttrs_list PySem.F.slot_list_append PySem.F.type_list_append (by simpa [Mt.nul] using hk)
  case pop => exact nul .pop _ _ rfl rfl PySem.F.plainAttrs_list PySem.F.slot_list_pop PySem.F.type_list_pop (by simpa [Mt.nul] using hk)
  case popAt => exact one .popAt _ _ rfl rfl PySem.F.plainAttrs_list PySem.F.slot_list_pop PySem.F.type_list_pop (by simpa [Mt.nul] using hk)
  case clear => exact nul .clear _ _ rfl rfl PySem.F.plainAttrs_list PySem.F.slot_list_clear PySem.F.type_list_clear (by simpa [Mt.nul] using hk)
  case join => exact one .join _ _ rfl rfl PySem.F.plainAttrs_str PySem.F.slot_str_join PySem.F.type_str_join (by simpa [Mt.nul] using hk)
  case split => exact one .split _ _ rfl rfl PySem.F.plainAttrs_str PySem.F.slot_str_split PySem.F.type_str_split (by simpa [Mt.nul] using hk)
/-- a cell that is seen no more as one -/
theorem se_frz {e : Expr} {f : Env → M D} (he : PE X e (tE cls X.K W f)) : PE X e (tE cls X.K W fun ρ => bnd (f ρ) frzD) := by
  refine PE.imp he ?_
  rintro σ H Q ⟨G, ι, η, ρ, S, sl, h⟩
  refine ⟨G, ι, η, ρ, S, sl, (Post.bind h).imp (fun d G1 ι1 η1 H1 st1 S1 h1 v r => ?_) fun _ _ _ z => z⟩
  cases r with
  | @ref n a q =>
    simp only [frzD] at h1
    cases e : η1[n]? with
    | none => rw [e] at h1; exact h1.elim
    | some c =>
      cases c with
      | dead => rw [e] at h1; exact h1.elim
      | tab p q => rw [e] at h1; exact h1.elim
      | lst xs =>
        rw [e] at h1
        obtain ⟨vs, g1, g2⟩ := S1.cells n a _ q e
        obtain ⟨st, S2⟩ := S1.freeze q e (by intro z; cases z) g1
        exact h1 _ ι1 H1 st S2 _ (.fl upd_same (g2.mono st.x))
  | non => exact PV.now h1 S1 .non
  | bl b => exact PV.now h1 S1 (.bl b)
  | int b => exact PV.now h1 S1 (.int b)
  | str b => exact PV.now h1 S1 (.str b)
  | tup q t => exact PV.now h1 S1 (.tup q t)
  | fl q t => exact PV.now h1 S1 (.fl q t)
  | scr q t => exact PV.now h1 S1 (.scr q t)
end
end Ms
end
section
set_option Elab.async false
set_option linter.all false
set_option maxRecDepth 100000
set_option maxHeartbeats 4000000
/-! Targets; comprehensions. -/
namespace Ms
open PySem L2

def gNames : List Nat → TGs
  | [] => gNil
  | i :: is => gCons (gName i) (gNames is)
def gT (K : PySem.W.Frag) : Tn → TG
  | .name i => gName i
  | .tup is => gTup K is.length (gNames is)
def tnSlots : Tn → List Nat
  | .name i => [i]
  | .tup is => is

section
variable {X : Cx} {N : List Str} {sc sc2 : Scope}
theorem chkN_ok {i : Nat} {e : Expr} (h : chkN N sc i e = true) : ∃ x p, e = .Name x p ∧ N[i]? = some x ∧ (sc.names.lookup x = some .local ∨ sc.names.lookup x = some .cell) := by
  unfold chkN at h
  split at h
  · rename_i x p
    simp only [Bool.and_eq_true, decide_eq_true_eq] at h
    refine ⟨x, p, rfl, h.1, ?_⟩
    have h2 := h.2
    split at h2
    · exact .inl (by assumption)
    · exact .inr (by assumption)
    · cases h2
  · cases h
theorem pg_N {i : Nat} {e : Expr} (hN : X.N = N) (nd : N.Nodup) (hs : X.env.scope = sc) (h1 : chkN N sc i e = true) (h2 : chkN N sc2 i e = true)
    (st : ∀ x, sc2.names.lookup x = some .local ∨ sc2.names.lookup x = some .cell → X.fn x = true ∨ X.env.scope.names.lookup x = some .local) : PG X e (gName i) := by
  obtain ⟨x, p, rfl, a, b⟩ := chkN_ok h1
  obtain ⟨x', p', e', a', b'⟩ := chkN_ok h2
  cases e'
  exact pg_name (by rw [hN]; exact nd) (by rw [hN]; exact a) (by rw [hs]; exact b) (st x b')
theorem pgs_N (hN : X.N = N) (nd : N.Nodup) (hs : X.env.scope = sc) (st : ∀ x, sc2.names.lookup x = some .local ∨ sc2.names.lookup x = some .cell → X.fn x = true ∨ X.env.scope.names.lookup x = some .local) :
    ∀ {is : List Nat} {es : List Expr}, chkNs N sc is es = true → chkNs N sc2 is es = true → PGs X es (gNames is) ∧ (assignEach es X.env).length = is.length ∧ (assignEach es X.env).findIdx? (·.1) = none
  | [], [], _, _ => ⟨pgs_nil, rfl, rfl⟩
  | i :: is, e :: es, h1, h2 => by
    simp only [chkNs, Bool.and_eq_true] at h1 h2
    obtain ⟨r1, r2, r3⟩ := pgs_N hN nd hs st h1.2 h2.2
    obtain ⟨x, p, rfl, _⟩ := chkN_ok h1.1
    refine ⟨pgs_cons (pg_N hN nd hs h1.1 h2.1 st) r1 rfl, congrArg (· + 1) r2, ?_⟩
    show ((false, assign (.Name x p) X.env) :: assignEach es X.env).findIdx? (·.1) = none
    rw [List.findIdx?_cons]
    simp [r3]
  | [], _ :: _, h1, _ => by simp [chkNs] at h1
  | _ :: _, [], h1, _ => by simp [chkNs] at h1
theorem pg_T {tg : Tn} {e : Expr} (hN : X.N = N) (nd : N.Nodup) (hs : X.env.scope = sc) (hc : X.calm = true) (h1 : chkTn N sc tg e = true) (h2 : chkTn N sc2 tg e = true)
    (st : ∀ x, sc2.names.lookup x = some .local ∨ sc2.names.lookup x = some .cell → X.fn x = true ∨ X.env.scope.names.lookup x = some .local) : PG X e (gT X.K tg) := by
  cases tg with
  | name i => exact pg_N hN nd hs h1 h2 st
  | tup is =>
    cases e <;> first | (simp [chkTn] at h1; done) | skip
    rename_i es kk p
    obtain ⟨r1, r2, r3⟩ := pgs_N hN nd hs st (is := is) (es := es) (by simpa [chkTn] using h1) (by simpa [chkTn] using h2)
    exact pg_tup hc r1 r2 r3
end
section
variable {K : PySem.W.Frag} {G H : Hp} {ι : List Addr} {η : List Cell}
theorem wipe_set {σ : L2.St} {i : Nat} {o : Option V} : ∀ {vs : List Nat}, i ∈ vs → wipe (σ.set i o) vs = wipe σ vs
  | [], h => by simp at h
  | v :: vs, h => by
    show (wipe (σ.set i o) vs).set v none = (wipe σ vs).set v none
    by_cases hv : i ∈ vs
    · rw [wipe_set hv]
    · have e : i = v := by
        rcases List.mem_cons.mp h with h | h
        · exact h
        · exact absurd h hv
      subst e
      have comm : ∀ (vs : List Nat) (τ : L2.St), i ∉ vs → wipe (τ.set i o) vs = (wipe τ vs).set i o := by
        intro vs
        induction vs with
        | nil => intro τ _; rfl
        | cons w ws ih =>
          intro τ hw
          show (wipe (τ.set i o) ws).set w none = ((wipe τ ws).set w none).set i o
          rw [ih τ fun z => hw (List.mem_cons_of_mem _ z), List.set_comm _ _ (fun z => hw (by rw [z]; exact List.mem_cons_self))]
      rw [comm vs σ hv, List.set_set]
theorem wipe_wipe (σ : L2.St) : ∀ (us vs : List Nat), (∀ u ∈ us, u ∈ vs) → wipe (wipe σ us) vs = wipe σ vs
  | [], vs, _ => rfl
  | u :: us, vs, h => by
    show wipe ((wipe σ us).set u none) vs = wipe σ vs
    rw [wipe_set (h u List.mem_cons_self)]
    exact wipe_wipe σ us vs fun w hw => h w (List.mem_cons_of_mem _ hw)
theorem Slots.wipe {σ : L2.St} {ρ : Env} (h : Slots K G ι σ ρ) : ∀ vs : List Nat, Slots K G ι (wipe σ vs) (wipeD ρ vs)
  | [] => h
  | v :: vs => by
    have ih := Slots.wipe h vs
    show Slots K G ι ((L2.wipe σ vs).set v none) ((wipeD ρ vs).set v none)
    refine ⟨by simp [ih.len], fun j e q => ?_⟩
    by_cases hj : v = j
    · subst hj
      by_cases hi : v < (wipeD ρ vs).length
      · rw [List.getElem?_set_self hi] at q
        cases q
      · rw [List.getElem?_eq_none (by simpa using hi)] at q
        cases q
    · rw [List.getElem?_set_ne hj] at q ⊢
      exact ih.at_ j e q
theorem gNames_ok : ∀ {is : List Nat} {ds : List D} {vs : List V} {σ : L2.St} {ρ ρ' : Env} {Q : L2.St → Hp → Prop}, setAll is ds ρ = some ρ' → Slots K G ι σ ρ → Reps K G ι vs ds →
    (∀ σ', Slots K G ι σ' ρ' → (∀ ws : List Nat, (∀ i ∈ is, i ∈ ws) → wipe σ' ws = wipe σ ws) → Q σ' H) → vs.length = is.length ∧ gNames is vs σ H Q
  | [], [], vs, σ, ρ, ρ', Q, e, s, r, h => by
    cases r
    cases e
    exact ⟨rfl, rfl, h σ s fun _ _ => rfl⟩
  | i :: is, d :: ds, vs, σ, ρ, ρ', Q, e, s, r, h => by
    cases r with
    | cons r t =>
    rename_i v vs
    obtain ⟨l, g⟩ := gNames_ok (is := is) (ds := ds) (ρ := ρ.set i (some d)) (σ := σ.set i (some v)) (Q := Q) e (s.set i r) t fun σ' s' w => h σ' s' fun ws hw => by
      rw [w ws fun j hj => hw j (List.mem_cons_of_mem _ hj), wipe_set (hw i List.mem_cons_self)]
    exact ⟨congrArg (· + 1) l, v, vs, rfl, g⟩
  | [], _ :: _, _, _, _, _, _, e, _, _, _ => by cases e
  | _ :: _, [], _, _, _, _, _, e, _, _, _ => by cases e
theorem gT_ok {tg : Tn} {d : D} {v : V} {σ : L2.St} {ρ ρ' : Env} {Q : L2.St → Hp → Prop} (e : bindT tg d ρ = some ρ') (S : RS K G H ι η) (s : Slots K G ι σ ρ) (r : Rep K G ι v d)
    (h : ∀ σ', Slots K G ι σ' ρ' → (∀ ws : List Nat, (∀ i ∈ tnSlots tg, i ∈ ws) → wipe σ' ws = wipe σ ws) → Q σ' H) : gT K tg v σ H Q := by
  cases tg with
  | name i =>
    cases e
    exact h _ (s.set i r) fun ws hw => wipe_set (hw i List.mem_cons_self)
  | tup is =>
    cases r with
    | @tup a vs ds q t =>
      obtain ⟨l, g⟩ := gNames_ok (H := H) (Q := Q) (show setAll is ds ρ = some ρ' from e) s t h
      exact ⟨a, vs, rfl, SqT.of (S.sub _ _ q), l, g⟩
    | _ => cases e

/-! a heap but for one address -/
def less (H : Hp) (p : Addr) : Hp := fun b => if b = p then none else H b
theorem less_ne {H : Hp} {p b : Addr} (h : b ≠ p) : less H p b = H b := if_neg h
theorem less_same {H : Hp} {p : Addr} : less H p p = none := if_pos rfl
theorem less_upd {H : Hp} {p : Addr} {o : HO} (h : H p = some o) : upd (less H p) p o = H := by
  funext b
  by_cases hb : b = p
  · rw [hb, upd_same, h]
  · rw [upd_ne hb, less_ne hb]
theorem less_of {H : Hp} {p b : Addr} {o : HO} (h : less H p b = some o) : b ≠ p ∧ H b = some o := by
  by_cases hb : b = p
  · rw [hb, less_same] at h; cases h
  · rw [less_ne hb] at h; exact ⟨hb, h⟩
theorem less_none {H : Hp} {p b : Addr} (h : H b = none) : less H p b = none := by
  by_cases hb : b = p
  · rw [hb, less_same]
  · rw [less_ne hb, h]
theorem less_over {H : Hp} {p : Addr} {o : HO} : less (upd H p o) p = less H p := by
  funext b
  by_cases hb : b = p
  · rw [hb, less_same, less_same]
  · rw [less_ne hb, less_ne hb, upd_ne hb]
theorem RS.less {p : Addr} (S : RS K G H ι η) (g : G p = none) (n : p ∉ ι) : RS K G (less H p) ι η := by
  have ne : ∀ (m : Nat) (a : Addr), ι[m]? = some a → a ≠ p := fun m a q z => by
    obtain ⟨h1, h2⟩ := List.getElem?_eq_some_iff.mp q
    exact n (by rw [← z, ← h2]; exact List.getElem_mem h1)
  refine ⟨fun b o q => ?_, S.len, S.nd, S.out, fun m a c q1 q2 => (S.cells m a c q1 q2).mono (Ext.refl G ι) (less_ne (ne m a q1)), fun m a q => by rw [less_ne (ne m a q)]; exact S.there m a q, S.ntb⟩
  rw [less_ne (ne_of_none q g)]
  exact S.sub b o q
theorem Fr1.less {p b : Addr} (h : Fr1 H b) : Fr1 (less H p) b := fun o z => h o (less_of z).2
theorem Stp.less {G2 H2 : Hp} {ι2 : List Addr} {p : Addr} {o : HO} (st : Stp G H ι G2 H2 ι2) (e : H p = some o) (g : G p = none) (n : p ∉ ι) (hl : ∃ xs, o = .lst xs := by exact ⟨_, rfl⟩) :
    Stp G (less H p) ι G2 (less H2 p) ι2 ∧ G2 p = none ∧ p ∉ ι2 ∧ H2 p = some o := by
  have nt : ∀ ps, o ≠ .tbl ps := fun ps z => by
    obtain ⟨xs, q⟩ := hl
    rw [q] at z
    cases z
  have nf : ¬ Fr1 H p := fun z => by
    obtain ⟨ps, q⟩ := z o e
    exact nt ps q
  have n2 : p ∉ ι2 := fun m => by
    rcases st.nw p m with z | z
    · exact n z
    · exact nf z
  have g2 : G2 p = none := by
    cases q : G2 p with
    | none => rfl
    | some u =>
      rcases st.gn p u q with z | z | z | ⟨z, z2⟩
      · rw [g] at z; cases z
      · exact absurd z nf
      · exact absurd z n
      · obtain ⟨xs, q2⟩ := hl
        rw [e, q2] at z
        exact absurd (Option.some.inj z).symm (z2 xs)
  refine ⟨⟨st.x, fun b u q nu m => ?_, fun b m => (st.nw b m).imp id Fr1.less, fun b u q => ?_⟩, g2, n2, st.fr p o e nt n⟩
  · obtain ⟨hb, q⟩ := less_of q
    rw [less_ne hb]
    exact st.fr b u q nu m
  · rcases st.gn b u q with z | z | z | ⟨z, z2⟩
    · exact .inl z
    · exact .inr (.inl z.less)
    · exact .inr (.inr (.inl z))
    · by_cases hb : b = p
      · rw [hb]; exact .inr (.inl (Fr1.none less_same))
      · exact .inr (.inr (.inr ⟨by rw [less_ne hb]; exact z, z2⟩))
end

/-- the block's context -/
theorem CtxD.blk {T : Tab} {cls : Nat → Addr} {k : Nat} {X : Cx} {N : List Str} {sc scope : Scope} {W : WX} (C : CtxD T cls k X N sc W) (hk : scope.kind = .function) (s : Shared) (H : Hp) (a : Addr) (cl : List (Str × Addr)) (fp : List Addr) :
    CtxD T cls k (X.blk s H scope (compEnvC scope cl a X.env) fp) N (relS scope sc) (fun _ _ _ _ => False) where
  nEq := C.nEq
  nd := C.nd
  scEq := by
    rw [← C.scEq]
    rfl
  kind := hk
  calm := C.calm
  room := C.room
  tk := takes0
  glo := C.glo
  bl := C.bl
  fn := C.fn
  xs := C.xs
  lam := C.lam
theorem blk_kind {N : List Str} {sc scope : Scope} {own : List (Str × Nat)} (h : blkC N sc scope own = true) : scope.kind = .function := (blkOk_by h).kind
theorem blk_st {X : Cx} {scope : Scope} (s : Shared) (H : Hp) (a : Addr) (cl : List (Str × Addr)) (fp : List Addr) :
    ∀ x, scope.names.lookup x = some .local ∨ scope.names.lookup x = some .cell → (X.blk s H scope (compEnvC scope cl a X.env) fp).fn x = true ∨ (X.blk s H scope (compEnvC scope cl a X.env) fp).env.scope.names.lookup x = some .local := by
  intro x h
  rcases h with h | h
  · exact .inr (lookup_relabel_local h)
  · refine .inl ?_
    show (scope.names.lookup x == some .cell) = true
    rw [h]
    rfl

section
variable {T : Tab} {cls : Nat → Addr} {k : Nat} {X : Cx} {N : List Str} {sc : Scope} {W : WX}
theorem post_noX {α : Type} {K : PySem.W.Frag} {G H : Hp} {ι : List Addr} {m : M α} {η : List Cell} {Q : α → Hp → List Addr → List Cell → Hp → Prop} {W1 W2 : Value → Option Addr → Hp → Prop} (h : Post cls K G H ι (noX m η) Q W1) : Post cls K G H ι (m η) Q W2 := by
  unfold noX at h
  cases q : m η with
  | ok a η' => rw [q] at h; exact h
  | exc c fs η' => rw [q] at h; exact h.elim
  | bad => rw [q] at h; exact h.elim
theorem bnd_assoc {α β γ : Type} (m : M α) (f : α → M β) (g : β → M γ) : bnd (bnd m f) g = bnd m fun a => bnd (f a) g := by
  funext η
  unfold bnd
  cases m η <;> rfl
theorem lcL_cons {g : Gd} {bind : D → Option Env} {cond : Env → M Bool} {elt : Env → M D} {d : D} {r acc : List D} {ρ : Env} (h : bind d = some ρ) :
    lcL g bind cond elt (d :: r) acc = bnd (chkG g) fun _ => bnd (noX (cond ρ)) fun b => if b then bnd (noX (elt ρ)) fun y => if acc.length < LIM then lcL g bind cond elt r (acc ++ [y]) else bad else lcL g bind cond elt r acc := by
  conv => lhs; unfold lcL
  rw [h]
theorem chkG_ok {α : Type} {K : PySem.W.Frag} {G H : Hp} {ι : List Addr} {g : Gd} {k : Unit → M α} {η : List Cell} {Q : α → Hp → List Addr → List Cell → Hp → Prop} {W' : Value → Option Addr → Hp → Prop} (h : Post cls K G H ι (bnd (chkG g) k η) Q W') : gdOk g η ∧ Post cls K G H ι (k () η) Q W' := by
  unfold bnd chkG at h
  by_cases hg : gdB g η = true
  · rw [if_pos hg] at h
    exact ⟨gdB_ok.mp hg, h⟩
  · rw [if_neg hg] at h
    exact h.elim
theorem lcL_gd {K : PySem.W.Frag} {G H : Hp} {ι : List Addr} {g : Gd} {bind : D → Option Env} {cond : Env → M Bool} {elt : Env → M D} {xs acc : List D} {f : List D → M D} {η : List Cell} {Q : VK} {W' : Value → Option Addr → Hp → Prop} (h : PV cls K G H ι (bnd (lcL g bind cond elt xs acc) f η) Q W') : gdOk g η := by
  cases xs with
  | nil =>
    unfold lcL at h
    rw [bnd_assoc] at h
    exact (chkG_ok h).1
  | cons d r =>
    unfold lcL at h
    rw [bnd_assoc] at h
    exact (chkG_ok h).1
theorem lc_imp {m : Bool} {tg : Tn} {ws : List Nat} {fi : Env → M (List D × Gd)} {fc : Env → M Bool} {fe : Env → M D} {σ : L2.St} {H : Hp} {Q : VK} (hw : ∀ i ∈ tnSlots tg, i ∈ ws)
    (h : tE cls X.K W (fun ρ => bnd (fi ρ) fun items => bnd (lcL items.2 (fun d => bindT tg d (wipeD ρ ws)) fc fe items.1 []) (newL m)) σ H Q) :
    tLc (tI cls X.K W fi) (gT X.K tg) (tT cls X.K (fun _ _ _ _ => False) fc) (tE cls X.K (fun _ _ _ _ => False) fe) ws σ H Q := by
  obtain ⟨G, ι, η, ρ, S, sl, h⟩ := h
  refine ⟨G, ι, η, ρ, S, sl, (Post.bind h).imp (fun its G1 ι1 η1 H1 st1 S1 h1 J hJ D hD => ?_) fun _ _ _ z => z⟩
  obtain ⟨items, g⟩ := its
  dsimp only at h1 hJ
  let Wf : Value → Option Addr → Hp → Prop := fun c d H' => W c d σ H'
  let Pv : Nat → Hp → Prop := fun i H2 => ∃ G2 ι2 η2 acc vacc, Ext G1 ι1 G2 ι2 ∧ RS X.K G2 H2 ι2 η2 ∧ H2 D = some (.lst vacc) ∧ G2 D = none ∧ D ∉ ι2 ∧ Reps X.K G2 ι2 vacc acc ∧
    PV cls X.K G2 (less H2 D) ι2 ((bnd (lcL g (fun d => bindT tg d (wipeD ρ ws)) fc fe (items.drop i) acc) (newL m)) η2) Q Wf
  have slW : Slots X.K G1 ι1 (L2.wipe σ ws) (wipeD ρ ws) := (sl.mono st1.x).wipe ws
  have nD : D ∉ ι1 := fun z => by
    obtain ⟨n, hn, e⟩ := List.mem_iff_getElem.mp z
    exact S1.there n D (by rw [← e]; exact List.getElem?_eq_getElem hn) hD
  have gD : G1 D = none := S1.sub.free hD
  refine lc_it hJ Pv ?_ (fun i H2 _ ⟨G2, ι2, η2, _, _, x, S2, _, _, _, _, hp⟩ => ⟨G2, ι2, η2, x, S2, lcL_gd hp⟩) ?_ ?_
  · have e : less (upd H1 D (.lst [])) D = H1 := by
      rw [less_over]
      funext b
      by_cases hb : b = D
      · rw [hb, less_same, hD]
      · rw [less_ne hb]
    refine ⟨G1, ι1, η1, [], [], Ext.refl _ _, ?_, upd_same, gD, nD, .nil, ?_⟩
    · have ne : ∀ (n : Nat) (a : Addr), ι1[n]? = some a → a ≠ D := fun n a q z => S1.there n a q (by rw [z]; exact hD)
      refine ⟨fun b u q => ?_, S1.len, S1.nd, S1.out, fun n a c q1 q2 => (S1.cells n a c q1 q2).mono (Ext.refl _ _) (by rw [upd_ne (ne n a q1)]), fun n a q => by rw [upd_ne (ne n a q)]; exact S1.there n a q, S1.ntb⟩
      rw [upd_ne (ne_of_none q gD)]
      exact S1.sub b u q
    · rw [e, List.drop_zero]
      exact h1
  · intro i x H2 H3 hi ⟨G2, ι2, η2, acc, vacc, x2, S2, hd, g2, n2, ra, hp⟩ hy
    obtain ⟨d, hdi⟩ : ∃ d, items[i]? = some d := ⟨items[i], List.getElem?_eq_getElem hi⟩
    obtain ⟨G3, st3, S3, rx⟩ := hy G2 ι2 η2 d x2 S2 (lcL_gd hp) hdi
    obtain ⟨st3', g3, n3, hd3⟩ := st3.less hd g2 n2
    have edr : items.drop i = d :: items.drop (i + 1) := by
      have e1 := List.drop_eq_getElem_cons hi
      have e2 : items[i] = d := by
        have q := List.getElem?_eq_getElem hi
        rw [hdi] at q
        exact (Option.some.inj q).symm
      rw [e2] at e1
      exact e1
    have hp1 := Post.ext st3' hp
    rw [edr] at hp1
    cases hb : bindT tg d (wipeD ρ ws) with
    | none =>
      unfold lcL at hp1
      rw [bnd_assoc] at hp1
      have hp2 := (chkG_ok hp1).2
      simp only [hb] at hp2
      exact hp2.elim
    | some ρ2 =>
      have hp2 : PV cls X.K G3 (less H3 D) ι2 ((bnd (noX (fc ρ2)) fun b => bnd (if b then bnd (noX (fe ρ2)) fun y => if acc.length < LIM then lcL g (fun d => bindT tg d (wipeD ρ ws)) fc fe (items.drop (i + 1)) (acc ++ [y]) else bad
          else lcL g (fun d => bindT tg d (wipeD ρ ws)) fc fe (items.drop (i + 1)) acc) (newL m)) η2) Q Wf := by
        have e : bnd (lcL g (fun d => bindT tg d (wipeD ρ ws)) fc fe (d :: items.drop (i + 1)) acc) (newL m) η2 = (bnd (chkG g) fun _ => bnd (noX (fc ρ2)) fun b => bnd (if b then bnd (noX (fe ρ2)) fun y => if acc.length < LIM then lcL g (fun d => bindT tg d (wipeD ρ ws)) fc fe (items.drop (i + 1)) (acc ++ [y]) else bad
          else lcL g (fun d => bindT tg d (wipeD ρ ws)) fc fe (items.drop (i + 1)) acc) (newL m)) η2 := by
          rw [lcL_cons (bind := fun d => bindT tg d (wipeD ρ ws)) hb]
          simp only [bnd_assoc]
        rw [e] at hp1
        exact (chkG_ok hp1).2
      have slB : Slots X.K G3 ι2 (L2.wipe σ ws) (wipeD ρ ws) := (slW.mono x2).mono st3.x
      refine gT_ok hb S3 slB rx fun σ2 s2 w2 => ⟨(w2 ws hw).trans (by first | rfl | exact wipe_wipe σ ws ws fun _ h => h), ?_⟩
      -- the test
      have t0 : Post cls X.K G3 (less H3 D) ι2 (fc ρ2 η2) (fun b G4 ι4 η4 H4 => PV cls X.K G4 H4 ι4 ((bnd (if b = true then bnd (noX (fe ρ2)) fun y => if acc.length < LIM then lcL g (fun d => bindT tg d (wipeD ρ ws)) fc fe (items.drop (i + 1)) (acc ++ [y]) else bad
          else lcL g (fun d => bindT tg d (wipeD ρ ws)) fc fe (items.drop (i + 1)) acc) (newL m)) η4) Q Wf) (fun _ _ _ => False) := post_noX (Post.bind hp2)
      refine ⟨G3, ι2, η2, ρ2, S3, s2, ?_⟩
      cases qc : fc ρ2 η2 with
      | bad => rw [qc] at t0; exact t0.elim
      | exc c fs η4 =>
        rw [qc] at t0
        unfold bnd noX at hp2
        rw [qc] at hp2
        exact hp2.elim
      | ok b η4 =>
        rw [qc] at t0
        intro G4 ι4 H4 st4 S4
        obtain ⟨st4', g4, n4, hd4⟩ := st4.less hd3 g3 n3
        have hp3 := t0 G4 ι4 (less H4 D) st4' (S4.less g4 n4)
        have x4 : Ext G1 ι1 G4 ι4 := (x2.trans st3.x).trans st4.x
        have ra4 := (ra.mono st3.x).mono st4.x
        cases b with
        | false =>
          rw [if_neg Bool.false_ne_true] at hp3 ⊢
          exact ⟨G4, ι4, η4, acc, vacc, x4, S4, hd4, g4, n4, ra4, hp3⟩
        | true =>
          rw [if_pos rfl] at hp3 ⊢
          have hp4 : PV cls X.K G4 (less H4 D) ι4 ((bnd (noX (fe ρ2)) fun y => bnd (if acc.length < LIM then lcL g (fun d => bindT tg d (wipeD ρ ws)) fc fe (items.drop (i + 1)) (acc ++ [y]) else bad) (newL m)) η4) Q Wf := by
            have e : bnd (bnd (noX (fe ρ2)) fun y => if acc.length < LIM then lcL g (fun d => bindT tg d (wipeD ρ ws)) fc fe (items.drop (i + 1)) (acc ++ [y]) else bad) (newL m) η4 = (bnd (noX (fe ρ2)) fun y => bnd (if acc.length < LIM then lcL g (fun d => bindT tg d (wipeD ρ ws)) fc fe (items.drop (i + 1)) (acc ++ [y]) else bad) (newL m)) η4 := by
              rw [bnd_assoc]
            rw [← e]
            exact hp3
          have u0 : Post cls X.K G4 (less H4 D) ι4 (fe ρ2 η4) (fun y G5 ι5 η5 H5 => PV cls X.K G5 H5 ι5 ((bnd (if acc.length < LIM then lcL g (fun d => bindT tg d (wipeD ρ ws)) fc fe (items.drop (i + 1)) (acc ++ [y]) else bad) (newL m)) η5) Q Wf) (fun _ _ _ => False) := post_noX (Post.bind hp4)
          refine ⟨G4, ι4, η4, ρ2, S4, s2.mono st4.x, ?_⟩
          cases qe : fe ρ2 η4 with
          | bad => rw [qe] at u0; exact u0.elim
          | exc c fs η5 =>
            unfold bnd noX at hp4
            rw [qe] at hp4
            exact hp4.elim
          | ok y η5 =>
            rw [qe] at u0
            intro G5 ι5 H5 st5 S5 v rv
            obtain ⟨st5', g5, n5, hd5⟩ := st5.less hd4 g4 n4
            have hp5 := u0 G5 ι5 (less H5 D) st5' (S5.less g5 n5)
            dsimp only at hp5
            by_cases hl : acc.length < LIM
            · rw [if_pos hl] at hp5
              have ra5 := ra4.mono st5.x
              refine ⟨vacc, hd5, by rw [ra5.length]; exact Nat.lt_of_lt_of_le hl lim_line, G5, ι5, η5, acc ++ [y], vacc ++ [v], x4.trans st5.x, ?_, upd_same, g5, n5, ra5.append (.cons rv .nil), ?_⟩
              · have ne : ∀ (n : Nat) (a : Addr), ι5[n]? = some a → a ≠ D := fun n a q z => by
                  obtain ⟨h1, h2⟩ := List.getElem?_eq_some_iff.mp q
                  exact n5 (by rw [← z, ← h2]; exact List.getElem_mem h1)
                refine ⟨fun b u q => ?_, S5.len, S5.nd, S5.out, fun n a c q1 q2 => (S5.cells n a c q1 q2).mono (Ext.refl _ _) (by rw [upd_ne (ne n a q1)]), fun n a q => by rw [upd_ne (ne n a q)]; exact S5.there n a q, S5.ntb⟩
                rw [upd_ne (ne_of_none q g5)]
                exact S5.sub b u q
              · rw [less_over]
                exact hp5
            · rw [if_neg hl] at hp5
              exact hp5.elim
  · intro H2 ⟨G2, ι2, η2, acc, vacc, x2, S2, hd, g2, n2, ra, hp⟩
    rw [List.drop_length] at hp
    have hp' : PV cls X.K G2 (less H2 D) ι2 (newL m acc η2) Q Wf := by
      unfold lcL at hp
      rw [bnd_assoc] at hp
      exact (chkG_ok hp).2
    have q := (newL_ok (S2.less g2 n2) ra hp').2 D less_same
    rw [less_upd hd] at q
    exact q
end
end Ms
end
section
set_option Elab.async false
set_option linter.all false
set_option maxRecDepth 100000
set_option maxHeartbeats 4000000
/-! What a text that is checked is like. -/
namespace Ms
open PySem L2
section

variable {T : Tab} {N : List Str} {sc : Scope}
theorem inv_cmp {op : Cop} {a b : E} {py : Expr} (h : chkE T N sc (.cmp op a b) py = true) : ∃ l r p, py = .Compare l [op.op] [r] p ∧ chkE T N sc a l = true ∧ chkE T N sc b r = true ∧ noSet r = true := by
  cases py <;> first | (simp [chkE] at h; done) | skip
  rename_i l ops cs p
  rcases ops with _ | ⟨o, _ | ⟨o2, os⟩⟩ <;> rcases cs with _ | ⟨r, _ | ⟨r2, rs⟩⟩ <;> first | (simp [chkE] at h; done) | skip
  simp only [chkE, Bool.and_eq_true, decide_eq_true_eq] at h
  obtain ⟨⟨⟨rfl, h1⟩, h2⟩, h3⟩ := h
  exact ⟨l, r, p, rfl, h1, h2, h3⟩
theorem inv_chain {o1 o2 : Cop} {a b c : E} {py : Expr} (h : chkE T N sc (.chain o1 o2 a b c) py = true) : ∃ l r z p, py = .Compare l [o1.op, o2.op] [r, z] p ∧ chkE T N sc a l = true ∧ chkE T N sc b r = true ∧ chkE T N sc c z = true ∧ noSet z = true := by
  cases py <;> first | (simp [chkE] at h; done) | skip
  rename_i l ops cs p
  rcases ops with _ | ⟨o, _ | ⟨o2, _ | ⟨o3, os⟩⟩⟩ <;> rcases cs with _ | ⟨r, _ | ⟨r2, _ | ⟨r3, rs⟩⟩⟩ <;> first | (simp [chkE] at h; done) | skip
  simp only [chkE, Bool.and_eq_true, decide_eq_true_eq] at h
  obtain ⟨⟨⟨⟨⟨rfl, rfl⟩, h1⟩, h2⟩, h3⟩, h4⟩ := h
  exact ⟨l, r, r2, p, rfl, h1, h2, h3, h4⟩
theorem invT_cmp {op : Cop} {a b : E} {py : Expr} (h : chkT T N sc (.cmp op a b) py = true) : ∃ l r p, py = .Compare l [op.op] [r] p ∧ chkE T N sc a l = true ∧ chkE T N sc b r = true ∧ noSet r = true := by
  cases py <;> first | (simp [chkT] at h; done) | skip
  rename_i l ops cs p
  rcases ops with _ | ⟨o, _ | ⟨o2, os⟩⟩ <;> rcases cs with _ | ⟨r, _ | ⟨r2, rs⟩⟩ <;> first | (simp [chkT] at h; done) | skip
  simp only [chkT, Bool.and_eq_true, decide_eq_true_eq] at h
  obtain ⟨⟨⟨rfl, h1⟩, h2⟩, h3⟩ := h
  exact ⟨l, r, p, rfl, h1, h2, h3⟩
theorem invT_chain {o1 o2 : Cop} {a b c : E} {py : Expr} (h : chkT T N sc (.chain o1 o2 a b c) py = true) : ∃ l r z p, py = .Compare l [o1.op, o2.op] [r, z] p ∧ chkE T N sc a l = true ∧ chkE T N sc b r = true ∧ chkE T N sc c z = true ∧ noSet z = true := by
  cases py <;> first | (simp [chkT] at h; done) | skip
  rename_i l ops cs p
  rcases ops with _ | ⟨o, _ | ⟨o2, _ | ⟨o3, os⟩⟩⟩ <;> rcases cs with _ | ⟨r, _ | ⟨r2, _ | ⟨r3, rs⟩⟩⟩ <;> first | (simp [chkT] at h; done) | skip
  simp only [chkT, Bool.and_eq_true, decide_eq_true_eq] at h
  obtain ⟨⟨⟨⟨⟨rfl, rfl⟩, h1⟩, h2⟩, h3⟩, h4⟩ := h
  exact ⟨l, r, r2, p, rfl, h1, h2, h3, h4⟩
theorem inv_and {es : Es} {py : Expr} (h : chkE T N sc (.and_ es) py = true) : ∃ vs p, py = .BoolOp .And vs p ∧ chkB T N sc es vs = true := by
  cases py <;> first | (simp [chkE] at h; done) | skip
  rename_i o vs p
  cases o <;> first | (simp [chkE] at h; done) | skip
  exact ⟨vs, p, rfl, by simpa [chkE] using h⟩
theorem inv_or {es : Es} {py : Expr} (h : chkE T N sc (.or_ es) py = true) : ∃ vs p, py = .BoolOp .Or vs p ∧ chkB T N sc es vs = true := by
  cases py <;> first | (simp [chkE] at h; done) | skip
  rename_i o vs p
  cases o <;> first | (simp [chkE] at h; done) | skip
  exact ⟨vs, p, rfl, by simpa [chkE] using h⟩
theorem invT_and {es : Es} {py : Expr} (h : chkT T N sc (.and_ es) py = true) : ∃ vs p, py = .BoolOp .And vs p ∧ chkTB T N sc es vs = true := by
  cases py <;> first | (simp [chkT] at h; done) | skip
  rename_i o vs p
  cases o <;> first | (simp [chkT] at h; done) | skip
  exact ⟨vs, p, rfl, by simpa [chkT] using h⟩
theorem invT_or {es : Es} {py : Expr} (h : chkT T N sc (.or_ es) py = true) : ∃ vs p, py = .BoolOp .Or vs p ∧ chkTB T N sc es vs = true := by
  cases py <;> first | (simp [chkT] at h; done) | skip
  rename_i o vs p
  cases o <;> first | (simp [chkT] at h; done) | skip
  exact ⟨vs, p, rfl, by simpa [chkT] using h⟩
theorem inv_not {a : E} {py : Expr} (h : chkE T N sc (.not_ a) py = true) : ∃ x p, py = .UnaryOp .Not x p ∧ chkE T N sc a x = true := by
  cases py <;> first | (simp [chkE] at h; done) | skip
  rename_i o x p
  cases o <;> first | (simp [chkE] at h; done) | skip
  exact ⟨x, p, rfl, by simpa [chkE] using h⟩
theorem invT_not {a : E} {py : Expr} (h : chkT T N sc (.not_ a) py = true) : ∃ x p, py = .UnaryOp .Not x p ∧ chkT T N sc a x = true := by
  cases py <;> first | (simp [chkT] at h; done) | skip
  rename_i o x p
  cases o <;> first | (simp [chkT] at h; done) | skip
  exact ⟨x, p, rfl, by simpa [chkT] using h⟩
theorem inv_neg {a : E} {py : Expr} (h : chkE T N sc (.neg a) py = true) : ∃ x p, py = .UnaryOp .USub x p ∧ chkE T N sc a x = true := by
  cases py <;> first | (simp [chkE] at h; done) | skip
  rename_i o x p
  cases o <;> first | (simp [chkE] at h; done) | skip
  exact ⟨x, p, rfl, by simpa [chkE] using h⟩
theorem inv_slice {a : E} {lo hi : Eo} {py : Expr} (h : chkE T N sc (.slice a lo hi) py = true) : ∃ v l u p1 p2, py = .Subscript v (.Slice l u none p1) p2 ∧ chkE T N sc a v = true ∧ chkO T N sc lo l = true ∧ chkO T N sc hi u = true := by
  cases py <;> first | (simp [chkE] at h; done) | skip
  rename_i v s p
  cases s <;> first | (simp [chkE] at h; done) | skip
  rename_i l u st p1
  cases st <;> first | (simp [chkE] at h; done) | skip
  simp only [chkE, Bool.and_eq_true] at h
  exact ⟨v, l, u, p1, p, rfl, h.1.1, h.1.2, h.2⟩
theorem inv_rev {a : E} {py : Expr} (h : chkE T N sc (.rev a) py = true) : ∃ v j p1 p2 p3 p4, py = .Subscript v (.Slice none none (some (.UnaryOp .USub (.Constant (.int 1) j p1) p2)) p3) p4 ∧ chkE T N sc a v = true := by
  cases py <;> first | (simp [chkE] at h; done) | skip
  rename_i v s p
  cases s <;> first | (simp [chkE] at h; done) | skip
  rename_i l u st p1
  cases l <;> cases u <;> cases st <;> first | (simp [chkE] at h; done) | skip
  rename_i st
  cases st <;> first | (simp [chkE] at h; done) | skip
  rename_i o x p2
  cases o <;> first | (simp [chkE] at h; done) | skip
  cases x <;> first | (simp [chkE] at h; done) | skip
  rename_i c j p3
  cases c <;> first | (simp [chkE] at h; done) | skip
  rename_i k
  by_cases hk : k = 1
  · subst hk
    simp only [chkE] at h
    exact ⟨_, _, _, _, _, _, rfl, h⟩
  · exfalso
    unfold chkE at h
    split at h <;> simp_all
theorem inv_call {f : Nat} {es : Es} {py : Expr} (h : chkE T N sc (.call f es) py = true) : ∃ x xs fd p1 p2, py = .Call (.Name x p1) xs [] p2 ∧ T.fns[f]? = some fd ∧ fd.name = x ∧ glB sc x = true ∧ nameB x = true ∧ chkEs T N sc es xs = true ∧ xs.isEmpty = false := by
  cases py <;> first | (simp [chkE] at h; done) | skip
  rename_i fn xs ks p
  cases fn <;> first | (simp [chkE] at h; done) | skip
  cases ks <;> first | (simp [chkE] at h; done) | skip
  rename_i x p1
  simp only [chkE] at h
  cases q : T.fns[f]? with
  | none => rw [q] at h; cases h
  | some fd =>
    rw [q] at h
    simp only [Bool.and_eq_true, decide_eq_true_eq, Bool.not_eq_true'] at h
    exact ⟨x, xs, fd, p1, p, rfl, rfl, h.1.1.1.1, h.1.1.1.2, h.1.1.2, h.1.2, h.2⟩
theorem invT_call {f : Nat} {es : Es} {py : Expr} (h : chkT T N sc (.call f es) py = true) : ∃ x xs fd p1 p2, py = .Call (.Name x p1) xs [] p2 ∧ T.fns[f]? = some fd ∧ fd.name = x ∧ glB sc x = true ∧ nameB x = true ∧ chkEs T N sc es xs = true ∧ xs.isEmpty = false := by
  cases py <;> first | (simp [chkT] at h; done) | skip
  rename_i fn xs ks p
  cases fn <;> first | (simp [chkT] at h; done) | skip
  cases ks <;> first | (simp [chkT] at h; done) | skip
  rename_i x p1
  simp only [chkT] at h
  cases q : T.fns[f]? with
  | none => rw [q] at h; cases h
  | some fd =>
    rw [q] at h
    simp only [Bool.and_eq_true, decide_eq_true_eq, Bool.not_eq_true'] at h
    exact ⟨x, xs, fd, p1, p, rfl, rfl, h.1.1.1.1, h.1.1.1.2, h.1.1.2, h.1.2, h.2⟩
theorem inv_bi {b : Bi} {es : Es} {py : Expr} (h : chkE T N sc (.bi b es) py = true) : ∃ x xs p1 p2, py = .Call (.Name x p1) xs [] p2 ∧ b.name = x ∧ glB sc x = true ∧ chkEs T N sc es xs = true ∧ xs.isEmpty = false := by
  cases py <;> first | (simp [chkE] at h; done) | skip
  rename_i fn xs ks p
  cases fn <;> first | (simp [chkE] at h; done) | skip
  cases ks <;> first | (simp [chkE] at h; done) | skip
  rename_i x p1
  simp only [chkE, Bool.and_eq_true, decide_eq_true_eq, Bool.not_eq_true'] at h
  exact ⟨x, xs, p1, p, rfl, h.1.1.1, h.1.1.2, h.1.2, h.2⟩
theorem invT_bi {b : Bi} {es : Es} {py : Expr} (h : chkT T N sc (.bi b es) py = true) : ∃ x xs p1 p2, py = .Call (.Name x p1) xs [] p2 ∧ b.name = x ∧ glB sc x = true ∧ chkEs T N sc es xs = true ∧ xs.isEmpty = false := by
  cases py <;> first | (simp [chkT] at h; done) | skip
  rename_i fn xs ks p
  cases fn <;> first | (simp [chkT] at h; done) | skip
  cases ks <;> first | (simp [chkT] at h; done) | skip
  rename_i x p1
  simp only [chkT, Bool.and_eq_true, decide_eq_true_eq, Bool.not_eq_true'] at h
  exact ⟨x, xs, p1, p, rfl, h.1.1.1, h.1.1.2, h.1.2, h.2⟩
theorem inv_mt {m : Mt} {a : E} {es : Es} {py : Expr} (h : chkE T N sc (.mt m a es) py = true) : ∃ o n ap xs p, py = .Call (.Attribute o n ap) xs [] p ∧ m.name = n ∧ chkE T N sc a o = true ∧ noSuper o = true ∧ chkEs T N sc es xs = true ∧ (ap.endLine == p.line) = true ∧ (if m.nul then xs.isEmpty else (xs.length == 1)) = true := by
  cases py <;> first | (simp [chkE] at h; done) | skip
  rename_i fn xs ks p
  cases fn <;> first | (simp [chkE] at h; done) | skip
  cases ks <;> first | (simp [chkE] at h; done) | skip
  rename_i o n ap
  simp only [chkE, Bool.and_eq_true, decide_eq_true_eq] at h
  exact ⟨o, n, ap, xs, p, rfl, h.1.1.1.1.1, h.1.1.1.1.2, h.1.1.1.2, h.1.1.2, h.1.2, h.2⟩
theorem inv_isi {a : E} {ty : String} {py : Expr} (h : chkE T N sc (.isi a ty) py = true) : ∃ v p1 p2 p3, py = .Call (.Name "isinstance" p1) [v, .Name (PySem.Str.ofString ty) p2] [] p3 ∧ glB sc "isinstance" = true ∧ chkE T N sc a v = true ∧ noStar v = true ∧ glB sc (PySem.Str.ofString ty) = true ∧ ty ∈ isTys := by
  cases py <;> first | (simp [chkE] at h; done) | skip
  rename_i fn xs ks p
  cases fn <;> first | (simp [chkE] at h; done) | skip
  cases ks <;> first | (simp [chkE] at h; done) | skip
  rcases xs with _ | ⟨v, _ | ⟨y, _ | ⟨z, zs⟩⟩⟩ <;> first | (simp [chkE] at h; done) | skip
  cases y <;> first | (simp [chkE] at h; done) | skip
  rename_i x p1 y p2
  simp only [chkE, Bool.and_eq_true, decide_eq_true_eq] at h
  obtain ⟨⟨⟨⟨⟨⟨rfl, h1⟩, h2⟩, h3⟩, rfl⟩, h4⟩, h5⟩ := h
  exact ⟨v, p1, p2, p, rfl, h1, h2, h3, h4, h5⟩
theorem invT_isi {a : E} {ty : String} {py : Expr} (h : chkT T N sc (.isi a ty) py = true) : ∃ v p1 p2 p3, py = .Call (.Name "isinstance" p1) [v, .Name (PySem.Str.ofString ty) p2] [] p3 ∧ glB sc "isinstance" = true ∧ chkE T N sc a v = true ∧ noStar v = true ∧ glB sc (PySem.Str.ofString ty) = true ∧ ty ∈ isTys := by
  cases py <;> first | (simp [chkT] at h; done) | skip
  rename_i fn xs ks p
  cases fn <;> first | (simp [chkT] at h; done) | skip
  cases ks <;> first | (simp [chkT] at h; done) | skip
  rcases xs with _ | ⟨v, _ | ⟨y, _ | ⟨z, zs⟩⟩⟩ <;> first | (simp [chkT] at h; done) | skip
  cases y <;> first | (simp [chkT] at h; done) | skip
  rename_i x p1 y p2
  simp only [chkT, Bool.and_eq_true, decide_eq_true_eq] at h
  obtain ⟨⟨⟨⟨⟨⟨rfl, h1⟩, h2⟩, h3⟩, rfl⟩, h4⟩, h5⟩ := h
  exact ⟨v, p1, p2, p, rfl, h1, h2, h3, h4, h5⟩
theorem inv_lc {m : Bool} {own : List (Str × Nat)} {tg : Tn} {it : It} {cond : Eo} {elt : E} {py : Expr} (h : chkE T N sc (.lc m own tg it cond elt) py = true) : ∃ e t i ifs scope p, py = .ListComp e [⟨t, i, ifs, 0⟩] scope p ∧ blkC N sc scope own = true ∧ chkTn N (relS scope sc) tg t = true ∧ chkTn N scope tg t = true ∧
    (match (generalizing := false) tg with
      | .name j => decide (j ∈ own.map (·.2))
      | .tup js => js.all fun j => decide (j ∈ own.map (·.2))) = true ∧ chkIt T N sc it t i = true ∧ chkC T N (relS scope sc) cond ifs = true ∧ chkE T N (relS scope sc) elt e = true ∧ noSet i = true := by
  cases py <;> first | (simp [chkE] at h; done) | skip
  rename_i e gs scope p
  rcases gs with _ | ⟨⟨t, i, ifs, a⟩, _ | ⟨g2, gs⟩⟩ <;> first | (simp [chkE] at h; done) | skip
  by_cases ha : a = 0
  · subst ha
    unfold chkE at h
    simp only [Bool.and_eq_true] at h
    obtain ⟨⟨⟨⟨⟨⟨⟨h1, h2⟩, h3⟩, h4⟩, h5⟩, h6⟩, h7⟩, h8⟩ := h
    exact ⟨_, _, _, _, _, _, rfl, h1, h2, h3, h4, h5, h6, h7, h8⟩
  · exfalso
    unfold chkE at h
    split at h <;> simp_all
theorem inv_b1 {e : E} {vs : List Expr} (h : chkB T N sc (.cons e .nil) vs = true) : ∃ x, vs = [x] ∧ chkE T N sc e x = true := by
  rcases vs with _ | ⟨x, _ | ⟨y, ys⟩⟩
  · simp [chkB] at h
  · exact ⟨x, rfl, by simpa [chkB] using h⟩
  · simp [chkB] at h
theorem inv_b2 {e e2 : E} {r : Es} {vs : List Expr} (h : chkB T N sc (.cons e (.cons e2 r)) vs = true) : ∃ x y ys, vs = x :: y :: ys ∧ chkE T N sc e x = true ∧ chkB T N sc (.cons e2 r) (y :: ys) = true := by
  rcases vs with _ | ⟨x, _ | ⟨y, ys⟩⟩
  · simp [chkB] at h
  · simp [chkB] at h
  · rw [chkB] at h
    · simp only [Bool.and_eq_true] at h
      exact ⟨x, y, ys, rfl, h.1, h.2⟩
    all_goals (intros; simp_all)
theorem inv_tb1 {e : E} {vs : List Expr} (h : chkTB T N sc (.cons e .nil) vs = true) : ∃ x, vs = [x] ∧ chkT T N sc e x = true := by
  rcases vs with _ | ⟨x, _ | ⟨y, ys⟩⟩
  · simp [chkTB] at h
  · exact ⟨x, rfl, by simpa [chkTB] using h⟩
  · simp [chkTB] at h
theorem inv_tb2 {e e2 : E} {r : Es} {vs : List Expr} (h : chkTB T N sc (.cons e (.cons e2 r)) vs = true) : ∃ x y ys, vs = x :: y :: ys ∧ chkT T N sc e x = true ∧ chkTB T N sc (.cons e2 r) (y :: ys) = true := by
  rcases vs with _ | ⟨x, _ | ⟨y, ys⟩⟩
  · simp [chkTB] at h
  · simp [chkTB] at h
  · rw [chkTB] at h
    · simp only [Bool.and_eq_true] at h
      exact ⟨x, y, ys, rfl, h.1, h.2⟩
    all_goals (intros; simp_all)
theorem inv_r1 {a : E} {t i : Expr} (h : chkIt T N sc (.rng1 a) t i = true) : ∃ u p1 p2, i = .Call (.Name "range" p1) [u] [] p2 ∧ glB sc "range" = true ∧ chkE T N sc a u = true ∧ noStar u = true := by
  cases i <;> first | (simp [chkIt] at h; done) | skip
  rename_i fn xs ks p
  cases fn <;> first | (simp [chkIt] at h; done) | skip
  rcases xs with _ | ⟨v, _ | ⟨y, ys⟩⟩ <;> rcases ks with _ | ⟨kw, kws⟩ <;> first | (simp [chkIt] at h; done) | skip
  rename_i x p1
  simp only [chkIt, Bool.and_eq_true, decide_eq_true_eq] at h
  obtain ⟨⟨⟨rfl, h1⟩, h2⟩, h3⟩ := h
  exact ⟨v, p1, p, rfl, h1, h2, h3⟩
theorem inv_r2 {a b : E} {t i : Expr} (h : chkIt T N sc (.rng2 a b) t i = true) : ∃ u v p1 p2, i = .Call (.Name "range" p1) [u, v] [] p2 ∧ glB sc "range" = true ∧ chkE T N sc a u = true ∧ noStar u = true ∧ chkE T N sc b v = true ∧ noStar v = true := by
  cases i <;> first | (simp [chkIt] at h; done) | skip
  rename_i fn xs ks p
  cases fn <;> first | (simp [chkIt] at h; done) | skip
  rcases xs with _ | ⟨v, _ | ⟨y, _ | ⟨z, zs⟩⟩⟩ <;> rcases ks with _ | ⟨kw, kws⟩ <;> first | (simp [chkIt] at h; done) | skip
  rename_i x p1
  simp only [chkIt, Bool.and_eq_true, decide_eq_true_eq] at h
  obtain ⟨⟨⟨⟨⟨rfl, h1⟩, h2⟩, h3⟩, h4⟩, h5⟩ := h
  exact ⟨v, y, p1, p, rfl, h1, h2, h3, h4, h5⟩
theorem inv_r3 {a b c : E} {t i : Expr} (h : chkIt T N sc (.rng3 a b c) t i = true) : ∃ u v w p1 p2, i = .Call (.Name "range" p1) [u, v, w] [] p2 ∧ glB sc "range" = true ∧ chkE T N sc a u = true ∧ noStar u = true ∧ chkE T N sc b v = true ∧ noStar v = true ∧ chkE T N sc c w = true ∧ noStar w = true := by
  cases i <;> first | (simp [chkIt] at h; done) | skip
  rename_i fn xs ks p
  cases fn <;> first | (simp [chkIt] at h; done) | skip
  rcases xs with _ | ⟨v, _ | ⟨y, _ | ⟨z, _ | ⟨w, ws⟩⟩⟩⟩ <;> rcases ks with _ | ⟨kw, kws⟩ <;> first | (simp [chkIt] at h; done) | skip
  rename_i x p1
  simp only [chkIt, Bool.and_eq_true, decide_eq_true_eq] at h
  obtain ⟨⟨⟨⟨⟨⟨⟨rfl, h1⟩, h2⟩, h3⟩, h4⟩, h5⟩, h6⟩, h7⟩ := h
  exact ⟨v, y, z, p1, p, rfl, h1, h2, h3, h4, h5, h6, h7⟩
theorem inv_en {a : E} {t i : Expr} (h : chkIt T N sc (.enum a) t i = true) : ∃ u p1 p2, i = .Call (.Name "enumerate" p1) [u] [] p2 ∧ glB sc "enumerate" = true ∧ chkE T N sc a u = true ∧ noStar u = true ∧ isTuple t = true := by
  cases i <;> first | (simp [chkIt] at h; done) | skip
  rename_i fn xs ks p
  cases fn <;> first | (simp [chkIt] at h; done) | skip
  rcases xs with _ | ⟨v, _ | ⟨y, ys⟩⟩ <;> rcases ks with _ | ⟨kw, kws⟩ <;> first | (simp [chkIt] at h; done) | skip
  rename_i x p1
  simp only [chkIt, Bool.and_eq_true, decide_eq_true_eq] at h
  obtain ⟨⟨⟨⟨rfl, h1⟩, h2⟩, h3⟩, h4⟩ := h
  exact ⟨v, p1, p, rfl, h1, h2, h3, h4⟩
theorem inv_zp {a b : E} {t i : Expr} (h : chkIt T N sc (.zip a b) t i = true) : ∃ u v p1 p2, i = .Call (.Name "zip" p1) [u, v] [] p2 ∧ glB sc "zip" = true ∧ chkE T N sc a u = true ∧ noStar u = true ∧ chkE T N sc b v = true ∧ noStar v = true ∧ isTuple t = true := by
  cases i <;> first | (simp [chkIt] at h; done) | skip
  rename_i fn xs ks p
  cases fn <;> first | (simp [chkIt] at h; done) | skip
  rcases xs with _ | ⟨v, _ | ⟨y, _ | ⟨z, zs⟩⟩⟩ <;> rcases ks with _ | ⟨kw, kws⟩ <;> first | (simp [chkIt] at h; done) | skip
  rename_i x p1
  simp only [chkIt, Bool.and_eq_true, decide_eq_true_eq] at h
  obtain ⟨⟨⟨⟨⟨⟨rfl, h1⟩, h2⟩, h3⟩, h4⟩, h5⟩, h6⟩ := h
  exact ⟨v, y, p1, p, rfl, h1, h2, h3, h4, h5, h6⟩
theorem evAnd_cons (cf : Nat → List D → M D) (e e2 : E) (r : Es) : evAnd cf (.cons e (.cons e2 r)) = fun ρ => bnd (asB (evE cf e ρ)) fun k => if k then evAnd cf (.cons e2 r) ρ else ret (.bl false) := by
  funext ρ
  conv => lhs; unfold evAnd
theorem evOr_cons (cf : Nat → List D → M D) (e e2 : E) (r : Es) : evOr cf (.cons e (.cons e2 r)) = fun ρ => bnd (asB (evE cf e ρ)) fun k => if k then ret (.bl true) else evOr cf (.cons e2 r) ρ := by
  funext ρ
  conv => lhs; unfold evOr
end
end Ms
end
section
set_option Elab.async false
set_option linter.all false
set_option maxRecDepth 100000
set_option maxHeartbeats 4000000
/-! told(lambda: e). -/
namespace Ms
open PySem L2
section
variable {K : PySem.W.Frag} {G H : Hp} {ι : List Addr} {η : List Cell}
/-- new things that nobody knows -/
theorem RS.more {H2 : Hp} (S : RS K G H ι η) (e : Same H H2) : RS K G H2 ι η :=
  ⟨fun b o q => e b o (S.sub b o q), S.len, S.nd, S.out, fun n a c q1 q2 => by
    have h := S.cells n a c q1 q2
    cases c with
    | lst xs => obtain ⟨vs, h1, h2⟩ := h; exact ⟨vs, e _ _ h1, h2⟩
    | tab p q => obtain ⟨ha, ps, h1, h2, h3⟩ := h; exact ⟨ha, ps, e _ _ h1, h2, h3⟩
    | dead => exact h, fun n a q => by
    cases z : H a with
    | none => exact absurd z (S.there n a q)
    | some o => rw [e a o z]; exact (fun y => nomatch y), S.ntb⟩
theorem Stp.more {H2 : Hp} (e : Same H H2) : Stp G H ι G H2 ι := ⟨Ext.refl _ _, fun b o q _ _ => e b o q, fun _ q => .inl q, fun _ _ q => .inl q⟩
/-- G with the code objects that H1 has -/
noncomputable def withCodes (G H1 : Hp) : Hp := fun b => open Classical in if ∃ q, H1 b = some (LamX.CodeO b q) then H1 b else G b
theorem codeO_lst {c : Addr} {q : Str} (xs : List V) : LamX.CodeO c q ≠ .lst xs := fun z => by
  unfold LamX.CodeO at z
  cases z
theorem codes_in {H1 : Hp} {b : Addr} (h : ∃ q, H1 b = some (LamX.CodeO b q)) : withCodes G H1 b = H1 b := by
  unfold withCodes
  rw [if_pos h]
theorem codes_out {H1 : Hp} {b : Addr} (h : ¬ ∃ q, H1 b = some (LamX.CodeO b q)) : withCodes G H1 b = G b := by
  unfold withCodes
  rw [if_neg h]
/-- the tables among the cells -/
def tabsOf : List Addr → List Cell → List (Addr × Str)
  | a :: as, .tab _ q :: cs => (a, q) :: tabsOf as cs
  | _ :: as, _ :: cs => tabsOf as cs
  | _, _ => []
theorem tabsOf_mem {r : Addr × Str} : ∀ {ι : List Addr} {η : List Cell}, r ∈ tabsOf ι η → ∃ (n : Nat) (p : Str × Option Str), ι[n]? = some r.1 ∧ η[n]? = some (Cell.tab p r.2)
  | a :: as, .tab p q :: cs, h => by
    rcases List.mem_cons.mp h with h | h
    · exact ⟨0, p, by rw [h]; rfl, by rw [h]; rfl⟩
    · obtain ⟨n, p', h1, h2⟩ := tabsOf_mem h
      exact ⟨n + 1, p', h1, h2⟩
  | a :: as, .lst _ :: cs, h => by
    obtain ⟨n, p', h1, h2⟩ := tabsOf_mem (ι := as) (η := cs) h
    exact ⟨n + 1, p', h1, h2⟩
  | a :: as, .dead :: cs, h => by
    obtain ⟨n, p', h1, h2⟩ := tabsOf_mem (ι := as) (η := cs) h
    exact ⟨n + 1, p', h1, h2⟩
  | [], _, h => by cases h
  | _ :: _, [], h => by cases h
theorem mem_tabsOf {a : Addr} {p : Str × Option Str} {q : Str} : ∀ {ι : List Addr} {η : List Cell} {n : Nat}, ι[n]? = some a → η[n]? = some (.tab p q) → (a, q) ∈ tabsOf ι η
  | [], _, n, h, _ => by simp at h
  | _ :: _, [], n, _, h => by simp at h
  | b :: as, c :: cs, 0, h1, h2 => by
    simp at h1 h2
    subst h1 h2
    exact List.mem_cons_self
  | b :: as, c :: cs, n + 1, h1, h2 => by
    have ih := mem_tabsOf (ι := as) (η := cs) (n := n) (by simpa using h1) (by simpa using h2)
    cases c with
    | tab p' q' => exact List.mem_cons_of_mem _ ih
    | lst xs => exact ih
    | dead => exact ih
theorem RS.tabs (S : RS K G H ι η) : LamX.Tabs (tabsOf ι η) H := fun r hr => by
  obtain ⟨n, p, h1, h2⟩ := tabsOf_mem hr
  obtain ⟨_, ps, h3, h4, h5⟩ := S.cells n _ _ h1 h2
  exact ⟨ps, h3, h4, fun pos cv z => let ⟨c, z1, z2⟩ := h5 pos cv z; ⟨c, z1, S.sub _ _ z2⟩⟩
/-- behind a lambda's making -/
theorem lam_step {H1 : Hp} (S : RS K G H ι η) (x : LamX.ExtN H H1) (hT : LamX.Tabs (tabsOf ι η) H1) : RS K (withCodes G H1) H1 ι η ∧ Stp G H ι (withCodes G H1) H1 ι := by
  have keepG : ∀ b o, G b = some o → H1 b = some o := fun b o e => x b o (S.sub b o e) fun ps z => S.ntb b ps (by rw [← z]; exact e)
  have same : Same G (withCodes G H1) := fun b o e => by
    by_cases hc : ∃ q, H1 b = some (LamX.CodeO b q)
    · rw [codes_in hc]
      exact keepG b o e
    · rw [codes_out hc]
      exact e
  refine ⟨⟨fun b o e => ?_, S.len, S.nd, fun n a c q1 q2 q3 => ?_, fun n a c q1 q2 => ?_, fun n a q1 => ?_, fun b ps e => ?_⟩, ⟨same, List.prefix_refl _⟩, fun b o e nt _ => x b o e nt, fun _ q => .inl q, fun b o e => ?_⟩
  · by_cases hc : ∃ q, H1 b = some (LamX.CodeO b q)
    · rw [codes_in hc] at e
      exact e
    · rw [codes_out hc] at e
      exact keepG b o e
  · have gn := S.out n a c q1 q2 q3
    have hne : ¬ ∃ q, H1 a = some (LamX.CodeO a q) := by
      rintro ⟨q, hq⟩
      have hck := S.cells n a c q1 q2
      cases c with
      | lst xs =>
        obtain ⟨vs, h1, _⟩ := hck
        rw [x a _ h1 (fun ps z => nomatch z)] at hq
        exact codeO_lst vs (Option.some.inj hq).symm
      | tab p' q' =>
        obtain ⟨ps, h1, _⟩ := hT _ (mem_tabsOf q1 q2)
        rw [h1] at hq
        exact LamX.codeO_ne ps (Option.some.inj hq).symm
      | dead => exact q3 rfl
    rw [codes_out hne]
    exact gn
  · have hck := S.cells n a c q1 q2
    cases c with
    | lst xs =>
      obtain ⟨vs, h1, h2⟩ := hck
      exact ⟨vs, x a _ h1 (fun ps z => nomatch z), h2.mono ⟨same, List.prefix_refl _⟩⟩
    | tab p' q' =>
      obtain ⟨ps, h1, h2, h3⟩ := hT _ (mem_tabsOf q1 q2)
      refine ⟨hck.1, ps, h1, h2, fun pos cv z => ?_⟩
      obtain ⟨c, e1, e2⟩ := h3 pos cv z
      exact ⟨c, e1, by rw [codes_in ⟨_, e2⟩]; exact e2⟩
    | dead =>
      show withCodes G H1 a ≠ none
      cases q : G a with
      | none => exact absurd q hck
      | some o =>
        rw [same _ _ q]
        exact fun z => nomatch z
  · obtain ⟨c, hc⟩ : ∃ c, η[n]? = some c := ⟨_, List.getElem?_eq_getElem (by rw [← S.len]; exact (List.getElem?_eq_some_iff.mp q1).1)⟩
    have hck := S.cells n a c q1 hc
    cases c with
    | lst xs =>
      obtain ⟨vs, h1, _⟩ := hck
      rw [x a _ h1 (fun ps z => nomatch z)]
      exact fun z => nomatch z
    | tab p' q' =>
      obtain ⟨ps, h1, _⟩ := hT _ (mem_tabsOf q1 hc)
      rw [h1]
      exact fun z => nomatch z
    | dead =>
      cases q : G a with
      | none => exact absurd q hck
      | some o =>
        rw [keepG _ _ q]
        exact fun z => nomatch z
  · by_cases hc : ∃ q, H1 b = some (LamX.CodeO b q)
    · rw [codes_in hc] at e
      obtain ⟨q, hq⟩ := hc
      rw [hq] at e
      exact LamX.codeO_ne ps (Option.some.inj e)
    · rw [codes_out hc] at e
      exact S.ntb b ps e
  · by_cases hc : ∃ q, H1 b = some (LamX.CodeO b q)
    · rw [codes_in hc] at e
      obtain ⟨q, hq⟩ := hc
      rw [hq] at e
      cases e
      cases z : H b with
      | none => exact .inr (.inl (Fr1.none z))
      | some u =>
        by_cases hu : ∃ ps, u = HO.tbl ps
        · exact .inr (.inl fun o' e' => by rw [z] at e'; cases e'; exact hu)
        · have q2 := x b u z fun ps w => hu ⟨ps, w⟩
          rw [hq] at q2
          cases q2
          exact .inr (.inr (.inr ⟨rfl, fun xs => codeO_lst xs⟩))
    · rw [codes_out hc] at e
      exact .inl e
/-- a new tuple gets known -/
theorem RS.know {H2 : Hp} {p : Addr} {o : HO} (S : RS K G H ι η) (e : Same H H2) (hp : H p = none) (h2 : H2 p = some o) (nt : ∀ ps, o ≠ .tbl ps) : RS K (upd G p o) H2 ι η ∧ Stp G H ι (upd G p o) H2 ι := by
  have S2 := S.more e
  have gp : G p = none := S.sub.free hp
  have ne : ∀ (n : Nat) (a : Addr), ι[n]? = some a → a ≠ p := fun n a q z => S.there n a q (by rw [z]; exact hp)
  refine ⟨⟨fun b u q => ?_, S2.len, S2.nd, fun n a c q q2 q3 => ?_, fun n a c q1 q2 => (S2.cells n a c q1 q2).mono (ext_new gp) rfl, S2.there, fun b ps => ?_⟩, ext_new gp, fun b u q _ _ => e b u q, fun _ q => .inl q, fun b u q => ?_⟩
  · by_cases hb : b = p
    · rw [hb, upd_same] at q
      rw [hb, h2, q]
    · rw [upd_ne hb] at q
      exact S2.sub b u q
  · rw [upd_ne (ne n a q)]
    exact S2.out n a c q q2 q3
  · by_cases hb : b = p
    · rw [hb, upd_same]; exact fun z => nt ps (Option.some.inj z)
    · rw [upd_ne hb]; exact S2.ntb b ps
  · by_cases hb : b = p
    · rw [hb]; exact .inr (.inl (Fr1.none hp))
    · rw [upd_ne hb] at q; exact .inl q
theorem lookup_rep {x : Str} : ∀ {fs : List (Str × D)} {fvs : List (Str × V)} {d : D}, fvs.map (·.1) = fs.map (·.1) → Reps K G ι (fvs.map (·.2)) (fs.map (·.2)) → fs.lookup x = some d → ∃ v, fvs.lookup x = some v ∧ Rep K G ι v d
  | [], _, _, _, _, h => by cases h
  | (n, e) :: fs, [], _, hf, _, _ => by cases hf
  | (n, e) :: fs, (m, v) :: fvs, d, hf, r, h => by
    simp only [List.map_cons, List.cons.injEq] at hf r
    obtain ⟨rfl, hf⟩ := hf
    cases r with
    | cons r1 r2 =>
      rw [List.lookup_cons] at h ⊢
      cases hb : x == m with
      | true =>
        rw [hb] at h
        cases h
        exact ⟨v, rfl, r1⟩
      | false =>
        rw [hb] at h
        exact lookup_rep hf r2 h
theorem words_rep {c : Nat} {fs : List (Str × D)} {fvs : List (Str × V)} {ds : List D} (hf : fvs.map (·.1) = fs.map (·.1)) (r : Reps K G ι (fvs.map (·.2)) (fs.map (·.2))) (h : wordsOf D.str D.int c fs = some ds) : ∃ ws, wordsOf V.str V.int c fvs = some ws ∧ Reps K G ι ws ds := by
  unfold wordsOf at h
  split at h
  · split at h
    · rename_i a b h1 h2
      cases h
      obtain ⟨v1, g1, r1⟩ := lookup_rep hf r h1
      obtain ⟨v2, g2, r2⟩ := lookup_rep hf r h2
      exact ⟨_, by simp only [wordsOf, g1, g2], .cons (.str _) (.cons r1 (.cons r2 .nil))⟩
    · cases h
  · obtain ⟨d, h1, h2⟩ := Option.map_eq_some_iff.mp h
    subst h2
    obtain ⟨v1, g1, r1⟩ := lookup_rep hf r h1
    exact ⟨_, by simp only [wordsOf, g1, Option.map_some], .cons (.str _) (.cons r1 .nil)⟩
  · cases h
    exact ⟨_, rfl, .cons (.str _) (.cons (.int _) .nil)⟩
  · cases h
    exact ⟨_, rfl, .cons (.str _) (.cons (.int _) .nil)⟩
  · cases h
    exact ⟨_, rfl, .cons (.str _) (.cons (.int _) .nil)⟩
  · obtain ⟨d, h1, h2⟩ := Option.map_eq_some_iff.mp h
    subst h2
    obtain ⟨v1, g1, r1⟩ := lookup_rep hf r h1
    exact ⟨_, by simp only [wordsOf, g1, Option.map_some], .cons (.str _) (.cons r1 .nil)⟩
  · cases h
end
theorem noArgs_ok {pr : Arguments} (h : noArgs pr = true) : pr = ⟨[], [], none, [], [], none, []⟩ := by
  obtain ⟨a, b, c, d, e, f, g⟩ := pr
  simp only [noArgs, Bool.and_eq_true, List.isEmpty_iff, Option.isNone_iff_eq_none] at h
  obtain ⟨⟨⟨⟨⟨⟨rfl, rfl⟩, rfl⟩, rfl⟩, rfl⟩, rfl⟩, rfl⟩ := h
  rfl
section
variable {T : Tab} {cls : Nat → Addr} {k : Nat} {X : Cx} {N : List Str} {sc : Scope} {W : WX}
theorem se_told {i : Nat} {p : Str × Option Str} {q x : Str} {pr : Arguments} {b : Expr} {scope : Scope} {ppos lpos pos : Pos} {f : Env → M D} (C : CtxD T cls k X N sc W) (hL : T.lam = some ⟨i, p, q⟩) (hx : x = T.told) (hg : glB sc x = true) (hn : nameB x = true) (hp : noArgs pr = true) (hs : LamX.lamSB sc scope = true)
    (hb : ∀ (A : Around) (outer : List PySem.Env) (s : Shared) (H : Hp) (E : XK) (g c' : Addr), Room (3 * k + 2) (A.deeper (LamX.lamEnv X scope s.heap.objs.size g c')) → PE (LamX.lamCx X A outer s H E scope g c') b (tE cls X.K (fun c d _ H => E c d H) f)) :
    PE X (.Call (.Name x ppos) [.Lambda pr b scope lpos] [] pos) (tE cls X.K W fun ρ => toldD p q i (f ρ)) := by
  refine ⟨fun pins s σ H Q I h => ?_⟩
  obtain ⟨G, ι, η, ρ, S, sl, h⟩ := h
  obtain ⟨hcode, hq, TB, room4, g, pg, bg, sg, dV, kV, doc, pm, cdv, ct, oc, an, od, osl, Ng, a, e1, e2, e3, e4, e5, e6, e7, e8, e9, e10, hG⟩ := C.lam _ hL
  dsimp only at hcode hq TB
  subst hx
  have hpr := noArgs_ok hp
  subst hpr
  dsimp only at h
  unfold toldD at h
  split at h
  · rename_i p' q' hi
    split at h
    · rename_i hpq
      obtain ⟨rfl, rfl⟩ := hpq
      obtain ⟨P, hP⟩ : ∃ P, ι[i]? = some P := ⟨_, List.getElem?_eq_getElem (by rw [S.len]; exact (List.getElem?_eq_some_iff.mp hi).1)⟩
      have hck := S.cells i P _ hP hi
      have eP : P = (He.cT X.K p').2 := hck.1
      subst eP
      refine (LamX.pe_lamcall (T := tabsOf ι η) (TT := TTD X.K cls) (t := fun E => tE cls X.K (fun c d _ H => E c d H) f) (k := 3 * k + 2) (glB_ok (by rw [C.scEq]; exact hg)) e1 e2 e3 e4 e5 e6 e7 e8 (hG _) TB hcode (by rw [hq]; exact mem_tabsOf hP hi) ?_ room4 (LamX.lamS_by (by rw [C.scEq]; exact hs)) rfl (fun _ _ _ _ _ => rfl) (fun A outer s H E g c' hr => hb A outer s H E g c' hr) (nameB_ok hn).1 e9 e10).run pins s σ H Q I ⟨S.tabs, fun H1 hE hT => ?_⟩
      · intro r hr e
        obtain ⟨n, p2, h1, h2⟩ := tabsOf_mem hr
        rw [e] at h1
        have := S.inj hP h1
        subst this
        rw [hi] at h2
        cases h2
        exact hq.symm
      · obtain ⟨S1, st1⟩ := lam_step S hE hT
        refine ⟨_, ι, η, ρ, S1, sl.mono st1.x, ?_⟩
        cases hm : f ρ η with
        | bad => rw [hm] at h; exact h.elim
        | ok d η' =>
          rw [hm] at h
          exact Post.ext (r := .ok d η') st1 h
        | exc c fs η' =>
          rw [hm] at h
          intro G2 ι2 H2 dx fvs st2 S2 hdx hf rf
          dsimp only at h
          cases hw : wordsOf D.str D.int c fs with
          | none => rw [hw] at h; exact h.elim
          | some ds =>
            rw [hw] at h
            obtain ⟨ws, w1, w2⟩ := words_rep (K := X.K) (G := G2) (ι := ι2) hf rf hw
            refine ⟨c, dx, fvs, ws, rfl, rfl, hdx, w1, fun H3 pp sm hn2 ht => ?_⟩
            obtain ⟨S3, st3⟩ := S2.know sm hn2 ht fun ps z => nomatch z
            exact h _ ι2 H3 ((st1.trans st2).trans st3) S3 _ (.tup upd_same (w2.mono st3.x))
    · exact h.elim
  · exact h.elim
end
end Ms
end
section
set_option Elab.async false
set_option linter.all false
set_option maxRecDepth 100000
set_option maxHeartbeats 4000000
/-! Every expression keeps to its data. -/
namespace Ms
open PySem L2

section
variable {T : Tab} {N : List Str}
theorem noStar_E {sc : Scope} : ∀ {es : Es} {xs : List Expr}, chkEs T N sc es xs = true → xs.all noStar = true
  | .nil, [], _ => rfl
  | .cons e r, x :: xs, h => by
    simp only [chkEs, Bool.and_eq_true] at h
    simp only [List.all_cons, Bool.and_eq_true]
    exact ⟨h.1.2, noStar_E h.2⟩
  | .nil, _ :: _, h => by simp [chkEs] at h
  | .cons _ _, [], h => by simp [chkEs] at h
theorem evEs_zero {sc : Scope} : ∀ {es : Es}, chkEs T N sc es [] = true → ∀ (cf : Nat → List D → M D) (ρ : Env), evEs cf es ρ = ret []
  | .nil, _, cf, ρ => by simp [evEs]
  | .cons e r, h, _, _ => by simp [chkEs] at h
theorem inv_told {sc : Scope} {i : Nat} {p : Str × Option Str} {q : Str} {a : E} {py : Expr} (h : chkE T N sc (.told i p q a) py = true) : ∃ x pp pr b scope lp pos, py = .Call (.Name x pp) [.Lambda pr b scope lp] [] pos ∧ T.lam = some ⟨i, p, q⟩ ∧ x = T.told ∧ glB sc x = true ∧ nameB x = true ∧ noArgs pr = true ∧ LamX.lamSB sc scope = true ∧ chkE { T with lam := none } N scope a b = true := by
  cases py <;> first | (exact absurd h Bool.false_ne_true) | skip
  rename_i fn xs ks pos
  cases fn <;> first | (exact absurd h Bool.false_ne_true) | skip
  rename_i x pp
  rcases xs with _ | ⟨l, _ | ⟨y, ys⟩⟩ <;> first | (exact absurd h Bool.false_ne_true) | skip
  · cases l <;> first | (exact absurd h Bool.false_ne_true) | skip
    rename_i pr b scope lp
    cases ks <;> first | (exact absurd h Bool.false_ne_true) | skip
    unfold chkE at h
    simp only [Bool.and_eq_true, decide_eq_true_eq] at h
    obtain ⟨⟨⟨⟨⟨⟨h1, h2⟩, h3⟩, h4⟩, h5⟩, h6⟩, h7⟩ := h
    exact ⟨x, pp, pr, b, scope, lp, pos, rfl, h1, h2, h3, h4, h5, h6, h7⟩
  · cases l <;> exact absurd h Bool.false_ne_true
theorem tnS {own : List (Str × Nat)} {tg : Tn} (h : (match tg with
      | .name j => decide (j ∈ own.map (·.2))
      | .tup js => js.all fun j => decide (j ∈ own.map (·.2))) = true) : ∀ i ∈ tnSlots tg, i ∈ own.map (·.2) := by
  cases tg with
  | name j =>
    intro i hi
    simp [tnSlots] at hi
    subst hi
    exact of_decide_eq_true h
  | tup js =>
    intro i hi
    exact of_decide_eq_true (List.all_eq_true.mp h i hi)
end
section
variable (cls : Nat → Addr) (k : Nat)
mutual
theorem sE : ∀ (e : E) (T : Tab) (N : List Str) (X : Cx) (sc : Scope) (W : WX) (_ : CtxD T cls k X N sc W) (py : Expr), chkE T N sc e py = true → PE X py (tE cls X.K W (evE (evF T.fns k) e))
  | .loc i, T, N, X, sc, W, C, py, h => by
    cases py <;> first | (simp [chkE] at h; done) | skip
    simp only [chkE, Bool.and_eq_true, decide_eq_true_eq] at h
    simp only [evE]
    exact se_loc C h.1.1 h.1.2 h.2
  | .cst c, T, N, X, sc, W, C, py, h => by
    cases py <;> first | (simp [chkE] at h; done) | skip
    simp only [chkE, Bool.and_eq_true, decide_eq_true_eq] at h
    obtain ⟨rfl, h⟩ := h
    simp only [evE]
    exact se_cst h
  | .glob x c, T, N, X, sc, W, C, py, h => by
    cases py <;> first | (simp [chkE] at h; done) | skip
    simp only [chkE, Bool.and_eq_true, decide_eq_true_eq] at h
    obtain ⟨⟨⟨rfl, h1⟩, h2⟩, h3⟩ := h
    simp only [evE]
    exact se_glob C h1 h2 h3
  | .bin op a b, T, N, X, sc, W, C, py, h => by
    cases py <;> first | (simp [chkE] at h; done) | skip
    simp only [chkE, Bool.and_eq_true, decide_eq_true_eq] at h
    obtain ⟨⟨rfl, h1⟩, h2⟩ := h
    simp only [evE]
    exact se_bin (sE a T N X sc W C _ h1) (sE b T N X sc W C _ h2)
  | .cmp op a b, T, N, X, sc, W, C, py, h => by
    obtain ⟨l, r, p, rfl, h1, h2, h3⟩ := inv_cmp h
    simp only [evE]
    exact se_cmp C (sE a T N X sc W C _ h1) (sE b T N X sc W C _ h2) h3
  | .chain o1 o2 a b c, T, N, X, sc, W, C, py, h => by
    obtain ⟨l, r, z, p, rfl, h1, h2, h3, h4⟩ := inv_chain h
    simp only [evE]
    exact se_chain C (sE a T N X sc W C _ h1) (sE b T N X sc W C _ h2) (sE c T N X sc W C _ h3) h4
  | .and_ es, T, N, X, sc, W, C, py, h => by
    obtain ⟨vs, p, rfl, h1⟩ := inv_and h
    simp only [evE]
    exact sAnd es T N X sc W C vs p h1
  | .or_ es, T, N, X, sc, W, C, py, h => by
    obtain ⟨vs, p, rfl, h1⟩ := inv_or h
    simp only [evE]
    exact sOr es T N X sc W C vs p h1
  | .not_ a, T, N, X, sc, W, C, py, h => by
    obtain ⟨x, p, rfl, h1⟩ := inv_not h
    simp only [evE]
    exact se_not (sE a T N X sc W C _ h1)
  | .neg a, T, N, X, sc, W, C, py, h => by
    obtain ⟨x, p, rfl, h1⟩ := inv_neg h
    simp only [evE]
    exact se_neg (sE a T N X sc W C _ h1)
  | .ite c a b, T, N, X, sc, W, C, py, h => by
    cases py <;> first | (simp [chkE] at h; done) | skip
    simp only [chkE, Bool.and_eq_true, decide_eq_true_eq] at h
    simp only [evE]
    exact se_ite (sT c T N X sc W C _ h.1.1) (sE a T N X sc W C _ h.1.2) (sE b T N X sc W C _ h.2)
  | .tup es, T, N, X, sc, W, C, py, h => by
    cases py <;> first | (simp [chkE] at h; done) | skip
    simp only [chkE] at h
    simp only [evE]
    exact se_tup (sA es T N X sc W C _ h)
  | .lst m es, T, N, X, sc, W, C, py, h => by
    cases py <;> first | (simp [chkE] at h; done) | skip
    simp only [chkE] at h
    simp only [evE]
    exact se_lst (sA es T N X sc W C _ h)
  | .sub a i, T, N, X, sc, W, C, py, h => by
    cases py <;> first | (simp [chkE] at h; done) | skip
    simp only [chkE, Bool.and_eq_true] at h
    simp only [evE]
    exact se_sub (sE a T N X sc W C _ h.1.1) (sE i T N X sc W C _ h.1.2) h.2
  | .slice a lo hi, T, N, X, sc, W, C, py, h => by
    obtain ⟨v, l, u, p1, p2, rfl, h1, h2, h3⟩ := inv_slice h
    simp only [evE]
    exact se_slice (sE a T N X sc W C _ h1) (sO lo T N X sc W C _ h2) (sO hi T N X sc W C _ h3)
  | .rev a, T, N, X, sc, W, C, py, h => by
    obtain ⟨v, j, p1, p2, p3, p4, rfl, h1⟩ := inv_rev h
    simp only [evE]
    exact se_rev (sE a T N X sc W C _ h1)
  | .call f es, T, N, X, sc, W, C, py, h => by
    obtain ⟨x, xs, fd, p1, p2, rfl, h1, h2, h3, h4, h5, h6⟩ := inv_call h
    simp only [evE]
    exact se_call C h1 h2 h3 h4 (sA es T N X sc W C _ h5) h6 (noStar_E h5)
  | .bi b es, T, N, X, sc, W, C, py, h => by
    obtain ⟨x, xs, p1, p2, rfl, h1, h2, h3, h4⟩ := inv_bi h
    simp only [evE]
    exact se_bi C h1 h2 (sA es T N X sc W C _ h3) h4 (noStar_E h3)
  | .mt m a es, T, N, X, sc, W, C, py, h => by
    obtain ⟨o, n, ap, xs, p, rfl, h1, h2, h3, h4, h5, h6⟩ := inv_mt h
    simp only [evE]
    exact se_mt C h1 (sE a T N X sc W C _ h2) h3 (sA es T N X sc W C _ h4) (noStar_E h4) h5 h6 fun e ρ => evEs_zero (by rw [e] at h4; exact h4) _ ρ
  | .isi a ty, T, N, X, sc, W, C, py, h => by
    obtain ⟨v, p1, p2, p3, rfl, h1, h2, h3, h4, h5⟩ := inv_isi h
    simp only [evE]
    exact se_isi C h1 h4 h5 (sE a T N X sc W C _ h2) h3
  | .lc m own tg it cond elt, T, N, X, sc, W, C, py, h => by
    obtain ⟨e, t, i, ifs, scope, p, rfl, h1, h2, h2', h3, h4, h5, h6, h7⟩ := inv_lc h
    simp only [evE]
    exact PE.imp (pe_lc C.calm (by rw [C.nEq]; exact C.nd) (sI it T N X sc W C _ _ h4) (blkOk_by (by rw [C.nEq, C.scEq]; exact h1))
      (fun s H a cl fp => pg_T (X := X.blk s H scope (compEnvC scope cl a X.env) fp) (N := N) (sc := relS scope sc) (sc2 := scope) C.nEq C.nd (C.blk (blk_kind h1) s H a cl fp).scEq C.calm h2 h2' (blk_st s H a cl fp))
      (fun s H a cl fp => sC cond T N _ _ _ (C.blk (blk_kind h1) s H a cl fp) _ h5) (fun s H a cl fp => sE elt T N _ _ _ (C.blk (blk_kind h1) s H a cl fp) _ h6) (noSet_folded h7)) fun σ H Q hq => lc_imp (tnS h3) hq
  | .frz a, T, N, X, sc, W, C, py, h => by
    simp only [evE]
    have h' : chkE T N sc a py = true := by
      unfold chkE at h
      exact h
    exact se_frz (sE a T N X sc W C _ h')
  | .told i p q a, T, N, X, sc, W, C, py, h => by
    obtain ⟨x, pp, pr, b, scope, lp, pos, rfl, h1, h2, h3, h4, h5, h6, h7⟩ := inv_told h
    simp only [evE]
    exact se_told C h1 h2 h3 h4 h5 h6 fun A outer s H E g c' hr => sE a { T with lam := none } N (LamX.lamCx X A outer s H E scope g c') scope _
      ⟨C.nEq, C.nd, rfl, (LamX.lamS_by h6).kind, rfl, hr, takes_of rfl rfl rfl rfl, C.glo, C.bl, C.fn, C.xs, fun L z => nomatch z⟩ b h7
theorem sT : ∀ (e : E) (T : Tab) (N : List Str) (X : Cx) (sc : Scope) (W : WX) (_ : CtxD T cls k X N sc W) (py : Expr), chkT T N sc e py = true → PT X py (tT cls X.K W fun ρ => asB (evE (evF T.fns k) e ρ))
  | .cmp op a b, T, N, X, sc, W, C, py, h => by
    obtain ⟨l, r, p, rfl, h1, h2, h3⟩ := invT_cmp h
    simp only [evE]
    exact st_cmp C (sE a T N X sc W C _ h1) (sE b T N X sc W C _ h2) h3
  | .chain o1 o2 a b c, T, N, X, sc, W, C, py, h => by
    obtain ⟨l, r, z, p, rfl, h1, h2, h3, h4⟩ := invT_chain h
    simp only [evE]
    exact st_chain C (sE a T N X sc W C _ h1) (sE b T N X sc W C _ h2) (sE c T N X sc W C _ h3) h4
  | .and_ es, T, N, X, sc, W, C, py, h => by
    obtain ⟨vs, p, rfl, h1⟩ := invT_and h
    simp only [evE]
    exact (sTAnd es T N X sc W C vs p h1).pt
  | .or_ es, T, N, X, sc, W, C, py, h => by
    obtain ⟨vs, p, rfl, h1⟩ := invT_or h
    simp only [evE]
    exact (sTOr es T N X sc W C vs p h1).pt
  | .not_ a, T, N, X, sc, W, C, py, h => by
    obtain ⟨x, p, rfl, h1⟩ := invT_not h
    simp only [evE]
    exact st_not (sT a T N X sc W C _ h1)
  | .loc i, T, N, X, sc, W, C, py, h => by
    cases py <;> first | (simp [chkT] at h; done) | skip
    simp only [chkT, Bool.and_eq_true, decide_eq_true_eq] at h
    simp only [evE]
    exact st_val (se_loc C h.1.1 h.1.2 h.2) rfl
  | .sub a i, T, N, X, sc, W, C, py, h => by
    cases py <;> first | (simp [chkT] at h; done) | skip
    simp only [chkT, Bool.and_eq_true] at h
    simp only [evE]
    exact st_val (se_sub (sE a T N X sc W C _ h.1.1) (sE i T N X sc W C _ h.1.2) h.2) rfl
  | .call f es, T, N, X, sc, W, C, py, h => by
    obtain ⟨x, xs, fd, p1, p2, rfl, h1, h2, h3, h4, h5, h6⟩ := invT_call h
    simp only [evE]
    exact st_val (se_call C h1 h2 h3 h4 (sA es T N X sc W C _ h5) h6 (noStar_E h5)) rfl
  | .bi b es, T, N, X, sc, W, C, py, h => by
    obtain ⟨x, xs, p1, p2, rfl, h1, h2, h3, h4⟩ := invT_bi h
    simp only [evE]
    exact st_val (se_bi C h1 h2 (sA es T N X sc W C _ h3) h4 (noStar_E h3)) rfl
  | .isi a ty, T, N, X, sc, W, C, py, h => by
    obtain ⟨v, p1, p2, p3, rfl, h1, h2, h3, h4, h5⟩ := invT_isi h
    simp only [evE]
    exact st_val (se_isi C h1 h4 h5 (sE a T N X sc W C _ h2) h3) rfl
  | .cst _, _, _, _, _, _, _, py, h => by cases py <;> (simp [chkT] at h; done)
  | .glob _ _, _, _, _, _, _, _, py, h => by cases py <;> (simp [chkT] at h; done)
  | .bin _ _ _, _, _, _, _, _, _, py, h => by cases py <;> (simp [chkT] at h; done)
  | .neg _, _, _, _, _, _, _, py, h => by cases py <;> (simp [chkT] at h; done)
  | .ite _ _ _, _, _, _, _, _, _, py, h => by cases py <;> (simp [chkT] at h; done)
  | .tup _, _, _, _, _, _, _, py, h => by cases py <;> (simp [chkT] at h; done)
  | .lst _ _, _, _, _, _, _, _, py, h => by cases py <;> (simp [chkT] at h; done)
  | .slice _ _ _, _, _, _, _, _, _, py, h => by cases py <;> (simp [chkT] at h; done)
  | .rev _, _, _, _, _, _, _, py, h => by cases py <;> (simp [chkT] at h; done)
  | .mt _ _ _, _, _, _, _, _, _, py, h => by cases py <;> (simp [chkT] at h; done)
  | .lc _ _ _ _ _ _, _, _, _, _, _, _, py, h => by cases py <;> (simp [chkT] at h; done)
  | .frz _, _, _, _, _, _, _, py, h => by cases py <;> (simp [chkT] at h; done)
  | .told _ _ _ _, _, _, _, _, _, _, py, h => by cases py <;> (simp [chkT] at h; done)
theorem sA : ∀ (es : Es) (T : Tab) (N : List Str) (X : Cx) (sc : Scope) (W : WX) (_ : CtxD T cls k X N sc W) (xs : List Expr), chkEs T N sc es xs = true → PA X xs (tA cls X.K W (evEs (evF T.fns k) es))
  | .nil, T, N, X, sc, W, C, [], h => by
    simp only [evEs]
    exact sa_nil
  | .cons e r, T, N, X, sc, W, C, x :: xs, h => by
    simp only [chkEs, Bool.and_eq_true] at h
    simp only [evEs]
    exact sa_cons (sE e T N X sc W C _ h.1.1) (sA r T N X sc W C _ h.2) h.1.2
  | .nil, _, _, _, _, _, _, _ :: _, h => by simp [chkEs] at h
  | .cons _ _, _, _, _, _, _, _, [], h => by simp [chkEs] at h
theorem sAnd : ∀ (es : Es) (T : Tab) (N : List Str) (X : Cx) (sc : Scope) (W : WX) (_ : CtxD T cls k X N sc W) (vs : List Expr) (p : Pos), chkB T N sc es vs = true → PE X (.BoolOp .And vs p) (tE cls X.K W (evAnd (evF T.fns k) es))
  | .nil, _, _, _, _, _, _, vs, _, h => by simp [chkB] at h
  | .cons e .nil, T, N, X, sc, W, C, vs, p, h => by
    obtain ⟨x, rfl, h1⟩ := inv_b1 h
    simp only [evAnd]
    exact pe_one (sE e T N X sc W C _ h1)
  | .cons e (.cons e2 r), T, N, X, sc, W, C, vs, p, h => by
    obtain ⟨x, y, ys, rfl, h1, h2⟩ := inv_b2 h
    have ih := sAnd (.cons e2 r) T N X sc W C (y :: ys) p h2
    rw [evAnd_cons]
    exact se_and (sE e T N X sc W C _ h1) ih
theorem sOr : ∀ (es : Es) (T : Tab) (N : List Str) (X : Cx) (sc : Scope) (W : WX) (_ : CtxD T cls k X N sc W) (vs : List Expr) (p : Pos), chkB T N sc es vs = true → PE X (.BoolOp .Or vs p) (tE cls X.K W (evOr (evF T.fns k) es))
  | .nil, _, _, _, _, _, _, vs, _, h => by simp [chkB] at h
  | .cons e .nil, T, N, X, sc, W, C, vs, p, h => by
    obtain ⟨x, rfl, h1⟩ := inv_b1 h
    simp only [evOr]
    exact pe_one (sE e T N X sc W C _ h1)
  | .cons e (.cons e2 r), T, N, X, sc, W, C, vs, p, h => by
    obtain ⟨x, y, ys, rfl, h1, h2⟩ := inv_b2 h
    have ih := sOr (.cons e2 r) T N X sc W C (y :: ys) p h2
    rw [evOr_cons]
    exact se_or (sE e T N X sc W C _ h1) ih
theorem sTAnd : ∀ (es : Es) (T : Tab) (N : List Str) (X : Cx) (sc : Scope) (W : WX) (_ : CtxD T cls k X N sc W) (vs : List Expr) (p : Pos), chkTB T N sc es vs = true → PW X (.BoolOp .And vs p) (tT cls X.K W fun ρ => asB (evAnd (evF T.fns k) es ρ))
  | .nil, _, _, _, _, _, _, vs, _, h => by simp [chkTB] at h
  | .cons e .nil, T, N, X, sc, W, C, vs, p, h => by
    obtain ⟨x, rfl, h1⟩ := inv_tb1 h
    simp only [evAnd]
    exact pw_and1 (sT e T N X sc W C _ h1)
  | .cons e (.cons e2 r), T, N, X, sc, W, C, vs, p, h => by
    obtain ⟨x, y, ys, rfl, h1, h2⟩ := inv_tb2 h
    have ih := sTAnd (.cons e2 r) T N X sc W C (y :: ys) p h2
    rw [evAnd_cons]
    exact st_and (sT e T N X sc W C _ h1) ih
theorem sTOr : ∀ (es : Es) (T : Tab) (N : List Str) (X : Cx) (sc : Scope) (W : WX) (_ : CtxD T cls k X N sc W) (vs : List Expr) (p : Pos), chkTB T N sc es vs = true → PW X (.BoolOp .Or vs p) (tT cls X.K W fun ρ => asB (evOr (evF T.fns k) es ρ))
  | .nil, _, _, _, _, _, _, vs, _, h => by simp [chkTB] at h
  | .cons e .nil, T, N, X, sc, W, C, vs, p, h => by
    obtain ⟨x, rfl, h1⟩ := inv_tb1 h
    simp only [evOr]
    exact pw_or1 (sT e T N X sc W C _ h1)
  | .cons e (.cons e2 r), T, N, X, sc, W, C, vs, p, h => by
    obtain ⟨x, y, ys, rfl, h1, h2⟩ := inv_tb2 h
    have ih := sTOr (.cons e2 r) T N X sc W C (y :: ys) p h2
    rw [evOr_cons]
    exact st_or (sT e T N X sc W C _ h1) ih
theorem sO : ∀ (o : Eo) (T : Tab) (N : List Str) (X : Cx) (sc : Scope) (W : WX) (_ : CtxD T cls k X N sc W) (x : Option Expr), chkO T N sc o x = true → PO X x (tO cls X.K W (evO (evF T.fns k) o))
  | .none, T, N, X, sc, W, C, none, h => by
    simp only [evO]
    exact so_none
  | .some e, T, N, X, sc, W, C, some x, h => by
    simp only [chkO] at h
    simp only [evO]
    exact so_some (sE e T N X sc W C _ h)
  | .none, _, _, _, _, _, _, some _, h => by simp [chkO] at h
  | .some _, _, _, _, _, _, _, none, h => by simp [chkO] at h
theorem sC : ∀ (o : Eo) (T : Tab) (N : List Str) (X : Cx) (sc : Scope) (W : WX) (_ : CtxD T cls k X N sc W) (xs : List Expr), chkC T N sc o xs = true → PTs X xs (tT cls X.K W (evC (evF T.fns k) o))
  | .none, T, N, X, sc, W, C, [], h => by
    simp only [evC]
    refine PTs.imp pts_nil ?_
    rintro σ H Q ⟨G, ι, η, ρ, S, sl, h⟩
    exact h G ι H (Stp.refl _ _ _) S
  | .some e, T, N, X, sc, W, C, [x], h => by
    simp only [chkC] at h
    simp only [evC]
    exact pts_one (sT e T N X sc W C _ h)
  | .none, _, _, _, _, _, _, _ :: _, h => by simp [chkC] at h
  | .some _, _, _, _, _, _, _, [], h => by simp [chkC] at h
  | .some _, _, _, _, _, _, _, _ :: _ :: _, h => by simp [chkC] at h
theorem sI : ∀ (it : It) (T : Tab) (N : List Str) (X : Cx) (sc : Scope) (W : WX) (_ : CtxD T cls k X N sc W) (t i : Expr), chkIt T N sc it t i = true → PI X t i (tI cls X.K W (evIt (evF T.fns k) it))
  | .val e, T, N, X, sc, W, C, t, i, h => by
    simp only [chkIt] at h
    simp only [evIt]
    exact si_val (sE e T N X sc W C _ h)
  | .rng1 a, T, N, X, sc, W, C, t, i, h => by
    obtain ⟨u, p1, p2, rfl, h1, h2, h3⟩ := inv_r1 h
    simp only [evIt]
    exact si_r1 C h1 (sE a T N X sc W C _ h2) h3
  | .rng2 a b, T, N, X, sc, W, C, t, i, h => by
    obtain ⟨u, v, p1, p2, rfl, h1, h2, h3, h4, h5⟩ := inv_r2 h
    simp only [evIt]
    exact si_r2 C h1 (sE a T N X sc W C _ h2) h3 (sE b T N X sc W C _ h4) h5
  | .rng3 a b c, T, N, X, sc, W, C, t, i, h => by
    obtain ⟨u, v, w, p1, p2, rfl, h1, h2, h3, h4, h5, h6, h7⟩ := inv_r3 h
    simp only [evIt]
    exact si_r3 C h1 (sE a T N X sc W C _ h2) h3 (sE b T N X sc W C _ h4) h5 (sE c T N X sc W C _ h6) h7
  | .enum a, T, N, X, sc, W, C, t, i, h => by
    obtain ⟨u, p1, p2, rfl, h1, h2, h3, h4⟩ := inv_en h
    simp only [evIt]
    exact si_enum C h1 (sE a T N X sc W C _ h2) h3 h4
  | .zip a b, T, N, X, sc, W, C, t, i, h => by
    obtain ⟨u, v, p1, p2, rfl, h1, h2, h3, h4, h5, h6⟩ := inv_zp h
    simp only [evIt]
    exact si_zip C h1 (sE a T N X sc W C _ h2) (sE b T N X sc W C _ h4) h3 h5 h6
end
end
end Ms
end
section
set_option Elab.async false
set_option linter.all false
set_option maxRecDepth 100000
set_option maxHeartbeats 4000000
/-! Statements by data. -/
namespace Ms
open PySem L2

theorem PS.imp {X : Cx} {e : Stmt} {t t' : TS} (h : PS X e t) (hi : ∀ D σ H, t' D σ H → t D σ H) : PS X e t' := ⟨fun pins s σ H D I q => h.run pins s σ H D I (hi _ _ _ q)⟩
theorem PSs.imp {X : Cx} {e : List Stmt} {t t' : TS} (h : PSs X e t) (hi : ∀ D σ H, t' D σ H → t D σ H) : PSs X e t' := ⟨fun pins s σ H D I q => h.run pins s σ H D I (hi _ _ _ q)⟩

/-- where a flow goes on -/
def flQ (K : PySem.W.Frag) (D : Ends) (fl : Fl) (G : Hp) (ι : List Addr) (H : Hp) : Prop := match fl with
  | .nx ρ => ∀ σ, Slots K G ι σ ρ → D.nx σ H
  | .rt d => ∀ v, Rep K G ι v d → D.rt v H
def tS (cls : Nat → Addr) (K : PySem.W.Frag) (W : WX) (f : Env → M Fl) : TS := fun D σ H => ∃ G ι η ρ, RS K G H ι η ∧ Slots K G ι σ ρ ∧ Post cls K G H ι (f ρ η) (fun fl G' ι' _ H' => flQ K D fl G' ι' H') (fun c d H' => ∀ σ', W c d σ' H')

/-- a def's body -/
structure CtxS (T : Tab) (cls : Nat → Addr) (k : Nat) (X : Cx) (N : List Str) (sc : Scope) (W : WX) : Prop extends CtxD T cls k X N sc W where
  pass : PassesOwn (model X.prog X.w) X.A X.env X.xe
  fnn : ∀ x, X.fn x = true

section
variable {cls : Nat → Addr} {K : PySem.W.Frag} {W : WX} {Z : Ends} {σ : L2.St} {H : Hp}
theorem seq_imp {fa fb : Env → M Fl} (h : tS cls K W (fun ρ => bnd (fa ρ) fun fl => match fl with | .nx ρ' => fb ρ' | .rt d => ret (.rt d)) Z σ H) : tSeq (tS cls K W fa) (tS cls K W fb) Z σ H := by
  obtain ⟨G, ι, η, ρ, S, sl, h⟩ := h
  refine ⟨G, ι, η, ρ, S, sl, (Post.bind h).imp (fun fl G1 ι1 η1 H1 st S1 h1 => ?_) fun _ _ _ z => z⟩
  cases fl with
  | nx ρ' => exact fun σ' sl' => ⟨G1, ι1, η1, ρ', S1, sl', h1⟩
  | rt d => exact fun v r => h1 G1 ι1 H1 (Stp.refl _ _ _) S1 v r
theorem asg_imp {tg : Tn} {f : Env → M D} (h : tS cls K W (fun ρ => bnd (f ρ) fun d => match bindT tg d ρ with | some ρ' => ret (.nx ρ') | none => bad) Z σ H) : tAsg (tE cls K W f) (gT K tg) Z σ H := by
  obtain ⟨G, ι, η, ρ, S, sl, h⟩ := h
  refine ⟨G, ι, η, ρ, S, sl, (Post.bind h).imp (fun d G1 ι1 η1 H1 st S1 h1 v r => ?_) fun c d H' z => z σ⟩
  cases q : bindT tg d ρ with
  | none =>
    rw [q] at h1
    exact h1.elim
  | some ρ' =>
    rw [q] at h1
    exact gT_ok q S1 (sl.mono st.x) r fun σ' s' _ => h1 G1 ι1 H1 (Stp.refl _ _ _) S1 σ' s'
theorem ret_imp {f : Env → M D} (h : tS cls K W (fun ρ => bnd (f ρ) fun d => ret (.rt d)) Z σ H) : tRet (tE cls K W f) Z σ H := by
  obtain ⟨G, ι, η, ρ, S, sl, h⟩ := h
  exact ⟨G, ι, η, ρ, S, sl, (Post.bind h).imp (fun d G1 ι1 η1 H1 st S1 h1 v r => h1 G1 ι1 H1 (Stp.refl _ _ _) S1 v r) fun c d H' z => z σ⟩
theorem drop_imp {f : Env → M D} (h : tS cls K W (fun ρ => bnd (f ρ) fun _ => ret (.nx ρ)) Z σ H) : tDrop (tE cls K W f) Z σ H := by
  obtain ⟨G, ι, η, ρ, S, sl, h⟩ := h
  exact ⟨G, ι, η, ρ, S, sl, (Post.bind h).imp (fun d G1 ι1 η1 H1 st S1 h1 v r => h1 G1 ι1 H1 (Stp.refl _ _ _) S1 σ (sl.mono st.x)) fun c d H' z => z σ⟩
theorem if_imp {fc : Env → M Bool} {fa fb : Env → M Fl} (h : tS cls K W (fun ρ => bnd (fc ρ) fun k => if k then fa ρ else fb ρ) Z σ H) : tIfS (tT cls K W fc) (tS cls K W fa) (tS cls K W fb) Z σ H := by
  obtain ⟨G, ι, η, ρ, S, sl, h⟩ := h
  refine ⟨G, ι, η, ρ, S, sl, (Post.bind h).imp (fun b G1 ι1 η1 H1 st S1 h1 => ?_) fun c d H' z => z σ⟩
  cases b with
  | true =>
    rw [if_pos rfl] at h1 ⊢
    exact ⟨G1, ι1, η1, ρ, S1, sl.mono st.x, h1⟩
  | false =>
    rw [if_neg Bool.false_ne_true] at h1 ⊢
    exact ⟨G1, ι1, η1, ρ, S1, sl.mono st.x, h1⟩
theorem while_imp {fc : Env → M Bool} {fb : Env → M Fl} (h : tS cls K W (fun ρ => whileL fc fb WF ρ) Z σ H) : tWhile (tT cls K W fc) (tS cls K W fb) Z σ H := by
  obtain ⟨G, ι, η, ρ, S, sl, h⟩ := h
  refine ⟨fun m σ H => ∃ G ι η ρ, RS K G H ι η ∧ Slots K G ι σ ρ ∧ Post cls K G H ι (whileL fc fb m ρ η) (fun fl G' ι' _ H' => flQ K Z fl G' ι' H') (fun c d H' => ∀ σ', W c d σ' H'), ⟨WF, G, ι, η, ρ, S, sl, h⟩, ?_⟩
  rintro m σ H ⟨G, ι, η, ρ, S, sl, h⟩
  cases m with
  | zero => exact h.elim
  | succ m =>
    unfold whileL at h
    refine ⟨G, ι, η, ρ, S, sl, (Post.bind h).imp (fun b G1 ι1 η1 H1 st S1 h1 => ?_) fun c d H' z => z σ⟩
    cases b with
    | true =>
      rw [if_pos rfl] at h1 ⊢
      refine ⟨_, fun σ' H' n => ⟨m, Nat.lt_succ_self m, n⟩, G1, ι1, η1, ρ, S1, sl.mono st.x, (Post.bind h1).imp (fun fl G2 ι2 η2 H2 st2 S2 h2 => ?_) fun _ _ _ z => z⟩
      cases fl with
      | nx ρ3 => exact fun σ' sl' => ⟨G2, ι2, η2, ρ3, S2, sl', h2⟩
      | rt d => exact fun v r => h2 G2 ι2 H2 (Stp.refl _ _ _) S2 v r
    | false =>
      rw [if_neg Bool.false_ne_true] at h1 ⊢
      exact h1 G1 ι1 H1 (Stp.refl _ _ _) S1 σ (sl.mono st.x)
theorem forL_gd {G : Hp} {ι : List Addr} {g : Gd} {bind : D → Env → Option Env} {body : Env → M Fl} {xs : List D} {ρ : Env} {η : List Cell} {Q : Fl → Hp → List Addr → List Cell → Hp → Prop} {W' : Value → Option Addr → Hp → Prop} (h : Post cls K G H ι (forL g bind body xs ρ η) Q W') : gdOk g η := by
  cases xs with
  | nil =>
    unfold forL at h
    exact (chkG_ok h).1
  | cons d r =>
    unfold forL at h
    exact (chkG_ok h).1
theorem for_imp {tg : Tn} {fi : Env → M (List D × Gd)} {fb : Env → M Fl} (h : tS cls K W (fun ρ => bnd (fi ρ) fun items => forL items.2 (bindT tg) fb items.1 ρ) Z σ H) : tFor (tI cls K W fi) (gT K tg) (tS cls K W fb) Z σ H := by
  obtain ⟨G, ι, η, ρ, S, sl, h⟩ := h
  refine ⟨G, ι, η, ρ, S, sl, (Post.bind h).imp (fun its G1 ι1 η1 H1 st S1 h1 J hJ => ?_) fun c d H' z => z σ⟩
  obtain ⟨items, g⟩ := its
  dsimp only at h1 hJ
  let Pv : Nat → L2.St → Hp → Prop := fun i σ2 H2 => ∃ G2 ι2 η2 ρ2, Ext G1 ι1 G2 ι2 ∧ RS K G2 H2 ι2 η2 ∧ Slots K G2 ι2 σ2 ρ2 ∧ Post cls K G2 H2 ι2 (forL g (bindT tg) fb (items.drop i) ρ2 η2) (fun fl G' ι' _ H' => flQ K Z fl G' ι' H') (fun c d H' => ∀ σ', W c d σ' H')
  refine for_it hJ Pv ⟨G1, ι1, η1, ρ, Ext.refl _ _, S1, sl.mono st.x, by rw [List.drop_zero]; exact h1⟩ (fun i σ2 H2 _ ⟨G2, ι2, η2, _, x, S2, _, hp⟩ => ⟨G2, ι2, η2, x, S2, forL_gd hp⟩) ?_ ?_
  · rintro i x σ2 H2 H3 hi ⟨G2, ι2, η2, ρ2, x2, S2, sl2, hp⟩ hy
    obtain ⟨d, hdi⟩ : ∃ d, items[i]? = some d := ⟨items[i], List.getElem?_eq_getElem hi⟩
    obtain ⟨G3, st3, S3, rx⟩ := hy G2 ι2 η2 d x2 S2 (forL_gd hp) hdi
    have edr : items.drop i = d :: items.drop (i + 1) := by
      have e1 := List.drop_eq_getElem_cons hi
      have e2 : items[i] = d := by
        have q := List.getElem?_eq_getElem hi
        rw [hdi] at q
        exact (Option.some.inj q).symm
      rw [e2] at e1
      exact e1
    have hp1 := Post.ext st3 hp
    rw [edr] at hp1
    unfold forL at hp1
    replace hp1 := (chkG_ok hp1).2
    cases hb : bindT tg d ρ2 with
    | none =>
      rw [hb] at hp1
      exact hp1.elim
    | some ρ3 =>
      rw [hb] at hp1
      refine gT_ok hb S3 (sl2.mono st3.x) rx fun σ3 s3 _ => ⟨G3, ι2, η2, ρ3, S3, s3, (Post.bind hp1).imp (fun fl G4 ι4 η4 H4 st4 S4 h4 => ?_) fun _ _ _ z => z⟩
      cases fl with
      | nx ρ4 => exact fun σ4 s4 => ⟨G4, ι4, η4, ρ4, (x2.trans st3.x).trans st4.x, S4, s4, h4⟩
      | rt v => exact fun v r => h4 G4 ι4 H4 (Stp.refl _ _ _) S4 v r
  · rintro σ2 H2 ⟨G2, ι2, η2, ρ2, x2, S2, sl2, hp⟩
    rw [List.drop_length] at hp
    unfold forL at hp
    exact (chkG_ok hp).2 G2 ι2 H2 (Stp.refl _ _ _) S2 σ2 sl2
theorem par_imp {i j : Nat} {fa fb : Env → M D} (h : tS cls K W (fun ρ => bnd (fa ρ) fun x => bnd (fb ρ) fun y => ret (.nx ((ρ.set i (some x)).set j (some y)))) Z σ H) :
    tPar i j (tA cls K W fun ρ => bnd (fa ρ) fun d => bnd (bnd (fb ρ) fun d => bnd (ret []) fun ds => ret (d :: ds)) fun ds => ret (d :: ds)) Z σ H := by
  obtain ⟨G, ι, η, ρ, S, sl, h⟩ := h
  refine ⟨G, ι, η, ρ, S, sl, ?_⟩
  unfold bnd at h ⊢
  dsimp only at h ⊢
  cases qa : fa ρ η with
  | bad => rw [qa] at h; exact h.elim
  | exc c fs η1 =>
    rw [qa] at h
    exact fun G' ι' H' dx fvs y z a b e => h G' ι' H' dx fvs y z a b e σ
  | ok d η1 =>
    rw [qa] at h
    simp only [Res.bind] at h ⊢
    cases qb : fb ρ η1 with
    | bad => rw [qb] at h; exact h.elim
    | exc c fs η2 =>
      rw [qb] at h
      exact fun G' ι' H' dx fvs y z a b e => h G' ι' H' dx fvs y z a b e σ
    | ok e η2 =>
      rw [qb] at h
      intro G2 ι2 H2 st S2 vs r
      cases r with
      | cons r1 t =>
        cases t with
        | cons r2 t =>
          cases t
          exact ⟨_, _, rfl, h G2 ι2 H2 st S2 _ (((sl.mono st.x).set i r1).set j r2)⟩
theorem seti_imp {fe fo fi : Env → M D} (h : tS cls K W (fun ρ => bnd (fe ρ) fun y => bnd (fo ρ) fun d => bnd (fi ρ) fun k => bnd (setD d k y) fun _ => ret (.nx ρ)) Z σ H) :
    tAsg (tE cls K W fe) (gSub (tE cls K W fo) (tE cls K W fi) (rSetD cls K)) Z σ H := by
  obtain ⟨G, ι, η, ρ, S, sl, h⟩ := h
  refine ⟨G, ι, η, ρ, S, sl, (Post.bind h).imp (fun y G1 ι1 η1 H1 st1 S1 h1 v r1 => ?_) fun c d H' z => z σ⟩
  refine ⟨G1, ι1, η1, ρ, S1, sl.mono st1.x, (Post.bind h1).imp (fun o G2 ι2 η2 H2 st2 S2 h2 w r2 => ?_) fun c d H' z => z σ⟩
  refine ⟨G2, ι2, η2, ρ, S2, (sl.mono st1.x).mono st2.x, (Post.bind h2).imp (fun i G3 ι3 η3 H3 st3 S3 h3 u r3 => ?_) fun c d H' z => z σ⟩
  refine ⟨_, G3, ι3, η3, o, i, y, S3, r2.mono st3.x, r3, (r1.mono st2.x).mono st3.x, (Post.bind h3).imp (fun _ G4 ι4 η4 H4 st4 S4 h4 => ?_) fun _ _ _ z => z⟩
  exact h4 G4 ι4 H4 (Stp.refl _ _ _) S4 σ ((((sl.mono st1.x).mono st2.x).mono st3.x).mono st4.x)

/-- op=, by data -/
def rAugD (cls : Nat → Addr) (K : PySem.W.Frag) (op : Bop) : TIp := fun x y H Q => ∃ W0 G ι η d e, RS K G H ι η ∧ Rep K G ι x d ∧ Rep K G ι y e ∧ PV cls K G H ι (augD op d e η) Q W0
theorem aug_imp {i : Nat} {op : Bop} {f : Env → M D} (h : tS cls K W (fun ρ => bnd (fromO (ρ[i]?.join)) fun x => bnd (f ρ) fun y => bnd (augD op x y) fun z => ret (.nx (ρ.set i (some z)))) Z σ H) : tAug i (tE cls K W f) (rAugD cls K op) Z σ H := by
  obtain ⟨G, ι, η, ρ, S, sl, h⟩ := h
  dsimp only at h
  cases q : ρ[i]?.join with
  | none => rw [q] at h; exact h.elim
  | some x =>
    rw [q] at h
    have e' : ρ[i]? = some (some x) := by
      cases q2 : ρ[i]? with
      | none => rw [q2] at q; cases q
      | some o => rw [q2] at q; cases o <;> first | (cases q; done) | (cases q; rfl)
    obtain ⟨v, q1, q2⟩ := sl.at_ i x e'
    refine ⟨v, q1, G, ι, η, ρ, S, sl, (Post.bind (show Post cls K G H ι ((f ρ η).bind _) _ _ from h)).imp (fun y G1 ι1 η1 H1 st1 S1 h1 u r1 => ?_) fun c d H' z => z σ⟩
    refine ⟨_, G1, ι1, η1, x, y, S1, q2.mono st1.x, r1, (Post.bind h1).imp (fun z G2 ι2 η2 H2 st2 S2 h2 w r2 => ?_) fun _ _ _ z => z⟩
    exact h2 G2 ι2 H2 (Stp.refl _ _ _) S2 _ (((sl.mono st1.x).mono st2.x).set i r2)
end
section
variable {X : Cx} {cls : Nat → Addr}
theorem ip_D (op : Bop) : PIp X op.op (rAugD cls X.K op) := by
  intro pins s σ H x y v u Q I rx ry h
  obtain ⟨W0, G, ι, η, d, e, S, r1, r2, h⟩ := h
  cases op with
  | add =>
    cases r1 with
    | int i =>
      cases r2 with
      | int j => exact ip_add pins s σ H _ _ v u Q I rx ry ⟨i, j, rfl, rfl, PV.now h S (.int _)⟩
      | _ => exact h.elim
    | @ref n a ha =>
      unfold augD at h
      dsimp only at h
      split at h
      · rename_i xs ys hn hy
        split at h
        · rename_i hl
          obtain ⟨a', vs, e1, e2, e3, e4⟩ := S.live (.ref ha) hn
          cases e1
          obtain ⟨b, ws, rfl, e5, e6⟩ := asL_ok S r2 hy
          refine iop_ext pins s σ H _ _ v u Q I rx ry ⟨a, b, vs, ws, rfl, rfl, e3, e5, ?_, ?_⟩
          · rw [e4.length, e6.length]; exact Nat.le_trans hl lim_line
          · exact h G ι _ (RS.stpWrite ha) (S.write ha hn (by intro z; cases z) ⟨_, upd_same, e4.append e6⟩) _ (.ref ha)
        · exact h.elim
      · exact h.elim
    | _ => exact h.elim
  | sub =>
    cases r1 with
    | int i =>
      cases r2 with
      | int j => exact ip_sub pins s σ H _ _ v u Q I rx ry ⟨i, j, rfl, rfl, PV.now h S (.int _)⟩
      | _ => exact h.elim
    | _ => exact h.elim
  | mul => cases r1 <;> exact h.elim
  | fdiv => cases r1 <;> exact h.elim
  | mod => cases r1 <;> exact h.elim
end

theorem sole_no {t v : Expr} {l : Nat} {env : PySem.Env} (h : noComp v = true) : swapsWithSole [t] v l env = pure false := noComp_ok (t := some t) h
theorem sole_sub {o i v : Expr} {p : Pos} {l : Nat} {env : PySem.Env} : swapsWithSole [.Subscript o i p] v l env = pure false := by
  cases v <;> rfl
theorem swapped_no {t v : Expr} {env : PySem.Env} (h : plainAsg t v = true) : swappedStores [t] v env = pure none := by
  cases t <;> first | rfl | (cases v <;> first | rfl | cases h)
theorem swapped_par {x y : Str} {p1 p2 pt pt2 : Pos} {kt k2 : Nat} {a b : Expr} {env : PySem.Env} (hk : env.scope.kind = .function) (hx : env.scope.names.lookup x = some .local) (hy : env.scope.names.lookup y = some .local) (na : noStar a = true) (nb : noStar b = true) (hxy : x ≠ y) (hl : (p1.line == p2.line) = true)
    (hf : (!([a, b].all (foldedForSure 8))) = true) (hc : (!([a, b].all (constantsAlone 8))) = true) : swappedStores [.Tuple [.Name x p1, .Name y p2] kt pt] (.Tuple [a, b] k2 pt2) env = pure (some [x, y]) := by
  have hb : env.blockKind = .function := by unfold Env.blockKind; rw [hk]; rfl
  have kx : env.kindOf x = some .local := hx
  have ky : env.kindOf y = some .local := hy
  have e1 : ∀ e : Expr, noStar e = true → (match e with | .Starred .. => true | _ => false) = false := by
    intro e h
    cases e <;> first | rfl | cases h
  have hs : ([a, b].any fun | .Starred .. => true | _ => false) = false := by
    simp only [List.any_cons, List.any_nil, Bool.or_false]
    rw [e1 a na, e1 b nb]
    rfl
  have hl' : (p2.line == p1.line) = true := by
    rw [beq_iff_eq] at hl ⊢
    exact hl.symm
  have hd : ([x, y].eraseDups.length != 2) = false := by
    have : (y == x) = false := by simpa using fun z => hxy z.symm
    simp [List.eraseDups_cons, this]
  simp only [Bool.not_eq_true'] at hf hc
  unfold swappedStores
  simp only [List.length_cons, List.length_nil, hb, List.head?_cons, Option.map_some, Option.getD_some, Expr.pos, kx, ky, hl', List.filterMap_cons, List.filterMap_nil]
  simp [hs, hf, hc, hd]
  intro h
  rcases h with h | h
  · cases a <;> first | exact absurd na Bool.false_ne_true | exact absurd h Bool.false_ne_true
  · cases b <;> first | exact absurd nb Bool.false_ne_true | exact absurd h Bool.false_ne_true

section
variable {T : Tab} {cls : Nat → Addr} {k : Nat} {X : Cx} {N : List Str} {sc : Scope} {W : WX}
theorem backTo_plain {pos : Pos} {env : PySem.Env} : ∀ {es : List Expr}, es.all noStar = true → (backTo pos (starEach es env)).any (·.1) = false
  | [], _ => rfl
  | e :: es, h => by
    simp only [List.all_cons, Bool.and_eq_true] at h
    rw [noStar_ok h.1]
    exact backTo_plain h.2
theorem ss_rais {c : Nat} {x : Str} {fs : List Str} {xs : List Expr} {g : Env → M (List D)} {p pos pos2 : Pos} (C : CtxD T cls k X N sc W) (hx : (c, x, fs) ∈ T.xs) (hg : glB sc x = true) (hn : nameB x = true) (ha : PA X xs (tA cls X.K W g)) (hne : xs.isEmpty = false) (hs : xs.all noStar = true) (h9 : fs.length ≤ 1000) :
    PS X (.Raise (some (.Call (.Name x p) xs [] pos)) none pos2) (tS cls X.K W fun ρ => bnd (g ρ) (raisD c fs)) := by
  obtain ⟨e1, hno, TC, fI, dt, ps, e2, e3, e4, e5⟩ := C.xs c x fs hx
  cases xs with
  | nil => cases hne
  | cons e es =>
    simp only [List.all_cons, Bool.and_eq_true] at hs
    have pl : (backTo pos (starEach es X.env)).any (·.1) = false := backTo_plain hs.2
    refine PS.imp (ps_raise C.calm C.tk (pmk_oex (k := 3 * k + 1) TC e2 e3 (e5.mono (by omega)) C.room e4 .nil passL (glB_ok (by rw [C.scEq]; exact hg)) e1 ha (nameB_ok hn).1 (noStar_ok hs.1) pl)) ?_
    rintro D σ H ⟨G, ι, η, ρ, S, sl, h⟩
    refine ⟨G, ι, η, ρ, S, sl, (Post.bind h).imp (fun ds G1 ι1 η1 H1 st1 S1 h1 vs r => ?_) fun c d H' z => z σ⟩
    unfold raisD at h1
    split at h1
    · rename_i hl
      refine ⟨?_, fun a ha0 => ⟨a, vs, by rw [List.append_nil], by rw [r.length, hl], upd_same, fun d hd hda => ⟨rfl, d, (fs.zip vs).reverse, upd_same, ?_, ?_, ?_⟩⟩⟩
      · rw [r.length, hl]; exact h9
      · rw [upd_ne hda, upd_same]
      · rw [upd_ne hda] at hd
        exact hd
      · rw [upd_ne hda] at hd
        have eH : upd (del (upd (upd (upd H1 a (exo a (cls c) none)) d (exd d (fs.zip vs).reverse)) a (exo a (cls c) (some d))) a) d (.xd (fs.zip vs).reverse) = upd H1 d (.xd (fs.zip vs).reverse) := by
          funext b
          by_cases hb : b = d
          · rw [hb, upd_same, upd_same]
          · rw [upd_ne hb, upd_ne hb]
            by_cases hb2 : b = a
            · rw [hb2, del_same, ha0]
            · rw [del_ne hb2, upd_ne hb2, upd_ne hb, upd_ne hb2]
        rw [eH]
        have sm : Same H1 (upd H1 d (.xd (fs.zip vs).reverse)) := fun b o e => by rw [upd_ne (ne_of_none e hd)]; exact e
        have hlv : vs.length = fs.length := by rw [r.length, hl]
        refine h1 G1 ι1 _ d (fs.zip vs).reverse (Stp.more sm) (S1.more sm) upd_same ?_ ?_ σ
        · rw [List.map_reverse, List.map_reverse, List.map_fst_zip (by omega), List.map_fst_zip (by omega)]
        · rw [List.map_reverse, List.map_reverse, List.map_snd_zip (by omega), List.map_snd_zip (by omega)]
          exact r.reverse
    · exact h1.elim
end
section
variable (T : Tab) (cls : Nat → Addr) (k : Nat) (N : List Str)
theorem each_one {t : Expr} {env : PySem.Env} {i : Tn} {sc : Scope} (h : chkTn N sc i t = true) : (assignEach [t] env).map (·.2) = [assign t env] := by
  cases i with
  | name i =>
    obtain ⟨x, p, rfl, _⟩ := chkN_ok (show chkN N sc i t = true from h)
    rfl
  | tup is => cases t <;> first | rfl | cases h
theorem assign_sub {o i : Expr} {pos : Pos} {env : PySem.Env} (h : noSlice i = true) : ∀ v, assign (.Subscript o i pos) env v = (do
      let ov ← holding [v] (eval o env)
      let iv ← holding [v, ov] (eval i env)
      standAt pos
      holding [v, ov, iv] (setItem ov iv v)
      release [v, ov, iv] []) := by
  intro v
  cases i <;> first | rfl | exact absurd h Bool.false_ne_true
theorem inv_par {sc : Scope} {i j : Nat} {a b : E} {py : Stmt} (h : chkS T N sc (.par i j a b) py = true) : ∃ x y p1 p2 k pt u v k2 pt2 pos, py = .Assign [.Tuple [.Name x p1, .Name y p2] k pt] (.Tuple [u, v] k2 pt2) pos ∧
    N[i]? = some x ∧ N[j]? = some y ∧ i ≠ j ∧ sc.names.lookup x = some .local ∧ sc.names.lookup y = some .local ∧ chkE T N sc a u = true ∧ chkE T N sc b v = true ∧ noStar u = true ∧ noStar v = true ∧ x ≠ y ∧ (p1.line == p2.line) = true ∧
    (!([u, v].all (foldedForSure 8))) = true ∧ (!([u, v].all (constantsAlone 8))) = true := by
  cases py <;> first | (exact absurd h Bool.false_ne_true) | skip
  rename_i ts val pos
  replace h : chkPar T N sc i j a b ts val = true := h
  unfold chkPar at h
  split at h
  · rename_i x p1 y p2 k pt u v k2 pt2
    simp only [Bool.and_eq_true, decide_eq_true_eq] at h
    obtain ⟨⟨⟨⟨⟨⟨⟨⟨⟨⟨⟨⟨q1, q2⟩, q3⟩, q4⟩, q5⟩, q6⟩, q7⟩, q8⟩, q9⟩, q10⟩, q11⟩, q12⟩, q13⟩ := h
    exact ⟨x, y, p1, p2, k, pt, u, v, k2, pt2, pos, rfl, q1, q2, q3, q4, q5, q6, q7, q8, q9, q10, q11, q12, q13⟩
  · exact absurd h Bool.false_ne_true
mutual
theorem sS : ∀ (s : S) (X : Cx) (sc : Scope) (W : WX) (_ : CtxS T cls k X N sc W) (py : Stmt), chkS T N sc s py = true → PS X py (tS cls X.K W (evS (evF T.fns k) s))
  | .asg tg e, X, sc, W, C, py, h => by
    cases py <;> first | (exact absurd h Bool.false_ne_true) | skip
    rename_i ts v pos
    rcases ts with _ | ⟨t, _ | ⟨t2, ts⟩⟩ <;> first | (exact absurd h Bool.false_ne_true) | skip
    simp only [chkS, Bool.and_eq_true, Bool.or_eq_true] at h
    obtain ⟨⟨⟨h1, h2⟩, h3⟩, h4⟩ := h
    simp only [evS]
    have he := sE cls k e T N X sc W C.toCtxD v h2
    have hg : PG X t (gT X.K tg) := pg_T C.nEq C.nd C.scEq C.calm h1 h1 fun x _ => .inl (C.fnn x)
    rcases h4 with h4 | h4
    · exact PS.imp (ps_asg he hg (sole_no h4) (swapped_no h3) (each_one N h1)) fun D σ H q => asg_imp q
    · unfold lcAsg at h4
      split at h4
      · rename_i m own tg2 it cond elt y p e2 gs scope p2
        obtain ⟨e3, t3, i3, ifs3, scope3, p3, q, c1, c2, c3, c4, c5, c6, c7, c8⟩ := inv_lc h2
        cases q
        simp only [Bool.and_eq_true, decide_eq_true_eq, Bool.not_eq_true'] at h4
        obtain ⟨⟨l1, l2⟩, l3⟩ := h4
        cases tg with
        | name i =>
          obtain ⟨x', p', e', a1, a2⟩ := chkN_ok (show chkN N sc i (Expr.Name y p) = true from h1)
          cases e'
          have C' := C.toCtxD
          refine PS.imp (ps_setLc (i := i) (g := gT X.K tg2) (tt := tT cls X.K (fun _ _ _ _ => False) (evC (evF T.fns k) cond)) (te := tE cls X.K (fun _ _ _ _ => False) (evE (evF T.fns k) elt)) C.calm (by rw [C.nEq]; exact C.nd) (by rw [C.nEq]; exact a1) (by rw [C.scEq]; exact l1) (sw_true (by rw [C.scEq]; exact C.kind) (by rw [C.scEq]; exact l1) l2 l3)
            (sI cls k it T N X sc W C' _ _ c5) (blkOk_by (by rw [C.nEq, C.scEq]; exact c1))
            (fun s H a cl fp => pg_T (X := X.blk s H scope (compEnvC scope cl a X.env) fp) (N := N) (sc := relS scope sc) (sc2 := scope) C.nEq C.nd (C'.blk (blk_kind c1) s H a cl fp).scEq C.calm c2 c3 (blk_st s H a cl fp))
            (fun s H a cl fp => sC cls k cond T N _ _ _ (C'.blk (blk_kind c1) s H a cl fp) _ c6) (fun s H a cl fp => sE cls k elt T N _ _ _ (C'.blk (blk_kind c1) s H a cl fp) _ c7) (noSet_folded c8)) fun D σ H q => ?_
          have q2 := asg_imp (tg := .name i) q
          simp only [evE] at q2
          exact lc_imp (tnS c4) q2
        | tup is => simp [chkTn] at h1
      · cases h4
  | .par i j a b, X, sc, W, C, py, h => by
    obtain ⟨x, y, p1, p2, kk, pt, u, v, k2, pt2, pos, rfl, q1, q2, q3, q4, q5, q6, q7, q8, q9, q10, q11, q12, q13⟩ := inv_par T N h
    simp only [evS]
    exact PS.imp (ps_par C.calm (by rw [C.nEq]; exact C.nd) (by rw [C.nEq]; exact q1) (by rw [C.nEq]; exact q2) q3 (by rw [C.scEq]; exact q4) (by rw [C.scEq]; exact q5)
      (sa_cons (sE cls k a T N X sc W C.toCtxD u q6) (sa_cons (sE cls k b T N X sc W C.toCtxD v q7) sa_nil q9) q8)
      (swapped_par (by rw [C.scEq]; exact C.kind) (by rw [C.scEq]; exact q4) (by rw [C.scEq]; exact q5) q8 q9 q10 q11 q12 q13)) fun D σ H q => par_imp q
  | .seti o i e, X, sc, W, C, py, h => by
    cases py <;> first | (exact absurd h Bool.false_ne_true) | skip
    rename_i ts v pos
    replace h : chkSeti T N sc o i e ts v = true := h
    unfold chkSeti at h
    split at h
    · simp only [Bool.and_eq_true] at h
      obtain ⟨⟨⟨h1, h2⟩, h3⟩, h4⟩ := h
      simp only [evS]
      exact PS.imp (ps_asg (sE cls k e T N X sc W C.toCtxD _ h4) (pg_sub (sE cls k o T N X sc W C.toCtxD _ h1) (sE cls k i T N X sc W C.toCtxD _ h2) (set_D (cls := cls)) (assign_sub h3)) sole_sub (swapped_no (by cases v <;> rfl))) fun D σ H q => seti_imp q
    · exact absurd h Bool.false_ne_true
  | .aug i op e, X, sc, W, C, py, h => by
    cases py <;> first | (exact absurd h Bool.false_ne_true) | skip
    rename_i t o v pos
    cases t <;> first | (exact absurd h Bool.false_ne_true) | skip
    simp only [chkS, Bool.and_eq_true, decide_eq_true_eq] at h
    obtain ⟨⟨⟨h1, rfl⟩, h2⟩, h3⟩ := h
    obtain ⟨x', p', e', a1, a2⟩ := chkN_ok h1
    cases e'
    simp only [evS]
    exact PS.imp (ps_aug (by rw [C.nEq]; exact C.nd) (by rw [C.nEq]; exact a1) (by rw [C.scEq]; exact a2) (sE cls k e T N X sc W C.toCtxD v h3) (ip_D (cls := cls) op) (.inl (C.fnn _))) fun D σ H q => aug_imp q
  | .ex e, X, sc, W, C, py, h => by
    cases py <;> first | (exact absurd h Bool.false_ne_true) | skip
    simp only [chkS, Bool.and_eq_true] at h
    simp only [evS]
    exact PS.imp (ps_expr (sE cls k e T N X sc W C.toCtxD _ h.1) (noComp_ok h.2)) fun D σ H q => drop_imp q
  | .if_ c a b, X, sc, W, C, py, h => by
    cases py <;> first | (exact absurd h Bool.false_ne_true) | skip
    simp only [chkS, Bool.and_eq_true] at h
    simp only [evS]
    exact PS.imp (ps_if (sT cls k c T N X sc W C.toCtxD _ h.1.1) (sSs a X sc W C _ h.1.2) (sSs b X sc W C _ h.2)) fun D σ H q => if_imp q
  | .for_ tg it body, X, sc, W, C, py, h => by
    cases py <;> first | (exact absurd h Bool.false_ne_true) | skip
    rename_i t i b o pos
    cases o <;> first | (exact absurd h Bool.false_ne_true) | skip
    simp only [chkS, Bool.and_eq_true] at h
    obtain ⟨⟨⟨h1, h2⟩, h3⟩, h4⟩ := h
    simp only [evS]
    exact PS.imp (ps_for C.pass C.calm (sI cls k it T N X sc W C.toCtxD _ _ h2) (pg_T C.nEq C.nd C.scEq C.calm h1 h1 fun x _ => .inl (C.fnn x)) (sSs body X sc W C _ h3) (noSet_folded h4)) fun D σ H q => for_imp q
  | .while_ c body, X, sc, W, C, py, h => by
    cases py <;> first | (exact absurd h Bool.false_ne_true) | skip
    rename_i t b o pos
    cases o <;> first | (exact absurd h Bool.false_ne_true) | skip
    simp only [chkS, Bool.and_eq_true] at h
    simp only [evS]
    exact PS.imp (ps_while C.pass (sT cls k c T N X sc W C.toCtxD _ h.1) (sSs body X sc W C _ h.2)) fun D σ H q => while_imp q
  | .ret e, X, sc, W, C, py, h => by
    cases py <;> first | (exact absurd h Bool.false_ne_true) | skip
    rename_i v pos
    cases v <;> first | (exact absurd h Bool.false_ne_true) | skip
    simp only [chkS] at h
    simp only [evS]
    exact PS.imp (ps_ret (sE cls k e T N X sc W C.toCtxD _ h)) fun D σ H q => ret_imp q
  | .retN, X, sc, W, C, py, h => by
    cases py <;> first | (exact absurd h Bool.false_ne_true) | skip
    rename_i v pos
    cases v <;> first | (exact absurd h Bool.false_ne_true) | skip
    simp only [evS]
    refine PS.imp ps_retN ?_
    rintro D σ H ⟨G, ι, η, ρ, S, sl, q⟩
    exact q G ι H (Stp.refl _ _ _) S _ .non
  | .pass, X, sc, W, C, py, h => by
    cases py <;> first | (exact absurd h Bool.false_ne_true) | skip
    simp only [evS]
    refine PS.imp ps_pass ?_
    rintro D σ H ⟨G, ι, η, ρ, S, sl, q⟩
    exact q G ι H (Stp.refl _ _ _) S _ sl
  | .never, X, sc, W, C, py, h => by
    simp only [evS]
    refine PS.imp ps_never ?_
    rintro D σ H ⟨G, ι, η, ρ, S, sl, q⟩
    exact q
  | .rais c fs es, X, sc, W, C, py, h => by
    cases py <;> first | (exact absurd h Bool.false_ne_true) | skip
    rename_i ex ca pos
    cases ex <;> first | (exact absurd h Bool.false_ne_true) | skip
    rename_i ex
    cases ex <;> first | (exact absurd h Bool.false_ne_true) | skip
    rename_i fn xs ks pos'
    cases fn <;> first | (exact absurd h Bool.false_ne_true) | skip
    cases ks <;> first | (exact absurd h Bool.false_ne_true) | skip
    cases ca <;> first | (exact absurd h Bool.false_ne_true) | skip
    simp only [chkS, Bool.and_eq_true, decide_eq_true_eq, Bool.not_eq_true'] at h
    obtain ⟨⟨⟨⟨⟨h1, h2⟩, h3⟩, h4⟩, h5⟩, h6⟩ := h
    simp only [evS]
    exact ss_rais C.toCtxD h1 h2 h3 (sA cls k es T N X sc W C.toCtxD _ h4) h5 (noStar_E h4) h6
theorem sSs : ∀ (ss : Ss) (X : Cx) (sc : Scope) (W : WX) (_ : CtxS T cls k X N sc W) (py : List Stmt), chkSs T N sc ss py = true → PSs X py (tS cls X.K W (evSs (evF T.fns k) ss))
  | .nil, X, sc, W, C, [], h => by
    simp only [evSs]
    refine PSs.imp pss_nil ?_
    rintro D σ H ⟨G, ι, η, ρ, S, sl, q⟩
    exact q G ι H (Stp.refl _ _ _) S _ sl
  | .cons s r, X, sc, W, C, x :: xs, h => by
    simp only [chkSs, Bool.and_eq_true] at h
    simp only [evSs]
    exact PSs.imp (pss_cons (sS s X sc W C x h.1) (sSs r X sc W C xs h.2)) fun D σ H q => seq_imp q
  | .nil, _, _, _, _, _ :: _, h => by exact absurd h Bool.false_ne_true
  | .cons _ _, _, _, _, _, [], h => by exact absurd h Bool.false_ne_true
end
end
end Ms
end
section
set_option Elab.async false
set_option linter.all false
set_option maxRecDepth 100000
set_option maxHeartbeats 4000000
/-! Every def keeps to its data. -/
namespace Ms
open PySem L2

section
variable {K : PySem.W.Frag} {G H : Hp} {ι ι' : List Addr} {η : List Cell}
mutual
theorem Rep.under {n : Nat} (e : ι'.take n = ι) : ∀ {v : V} {d : D}, dUnder n d = true → Rep K G ι' v d → Rep K G ι v d
  | _, _, _, .non => .non
  | _, _, _, .bl b => .bl b
  | _, _, _, .int i => .int i
  | _, _, _, .str s => .str s
  | _, _, u, .tup h t => .tup h (Reps.under e u t)
  | _, _, u, .fl h t => .fl h (Reps.under e u t)
  | _, _, u, .scr h t => .scr h (Reps.under e u t)
  | _, _, u, .ref q => .ref (by rw [← e, List.getElem?_take_of_lt (of_decide_eq_true u)]; exact q)
theorem Reps.under {n : Nat} (e : ι'.take n = ι) : ∀ {vs : List V} {ds : List D}, dUnders n ds = true → Reps K G ι' vs ds → Reps K G ι vs ds
  | _, _, _, .nil => .nil
  | _, _, u, .cons h t => by
    simp only [dUnders, Bool.and_eq_true] at u
    exact .cons (Rep.under e u.1 h) (Reps.under e u.2 t)
end
theorem CellOk.under {n : Nat} {a : Addr} {c : Cell} (e : ι'.take n = ι) (u : cUnder n c = true) (h : CellOk K G ι' H a c) : CellOk K G ι H a c := by
  cases c with
  | lst xs =>
    obtain ⟨vs, h1, h2⟩ := h
    exact ⟨vs, h1, h2.under e u⟩
  | tab p q => exact h
  | dead => exact h
theorem RS.under {n : Nat} (e : ι'.take n = ι) (hn : n ≤ η.length) (u : (η.take n).all (cUnder n) = true) (S : RS K G H ι' η) : RS K G H ι (η.take n) := by
  have hsub : ∀ (m : Nat) (a : Addr), ι[m]? = some a → m < n ∧ ι'[m]? = some a := fun m a q => by
    have hm : m < n := by
      have := (List.getElem?_eq_some_iff.mp q).1
      rw [← e, List.length_take] at this
      omega
    rw [← e, List.getElem?_take_of_lt hm] at q
    exact ⟨hm, q⟩
  refine ⟨S.sub, ?_, ?_, fun m a c q q2 q3 => ?_, fun m a c q q2 => ?_, fun m a q => S.there m a (hsub m a q).2, S.ntb⟩
  · rw [← e, List.length_take, List.length_take, S.len]
  · rw [← e]
    exact S.nd.sublist (List.take_sublist _ _)
  · obtain ⟨hm, q'⟩ := hsub m a q
    rw [List.getElem?_take_of_lt hm] at q2
    exact S.out m a c q' q2 q3
  · obtain ⟨hm, q'⟩ := hsub m a q
    have uc : cUnder n c = true := List.all_eq_true.mp u c (List.mem_of_getElem? q2)
    rw [List.getElem?_take_of_lt hm] at q2
    exact (S.cells m a c q' q2).under e uc
theorem trunc_ok {cls : Nat → Addr} {r : Res D} {Q : VK} {W : Value → Option Addr → Hp → Prop} (h : PV cls K G H ι (trunc ι.length r) Q W) : PV cls K G H ι r Q W := by
  cases r with
  | bad => exact h
  | exc c fs η' => exact h
  | ok d η' =>
    unfold trunc at h
    dsimp only at h
    by_cases hc : ι.length ≤ η'.length ∧ dUnder ι.length d = true ∧ (η'.take ι.length).all (cUnder ι.length) = true
    · rw [if_pos hc] at h
      intro G' ι' H' st S v r
      have e : ι'.take ι.length = ι := by
        obtain ⟨t, rfl⟩ := st.x.i
        simp
      exact h G' ι H' ⟨⟨st.x.g, List.prefix_refl _⟩, st.fr, fun _ q => .inl q, st.gn⟩ (S.under e hc.1 hc.2.2) v (r.under e hc.2.1)
    · rw [if_neg hc] at h
      exact h
theorem runB_ok {cls : Nat → Addr} {r : Res Fl} {Q : VK} {W : Value → Option Addr → Hp → Prop} (h : PV cls K G H ι (runB r) Q W) : Post cls K G H ι r (fun fl G' ι' _ H' => flQ K { nx := fun _ H' => Q .non H', rt := Q } fl G' ι' H') W := by
  cases r with
  | bad => exact h
  | exc c fs η' => exact h
  | ok fl η' =>
    cases fl with
    | nx ρ => exact fun G' ι' H' st S σ sl => h G' ι' H' st S .non .non
    | rt d => exact fun G' ι' H' st S v r => h G' ι' H' st S v r
theorem slots_start {N : List Str} {vs : List V} {ds : List D} (r : Reps K G ι vs ds) : Slots K G ι (start N vs) (startD N.length ds) := by
  have l := r.length
  refine ⟨by simp [L2.start, startD, l], fun i d e => ?_⟩
  unfold startD at e
  by_cases hi : i < ds.length
  · rw [List.getElem?_append_left (by simpa using hi), List.getElem?_map] at e
    cases q : ds[i]? with
    | none => rw [q] at e; cases e
    | some d' =>
      rw [q] at e
      cases e
      obtain ⟨v, h1, h2⟩ := r.get q
      refine ⟨v, ?_, h2⟩
      unfold L2.start
      rw [List.getElem?_append_left (by simpa [l] using hi), List.getElem?_map, h1]
      rfl
  · rw [List.getElem?_append_right (by simpa using hi), List.getElem?_replicate] at e
    split at e <;> cases e
end

/-- what the module is like -/
structure Mod1 (P : Program) (w : World) (K : PySem.W.Frag) (mg : Str → Option Value) (base : Heap) (cls : Nat → Addr) (T : Tab) : Prop where
  glo : ∀ x c, (x, c) ∈ T.cs → ∃ u d, mg x = some u ∧ constD c = some d ∧ RelV (vOf d) u ∧ flatD d = true
  bl : ∀ x ∈ builtinNames, mg x = none
  fn : ∀ (f : Nat) (fd : FD), T.fns[f]? = some fd → ∃ a dt x q pr body sc, mg fd.name = some (.ref a) ∧ FunD K x q pr body sc [] [] a dt ∧ Binds K dt fd.ps [] ∧ FnScope fd.N fd.ps sc ∧ chkSs { T with lam := fd.lam } fd.N sc fd.code body = true ∧
    ∀ L, fd.lam = some L → a = He.fAd K L.p ∧ (∀ n f cd, (PyProof.Rows.envOfC q sc n f cd).qual ++ "<lambda>" = L.q) ∧ LamX.TabB base mg (He.cT K L.p).1 (He.cT K L.p).2
  xs : ∀ c x fs, (c, x, fs) ∈ T.xs → mg x = some (.ref (cls c)) ∧ (∀ f ∈ fs, PySem.W.findIn K (.ref (cls c)) f = some none) ∧ ExcF P w K mg base (cls c) fs
  told : ∀ L fd, fd ∈ T.fns → fd.lam = some L → ∀ X : Cx, X.prog = P → X.w = w → X.K = K → X.mg = mg → X.base = base → ToldF cls T.told X

theorem fn_all {P : Program} {w : World} {K : PySem.W.Frag} {mg : Str → Option Value} {base : Heap} {cls : Nat → Addr} {T : Tab} (Md : Mod1 P w K mg base cls T) : ∀ (k f : Nat) (fd : FD), T.fns[f]? = some fd → ∀ (a : Addr) (dt : FuncData) (x q : Str) (pr : Arguments) (body : List Stmt) (sc : Scope),
    FunD K x q pr body sc [] [] a dt → FnScope fd.N fd.ps sc → chkSs { T with lam := fd.lam } fd.N sc fd.code body = true → (∀ L, fd.lam = some L → a = He.fAd K L.p ∧ (∀ n f cd, (PyProof.Rows.envOfC q sc n f cd).qual ++ "<lambda>" = L.q) ∧ LamX.TabB base mg (He.cT K L.p).1 (He.cT K L.p).2) →
      FnOk P w K mg base (L2.CX P w) (3 * k + 2) a dt fd.ps (spF cls K fd.ps.length (evF T.fns k f))
  | 0, f, fd, hf, a, dt, x, q, pr, body, sc, F, S, hc, hL => by
    refine ⟨fun vs H Q E h => h.1, fun A outer s H args us vs Q E hr e0 hb r h => ?_⟩
    obtain ⟨_, G, ι, η, ds, _, _, h⟩ := h
    exact h.elim
  | k + 1, f, fd, hf, a, dt, x, q, pr, body, sc, F, S, hc, hL => by
    obtain ⟨oc, od, dV, kV, doc, pm, an, cdv, ct, osl, rfl, lk, hcd, _, _⟩ := F.ex
    refine fn_of (k := 3 * k + 4) lk hcd S (fun vs H Q E h => h.1) fun A outer s H vs Q E hr h => ⟨tS cls K (fun c d _ H => E c d H) (evSs (evF T.fns k) fd.code), ?_, ?_⟩
    · refine sSs { T with lam := fd.lam } cls k fd.N fd.code _ sc _ ⟨⟨rfl, S.nd, rfl, S.kind, rfl, hr.mono (by omega), takes_of rfl rfl rfl rfl, Md.glo, Md.bl, fun g gd hg => ?_, Md.xs, fun L hLe => ?_⟩, passes_of rfl, fun _ => rfl⟩ body hc
      · obtain ⟨b, dt2, x2, q2, pr2, body2, sc2, e1, F2, B2, S2, c2, l2⟩ := Md.fn g gd hg
        exact ⟨b, dt2, e1, F2.kp, B2, fn_all Md k g gd hg b dt2 x2 q2 pr2 body2 sc2 F2 S2 c2 l2⟩
      · obtain ⟨ea, eq, tb⟩ := hL L hLe
        obtain ⟨c, hcv⟩ := He.codeIn_ref hcd
        have ec : (He.cT K L.p).1 = c := He.codeOf_eq (by rw [← ea]; exact lk) hcv
        refine ⟨?_, eq _ _ _, tb, hr, Md.told L fd (List.mem_of_getElem? hf) hLe _ rfl rfl rfl rfl rfl⟩
        exact hcv.trans (congrArg Value.ref ec.symm)
    · obtain ⟨hl, G, ι, η, ds, R, r, h⟩ := h
      refine ⟨G, ι, η, startD fd.N.length ds, R, slots_start r, ?_⟩
      have e : evF T.fns (k + 1) f ds η = trunc η.length (runB (evSs (evF T.fns k) fd.code (startD fd.N.length ds) η)) := by
        have hl2 : ds.length = fd.ps.length := by rw [← r.length]; exact hl
        conv => lhs; unfold evF
        simp only [hf, hl2, if_true]
      rw [e, ← R.len] at h
      exact (runB_ok (trunc_ok h)).imp (fun _ _ _ _ _ _ _ z => z) fun _ _ _ z _ => z
end Ms
end
section
set_option Elab.async false
set_option linter.all false
set_option maxRecDepth 100000
set_option maxHeartbeats 4000000
/-! Errors: made, asked, told. -/
namespace PySem.W
open PySem PySem.Spec PySem.Calls PyProof.Rows
section
variable {prog : Program} {w : World} {A : Around} {E : Value → Shared → Prop} {s : Shared} {K : Frag} {x D : Addr} {ox : Obj}
/-- what stands in the class and takes stores is bound, whatever the instance holds -/
theorem ms_find {od : Option Obj} {C : Addr} {f : Str} {v g : Value} (q1 : (clsIn K C).isSome = true) (q2 : findIn K (.ref C) f = some (some v)) (q3 : specialIn K v "__get__" = some (some g)) (q4 : takesIn K v = some true) : findObj K C od f = some (.bind g v) := by
  cases e : clsIn K C with
  | none => rw [e] at q1; cases q1
  | some cd =>
    unfold findObj
    rw [e, Option.bind_some, q2, Option.bind_some]
    simp [q3, q4]
/-- what an error's class must say -/
structure MsExc (K : Frag) (D : Addr) : Prop where
  e1 : findIn K (.ref D) "__getattribute__" = some (some (.builtin "BaseException.__getattribute__"))
  e2 : findIn K (.ref D) "__getattr__" = some none
  e3 : subIn K (.ref D) (.type "BaseException") = some true
  e4 : hasDictIn K D = true
  e5 : findIn K (.ref D) "__class__" = some (some (.builtin "object.__class__"))
  e6 : specialIn K (.builtin "object.__class__") "__get__" = some (some (.builtin "getset_descriptor.__get__"))
  e7 : takesIn K (.builtin "object.__class__") = some true
  e8 : mroIn K D (.type "object") = some true
theorem ms_isC {K : Frag} {D : Addr} (c : MsExc K D) : (clsIn K D).isSome = true := by
  have h := c.e4
  unfold hasDictIn at h
  cases e : clsIn K D with
  | none => rw [e] at h; cases h
  | some cd => rfl
theorem ms_class {od : Option Obj} {Q : Option Value → Shared → Prop} (c : MsExc K D) (X : K.In s.heap) (I : InstAt s.heap x ox D od) (h : Q (some (.ref D)) { s with toks := s.toks + 1 }) : wpAny (model prog w) A (getAttr? (.ref x) "__class__") Q E s := by
  have hf := ms_find (od := od) (f := "__class__") (ms_isC c) c.e5 c.e6 c.e7
  obtain ⟨h0, gs, dr, tk, o0⟩ := s
  have a0 := I.type (M := model prog w)
  have a1 := looks_findIn (M := model prog w) X c.e1
  have a2 := looks_findIn (M := model prog w) X c.e2
  have a3 := looks_find (M := model prog w) X I hf
  have a4 : Looks (model prog w) h0 (isInstance (.ref x) (.type "BaseException")) true := a0.andThen (looks_subIn X c.e3)
  have b2 : (Value.builtin "BaseException.__getattribute__" == Value.builtin "object.__getattribute__") = false := by decide +kernel
  have b1 : (onTheHeap (Value.ref D) && Value.builtin "BaseException.__getattribute__" == Value.builtin "object.__getattribute__") = false := by rw [b2] <;> rfl
  unfold getAttr? getAttrBy? getAttrBy
  refine wpAny_bind (wpAny_mkText ?_)
  refine wpAny_bind (wpAny_attempt (wpAny_holding ?_))
  refine wpAny_bind (a0.at ?_)
  refine wpAny_bind (a1.at ?_)
  show wpAny _ _ (if (onTheHeap (Value.ref D) && Value.builtin "BaseException.__getattribute__" == Value.builtin "object.__getattribute__") = true then _ else _) _ _ _
  rw [b1, if_neg (by decide)]
  unfold getAttrByItsOwn hookBefore
  refine wpAny_bind ?_
  have on : onTheHeap (Value.ref D) = true := rfl
  rw [if_pos on]
  refine a2.at ?_
  refine wpAny_bind ?_
  refine wpAny_attempt (wpAny_holding ?_)
  unfold callGetattribute
  have b0 : (false && onTheHeap (Value.builtin "BaseException.__getattribute__")) = false := rfl
  rw [b0, if_neg (by decide)]
  unfold boundAndCalled
  rw [PySem.F.excAttr_ValueError.ga.bind (.ref x)]
  refine wpAny_bind (wpAny_pure ?_)
  show wpAny _ _ (call (.builtin "BaseException.__getattribute__") [.ref x, .str "__class__" tk]) _ _ _
  refine wpAny_call ?_
  refine codeAny_call_builtin PySem.F.excAttr_ValueError.ga.plain PySem.F.entry_bexc_ga ?_
  refine @check_slot (model prog w) _ _ ⟨h0, gs, dr, tk + 1, o0⟩ "BaseException.__getattribute__" "BaseException" "__getattribute__" (.ref x) [.str "__class__" tk] [] _ (by decide +kernel) (by decide +kernel) a4 (PySem.F.args_bexc_ga (.ref x) (.str "__class__" tk)) ?_
  unfold Builtin.«object.__getattribute__»
  refine wpAny_bind ?_
  refine wpAny_of_eq (a := ((Value.ref x : Value), [Value.str "__class__" tk])) ?_ ?_
  · first
    | rfl
    | (simp only [slotArgs]
       rfl)
  refine wpAny_bind (wpAny_pure ?_)
  refine wpAny_bind (a0.at ?_)
  refine wpAny_bind (a3.at ?_)
  show wpAny _ _ (holding [Value.builtin "object.__class__"] (call (.builtin "getset_descriptor.__get__") [.builtin "object.__class__", .ref x, .ref D]) >>= ret) _ _ _
  refine wpAny_bind (wpAny_holding (wpAny_call ?_))
  refine class_get (s := ⟨h0, gs, dr, tk + 1, o0⟩) (ox := ox) (od := od) X I c.e8 ?_
  refine wpAny_pure ?_
  show wpAny _ _ (handedOut (.ref D)) _ _ _
  rw [handedOut_of (v := .ref D) rfl]
  first
    | exact wpAny_pure (wpAny_pure h)
    | exact wpAny_pure h
    | exact wpAny_pure (wpAny_bind (wpAny_pure (wpAny_pure h)))
theorem ms_kitx (c : MsExc K D) : KitX K (.ref x) (.ref D) (fun h => ∃ od, InstAt h x ox D od) where
  ty := fun _ _ _ ⟨_, I⟩ => I.type
  it := fun _ _ X _ => by
    cases hc : clsIn K D with
    | none => have := ms_isC c; rw [hc] at this; cases this
    | some cd =>
      unfold clsIn at hc
      split at hc
      · rename_i ho
        intro A' Q' E' s' k q
        unfold isType loadHead
        exact wpAny_bind (wpAny_loadPart (k _ _ (X _ _ ho)) (wpAny_pure q))
      · cases hc
  ne := fun h tp dd its n sl X htp => by
    cases hc : clsIn K D with
    | none => have := ms_isC c; rw [hc] at this; cases this
    | some cd =>
      cases q : (Value.ref D == Value.ref tp) with
      | false => rfl
      | true =>
        have e : D = tp := Value.ref.inj (beq_iff_eq.mp q)
        subst e
        unfold clsIn at hc
        split at hc
        · rename_i ho
          have z := (X _ _ ho).symm.trans htp
          cases z
        · cases hc
  ca := fun X ⟨_, I⟩ k => ms_class c X I k
end
end PySem.W
namespace Ms
open PySem PySem.Spec PyProof.Rows L2
section
variable {X : Cx} {a D dx : Addr} {oe : Obj} {pn : List (Addr × Obj)}
/-- isinstance(e, c), e the error at hand, its dict at dx -/
theorem call_isX {C : V} {cv : Value} {b : Bool} (c : PySem.W.MsExc X.K D) (hz : Zc (.ref D) (some dx) oe) (hf : ∃ vs, oe.data = .fields vs) (hr : ∀ u, RelV C u → u = cv) (hk : PySem.W.kitOne X.K (.ref D) cv = some b) :
    CallR (X.suite a ((a, oe) :: pn)) (.builtin "isinstance") (fun xs H Q => xs = [.ref a, C] ∧ (∃ fs, H dx = some (.xd fs)) ∧ Q (.bl b) H) := by
  rintro pins s σ H xs us Q I r ⟨rfl, ⟨fs, hd⟩, q⟩
  cases r with
  | cons rx rr =>
    cases rr with
    | cons rt rr =>
      cases rr
      cases rx
      have ec := hr _ rt
      subst ec
      obtain ⟨hget, _⟩ := I.pin (a, oe) (List.mem_append.mpr (.inl List.mem_cons_self))
      obtain ⟨vs, hv⟩ := hf
      have ho : ObjOk X.prog X.w H s.heap dx (.xd fs) := I.hok dx _ hd
      obtain ⟨mA, hns, _⟩ := ho
      obtain ⟨od, ho, _⟩ := lookIn_ns hns
      have J : PySem.W.InstAt s.heap a oe D (some od) := ⟨hget, hz.1, by unfold PySem.W.notCls; rw [hv] <;> rfl, by rw [hz.2]; exact ho⟩
      exact PySem.W.kia_one (PySem.W.ms_kitx (ox := oe) c) I.kIn ⟨_, J⟩ hk (fun z => nomatch z) fun tk => ⟨.bl b, H, I.kept (t' := tk) fun _ _ z => z, rfl, q⟩
end
/-! ### list.count of flat items -/
theorem count_eqU {x : V} : ∀ {xs : List V} {us : List Value}, Vals xs us → xs.all flatV = true → us.countP (eqU x) = xs.countP fun y => eqV y x
  | _, _, .nil, _ => rfl
  | _, _, .cons r t, f => by
    rw [List.all_cons, Bool.and_eq_true] at f
    rw [List.countP_cons, List.countP_cons, count_eqU t f.2, eqU_of r f.1]
def rCntF (K : PySem.W.Frag) : V → List V → Hp → VK → Prop := fun x xs H Q => ∃ (p : Addr) (ys : List V) (y : V), x = .ref p ∧ xs = [y] ∧ flatV y = true ∧ ys.all flatV = true ∧ SqL K H p ys ∧ Q (.int (ys.countP fun z => eqV z y : Nat)) H
theorem mt_cntF {X : Cx} : MtR X "list.count" (rCntF X.K) := by
  rintro pins s σ H x xs v us Q I rx rxs ⟨p, ys, y, rfl, rfl, f1, f2, hs, q⟩
  cases rx
  obtain ⟨u, rfl, ru⟩ := rxs.one
  obtain ⟨its, rv, ⟨⟨oc, od, dt, sl⟩, n, ho, q1, q2, q3⟩, hl⟩ := I.list hs
  simp only at q1 q3
  subst q1 q3
  have ec : its.toArray.toList.countP (eqU y) = ys.countP fun z => eqV z y := count_eqU rv f2
  have road := SeqAt.list_countAt p its.toArray n od sl u (eqU y)
  refine call_meets PySem.F.slot_list_count ⟨_, ho, rfl⟩ PySem.F.entry_list_count (PySem.F.args_list_count_2 _ _) road ⟨ho, fun z hz => mem_eqAt ru f1 rv f2 z (by simpa using hz), ?_⟩
  refine ⟨.int (ys.countP fun z => eqV z y : Nat), H, I.tok _, ⟨s.toks, ?_⟩, q⟩
  show Value.int ((its.toArray.toList.countP (eqU y) : Nat) : Int) s.toks = _
  rw [ec]

/-! ### the base's __init__, named by an own class -/
/-- M: an own class of errors that has no __init__ of its own -/
structure BaseX (K : PySem.W.Frag) (M : Addr) : Prop where
  ga : PySem.W.specialIn K (.ref M) "__getattribute__" = some (some (.builtin "type.__getattribute__"))
  rd : PySem.W.readsIn K M (.type "type") = true
  at_ : PySem.W.findCls K (.ref M) (.type "type") "__init__" = some (.val (.builtin "ValueError.__init__"))
theorem pe_binit {X : Cx} {x : Str} {M : Addr} {e : Expr} {es : List Expr} {ta : TA} {p1 p2 pos : Pos} {pl : Sem Bool} (hg : Gl X x) (hm : X.mg x = some (.ref M)) (b : BaseX X.K M) (ha : PA X (e :: es) ta) (hdb : (x == ("__debug__" : Str)) = false)
    (hc : eval (.Call (.Attribute (.Name x p1) "__init__" p2) (e :: es) [] pos) X.env = (do
      let ov ← eval (.Name x p1) X.env
      standAt p2.atName
      let (f, first) ← holding [ov] (getMethod ov "__init__" pl)
      callWith pos f first (backTo pos (starEach (e :: es) X.env)) (backToKw pos (keywordEach [] X.env))))
    (he : starEach (e :: es) X.env = (false, eval e X.env) :: starEach es X.env) (hpl : (backTo pos (starEach es X.env)).any (·.1) = false) :
    PE X (.Call (.Attribute (.Name x p1) "__init__" p2) (e :: es) [] pos) (tVeI X.K ta) := by
  refine ⟨fun pins s σ H Q I h => ?_⟩
  refine PySem.W.methodCall_KW ?_ hc
  refine ld_glob I hg hm ?_ hdb
  refine PySem.W.method_cls I.kIn b.ga ?_
  refine PySem.W.cls_value I.kIn b.rd b.at_ (by rfl) ?_
  show wpAny _ _ (callWith pos (Value.builtin "ValueError.__init__") [] (backTo pos (starEach (e :: es) X.env)) []) _ _ _
  refine PyProof.Rows.callWith_method1 (thn (ha.run pos pins _ σ H _ ((I.tok _).tok _) h) fun us s1 ⟨vs, H1, I1, r1, a, C, ws, ev, hl, T, ea, q⟩ => ?_) he hpl
  subst ev
  cases r1 with
  | @cons _ u0 _ ur ra rw' =>
    cases (show u0 = Value.ref a from ra)
    refine oinit_ok T I1 ea ?_ fun s' J => ⟨.non, H1, J, rfl, q⟩
    rw [← Paired.length rw']
    exact Nat.le_trans hl (by decide)
end Ms
end
section
set_option Elab.async false
set_option linter.all false
set_option maxRecDepth 100000
set_option maxHeartbeats 4000000
/-! An error's __init__. -/
namespace Ms
open PySem PySem.Spec PyProof.Rows L2
section
variable {P : Program} {w : World} {K : PySem.W.Frag} {mg : Str → Option Value} {base : Heap} {x q nm self f g z : Str} {pr : Arguments} {sc : Scope} {a M C : Addr} {dt : FuncData} {j : Nat} {p1 p2 p3 p4 p5 p6 p7 p8 p9 p10 p11 p12 p13 p14 : Pos} {pl : PySem.Env → Sem Bool}
theorem vis_par {N ps : List Str} {sc : Scope} (S : FnScope N ps sc) {y : Str} (h : y ∈ ps) : Vis sc y := (S.par y h).elim .inl fun h => .inr (.inl h)
/-- one field -/
theorem init1 (F : FunD K nm q pr [.Expr (.Call (.Attribute (.Name x p1) "__init__" p2) [.Name self p3, .Constant (.str z) j p4] [] p5) p6, .Assign [.Attribute (.Name self p7) f p8] (.Name f p9) p10] sc [] [] a dt) (S : FnScope [self, f] [self, f] sc)
    (hx : sc.names.lookup x = some .globalImplicit) (hm : mg x = some (.ref M)) (b : BaseX K M) (T : OexC K C) (hno : PySem.W.findIn K (.ref C) f = some none)
    (hdx : (x == ("__debug__" : Str)) = false) (hs1 : nameB self = true) (hf1 : nameB f = true)
    (hc : ∀ env : PySem.Env, eval (.Call (.Attribute (.Name x p1) "__init__" p2) [.Name self p3, .Constant (.str z) j p4] [] p5) env = (do
      let ov ← eval (.Name x p1) env
      standAt p2.atName
      let (f, first) ← holding [ov] (getMethod ov "__init__" (pl env))
      callWith p5 f first (backTo p5 (starEach [.Name self p3, .Constant (.str z) j p4] env)) (backToKw p5 (keywordEach [] env)))) :
    FnOk P w K mg base (L2.CX P w) 1 a dt [self, f] (spX K C [f]) := by
  refine F.ok S (fun vs H Q E ⟨e, ws, h1, h2, _⟩ => by rw [h1]; simpa using h2) fun cdv A outer s H vs Q E hr h => ⟨_, pss_cons (ps_expr (pe_binit hx hm b (pa_cons (pe_var (i := 0) rfl (vis_par S (by simp)) (nameB_ok hs1).1 (nameB_ok hs1).2) (pa_cons pe_str pa_nil)) hdx (hc _) rfl rfl))
    (pss_one (ps_ost (pe_var (i := 0) rfl (vis_par S (by simp)) (nameB_ok hs1).1 (nameB_ok hs1).2) (pe_var (i := 1) rfl (vis_par S (by simp)) (nameB_ok hf1).1 (nameB_ok hf1).2))), ?_⟩
  obtain ⟨e, ws, rfl, h2, h3, h4⟩ := h
  match ws, h2 with
  | [y], _ => exact ⟨_, rfl, e, C, [.str z], rfl, by simp, T, h3, _, rfl, _, rfl, e, C, rfl, T, hno, .inl ⟨h3, fun dx hd hda => h4 dx hd hda⟩⟩
/-- two fields -/
theorem init2 (F : FunD K nm q pr [.Expr (.Call (.Attribute (.Name x p1) "__init__" p2) [.Name self p3, .Constant (.str z) j p4] [] p5) p6, .Assign [.Attribute (.Name self p7) f p8] (.Name f p9) p10, .Assign [.Attribute (.Name self p11) g p12] (.Name g p13) p14] sc [] [] a dt) (S : FnScope [self, f, g] [self, f, g] sc)
    (hx : sc.names.lookup x = some .globalImplicit) (hm : mg x = some (.ref M)) (b : BaseX K M) (T : OexC K C) (hno : PySem.W.findIn K (.ref C) f = some none) (hno2 : PySem.W.findIn K (.ref C) g = some none)
    (hdx : (x == ("__debug__" : Str)) = false) (hs1 : nameB self = true) (hf1 : nameB f = true) (hg1 : nameB g = true)
    (hc : ∀ env : PySem.Env, eval (.Call (.Attribute (.Name x p1) "__init__" p2) [.Name self p3, .Constant (.str z) j p4] [] p5) env = (do
      let ov ← eval (.Name x p1) env
      standAt p2.atName
      let (f, first) ← holding [ov] (getMethod ov "__init__" (pl env))
      callWith p5 f first (backTo p5 (starEach [.Name self p3, .Constant (.str z) j p4] env)) (backToKw p5 (keywordEach [] env)))) :
    FnOk P w K mg base (L2.CX P w) 1 a dt [self, f, g] (spX K C [f, g]) := by
  refine F.ok S (fun vs H Q E ⟨e, ws, h1, h2, _⟩ => by rw [h1]; simpa using h2) fun cdv A outer s H vs Q E hr h => ⟨_, pss_cons (ps_expr (pe_binit hx hm b (pa_cons (pe_var (i := 0) rfl (vis_par S (by simp)) (nameB_ok hs1).1 (nameB_ok hs1).2) (pa_cons pe_str pa_nil)) hdx (hc _) rfl rfl))
    (pss_cons (ps_ost (pe_var (i := 0) rfl (vis_par S (by simp)) (nameB_ok hs1).1 (nameB_ok hs1).2) (pe_var (i := 1) rfl (vis_par S (by simp)) (nameB_ok hf1).1 (nameB_ok hf1).2))
      (pss_one (ps_ost (pe_var (i := 0) rfl (vis_par S (by simp)) (nameB_ok hs1).1 (nameB_ok hs1).2) (pe_var (i := 2) rfl (vis_par S (by simp)) (nameB_ok hg1).1 (nameB_ok hg1).2)))), ?_⟩
  obtain ⟨e, ws, rfl, h2, h3, h4⟩ := h
  match ws, h2 with
  | [y, y2], _ =>
    refine ⟨_, rfl, e, C, [.str z], rfl, by simp, T, h3, _, rfl, _, rfl, e, C, rfl, T, hno, .inl ⟨h3, fun dx hd hda => ?_⟩⟩
    refine ⟨_, rfl, _, rfl, e, C, rfl, T, hno2, .inr ⟨dx, [(f, y)], upd_same, by rw [upd_ne hda, upd_same], by simp, ?_⟩⟩
    have eH : upd (upd (upd H dx (exd dx [(f, y)])) e (exo e C (some dx))) dx (exd dx [(g, y2), (f, y)]) = upd (upd H dx (exd dx [(g, y2), (f, y)])) e (exo e C (some dx)) := by
      funext b
      by_cases hb : b = dx
      · rw [hb, upd_same, upd_ne hda, upd_same]
      · rw [upd_ne hb]
        by_cases he : b = e
        · rw [he, upd_same, upd_same]
        · rw [upd_ne he, upd_ne he, upd_ne hb, upd_ne hb]
    show Q .non _
    rw [eH]
    exact h4 dx hd hda
end
end Ms
end
section
set_option Elab.async false
set_option linter.all false
set_option maxRecDepth 100000
set_option maxHeartbeats 4000000
/-! What is asked of the classes of errors. -/
namespace Ms
open PySem PySem.Spec PyProof.Rows L2
/-- the class of errors number c -/
def clsOf (K : PySem.W.Frag) (c : Nat) : Addr := He.ga K (excNames.getD c "")
def msxB (K : PySem.W.Frag) (D : Addr) : Bool :=
  decide (PySem.W.findIn K (.ref D) "__getattribute__" = some (some (.builtin "BaseException.__getattribute__"))) && decide (PySem.W.findIn K (.ref D) "__getattr__" = some none) && decide (PySem.W.subIn K (.ref D) (.type "BaseException") = some true) && PySem.W.hasDictIn K D &&
    decide (PySem.W.findIn K (.ref D) "__class__" = some (some (.builtin "object.__class__"))) && decide (PySem.W.specialIn K (.builtin "object.__class__") "__get__" = some (some (.builtin "getset_descriptor.__get__"))) && decide (PySem.W.takesIn K (.builtin "object.__class__") = some true) &&
    decide (PySem.W.mroIn K D (.type "object") = some true)
theorem msxB_ok {K : PySem.W.Frag} {D : Addr} (h : msxB K D = true) : PySem.W.MsExc K D := by
  simp only [msxB, Bool.and_eq_true, decide_eq_true_eq] at h
  obtain ⟨⟨⟨⟨⟨⟨⟨h1, h2⟩, h3⟩, h4⟩, h5⟩, h6⟩, h7⟩, h8⟩ := h
  exact ⟨h1, h2, h3, h4, h5, h6, h7, h8⟩
def oexB (K : PySem.W.Frag) (C : Addr) : Bool := (match K.lookup C with
  | some ⟨.type "type", _, .cls cd, sl⟩ => (match cd.mro, sl.toList with
    | .ref C' :: bm, [_, _, _, _, some (.builtin n), _] => C' == C && n == "ValueError.__new__" && !cd.hasDel && cd.hasDict && PySem.HandSPX.refsVE bm
    | _, _ => false)
  | _ => false) && decide (PySem.W.findIn K (.ref C) "__setattr__" = some (some (.builtin "object.__setattr__"))) && decide (PySem.W.subIn K (.ref C) (.type "BaseException") = some true) && decide (PySem.W.typeIn K (.ref C) = some (.type "type")) && PySem.W.keepIn K (.ref C)
theorem oexB_ok {K : PySem.W.Frag} {C : Addr} (h : oexB K C = true) : OexC K C := by
  simp only [oexB, Bool.and_eq_true, decide_eq_true_eq] at h
  obtain ⟨⟨⟨⟨q, h2⟩, h3⟩, h4⟩, h5⟩ := h
  refine ⟨?_, h2, h3, h4, h5⟩
  split at q
  · rename_i dd cd sl ho
    split at q
    · rename_i C' bm k0 k1 k2 k3 n k5 hm hs
      simp only [Bool.and_eq_true, beq_iff_eq, Bool.not_eq_true'] at q
      obtain ⟨⟨⟨⟨rfl, rfl⟩, hdel⟩, hdi⟩, hre⟩ := q
      obtain ⟨nm, bs, mro, ns, qn, hd, sn, sub, ab, col, del⟩ := cd
      dsimp only at hm hdel hdi
      subst hm hdel hdi
      have hsl : sl = #[k0, k1, k2, k3, some (.builtin "ValueError.__new__"), k5] := by
        obtain ⟨l⟩ := sl
        simp only at hs
        rw [hs]
      subst hsl
      exact ⟨nm, qn, ns, bs, bm, sn, sub, ab, col, dd, k0, k1, k2, k3, k5, ho, hre⟩
    · cases q
  · cases q
def baseB (K : PySem.W.Frag) (M : Addr) : Bool :=
  decide (PySem.W.specialIn K (.ref M) "__getattribute__" = some (some (.builtin "type.__getattribute__"))) && PySem.W.readsIn K M (.type "type") && (match PySem.W.findCls K (.ref M) (.type "type") "__init__" with
    | some (.val v) => decide (v = .builtin "ValueError.__init__")
    | _ => false)
theorem baseB_ok {K : PySem.W.Frag} {M : Addr} (h : baseB K M = true) : BaseX K M := by
  simp only [baseB, Bool.and_eq_true, decide_eq_true_eq] at h
  refine ⟨h.1.1, h.1.2, ?_⟩
  have q := h.2
  split at q
  · rename_i v e
    rw [e, of_decide_eq_true q]
  · cases q
def xFields : List Str := ["scheme", "place", "number"]
/-- one class -/
def oneB (K : PySem.W.Frag) (c : Nat) : Bool :=
  msxB K (clsOf K c) && ((List.range 6).all fun j => decide (PySem.W.kitOne K (.ref (clsOf K c)) (.ref (clsOf K j)) = some (decide (c = j)))) && decide (PySem.W.kitOne K (.ref (clsOf K c)) (.type "ValueError") = some true) &&
    decide (PySem.W.exmOne K (.ref (clsOf K c)) (.ref (He.ga K "MarkError")) = some true) && (xFields.all fun f => decide (PySem.W.findIn K (.ref (clsOf K c)) f = some none))
/-- all of it; own: those with fields -/
def exB (own : List Nat) (K : PySem.W.Frag) : Bool := ((List.range 6).all (oneB K)) && baseB K (He.ga K "MarkError") && own.all fun c => oexB K (clsOf K c)
structure XFacts (K : PySem.W.Frag) (own : List Nat) : Prop where
  msx : ∀ c, c < 6 → PySem.W.MsExc K (clsOf K c)
  kit : ∀ c j, c < 6 → j < 6 → PySem.W.kitOne K (.ref (clsOf K c)) (.ref (clsOf K j)) = some (decide (c = j))
  kitV : ∀ c, c < 6 → PySem.W.kitOne K (.ref (clsOf K c)) (.type "ValueError") = some true
  exm : ∀ c, c < 6 → PySem.W.exmOne K (.ref (clsOf K c)) (.ref (He.ga K "MarkError")) = some true
  noat : ∀ c, c < 6 → ∀ f ∈ xFields, PySem.W.findIn K (.ref (clsOf K c)) f = some none
  base : BaseX K (He.ga K "MarkError")
  oex : ∀ c ∈ own, OexC K (clsOf K c)
theorem exB_ok {K : PySem.W.Frag} {own : List Nat} (h : exB own K = true) : XFacts K own := by
  simp only [exB, Bool.and_eq_true] at h
  obtain ⟨⟨h1, h2⟩, h3⟩ := h
  have one : ∀ c, c < 6 → oneB K c = true := fun c hc => List.all_eq_true.mp h1 c (List.mem_range.mpr hc)
  have parts : ∀ c, c < 6 → _ := fun c hc => by
    have q := one c hc
    simp only [oneB, Bool.and_eq_true, decide_eq_true_eq] at q
    exact q
  exact ⟨fun c hc => msxB_ok (parts c hc).1.1.1.1, fun c j hc hj => of_decide_eq_true (List.all_eq_true.mp (parts c hc).1.1.1.2 j (List.mem_range.mpr hj)), fun c hc => (parts c hc).1.1.2, fun c hc => (parts c hc).1.2,
    fun c hc f hf => of_decide_eq_true (List.all_eq_true.mp (parts c hc).2 f hf), baseB_ok h2, fun c hc => oexB_ok (List.all_eq_true.mp h3 c hc)⟩
theorem XFacts.xf {K : PySem.W.Frag} {own : List Nat} (F : XFacts K own) {c : Nat} (hc : c < 6) : XfC K (clsOf K c) := ⟨(F.msx c hc).e1, (F.msx c hc).e2, (F.msx c hc).e3, (F.msx c hc).e4⟩
end Ms
end
section
set_option Elab.async false
set_option linter.all false
set_option maxRecDepth 100000
set_option maxHeartbeats 4000000
/-! The head's facts, the statics among them. -/
namespace Ms
open PySem PySem.Spec PyProof.Rows L2 He PySem.W
/-- what is read of the heap -/
def frY (g : Addr → Option Obj) (n : Nat) : PySem.W.Frag := frT g (cStatics :: asD g n)
def obsY (n : Nat) (fa : List Fa) (fn : List DefD) (tf : List Defn) (ex : PySem.W.Frag → Bool) (g : Addr → Option Obj) : AlX :=
  let K := frY g n
  (obsT fa fn [] K, ex K && tabsB g tf K)
theorem saysY_of {n : Nat} {fa : List Fa} {fn : List DefD} {tf : List Defn} {ex : PySem.W.Frag → Bool} {w : World} {h : Heap} (e : obsY n fa fn tf ex h.get? = valX fn [] w) : SaysX fa fn [] tf ex w h (frY h.get? n) := by
  obtain ⟨e1, e2⟩ := Prod.mk.inj (show (obsT fa fn [] (frY h.get? n), ex (frY h.get? n) && tabsB h.get? tf (frY h.get? n)) = (valT fn [] w, true) from e)
  obtain ⟨x1, x2⟩ := ba e2
  have tb : ∀ p ∈ tf, _ := fun p hp => ba (List.all_eq_true.mp x2 p hp)
  have obj : ∀ p ∈ tf, ∃ o, h.get? (cT (frY h.get? n) p).2 = some o ∧ emptyTab o = true := fun p hp => by
    have q := (tb p hp).2
    cases z : h.get? (cT (frY h.get? n) p).2 with
    | none => rw [z] at q; cases q
    | some o => rw [z] at q; exact ⟨o, rfl, q⟩
  refine ⟨e1, x1, fun p hp => (tb p hp).1, fun p hp => ?_, fun p hp => ?_⟩
  · obtain ⟨o, z1, z2⟩ := obj p hp
    exact frT_none z1 z2
  · obtain ⟨o, z1, z2⟩ := obj p hp
    rw [z1, emptyTab_eq z2]
def hookY (n : Nat) (fa : List Fa) (fn : List DefD) (tf : List Defn) (ex : PySem.W.Frag → Bool) : PySem.W.Hook where
  α := AlX
  obs := fun s => obsY n fa fn tf ex s.heap.get?
  val := fun w => valX fn [] w
  says := fun w h => ∃ K : PySem.W.Frag, K.In h ∧ SaysX fa fn [] tf ex w h K
  of := fun _ _ e => ⟨_, frT_in, saysY_of e⟩
  keeps := fun _ _ _ ⟨K, hK, c⟩ k => ⟨K, PySem.W.Frag.In.keeps hK k, ⟨c.t, c.more, c.hd, c.out, fun p hp => k _ _ (c.empty p hp)⟩⟩
theorem obsY_eq {n : Nat} {fa : List Fa} {fn : List DefD} {tf : List Defn} {ex : PySem.W.Frag → Bool} {g : Addr → Option Obj} {s : Shared} (h : ∀ a, g a = s.heap.get? a) : obsY n fa fn tf ex g = (hookY n fa fn tf ex).obs s := by
  have e : g = s.heap.get? := funext h
  rw [e] <;> rfl
end Ms
end
section
set_option Elab.async false
set_option linter.all false
set_option maxRecDepth 100000
set_option maxHeartbeats 4000000
namespace K14
open PySem PySem.Spec PyProof.Rows L2 Ms
def top (i : Nat) : Stmt := PySem.Challenge.pw_markscript_k14_works_texts_refused.main.body.getD i (.Pass ⟨0, 0, 0, 0⟩)
abbrev sTold : Stmt := top 25
abbrev Nt : List Str := ["_law_work_here", "e", "_law_kinds", "_law_word"]
section
variable {P : Program} {w : World} {K : PySem.W.Frag} {mg : Str → Option Value} {base : Heap} {g : Addr} {cdg : Value} {A : Around} {outer : List PySem.Env} {s : Shared} {H0 : Hp}
abbrev Ct (P : Program) (w : World) (K : PySem.W.Frag) (mg : Str → Option Value) (base : Heap) (g : Addr) (cdg : Value) (A : Around) (outer : List PySem.Env) (s : Shared) (H0 : Hp) : Cx :=
  (cxOf C8.CX0 P w K mg base Nt "_law_told" (defScope sTold) g cdg A outer s H0 C8.E0).nox
/-- the names that it uses -/
structure Names3 (K : PySem.W.Frag) (mg : Str → Option Value) : Prop where
  cl : ∀ c n, excNames[c]? = some n → mg n = some (.ref (clsOf K c))
  mrk : mg "MarkError" = some (.ref (He.ga K "MarkError"))
  isi : mg "isinstance" = none
  ve : mg "ValueError" = none
theorem lkI : (defScope sTold).names.lookup ("isinstance" : Str) = some .globalImplicit := by decide +kernel
theorem lkE : (defScope sTold).names.lookup ("e" : Str) = some .local := by decide +kernel
theorem lkV : (defScope sTold).names.lookup ("ValueError" : Str) = some .globalImplicit := by decide +kernel
theorem lkM : (defScope sTold).names.lookup ("MarkError" : Str) = some .globalImplicit := by decide +kernel
theorem lk2 : (defScope sTold).names.lookup ("_law_kinds" : Str) = some .local := by decide +kernel
theorem lk3 : (defScope sTold).names.lookup ("_law_word" : Str) = some .local := by decide +kernel
theorem ndT : Nt.Nodup := by decide +kernel
variable {a dx : Addr} {oe : Obj} {c : Nat} {pn : List (Addr × Obj)} {own : List Nat}
theorem pe_is {j : Nat} {n : Str} {p1 p2 p3 p4 : Pos} (F : XFacts K own) (M : Names3 K mg) (hc : c < 6) (hz : Zc (.ref (clsOf K c)) (some dx) oe) (hf : ∃ vs, oe.data = .fields vs) (hj : j < 6) (hn : excNames[j]? = some n) (hg : (defScope sTold).names.lookup n = some .globalImplicit) (hd : (n == ("__debug__" : Str)) = false) :
    PE ((Ct P w K mg base g cdg A outer s H0).suite a ((a, oe) :: pn)) (.Call (.Name "isinstance" p1) [.Name "e" p2, .Name n p3] [] p4) (fun σ H Q => σ[1]? = some (some (.ref a)) ∧ (∃ fs, H dx = some (.xd fs)) ∧ Q (.bl (decide (c = j))) H) :=
  PE.imp (pe_callB (call_isX (X := Ct P w K mg base g cdg A outer s H0) (C := .ref (clsOf K j)) (F.msx c hc) hz hf (fun u r => r) (F.kit c j hc hj)) lkI M.isi (by decide +kernel) (pa_cons (pe_var (i := 1) rfl (.inl lkE)) (pa_cons (pe_glob (v := .ref (clsOf K j)) hg (M.cl j n hn) rfl hd) pa_nil))) fun σ H Q ⟨h1, h2, h3⟩ => ⟨_, h1, rfl, h2, h3⟩
theorem pe_isV {p1 p2 p3 p4 : Pos} (F : XFacts K own) (M : Names3 K mg) (hc : c < 6) (hz : Zc (.ref (clsOf K c)) (some dx) oe) (hf : ∃ vs, oe.data = .fields vs) :
    PE ((Ct P w K mg base g cdg A outer s H0).suite a ((a, oe) :: pn)) (.Call (.Name "isinstance" p1) [.Name "e" p2, .Name "ValueError" p3] [] p4) (fun σ H Q => σ[1]? = some (some (.ref a)) ∧ (∃ fs, H dx = some (.xd fs)) ∧ Q (.bl true) H) :=
  PE.imp (pe_callB (call_isX (X := Ct P w K mg base g cdg A outer s H0) (C := .ty "ValueError") (F.msx c hc) hz hf (fun u r => r) (F.kitV c hc)) lkI M.isi (by decide +kernel) (pa_cons (pe_var (i := 1) rfl (.inl lkE)) (pa_cons (pe_bltn (v := .ty "ValueError") (u := .type "ValueError") lkV M.ve (by decide +kernel) rfl) pa_nil))) fun σ H Q ⟨h1, h2, h3⟩ => ⟨_, h1, rfl, h2, h3⟩
theorem pe_fld {n : Str} {p1 p2 : Pos} (F : XFacts K own) (hc : c < 6) (hz : Zc (.ref (clsOf K c)) (some dx) oe) (hf : ∃ vs, oe.data = .fields vs) (hn : n ∈ xFields) :
    PE ((Ct P w K mg base g cdg A outer s H0).suite a ((a, oe) :: pn)) (.Attribute (.Name "e" p1) n p2) (fun σ H Q => σ[1]? = some (some (.ref a)) ∧ ∃ fs v, H dx = some (.xd fs) ∧ fs.lookup n = some v ∧ Q v H) :=
  PE.imp (pe_xf (X := Ct P w K mg base g cdg A outer s H0) (F.xf hc) (F.noat c hc n hn) hz hf (pe_var (i := 1) rfl (.inl lkE))) fun σ H Q ⟨h1, fs, v, h2, h3, h4⟩ => ⟨_, h1, rfl, rfl, dx, fs, v, rfl, h2, h3, h4⟩
/-- what the suite comes to -/
def tSu (K : PySem.W.Frag) (c : Nat) (a dx : Addr) : TS := fun D σ H => ∃ fvs ws, H dx = some (.xd fvs) ∧ wordsOf V.str V.int c fvs = some ws ∧ ∀ (H2 : Hp) (p : Addr), Same H H2 → H p = none → H2 p = some (.tup ws) → D.rt (.ref p) H2
def suiteOf : List Stmt → List Stmt
  | .Try _ (.ExceptHandler _ _ b _ :: _) _ _ _ :: _ => b
  | _ => []
theorem suite_ok (F : XFacts K own) (M : Names3 K mg) (hc : c < 6) (hz : Zc (.ref (clsOf K c)) (some dx) oe) (hf : ∃ vs, oe.data = .fields vs) :
    ∃ t, PSs ((Ct P w K mg base g cdg A outer s H0).suite a ((a, oe) :: pn)) (suiteOf (defBody sTold)) t ∧ ∀ D σ H, σ.length = 4 → σ[1]? = some (some (.ref a)) → tSu K c a dx D σ H → t D σ H := by
  have is : ∀ (j : Nat) (n : Str) (p1 p2 p3 p4 : Pos), _ := fun j n p1 p2 p3 p4 => pe_is (P := P) (w := w) (K := K) (mg := mg) (base := base) (g := g) (cdg := cdg) (A := A) (outer := outer) (s := s) (H0 := H0) (pn := pn) (a := a) (j := j) (n := n) (p1 := p1) (p2 := p2) (p3 := p3) (p4 := p4) F M hc hz hf
  refine ⟨_, pss_cons (ps_set (i := 2) ndT rfl (.inl lk2) (pe_lst (pa_cons (is 0 "BadPaper" _ _ _ _ (by decide) rfl (by decide +kernel) (by decide +kernel)) (pa_cons (is 1 "BadWork" _ _ _ _ (by decide) rfl (by decide +kernel) (by decide +kernel)) (pa_cons (is 2 "BadStep" _ _ _ _ (by decide) rfl (by decide +kernel) (by decide +kernel)) (pa_cons (is 3 "BadCount" _ _ _ _ (by decide) rfl (by decide +kernel) (by decide +kernel)) pa_nil))))))
      (pss_cons (ps_set (i := 2) ndT rfl (.inl lk2) (pe_op op_cat (pe_var (i := 2) rfl (.inl lk2)) (pe_lst (pa_cons (is 4 "NoWork" _ _ _ _ (by decide) rfl (by decide +kernel) (by decide +kernel)) (pa_cons (is 5 "BadText" _ _ _ _ (by decide) rfl (by decide +kernel) (by decide +kernel)) pa_nil)))))
      (pss_cons (ps_if (PW.pt (pw_or (pt_cmpR op_ne (pe_bm PySem.F.plainAttrs_list PySem.F.slot_list_count PySem.F.type_list_count mt_cntF (pe_var (i := 2) rfl (.inl lk2)) (pa_cons pe_bl pa_nil)) pe_int rfl) (pw_or1 (pt_not (pt_val (pe_isV F M hc hz hf)))))) (pss_one (ps_ret (pe_tup (pa_cons pe_str (pa_cons pe_int pa_nil))))) pss_nil)
      (pss_cons (ps_set (i := 3) ndT rfl (.inl lk3) (pe_ix ix_list (pe_lst (pa_cons pe_str (pa_cons pe_str (pa_cons pe_str (pa_cons pe_str (pa_cons pe_str (pa_cons pe_str pa_nil))))))) (pe_bm PySem.F.plainAttrs_list PySem.F.slot_list_index PySem.F.type_list_index mt_index (pe_var (i := 2) rfl (.inl lk2)) (pa_cons pe_bl pa_nil)) (fun _ _ => rfl)))
      (pss_cons (ps_if (pt_cmpR op_eq (pe_var (i := 3) rfl (.inl lk3)) pe_str rfl) (pss_one (ps_ret (pe_tup (pa_cons (pe_var (i := 3) rfl (.inl lk3)) (pa_cons (pe_fld F hc hz hf (by decide +kernel)) (pa_cons (pe_fld F hc hz hf (by decide +kernel)) pa_nil)))))) pss_nil)
      (pss_one (ps_ret (pe_tup (pa_cons (pe_var (i := 3) rfl (.inl lk3)) (pa_cons (pe_ifExp (pt_cmpR op_eq (pe_var (i := 3) rfl (.inl lk3)) pe_str rfl) (pe_fld F hc hz hf (by decide +kernel)) (pe_ifExp (pt_cmpR op_eq (pe_var (i := 3) rfl (.inl lk3)) pe_str rfl) (pe_fld F hc hz hf (by decide +kernel)) pe_int)) pa_nil))))))))), ?_⟩
  rintro D σ H hl ha ⟨fvs, ws, hd, hw, q⟩
  refine ⟨ha, ⟨fvs, hd⟩, ha, ⟨fvs, hd⟩, ha, ⟨fvs, hd⟩, ha, ⟨fvs, hd⟩, by show 4 ≤ sizeLine; decide, fun p1 hp1 => ?_⟩
  have g1 : ∀ (σ : L2.St) (v : V), σ.length = 4 → (σ.set 2 (some v))[2]? = some (some v) := fun σ v h => List.getElem?_set_self (by omega)
  have g2 : ∀ (σ : L2.St) (o : Option V), (σ.set 2 o)[1]? = σ[1]? := fun σ o => List.getElem?_set_ne (by decide)
  have d1 : ∀ (H1 : Hp) (p : Addr) (o : HO), H1 p = none → Same H H1 → Same H (upd H1 p o) := fun H1 p o hp sm b u e => by rw [upd_ne (ne_of_none (sm b u e) hp)]; exact sm b u e
  have s1 := d1 H p1 (.lst [.bl (decide (c = 0)), .bl (decide (c = 1)), .bl (decide (c = 2)), .bl (decide (c = 3))]) hp1 (Same.refl H)
  refine ⟨_, g1 σ _ hl, (g2 _ _).trans ha, ⟨fvs, s1 _ _ hd⟩, (g2 _ _).trans ha, ⟨fvs, s1 _ _ hd⟩, by show 2 ≤ sizeLine; decide, fun p2 hp2 => ?_⟩
  refine ⟨p1, p2, _, _, rfl, rfl, by rw [upd_ne (ne_of_none upd_same hp2), upd_same], upd_same, by show 6 ≤ sizeLine; decide, fun p3 hp3 => ?_⟩
  have s2 := d1 _ p2 (.lst [.bl (decide (c = 4)), .bl (decide (c = 5))]) hp2 s1
  have s3 := d1 _ p3 (.lst ([.bl (decide (c = 0)), .bl (decide (c = 1)), .bl (decide (c = 2)), .bl (decide (c = 3))] ++ [.bl (decide (c = 4)), .bl (decide (c = 5))])) hp3 s2
  have hl1 : (σ.set 2 (some (V.ref p1))).length = 4 := by rw [List.length_set]; exact hl
  have k2 := g1 (σ.set 2 (some (.ref p1))) (.ref p3) hl1
  have k1 : ((σ.set 2 (some (V.ref p1))).set 2 (some (V.ref p3)))[1]? = some (some (.ref a)) := (g2 _ _).trans ((g2 _ _).trans ha)
  have hl2 : ((σ.set 2 (some (V.ref p1))).set 2 (some (V.ref p3))).length = 4 := by rw [List.length_set]; exact hl1
  dsimp only [gName]
  revert k2 k1 hl2
  generalize (σ.set 2 (some (V.ref p1))).set 2 (some (V.ref p3)) = σ2
  intro k2 k1 hl2
  have u3 : upd (upd (upd H p1 (.lst [.bl (decide (c = 0)), .bl (decide (c = 1)), .bl (decide (c = 2)), .bl (decide (c = 3))])) p2 (.lst [.bl (decide (c = 4)), .bl (decide (c = 5))])) p3 (.lst ([.bl (decide (c = 0)), .bl (decide (c = 1)), .bl (decide (c = 2)), .bl (decide (c = 3))] ++ [.bl (decide (c = 4)), .bl (decide (c = 5))])) p3 = some (.lst [.bl (decide (c = 0)), .bl (decide (c = 1)), .bl (decide (c = 2)), .bl (decide (c = 3)), .bl (decide (c = 4)), .bl (decide (c = 5))]) := upd_same
  revert s3 u3
  generalize upd (upd (upd H p1 (.lst [.bl (decide (c = 0)), .bl (decide (c = 1)), .bl (decide (c = 2)), .bl (decide (c = 3))])) p2 (.lst [.bl (decide (c = 4)), .bl (decide (c = 5))])) p3 (.lst ([.bl (decide (c = 0)), .bl (decide (c = 1)), .bl (decide (c = 2)), .bl (decide (c = 3))] ++ [.bl (decide (c = 4)), .bl (decide (c = 5))])) = H3
  intro s3 u3
  have six : c = 0 ∨ c = 1 ∨ c = 2 ∨ c = 3 ∨ c = 4 ∨ c = 5 := by omega
  clear hc hz is F
  rcases six with rfl | rfl | rfl | rfl | rfl | rfl
  · refine ⟨_, k2, .inl ⟨rfl, _, SqL.of u3⟩, p3, _, .bl true, rfl, rfl, rfl, rfl, SqL.of u3, rfl, _, rfl, iteF ⟨k1, ⟨fvs, s3 _ _ hd⟩, _, rfl, iteF ?_⟩⟩
    refine ⟨by show 6 ≤ sizeLine; decide, fun p4 hp4 => ⟨_, k2, .inl ⟨rfl, _, SqL.of ((upd_ne (ne_of_none u3 hp4)).trans u3)⟩, p3, _, .bl true, 0, .bl true, rfl, rfl, SqL.of ((upd_ne (ne_of_none u3 hp4)).trans u3), rfl, rfl, rfl, rfl, ?_, p4, _, _, .str "BadPaper", rfl, rfl, SqL.of upd_same, rfl, ?_⟩⟩
    · intro m z hm hz
      match m, hm with
      | m, hm => omega
    have s4 := d1 H3 p4 (.lst [.str "BadPaper", .str "BadWork", .str "BadStep", .str "BadCount", .str "NoWork", .str "BadText"]) hp4 s3
    have k3 : (σ2.set 3 (some (.str "BadPaper")))[3]? = some (some (.str "BadPaper")) := List.getElem?_set_self (by omega)
    have k4 : (σ2.set 3 (some (.str "BadPaper")))[1]? = some (some (.ref a)) := (List.getElem?_set_ne (by decide)).trans k1
    dsimp only [gName]
    cases q1 : fvs.lookup ("scheme" : Str) with
    | none => simp [Ms.wordsOf, q1] at hw
    | some v1 =>
      cases q2 : fvs.lookup ("place" : Str) with
      | none => simp [Ms.wordsOf, q1, q2] at hw
      | some v2 =>
        simp only [Ms.wordsOf, q1, q2, Option.some.injEq] at hw
        subst hw
        exact ⟨_, k3, rfl, _, rfl, iteT ⟨_, k3, k4, fvs, v1, s4 _ _ hd, q1, k4, fvs, v2, s4 _ _ hd, q2, by show 3 ≤ sizeLine; decide, fun p hp => q _ p (d1 _ p _ hp s4) (by cases z : H p with | none => rfl | some o => rw [s4 _ _ z] at hp; cases hp) upd_same⟩⟩
  · refine ⟨_, k2, .inl ⟨rfl, _, SqL.of u3⟩, p3, _, .bl true, rfl, rfl, rfl, rfl, SqL.of u3, rfl, _, rfl, iteF ⟨k1, ⟨fvs, s3 _ _ hd⟩, _, rfl, iteF ?_⟩⟩
    refine ⟨by show 6 ≤ sizeLine; decide, fun p4 hp4 => ⟨_, k2, .inl ⟨rfl, _, SqL.of ((upd_ne (ne_of_none u3 hp4)).trans u3)⟩, p3, _, .bl true, 1, .bl true, rfl, rfl, SqL.of ((upd_ne (ne_of_none u3 hp4)).trans u3), rfl, rfl, rfl, rfl, ?_, p4, _, _, .str "BadWork", rfl, rfl, SqL.of upd_same, rfl, ?_⟩⟩
    · intro m z hm hz
      match m, hm with
      | 0, _ => cases hz; rfl
    have s4 := d1 H3 p4 (.lst [.str "BadPaper", .str "BadWork", .str "BadStep", .str "BadCount", .str "NoWork", .str "BadText"]) hp4 s3
    have k3 : (σ2.set 3 (some (.str "BadWork")))[3]? = some (some (.str "BadWork")) := List.getElem?_set_self (by omega)
    have k4 : (σ2.set 3 (some (.str "BadWork")))[1]? = some (some (.ref a)) := (List.getElem?_set_ne (by decide)).trans k1
    dsimp only [gName]
    cases q1 : fvs.lookup ("number" : Str) with
    | none => simp [Ms.wordsOf, q1] at hw
    | some v1 =>
      simp only [Ms.wordsOf, q1, Option.map_some, Option.some.injEq] at hw
      subst hw
      exact ⟨_, k3, rfl, _, rfl, iteF ⟨_, k3, _, k3, rfl, _, rfl, iteT ⟨k4, fvs, v1, s4 _ _ hd, q1, by show 2 ≤ sizeLine; decide, fun p hp => q _ p (d1 _ p _ hp s4) (by cases z : H p with | none => rfl | some o => rw [s4 _ _ z] at hp; cases hp) upd_same⟩⟩⟩
  · refine ⟨_, k2, .inl ⟨rfl, _, SqL.of u3⟩, p3, _, .bl true, rfl, rfl, rfl, rfl, SqL.of u3, rfl, _, rfl, iteF ⟨k1, ⟨fvs, s3 _ _ hd⟩, _, rfl, iteF ?_⟩⟩
    refine ⟨by show 6 ≤ sizeLine; decide, fun p4 hp4 => ⟨_, k2, .inl ⟨rfl, _, SqL.of ((upd_ne (ne_of_none u3 hp4)).trans u3)⟩, p3, _, .bl true, 2, .bl true, rfl, rfl, SqL.of ((upd_ne (ne_of_none u3 hp4)).trans u3), rfl, rfl, rfl, rfl, ?_, p4, _, _, .str "BadStep", rfl, rfl, SqL.of upd_same, rfl, ?_⟩⟩
    · intro m z hm hz
      match m, hm with
      | 0, _ => cases hz; rfl
      | 1, _ => cases hz; rfl
    have s4 := d1 H3 p4 (.lst [.str "BadPaper", .str "BadWork", .str "BadStep", .str "BadCount", .str "NoWork", .str "BadText"]) hp4 s3
    have k3 : (σ2.set 3 (some (.str "BadStep")))[3]? = some (some (.str "BadStep")) := List.getElem?_set_self (by omega)
    have k4 : (σ2.set 3 (some (.str "BadStep")))[1]? = some (some (.ref a)) := (List.getElem?_set_ne (by decide)).trans k1
    dsimp only [gName]
    simp only [Ms.wordsOf, Option.some.injEq] at hw
    subst hw
    exact ⟨_, k3, rfl, _, rfl, iteF ⟨_, k3, _, k3, rfl, _, rfl, iteF ⟨_, k3, rfl, _, rfl, iteF ⟨by show 2 ≤ sizeLine; decide, fun p hp => q _ p (d1 _ p _ hp s4) (by cases z : H p with | none => rfl | some o => rw [s4 _ _ z] at hp; cases hp) upd_same⟩⟩⟩⟩
  · refine ⟨_, k2, .inl ⟨rfl, _, SqL.of u3⟩, p3, _, .bl true, rfl, rfl, rfl, rfl, SqL.of u3, rfl, _, rfl, iteF ⟨k1, ⟨fvs, s3 _ _ hd⟩, _, rfl, iteF ?_⟩⟩
    refine ⟨by show 6 ≤ sizeLine; decide, fun p4 hp4 => ⟨_, k2, .inl ⟨rfl, _, SqL.of ((upd_ne (ne_of_none u3 hp4)).trans u3)⟩, p3, _, .bl true, 3, .bl true, rfl, rfl, SqL.of ((upd_ne (ne_of_none u3 hp4)).trans u3), rfl, rfl, rfl, rfl, ?_, p4, _, _, .str "BadCount", rfl, rfl, SqL.of upd_same, rfl, ?_⟩⟩
    · intro m z hm hz
      match m, hm with
      | 0, _ => cases hz; rfl
      | 1, _ => cases hz; rfl
      | 2, _ => cases hz; rfl
    have s4 := d1 H3 p4 (.lst [.str "BadPaper", .str "BadWork", .str "BadStep", .str "BadCount", .str "NoWork", .str "BadText"]) hp4 s3
    have k3 : (σ2.set 3 (some (.str "BadCount")))[3]? = some (some (.str "BadCount")) := List.getElem?_set_self (by omega)
    have k4 : (σ2.set 3 (some (.str "BadCount")))[1]? = some (some (.ref a)) := (List.getElem?_set_ne (by decide)).trans k1
    dsimp only [gName]
    simp only [Ms.wordsOf, Option.some.injEq] at hw
    subst hw
    exact ⟨_, k3, rfl, _, rfl, iteF ⟨_, k3, _, k3, rfl, _, rfl, iteF ⟨_, k3, rfl, _, rfl, iteF ⟨by show 2 ≤ sizeLine; decide, fun p hp => q _ p (d1 _ p _ hp s4) (by cases z : H p with | none => rfl | some o => rw [s4 _ _ z] at hp; cases hp) upd_same⟩⟩⟩⟩
  · refine ⟨_, k2, .inl ⟨rfl, _, SqL.of u3⟩, p3, _, .bl true, rfl, rfl, rfl, rfl, SqL.of u3, rfl, _, rfl, iteF ⟨k1, ⟨fvs, s3 _ _ hd⟩, _, rfl, iteF ?_⟩⟩
    refine ⟨by show 6 ≤ sizeLine; decide, fun p4 hp4 => ⟨_, k2, .inl ⟨rfl, _, SqL.of ((upd_ne (ne_of_none u3 hp4)).trans u3)⟩, p3, _, .bl true, 4, .bl true, rfl, rfl, SqL.of ((upd_ne (ne_of_none u3 hp4)).trans u3), rfl, rfl, rfl, rfl, ?_, p4, _, _, .str "NoWork", rfl, rfl, SqL.of upd_same, rfl, ?_⟩⟩
    · intro m z hm hz
      match m, hm with
      | 0, _ => cases hz; rfl
      | 1, _ => cases hz; rfl
      | 2, _ => cases hz; rfl
      | 3, _ => cases hz; rfl
    have s4 := d1 H3 p4 (.lst [.str "BadPaper", .str "BadWork", .str "BadStep", .str "BadCount", .str "NoWork", .str "BadText"]) hp4 s3
    have k3 : (σ2.set 3 (some (.str "NoWork")))[3]? = some (some (.str "NoWork")) := List.getElem?_set_self (by omega)
    have k4 : (σ2.set 3 (some (.str "NoWork")))[1]? = some (some (.ref a)) := (List.getElem?_set_ne (by decide)).trans k1
    dsimp only [gName]
    simp only [Ms.wordsOf, Option.some.injEq] at hw
    subst hw
    exact ⟨_, k3, rfl, _, rfl, iteF ⟨_, k3, _, k3, rfl, _, rfl, iteF ⟨_, k3, rfl, _, rfl, iteF ⟨by show 2 ≤ sizeLine; decide, fun p hp => q _ p (d1 _ p _ hp s4) (by cases z : H p with | none => rfl | some o => rw [s4 _ _ z] at hp; cases hp) upd_same⟩⟩⟩⟩
  · refine ⟨_, k2, .inl ⟨rfl, _, SqL.of u3⟩, p3, _, .bl true, rfl, rfl, rfl, rfl, SqL.of u3, rfl, _, rfl, iteF ⟨k1, ⟨fvs, s3 _ _ hd⟩, _, rfl, iteF ?_⟩⟩
    refine ⟨by show 6 ≤ sizeLine; decide, fun p4 hp4 => ⟨_, k2, .inl ⟨rfl, _, SqL.of ((upd_ne (ne_of_none u3 hp4)).trans u3)⟩, p3, _, .bl true, 5, .bl true, rfl, rfl, SqL.of ((upd_ne (ne_of_none u3 hp4)).trans u3), rfl, rfl, rfl, rfl, ?_, p4, _, _, .str "BadText", rfl, rfl, SqL.of upd_same, rfl, ?_⟩⟩
    · intro m z hm hz
      match m, hm with
      | 0, _ => cases hz; rfl
      | 1, _ => cases hz; rfl
      | 2, _ => cases hz; rfl
      | 3, _ => cases hz; rfl
      | 4, _ => cases hz; rfl
    have s4 := d1 H3 p4 (.lst [.str "BadPaper", .str "BadWork", .str "BadStep", .str "BadCount", .str "NoWork", .str "BadText"]) hp4 s3
    have k3 : (σ2.set 3 (some (.str "BadText")))[3]? = some (some (.str "BadText")) := List.getElem?_set_self (by omega)
    have k4 : (σ2.set 3 (some (.str "BadText")))[1]? = some (some (.ref a)) := (List.getElem?_set_ne (by decide)).trans k1
    dsimp only [gName]
    cases q1 : fvs.lookup ("place" : Str) with
    | none => simp [Ms.wordsOf, q1] at hw
    | some v1 =>
      simp only [Ms.wordsOf, q1, Option.map_some, Option.some.injEq] at hw
      subst hw
      exact ⟨_, k3, rfl, _, rfl, iteF ⟨_, k3, _, k3, rfl, _, rfl, iteF ⟨_, k3, rfl, _, rfl, iteT ⟨k4, fvs, v1, s4 _ _ hd, q1, by show 2 ≤ sizeLine; decide, fun p hp => q _ p (d1 _ p _ hp s4) (by cases z : H p with | none => rfl | some o => rw [s4 _ _ z] at hp; cases hp) upd_same⟩⟩⟩⟩
theorem told_gives (F : XFacts K own) (M : Names3 K mg) {X : Cx} (e1 : X.prog = P) (e2 : X.w = w) (e3 : X.K = K) (e4 : X.mg = mg) (q : Str) : LamX.GivesTo X Nt "_law_told" (defScope sTold) g cdg (defBody sTold) "_law_work_here" q (TTD X.K (clsOf X.K)) := by
  subst e1 e2 e3 e4
  intro f c' s H Q tl act hco h
  refine ⟨_, pss_one (ps_try_as (X := Ct X.prog X.w X.K X.mg X.base g cdg X.A X.stack s H) (c := .ref (He.ga X.K "MarkError")) (i := 1)
      (tb := fun W D σ H => ∃ Ech : XK, (∀ cls d σ' H', Ech cls d H' → W cls d σ' H') ∧ σ[0]? = some (some (.ref f)) ∧ H c' = some (LamX.CodeO c' q) ∧ tl Ech H D.rt)
      (ts := fun a cl d D σ H => ∃ (c : Nat) (dx : Addr) (σ0 : L2.St), c < 6 ∧ cl = .ref (clsOf X.K c) ∧ d = some dx ∧ σ = σ0.set 1 (some (.ref a)) ∧ tSu X.K c a dx D σ H)
      rfl rfl ndT rfl lkE ⟨lkM, by decide +kernel, .inl M.mrk⟩ takes0 (fun W pn xe tk _ => ?_) (fun a oe cls d pn hz hf => ?_)), ?_⟩
  · refine ⟨fun pins s' σ H' D I h' => ?_⟩
    obtain ⟨Ech, hW, h1, h2, h3⟩ := h'
    exact (pss_one (ps_ret (act W pn xe Ech _ _ tk hW))).run pins s' σ H' D I ⟨h1, h2, h3⟩
  · refine ⟨fun pins s' σ H' D I h' => ?_⟩
    obtain ⟨c, dx, σ0, hc, rfl, rfl, hσ, h'⟩ := h'
    have hl : σ.length = 4 := I.len
    have ha : σ[1]? = some (some (.ref a)) := by
      rw [hσ] at hl ⊢
      rw [List.length_set] at hl
      exact List.getElem?_set_self (by omega)
    obtain ⟨t, Pt, hr⟩ := suite_ok (P := X.prog) (w := X.w) (base := X.base) (g := g) (cdg := cdg) (A := X.A) (outer := X.stack) (s := s) (H0 := H) (pn := pn) (a := a) F M hc hz hf
    exact Pt.run pins s' σ H' D I (hr D σ H' hl ha h')
  · refine ⟨_, fun cl d σ' H' hh => ?_, rfl, hco, h⟩
    obtain ⟨c, dx, fvs, ws, rfl, rfl, h1, h2, h3⟩ := hh
    have hc : c < 6 := by
      unfold Ms.wordsOf at h2
      split at h2 <;> first | omega | cases h2
    refine ⟨true, F.exm c hc, fun _ a ha0 => ⟨c, dx, σ', hc, rfl, rfl, rfl, fvs, ws, h1, h2, h3⟩, fun z => nomatch z⟩
end
end K14
end
section
set_option Elab.async false
set_option linter.all false
set_option maxRecDepth 100000
set_option maxHeartbeats 4000000
namespace K14
open PySem L2 Ms
def fd_is_word : FD := ⟨"is_word", ["part"], ["part"],
  (.cons (.ret (.and_ (.cons (.isi (.loc 0) "str") (.cons (.cmp .eq (.bi .len (.cons (.loc 0) .nil)) (.cst (.int 1))) (.cons (.cmp .in_ (.loc 0) (.glob "WORDS" (.str "abcdefgh"))) .nil)))))
    .nil), none⟩
def fd_is_step : FD := ⟨"is_step", ["step"], ["step"],
  (.cons (.ret (.and_ (.cons (.isi (.loc 0) "str") (.cons (.cmp .eq (.bi .len (.cons (.loc 0) .nil)) (.cst (.int 2))) (.cons (.call 0 (.cons (.sub (.loc 0) (.cst (.int 0))) .nil)) (.cons (.cmp .in_ (.sub (.loc 0) (.cst (.int 1))) (.tup (.cons (.glob "RIGHT" (.str "r")) (.cons (.glob "CARRIED" (.str "c")) (.cons (.glob "WRONG" (.str "w")) .nil))))) .nil))))))
    .nil), none⟩
def fd_is_next : FD := ⟨"is_next", ["step", "was_wrong"], ["step", "was_wrong"],
  (.cons (.ret (.and_ (.cons (.call 1 (.cons (.loc 0) .nil)) (.cons (.or_ (.cons (.cmp .ne (.sub (.loc 0) (.cst (.int 1))) (.glob "CARRIED" (.str "c"))) (.cons (.loc 1) .nil))) .nil))))
    .nil), none⟩
def fd_need_work : FD := ⟨"need_work", ["work"], ["work", "was_wrong", "number", "step"],
  (.cons (.asg (.name 1) (.cst (.bool false)))
    (.cons (.for_ (.tup [2, 3]) (.enum (.loc 0)) (.cons (.if_ (.or_ (.cons (.cmp .ge (.loc 2) (.glob "MOST_STEPS" (.int 12))) (.cons (.not_ (.call 2 (.cons (.loc 3) (.cons (.loc 1) .nil)))) .nil))) (.cons (.rais 1 ["number"] (.cons (.loc 2) .nil))
    .nil) .nil)
    (.cons (.asg (.name 1) (.or_ (.cons (.loc 1) (.cons (.cmp .eq (.sub (.loc 3) (.cst (.int 1))) (.glob "WRONG" (.str "w"))) .nil))))
    .nil)))
    .nil)), none⟩
def fd_read_work : FD := ⟨"read_work", ["text"], ["text", "found", "place", "word"],
  (.cons (.asg (.name 1) (.lst true .nil))
    (.cons (.for_ (.tup [2, 3]) (.enum (.ite (.cmp .ne (.loc 0) (.cst (.str ""))) (.mt .split (.loc 0) (.cons (.cst (.str " ")) .nil)) (.lst false .nil))) (.cons (.if_ (.not_ (.call 1 (.cons (.loc 3) .nil))) (.cons (.rais 5 ["place"] (.cons (.loc 2) .nil))
    .nil) .nil)
    (.cons (.ex (.mt .append (.loc 1) (.cons (.loc 3) .nil)))
    .nil)))
    (.cons (.ex (.call 3 (.cons (.loc 1) .nil)))
    (.cons (.ret (.loc 1))
    .nil)))), none⟩
def fd_law_begun : FD := ⟨"_law_begun", ["_law_script"], ["_law_script", "_law_stirred", "_law_cell"],
  (.cons (.asg (.name 1) (.cst (.int 0)))
    (.cons (.for_ (.name 2) (.val (.loc 0)) (.cons (.asg (.name 1) (.bin .mod (.bin .add (.bin .add (.bin .mul (.loc 1) (.cst (.int 48271))) (.bin .mul (.loc 2) (.cst (.int 69621)))) (.cst (.int 11))) (.cst (.int 2147483647))))
    .nil))
    (.cons (.ret (.lst true (.cons (.bi .listM (.cons (.loc 0) .nil)) (.cons (.bin .mul (.loc 1) (.bi .int (.cons (.cmp .gt (.bi .len (.cons (.loc 0) .nil)) (.cst (.int 2))) .nil))) .nil))))
    .nil))), none⟩
def fd_law_take : FD := ⟨"_law_take", ["_law_box", "_law_many"], ["_law_box", "_law_many", "_law_number"],
  (.cons (.if_ (.cmp .eq (.sub (.loc 0) (.cst (.int 0))) (.lst false .nil)) (.cons (.seti (.loc 0) (.cst (.int 1)) (.bin .mod (.bin .mul (.sub (.loc 0) (.cst (.int 1))) (.cst (.int 48271))) (.cst (.int 2147483647))))
    (.cons (.ret (.bin .mod (.bin .fdiv (.sub (.loc 0) (.cst (.int 1))) (.cst (.int 7))) (.loc 1)))
    .nil)) .nil)
    (.cons (.asg (.name 2) (.sub (.sub (.loc 0) (.cst (.int 0))) (.cst (.int 0))))
    (.cons (.seti (.sub (.loc 0) (.cst (.int 0))) (.cst (.int 0)) (.bin .fdiv (.loc 2) (.loc 1)))
    (.cons (.if_ (.or_ (.cons (.cmp .eq (.sub (.sub (.loc 0) (.cst (.int 0))) (.cst (.int 0))) (.cst (.int 0))) (.cons (.cmp .eq (.sub (.sub (.loc 0) (.cst (.int 0))) (.cst (.int 0))) (.neg (.cst (.int 1)))) .nil))) (.cons (.ex (.mt .popAt (.sub (.loc 0) (.cst (.int 0))) (.cons (.cst (.int 0)) .nil)))
    .nil) .nil)
    (.cons (.ret (.bin .mod (.loc 2) (.loc 1)))
    .nil))))), none⟩
def fd_law_alike : FD := ⟨"_law_alike", ["_law_found", "_law_due_here"], ["_law_found", "_law_due_here", "_law_k"],
  (.cons (.if_ (.cmp .is_ (.loc 1) (.cst .none)) (.cons (.ret (.cmp .is_ (.loc 0) (.cst .none)))
    .nil) .nil)
    (.cons (.if_ (.isi (.loc 1) "bool") (.cons (.ret (.and_ (.cons (.isi (.loc 0) "bool") (.cons (.cmp .eq (.loc 0) (.loc 1)) .nil))))
    .nil) .nil)
    (.cons (.if_ (.isi (.loc 1) "int") (.cons (.ret (.and_ (.cons (.isi (.loc 0) "int") (.cons (.not_ (.isi (.loc 0) "bool")) (.cons (.cmp .eq (.loc 0) (.loc 1)) .nil)))))
    .nil) .nil)
    (.cons (.if_ (.isi (.loc 1) "str") (.cons (.ret (.and_ (.cons (.isi (.loc 0) "str") (.cons (.cmp .eq (.loc 0) (.loc 1)) .nil))))
    .nil) .nil)
    (.cons (.if_ (.or_ (.cons (.cmp .ne (.isi (.loc 1) "tuple") (.isi (.loc 0) "tuple")) (.cons (.cmp .ne (.isi (.loc 1) "list") (.isi (.loc 0) "list")) .nil))) (.cons (.ret (.cst (.bool false)))
    .nil) .nil)
    (.cons (.if_ (.cmp .ne (.bi .len (.cons (.loc 0) .nil)) (.bi .len (.cons (.loc 1) .nil))) (.cons (.ret (.cst (.bool false)))
    .nil) .nil)
    (.cons (.for_ (.name 2) (.rng1 (.bi .len (.cons (.loc 1) .nil))) (.cons (.if_ (.not_ (.call 7 (.cons (.sub (.loc 0) (.loc 2)) (.cons (.sub (.loc 1) (.loc 2)) .nil)))) (.cons (.ret (.cst (.bool false)))
    .nil) .nil)
    .nil))
    (.cons (.ret (.cst (.bool true)))
    .nil)))))))), none⟩
def fd_law_step : FD := ⟨"_law_step", ["_law_box", "_law_letters", "_law_was_wrong"], ["_law_box", "_law_letters", "_law_was_wrong", "_law_sign"],
  (.cons (.asg (.name 3) (.sub (.lst false (.cons (.cst (.str "r")) (.cons (.cst (.str "w")) (.cons (.cst (.str "r")) (.cons (.cst (.str "c")) .nil))))) (.call 6 (.cons (.loc 0) (.cons (.cst (.int 4)) .nil)))))
    (.cons (.ret (.bin .add (.sub (.loc 1) (.call 6 (.cons (.loc 0) (.cons (.bi .len (.cons (.loc 1) .nil)) .nil)))) (.ite (.or_ (.cons (.cmp .ne (.loc 3) (.cst (.str "c"))) (.cons (.loc 2) .nil))) (.loc 3) (.cst (.str "w")))))
    .nil)), none⟩
def fd_law_work : FD := ⟨"_law_work", ["_law_box", "_law_letters", "_law_most"], ["_law_box", "_law_letters", "_law_most", "_law_found", "_law_turn", "_law_step_here"],
  (.cons (.asg (.name 3) (.lst true .nil))
    (.cons (.for_ (.name 4) (.rng1 (.call 6 (.cons (.loc 0) (.cons (.bin .add (.loc 2) (.cst (.int 1))) .nil)))) (.cons (.ex (.mt .append (.loc 3) (.cons (.call 8 (.cons (.loc 0) (.cons (.loc 1) (.cons (.bi .any (.cons (.lc false [("_law_step_here", 5)] (.name 5) (.val (.loc 3)) .none (.cmp .eq (.sub (.loc 5) (.cst (.int 1))) (.cst (.str "w")))) .nil)) .nil)))) .nil)))
    .nil))
    (.cons (.ret (.loc 3))
    .nil))), none⟩
def fd_law_due : FD := ⟨"_law_due", ["_law_text"], ["_law_text", "_law_words", "_law_place", "_law_word", "_law_number", "_law_is_late", "_law_one"],
  (.cons (.asg (.name 1) (.ite (.cmp .ne (.loc 0) (.cst (.str ""))) (.mt .split (.loc 0) (.cons (.cst (.str " ")) .nil)) (.lst false .nil)))
    (.cons (.for_ (.name 2) (.rng1 (.bi .len (.cons (.loc 1) .nil))) (.cons (.asg (.name 3) (.sub (.loc 1) (.loc 2)))
    (.cons (.if_ (.or_ (.cons (.cmp .ne (.bi .len (.cons (.loc 3) .nil)) (.cst (.int 2))) (.cons (.cmp .notin (.sub (.loc 3) (.cst (.int 0))) (.cst (.str "abcdefgh"))) (.cons (.cmp .notin (.sub (.loc 3) (.cst (.int 1))) (.cst (.str "crw"))) .nil)))) (.cons (.ret (.tup (.cons (.cst (.str "BadText")) (.cons (.loc 2) .nil))))
    .nil) .nil)
    .nil)))
    (.cons (.for_ (.name 4) (.rng1 (.bi .len (.cons (.loc 1) .nil))) (.cons (.asg (.name 5) (.and_ (.cons (.cmp .eq (.sub (.sub (.loc 1) (.loc 4)) (.cst (.int 1))) (.cst (.str "c"))) (.cons (.cmp .eq (.lc false [("_law_one", 6)] (.name 6) (.val (.slice (.loc 1) .none (.some (.loc 4)))) (.some (.cmp .eq (.sub (.loc 6) (.cst (.int 1))) (.cst (.str "w")))) (.loc 6)) (.lst false .nil)) .nil))))
    (.cons (.if_ (.or_ (.cons (.cmp .eq (.loc 4) (.cst (.int 12))) (.cons (.loc 5) .nil))) (.cons (.ret (.tup (.cons (.cst (.str "BadWork")) (.cons (.loc 4) .nil))))
    .nil) .nil)
    .nil)))
    (.cons (.ret (.loc 1))
    .nil)))), none⟩
def fd_law : FD := ⟨"law", ["_law_script"], ["_law_script", "_law_box", "_law_turn", "_law_words", "_law_change", "_law_k", "_law_way", "_law_odd", "_law_text", "_law_again"],
  (.cons (.asg (.name 1) (.call 5 (.cons (.loc 0) .nil)))
    (.cons (.for_ (.name 2) (.rng1 (.cst (.int 6))) (.cons (.asg (.name 3) (.call 9 (.cons (.loc 1) (.cons (.cst (.str "abcdefgh")) (.cons (.cst (.int 12)) .nil)))))
    (.cons (.for_ (.name 4) (.rng1 (.call 6 (.cons (.loc 1) (.cons (.cst (.int 4)) .nil)))) (.cons (.par 5 6 (.call 6 (.cons (.loc 1) (.cons (.bin .add (.bi .len (.cons (.loc 3) .nil)) (.cst (.int 1))) .nil))) (.call 6 (.cons (.loc 1) (.cons (.cst (.int 5)) .nil))))
    (.cons (.asg (.name 7) (.sub (.lst false (.cons (.cst (.str "ac")) (.cons (.cst (.str "br")) (.cons (.cst (.str "hw")) (.cons (.cst (.str "")) (.cons (.cst (.str "a")) (.cons (.cst (.str "arr")) (.cons (.cst (.str "ir")) (.cons (.cst (.str "ax")) (.cons (.cst (.str "rA")) (.cons (.cst (.str "Ar")) (.cons (.cst (.str "a r")) (.cons (.cst (.str "cc")) .nil))))))))))))) (.call 6 (.cons (.loc 1) (.cons (.cst (.int 12)) .nil)))))
    (.cons (.if_ (.cmp .lt (.loc 6) (.cst (.int 3))) (.cons (.asg (.name 3) (.bin .add (.bin .add (.slice (.loc 3) .none (.some (.loc 5))) (.lst false (.cons (.loc 7) .nil))) (.slice (.loc 3) (.some (.bin .add (.loc 5) (.bin .fdiv (.loc 6) (.cst (.int 2))))) .none)))
    .nil) (.cons (.asg (.name 3) (.sub (.lst false (.cons (.bin .add (.slice (.loc 3) .none (.some (.loc 5))) (.slice (.loc 3) (.some (.bin .add (.loc 5) (.cst (.int 1)))) .none)) (.cons (.bin .add (.loc 3) (.slice (.loc 3) .none (.some (.loc 5)))) .nil))) (.bin .sub (.loc 6) (.cst (.int 3)))))
    .nil))
    .nil))))
    (.cons (.asg (.name 8) (.mt .join (.cst (.str " ")) (.cons (.loc 3) .nil)))
    (.cons (.for_ (.name 9) (.rng1 (.cst (.int 2))) (.cons (.if_ (.not_ (.call 7 (.cons (.told 0 ("law", none) "law.<locals>.<lambda>" (.call 4 (.cons (.loc 8) .nil))) (.cons (.call 10 (.cons (.loc 8) .nil)) .nil)))) (.cons (.ret (.cst (.bool false)))
    .nil) .nil)
    .nil))
    .nil)))))
    (.cons (.ret (.cst (.bool true)))
    .nil))), some ⟨0, ("law", none), "law.<locals>.<lambda>"⟩⟩
def fns : List FD := [fd_is_word, fd_is_step, fd_is_next, fd_need_work, fd_read_work, fd_law_begun, fd_law_take, fd_law_alike, fd_law_step, fd_law_work, fd_law_due, fd_law]
def cs : List (Str × Const) := [("WORDS", (.str "abcdefgh")), ("MOST_STEPS", (.int 12)), ("RIGHT", (.str "r")), ("CARRIED", (.str "c")), ("WRONG", (.str "w"))]
def tab : Tab := { fns := fns, cs := cs, xs := [(1, "BadWork", ["number"]), (5, "BadText", ["place"])], told := "_law_told" }
def okB (fd : FD) (st : Stmt) : Bool := chkSs { tab with lam := fd.lam } fd.N (defScope st) fd.code (defBody st)
theorem ok_is_word : okB fd_is_word (top 10) = true := by decide +kernel
theorem ok_is_step : okB fd_is_step (top 16) = true := by decide +kernel
theorem ok_is_next : okB fd_is_next (top 17) = true := by decide +kernel
theorem ok_need_work : okB fd_need_work (top 18) = true := by decide +kernel
theorem ok_read_work : okB fd_read_work (top 20) = true := by decide +kernel
theorem ok_law_begun : okB fd_law_begun (top 22) = true := by decide +kernel
theorem ok_law_take : okB fd_law_take (top 23) = true := by decide +kernel
theorem ok_law_alike : okB fd_law_alike (top 24) = true := by decide +kernel
theorem ok_law_step : okB fd_law_step (top 26) = true := by decide +kernel
theorem ok_law_work : okB fd_law_work (top 27) = true := by decide +kernel
theorem ok_law_due : okB fd_law_due (top 28) = true := by decide +kernel
theorem ok_law : okB fd_law (top 29) = true := by decide +kernel
end K14
end
section
set_option Elab.async false
set_option linter.all false
set_option maxRecDepth 100000
set_option maxHeartbeats 1000000
namespace K14
open PySem L2 Ms
theorem bnd_ok {α β : Type} {m : M α} {k : α → M β} {η η' : List Cell} {a : α} (h : m η = .ok a η') : bnd m k η = k a η' := by
  unfold bnd
  rw [h]
  rfl
theorem evF_succ {k f : Nat} {fd : FD} {ds : List D} {η : List Cell} (h : fns[f]? = some fd) (hl : ds.length = fd.ps.length) : evF fns (k + 1) f ds η = trunc η.length (runB (evSs (evF fns k) fd.code (startD fd.N.length ds) η)) := by
  conv => lhs; unfold evF
  simp only [h, hl, if_true]
theorem trunc_same {d : D} {η : List Cell} : trunc η.length (.ok d η) = .ok d η := by
  unfold trunc
  dsimp only
  split
  · rw [List.take_length]
  · rfl
/-- an error -/
def exM {α : Type} (c : Nat) (fs : List (Str × D)) : M α := fun η => .exc c fs η
theorem bnd_ex {α β : Type} (c : Nat) (fs : List (Str × D)) (k : α → M β) : bnd (exM c fs) k = exM c fs := rfl
theorem rais_one (c : Nat) (f : Str) (d : D) : raisD c [f] [d] = exM c [(f, d)] := rfl
theorem fromO_some (d : D) : fromO (some d) = Ms.ret d := rfl
theorem bnd_ret {α β : Type} (a : α) (k : α → M β) : bnd (Ms.ret a) k = k a := rfl
theorem asB_bl (b : Bool) : asB (Ms.ret (.bl b)) = Ms.ret b := rfl
theorem asB_bnd {α : Type} (m : M α) (k : α → M D) : asB (bnd m k) = bnd m fun a => asB (k a) := bnd_assoc _ _ _
theorem eq_int (a b : Int) : eqD (.int a) (.int b) = Ms.ret (.bl (a == b)) := by
  funext η
  simp [eqD, derP, toP, SeqAt.shaped, PyData.eqv, Ms.ret, PyData.canLay0, PyData.depth]
theorem eq_str {a b : Str} (ha : PyData.strOk a = true) (hb : PyData.strOk b = true) : eqD (.str a) (.str b) = Ms.ret (.bl (a == b)) := by
  funext η
  simp [eqD, derP, toP, SeqAt.shaped, PyData.eqv, Ms.ret, PyData.canLay0, PyData.depth, ha, hb]
theorem ne_str {a b : Str} (ha : PyData.strOk a = true) (hb : PyData.strOk b = true) : neD (.str a) (.str b) = Ms.ret (.bl (!(a == b))) := by
  funext η
  simp [neD, derP, toP, SeqAt.shaped, PyData.eqv, Ms.ret, PyData.canLay0, PyData.depth, ha, hb]
theorem ne_int (a b : Int) : neD (.int a) (.int b) = Ms.ret (.bl (!(a == b))) := by
  funext η
  simp [neD, derP, toP, SeqAt.shaped, PyData.eqv, Ms.ret, PyData.canLay0, PyData.depth]
theorem isi_str (w : Str) : isiD "str" (.str w) = Ms.ret (.bl true) := by
  funext η
  rfl
theorem len_str {w : Str} (h : w.length ≤ LIM) : lenD [.str w] = Ms.ret (.int w.length) := by
  show (if w.length ≤ LIM then Ms.ret (D.int w.length) else bad) = _
  rw [if_pos h]
theorem in_str (x z : Str) : inD false (.str x) (.str z) = Ms.ret (.bl (inStr x z)) := rfl
def wordB (w : Str) : Bool := ((w.length : Int) == 1) && inStr w ("abcdefgh" : Str)
theorem is_word_ok {k : Nat} {w : Str} (hw : w.length ≤ LIM) : evF fns (k + 1) 0 [.str w] = Ms.ret (.bl (wordB w)) := by
  funext η
  rw [evF_succ (fd := fd_is_word) rfl rfl]
  have e : evSs (evF fns k) fd_is_word.code (startD fd_is_word.N.length [.str w]) = Ms.ret (.rt (.bl (wordB w))) := by
    simp only [fd_is_word, evSs, evS, evE, evAnd, evEs, startD, List.map_cons, List.map_nil, List.length_cons, List.length_nil, List.cons_append, List.nil_append, List.getElem?_cons_zero, Option.join_some, fromO_some, bnd_ret, isi_str, asB_bl, if_true, biD, len_str hw, constD, cmpD, eq_int, in_str, bnd_assoc]
    unfold wordB
    cases ((w.length : Int) == 1) <;> rfl
  rw [e]
  exact trunc_same
/-- a word that is not too long, of signs that are signs -/
structure OkW (w : Str) : Prop where
  ok : PyData.strOk w = true
  len : w.length ≤ 1000
theorem OkW.lim {w : Str} (h : OkW w) : w.length ≤ LIM := Nat.le_trans h.len (by decide)
abbrev S1 (c : Nat) : Str := ⟨#[c]⟩
theorem str_of {w : Str} {l : List Nat} (h : w.cps.toList = l) : w = ⟨l.toArray⟩ := by
  obtain ⟨a⟩ := w
  simp only at h
  rw [← h]
theorem ix0 {w : Str} {c : Nat} {l : List Nat} (h : w.cps.toList = c :: l) (hl : w.length ≤ LIM) : idxD (.str w) (.int 0) = Ms.ret (.str (S1 c)) := by
  show (if w.length ≤ LIM then fromO _ else bad) = _
  rw [if_pos hl, h]
  simp [atI, ixN, fromO_some]
theorem ix1 {w : Str} {c d : Nat} {l : List Nat} (h : w.cps.toList = c :: d :: l) (hl : w.length ≤ LIM) : idxD (.str w) (.int 1) = Ms.ret (.str (S1 d)) := by
  show (if w.length ≤ LIM then fromO _ else bad) = _
  rw [if_pos hl, h]
  have h1 : (1 : Int) < (l.length : Int) + 1 + 1 := by omega
  simp [atI, ixN, h1, fromO_some]
theorem S1_beq (a b : Nat) : (S1 a == S1 b) = (a == b) := by
  by_cases h : a = b
  · subst h
    simp
  · have : S1 a ≠ S1 b := fun z => h (by
      have q := congrArg (fun s : Str => s.cps.toList) z
      simpa using q)
    rw [beq_eq_false_iff_ne.mpr h, beq_eq_false_iff_ne.mpr this]
theorem S1_ok {c : Nat} (h : c < 1114112) : OkW (S1 c) := ⟨by simp [PyData.strOk, h], by simp [Str.length]⟩
theorem ok_char {w : Str} (h : OkW w) {c : Nat} (hc : c ∈ w.cps.toList) : c < 1114112 := by
  have q := h.ok
  unfold PyData.strOk at q
  rw [Array.all_eq_true_iff_forall_mem] at q
  exact of_decide_eq_true (q c (by simpa using hc))
def letters : List Nat := [97, 98, 99, 100, 101, 102, 103, 104]
theorem wordB_one (c : Nat) : wordB (S1 c) = decide (c ∈ letters) := by
  unfold wordB inStr
  have e : ("abcdefgh" : Str).cps.toList = letters := by decide +kernel
  rw [StrLaws.found_one, e]
  simp [Str.length]
def signB (c : Nat) : Bool := c == 114 || c == 99 || c == 119
theorem in_signs (c : Nat) : inD false (.str (S1 c)) (.tup [.str "r", .str "c", .str "w"]) = Ms.ret (.bl (signB c)) := by
  funext η
  have e1 : ("r" : Str) = S1 114 := by decide +kernel
  have e2 : ("c" : Str) = S1 99 := by decide +kernel
  have e3 : ("w" : Str) = S1 119 := by decide +kernel
  rw [e1, e2, e3]
  simp [inD, asQ, flatD, inFlat, vOf, eqV, Ms.ret, signB]
  rw [S1_beq, S1_beq, S1_beq, Bool.beq_comm (a := 114), Bool.beq_comm (a := 99), Bool.beq_comm (a := 119)]
  cases (c == 114) <;> cases (c == 99) <;> rfl
def stepB (w : Str) : Bool := match w.cps.toList with
  | [c1, c2] => decide (c1 ∈ letters) && signB c2
  | _ => false
theorem is_step_ok {k : Nat} {w : Str} (hw : OkW w) : evF fns (k + 2) 1 [.str w] = Ms.ret (.bl (stepB w)) := by
  funext η
  rw [evF_succ (fd := fd_is_step) rfl rfl]
  have e : evSs (evF fns (k + 1)) fd_is_step.code (startD fd_is_step.N.length [.str w]) = Ms.ret (.rt (.bl (stepB w))) := by
    simp only [fd_is_step, evSs, evS, evE, evAnd, evEs, startD, List.map_cons, List.map_nil, List.length_cons, List.length_nil, List.cons_append, List.nil_append, List.getElem?_cons_zero, Option.join_some, fromO_some, bnd_ret, isi_str, asB_bl, if_true, biD, len_str hw.lim, constD, cmpD, eq_int, bnd_assoc]
    by_cases h2 : w.length = 2
    · have hl : w.cps.toList.length = 2 := by simpa [Str.length] using h2
      match hq : w.cps.toList, hl with
      | [c1, c2], _ =>
        have i0 := ix0 hq hw.lim
        have i1 := ix1 hq hw.lim
        have o1 : OkW (S1 c1) := S1_ok (ok_char hw (by rw [hq]; simp))
        have e22 : (((2 : Nat) : Int) == 2) = true := rfl
        have l3 : 0 + 1 + 1 + 1 ≤ LIM := by decide
        simp only [h2, e22, l3, if_true, i0, i1, bnd_ret, is_word_ok o1.lim, asB_bl, wordB_one, in_signs, stepB, hq]
        cases decide (c1 ∈ letters) <;> rfl
    · have hs : stepB w = false := by
        unfold stepB
        split
        · rename_i c1 c2 hq
          exact absurd (by simp [Str.length, ← Array.length_toList, hq]) h2
        · rfl
      have : ((w.length : Int) == 2) = false := by
        rw [beq_eq_false_iff_ne]
        omega
      rw [hs]
      simp only [this, Bool.false_eq_true, if_false, bnd_ret]
  rw [e]
  exact trunc_same
def sg (w : Str) : Nat := w.cps.toList.getD 1 0
def nextB (w : Str) (b : Bool) : Bool := stepB w && (!(sg w == 99) || b)
theorem step_two {w : Str} (h : stepB w = true) : ∃ c1 c2, w.cps.toList = [c1, c2] ∧ signB c2 = true ∧ sg w = c2 := by
  unfold stepB at h
  split at h
  · rename_i c1 c2 hq
    simp only [Bool.and_eq_true] at h
    exact ⟨c1, c2, hq, h.2, by simp [sg, hq]⟩
  · cases h
theorem is_next_ok {k : Nat} {w : Str} {b : Bool} (hw : OkW w) : evF fns (k + 3) 2 [.str w, .bl b] = Ms.ret (.bl (nextB w b)) := by
  funext η
  rw [evF_succ (fd := fd_is_next) rfl rfl]
  have e : evSs (evF fns (k + 2)) fd_is_next.code (startD fd_is_next.N.length [.str w, .bl b]) = Ms.ret (.rt (.bl (nextB w b))) := by
    simp only [fd_is_next, evSs, evS, evE, evAnd, evOr, evEs, startD, List.map_cons, List.map_nil, List.length_cons, List.length_nil, List.cons_append, List.nil_append, List.getElem?_cons_zero, List.getElem?_cons_succ, Option.join_some, fromO_some, bnd_ret, is_step_ok hw, asB_bl, constD, cmpD, bnd_assoc]
    cases hs : stepB w with
    | false => simp only [Bool.false_eq_true, if_false, bnd_ret, nextB, hs, Bool.false_and]
    | true =>
      obtain ⟨c1, c2, hq, _, hg⟩ := step_two hs
      have o2 : OkW (S1 c2) := S1_ok (ok_char hw (by rw [hq]; simp))
      have eC : ("c" : Str) = S1 99 := by decide +kernel
      have oC : OkW (S1 99) := S1_ok (by decide)
      simp only [if_true, ix1 hq hw.lim, bnd_ret, eC, ne_str o2.ok oC.ok, asB_bl, nextB, hs, hg, S1_beq, Bool.true_and]
      cases (c2 == 99) <;> rfl
  rw [e]
  exact trunc_same
/-- the first step that can't be -/
def nw : Nat → Bool → List Str → Option Nat
  | _, _, [] => none
  | i, b, w :: r => if decide (12 ≤ i) || !nextB w b then some i else nw (i + 1) (b || sg w == 119) r
def needBody : Ss := match fd_need_work.code with
  | .cons _ (.cons (.for_ _ _ b) _) => b
  | _ => .nil
theorem need_body {k n i : Nat} {b : Bool} {w : Str} (hw : OkW w) : evSs (evF fns (k + 3)) needBody [some (.ref n), some (.bl b), some (.int i), some (.str w)] =
    if (decide (12 ≤ i) || !nextB w b) = true then exM 1 [("number", .int i)] else Ms.ret (.nx [some (.ref n), some (.bl (b || sg w == 119)), some (.int i), some (.str w)]) := by
  have g1 : geD (.int i) (.int 12) = Ms.ret (.bl (decide (12 ≤ i))) := by
    show Ms.ret (D.bl (decide ((12 : Int) ≤ (i : Int)))) = _
    congr 2
    simp
    omega
  simp only [needBody, fd_need_work, evSs, evS, evE, evOr, evEs, List.getElem?_cons_zero, List.getElem?_cons_succ, Option.join_some, fromO_some, bnd_ret, constD, cmpD, g1, asB_bl, is_next_ok hw, bnd_assoc]
  cases h1 : decide (12 ≤ i) with
  | true => simp only [if_true, Bool.true_or, bnd_ret, asB_bl, rais_one, bnd_ex, bnd_assoc]
  | false =>
    cases h2 : nextB w b with
    | false => simp only [if_true, Bool.false_eq_true, if_false, Bool.not_false, Bool.false_or, bnd_ret, asB_bl, rais_one, bnd_ex, bnd_assoc]
    | true =>
      have hs : stepB w = true := by
        unfold nextB at h2
        simp only [Bool.and_eq_true] at h2
        exact h2.1
      obtain ⟨c1, c2, hq, _, hg⟩ := step_two hs
      have o2 : OkW (S1 c2) := S1_ok (ok_char hw (by rw [hq]; simp))
      have eW : ("w" : Str) = S1 119 := by decide +kernel
      have oW : OkW (S1 119) := S1_ok (by decide)
      cases b with
      | true => simp only [Bool.false_eq_true, if_false, if_true, Bool.not_true, Bool.or_false, bnd_ret, asB_bl, bnd_assoc, List.getElem?_cons_zero, List.getElem?_cons_succ, Option.join_some, fromO_some, bindT, Bool.true_or, List.set_cons_zero, List.set_cons_succ]
      | false => simp only [Bool.false_eq_true, if_false, if_true, Bool.not_true, Bool.or_false, bnd_ret, asB_bl, bnd_assoc, List.getElem?_cons_zero, List.getElem?_cons_succ, Option.join_some, fromO_some, bindT, Bool.false_or, List.set_cons_zero, List.set_cons_succ, ix1 hq hw.lim, eW, eq_str o2.ok oW.ok, S1_beq, hg]
/-- a loop's turns, nothing but the slots changes -/
theorem gd_one {n : Nat} {xs : List D} {η : List Cell} (h : η[n]? = some (.lst xs)) : chkG [(n, xs)] η = .ok () η := by
  unfold chkG
  rw [if_pos (gdB_ok.mpr fun p hp => by
    simp only [List.mem_singleton] at hp
    rw [hp]
    exact h)]
theorem need_loop {k n : Nat} {η : List Cell} {all : List Str} (hn : η[n]? = some (.lst (txts all))) : ∀ (ws : List Str) (i : Nat) (b : Bool) (x y : Option D), (∀ w ∈ ws, OkW w) →
    (nw i b ws = none → ∃ ρ, forL [(n, txts all)] (bindT (.tup [2, 3])) (evSs (evF fns (k + 3)) needBody) (enumL i (txts ws)) [some (.ref n), some (.bl b), x, y] η = .ok (.nx ρ) η) ∧
    (∀ j, nw i b ws = some j → forL [(n, txts all)] (bindT (.tup [2, 3])) (evSs (evF fns (k + 3)) needBody) (enumL i (txts ws)) [some (.ref n), some (.bl b), x, y] η = .exc 1 [("number", .int j)] η)
  | [], i, b, x, y, _ => by
    refine ⟨fun _ => ⟨_, by unfold txts enumL forL; exact bnd_ok (gd_one hn)⟩, fun j h => ?_⟩
    unfold nw at h
    cases h
  | w :: ws, i, b, x, y, hw => by
    have ow := hw w List.mem_cons_self
    have hr : ∀ v ∈ ws, OkW v := fun v hv => hw v (List.mem_cons_of_mem _ hv)
    have e : forL [(n, txts all)] (bindT (.tup [2, 3])) (evSs (evF fns (k + 3)) needBody) (enumL i (txts (w :: ws))) [some (.ref n), some (.bl b), x, y] η =
        bnd (evSs (evF fns (k + 3)) needBody [some (.ref n), some (.bl b), some (.int i), some (.str w)]) (fun fl => match fl with
          | .nx ρ3 => forL [(n, txts all)] (bindT (.tup [2, 3])) (evSs (evF fns (k + 3)) needBody) (enumL (i + 1) (txts ws)) ρ3
          | .rt v => Ms.ret (.rt v)) η := by
      show forL _ _ _ (.tup [.int i, .str w] :: enumL (i + 1) (txts ws)) _ η = _
      conv => lhs; unfold forL
      exact bnd_ok (gd_one hn)
    rw [e, need_body ow]
    unfold nw
    by_cases hc : (decide (12 ≤ i) || !nextB w b) = true
    · rw [if_pos hc, if_pos hc]
      refine ⟨(fun h => nomatch h), fun j h => ?_⟩
      cases h
      rfl
    · rw [if_neg hc, if_neg hc]
      exact need_loop hn ws (i + 1) (b || sg w == 119) _ _ hr
theorem need_ok {k n : Nat} {η : List Cell} {ws : List Str} (hn : η[n]? = some (.lst (txts ws))) (hw : ∀ w ∈ ws, OkW w) :
    (nw 0 false ws = none → evF fns (k + 4) 3 [.ref n] η = .ok .non η) ∧ (∀ j, nw 0 false ws = some j → evF fns (k + 4) 3 [.ref n] η = .exc 1 [("number", .int j)] η) := by
  obtain ⟨l1, l2⟩ := need_loop (k := k) hn ws 0 false none none hw
  have e : evSs (evF fns (k + 3)) fd_need_work.code (startD fd_need_work.N.length [.ref n]) η =
      bnd (forL [(n, txts ws)] (bindT (.tup [2, 3])) (evSs (evF fns (k + 3)) needBody) (enumL 0 (txts ws)) [some (.ref n), some (.bl false), none, none]) (fun fl => match fl with
        | .nx ρ => Ms.ret (.nx ρ)
        | .rt d => Ms.ret (.rt d)) η := by
    simp only [fd_need_work, needBody, evSs, evS, startD, evE, constD, fromO_some, bnd_ret, bnd_assoc, bindT, List.map_cons, List.map_nil, List.length_cons, List.length_nil, List.cons_append, List.nil_append, List.set_cons_zero, List.set_cons_succ, evIt, List.getElem?_cons_zero, Option.join_some, List.replicate]
    have q : itEnum (.ref n) η = .ok (enumL 0 (txts ws), [(n, txts ws)]) η := by
      simp [itEnum, zItems, isScr, itemsG, hn]
    exact bnd_ok q
  rw [evF_succ (fd := fd_need_work) rfl rfl, e]
  refine ⟨fun h => ?_, fun j h => ?_⟩
  · obtain ⟨ρ, q⟩ := l1 h
    rw [bnd_ok q]
    exact trunc_same
  · have q := l2 j h
    unfold bnd
    rw [q]
    rfl
/-- the first word that is no step -/
def bw : Nat → List Str → Option Nat
  | _, [] => none
  | i, w :: r => if stepB w then bw (i + 1) r else some i
def readBody : Ss := match fd_read_work.code with
  | .cons _ (.cons (.for_ _ _ b) _) => b
  | _ => .nil
theorem set_last {η : List Cell} {c d : Cell} : (η ++ [c]).set η.length d = η ++ [d] := by
  rw [List.set_append_right _ _ (Nat.le_refl _), Nat.sub_self]
  rfl
theorem get_last {η : List Cell} {c : Cell} : (η ++ [c])[η.length]? = some c := by
  rw [List.getElem?_append_right (Nat.le_refl _), Nat.sub_self]
  rfl
theorem read_body {k i : Nat} {z w : Str} {η : List Cell} {done : List Str} (hw : OkW w) (hd : done.length < LIM) : evSs (evF fns (k + 4)) readBody [some (.str z), some (.ref η.length), some (.int i), some (.str w)] (η ++ [.lst (txts done)]) =
    if stepB w = true then .ok (.nx [some (.str z), some (.ref η.length), some (.int i), some (.str w)]) (η ++ [.lst (txts (done ++ [w]))]) else .exc 5 [("place", .int i)] (η ++ [.lst (txts done)]) := by
  simp only [readBody, fd_read_work, evSs, evS, evE, evEs, List.getElem?_cons_zero, List.getElem?_cons_succ, Option.join_some, fromO_some, bnd_ret, is_step_ok (k := k + 2) hw, asB_bl, bnd_assoc]
  cases hs : stepB w with
  | false =>
    simp only [Bool.not_false, if_true, Bool.false_eq_true, if_false, rais_one, bnd_ex, bnd_assoc, asB_bl, bnd_ret]
    rfl
  | true =>
    simp only [Bool.not_true, if_true, Bool.false_eq_true, if_false, bnd_ret, asB_bl, bnd_assoc, List.getElem?_cons_zero, List.getElem?_cons_succ, Option.join_some, fromO_some]
    have r : recvOk .append (.ref η.length) (η ++ [.lst (txts done)]) = true := by
      show (asL (η ++ [.lst (txts done)]) (.ref η.length)).isSome = true
      simp [asL, get_last]
    have m : mtD .append (.ref η.length) [.str w] (η ++ [.lst (txts done)]) = .ok .non (η ++ [.lst (txts (done ++ [w]))]) := by
      have hl : (txts done).length < LIM := by simpa [txts] using hd
      simp only [mtD, get_last, hl, if_true, set_last]
      simp [txts]
    rw [bnd_ok (a := ()) (η' := η ++ [.lst (txts done)]) (by simp only [r, if_true]), bnd_ok m]
    rfl
theorem read_loop {k : Nat} {z : Str} {η : List Cell} : ∀ (ws : List Str) (i : Nat) (done : List Str) (x y : Option D), (∀ w ∈ ws, OkW w) → done.length + ws.length < LIM →
    (bw i ws = none → ∃ x2 y2, forL [] (bindT (.tup [2, 3])) (evSs (evF fns (k + 4)) readBody) (enumL i (txts ws)) [some (.str z), some (.ref η.length), x, y] (η ++ [.lst (txts done)]) = .ok (.nx [some (.str z), some (.ref η.length), x2, y2]) (η ++ [.lst (txts (done ++ ws))])) ∧
    (∀ j, bw i ws = some j → ∃ e, forL [] (bindT (.tup [2, 3])) (evSs (evF fns (k + 4)) readBody) (enumL i (txts ws)) [some (.str z), some (.ref η.length), x, y] (η ++ [.lst (txts done)]) = .exc 5 [("place", .int j)] (η ++ [.lst e]))
  | [], i, done, x, y, _, _ => by
    refine ⟨fun _ => ⟨x, y, ?_⟩, fun j h => ?_⟩
    · rw [List.append_nil]
      rfl
    · unfold bw at h
      cases h
  | w :: ws, i, done, x, y, hw, hl => by
    have ow := hw w List.mem_cons_self
    have hr : ∀ v ∈ ws, OkW v := fun v hv => hw v (List.mem_cons_of_mem _ hv)
    simp only [List.length_cons] at hl
    have e : forL [] (bindT (.tup [2, 3])) (evSs (evF fns (k + 4)) readBody) (enumL i (txts (w :: ws))) [some (.str z), some (.ref η.length), x, y] (η ++ [.lst (txts done)]) =
        bnd (evSs (evF fns (k + 4)) readBody [some (.str z), some (.ref η.length), some (.int i), some (.str w)]) (fun fl => match fl with
          | .nx ρ3 => forL [] (bindT (.tup [2, 3])) (evSs (evF fns (k + 4)) readBody) (enumL (i + 1) (txts ws)) ρ3
          | .rt v => Ms.ret (.rt v)) (η ++ [.lst (txts done)]) := by
      show forL _ _ _ (.tup [.int i, .str w] :: enumL (i + 1) (txts ws)) _ _ = _
      conv => lhs; unfold forL
      rfl
    have b := read_body (k := k) (i := i) (z := z) (η := η) (done := done) ow (by omega)
    rw [e]
    unfold bw
    by_cases hs : stepB w = true
    · rw [if_pos hs] at b ⊢
      rw [bnd_ok b]
      obtain ⟨l1, l2⟩ := read_loop (k := k) (z := z) (η := η) ws (i + 1) (done ++ [w]) (some (.int i)) (some (.str w)) hr (by simp; omega)
      rw [List.append_assoc] at l1
      exact ⟨l1, l2⟩
    · rw [if_neg hs] at b ⊢
      refine ⟨(fun h => nomatch h), fun j h => ⟨txts done, ?_⟩⟩
      cases h
      unfold bnd
      rw [b]
      rfl
def spaceS : Str := " "
def wds (z : Str) : List Str := if (z == ("" : Str)) = true then [] else Txt.split z spaceS
/-- what read_work comes to -/
theorem split_here {z : Str} {η : List Cell} (hl : z.length ≤ LIM) : (if (!(z == ("" : Str))) = true then bnd (fun η => if recvOk Mt.split (.str z) η = true then Res.ok () η else Res.bad) fun _ => mtD Mt.split (.str z) [.str " "] else newL false []) η = .ok (.fl (txts (wds z))) η := by
  unfold wds
  cases h : z == ("" : Str) with
  | true =>
    simp only [Bool.not_true, Bool.false_eq_true, if_false, if_true]
    rfl
  | false =>
    have l1 : ((spaceS.length == 0) = false ∧ z.length ≤ LIM) := ⟨by decide +kernel, hl⟩
    have m : mtD Mt.split (.str z) [.str spaceS] η = .ok (.fl (txts (Txt.split z spaceS))) η := by
      simp only [mtD]
      rw [if_pos l1]
    simp only [Bool.not_false, Bool.false_eq_true, if_false, if_true]
    rw [bnd_ok (a := ()) (η' := η) (by rfl)]
    exact m
theorem read_ok {k : Nat} {z : Str} {η : List Cell} (hz : PyData.strOk z = true) (hl : z.length ≤ LIM) (hw : ∀ w ∈ wds z, OkW w) (hn : (wds z).length < LIM) :
    (∀ j, bw 0 (wds z) = some j → ∃ e, evF fns (k + 5) 4 [.str z] η = .exc 5 [("place", .int j)] (η ++ [.lst e])) ∧
    (bw 0 (wds z) = none → (∀ j, nw 0 false (wds z) = some j → ∃ e, evF fns (k + 5) 4 [.str z] η = .exc 1 [("number", .int j)] (η ++ [.lst e])) ∧
      (nw 0 false (wds z) = none → evF fns (k + 5) 4 [.str z] η = .ok (.ref η.length) (η ++ [.lst (txts (wds z))]))) := by
  obtain ⟨l1, l2⟩ := read_loop (k := k) (z := z) (η := η) (wds z) 0 [] none none hw (by simpa using hn)
  have oE : PyData.strOk ("" : Str) = true := by decide +kernel
  have e : evSs (evF fns (k + 4)) fd_read_work.code (startD fd_read_work.N.length [.str z]) η =
      bnd (forL [] (bindT (.tup [2, 3])) (evSs (evF fns (k + 4)) readBody) (enumL 0 (txts (wds z))) [some (.str z), some (.ref η.length), none, none]) (fun fl => match fl with
        | .nx ρ => bnd (fromO ρ[1]?.join) fun d => bnd (evF fns (k + 4) 3 [d]) fun _ => bnd (fromO ρ[1]?.join) fun d => Ms.ret (.rt d)
        | .rt d => Ms.ret (.rt d)) (η ++ [.lst (txts [])]) := by
    have nl : newL true [] η = .ok (.ref η.length) (η ++ [.lst (txts [])]) := rfl
    simp only [fd_read_work, readBody, evSs, evS, startD, evE, evEs, constD, fromO_some, bnd_ret, bnd_assoc, bindT, List.map_cons, List.map_nil, List.length_cons, List.length_nil, List.cons_append, List.nil_append]
    rw [bnd_ok nl]
    simp only [bindT, bnd_ret, List.replicate, List.set_cons_zero, List.set_cons_succ, evIt, evE, evEs, cmpD, constD, List.getElem?_cons_zero, List.getElem?_cons_succ, Option.join_some, fromO_some, bnd_ret, bnd_assoc, ne_str hz oE, asB_bl]
    rw [bnd_ok (split_here hl)]
    have q : itEnum (.fl (txts (wds z))) (η ++ [.lst (txts [])]) = .ok (enumL 0 (txts (wds z)), []) (η ++ [.lst (txts [])]) := rfl
    rw [bnd_ok q]
    all_goals dsimp only
    all_goals congr 1
  have hf : evF fns (k + 5) 4 [.str z] η = trunc η.length (runB (evSs (evF fns (k + 4)) fd_read_work.code (startD fd_read_work.N.length [.str z]) η)) := evF_succ (fd := fd_read_work) rfl rfl
  rw [hf, e]
  refine ⟨fun j h => ?_, fun h0 => ?_⟩
  · obtain ⟨e2, q⟩ := l2 j h
    refine ⟨e2, ?_⟩
    unfold bnd
    rw [q]
    rfl
  · obtain ⟨x2, y2, q⟩ := l1 h0
    rw [List.nil_append] at q
    obtain ⟨n1, n2⟩ := need_ok (k := k) (n := η.length) (η := η ++ [.lst (txts (wds z))]) get_last hw
    rw [bnd_ok q]
    dsimp only
    simp only [List.getElem?_cons_zero, List.getElem?_cons_succ, Option.join_some, fromO_some, bnd_ret]
    refine ⟨fun j h => ⟨txts (wds z), ?_⟩, fun h => ?_⟩
    · have q2 := n2 j h
      unfold bnd
      rw [q2]
      rfl
    · rw [bnd_ok (n1 h)]
      show trunc η.length (.ok (.ref η.length) _) = _
      unfold trunc
      dsimp only
      rw [if_neg]
      rintro ⟨_, z2, _⟩
      simp [dUnder] at z2
/-! ### alike -/
theorem is_none (d : D) : isND d .non = Ms.ret (.bl (isNone d)) := by
  funext η
  cases d <;> rfl
theorem isi_at {T t : String} {d : D} {η : List Cell} (h : tyOf η d = some t) (hT : ["bool", "int", "str", "tuple", "list"].contains T = true) : isiD T d η = .ok (.bl (isSub t T)) η := by
  unfold isiD
  simp only [h, hT, if_true]
theorem isiM {T t : String} {d : D} (h : ∀ η, tyOf η d = some t) (hT : ["bool", "int", "str", "tuple", "list"].contains T = true) : isiD T d = Ms.ret (.bl (isSub t T)) := by
  funext η
  exact isi_at (h η) hT
theorem ne_bl (a b : Bool) : neD (.bl a) (.bl b) = Ms.ret (.bl (!(a == b))) := by
  funext η
  simp [neD, derP, toP, SeqAt.shaped, PyData.eqv, Ms.ret, PyData.canLay0, PyData.depth]
theorem alike_str {k : Nat} {w : Str} (hw : PyData.strOk w = true) : evF fns (k + 1) 7 [.str w, .str w] = Ms.ret (.bl true) := by
  funext η
  rw [evF_succ (fd := fd_law_alike) rfl rfl]
  have e : evSs (evF fns k) fd_law_alike.code (startD fd_law_alike.N.length [.str w, .str w]) = Ms.ret (.rt (.bl true)) := by
    have i1 : isiD "bool" (.str w) = Ms.ret (.bl false) := isiM (t := "str") (fun _ => rfl) rfl
    have i2 : isiD "int" (.str w) = Ms.ret (.bl false) := isiM (t := "str") (fun _ => rfl) rfl
    simp only [fd_law_alike, evSs, evS, evE, evAnd, evEs, startD, List.map_cons, List.map_nil, List.length_cons, List.length_nil, List.cons_append, List.nil_append, List.getElem?_cons_zero, List.getElem?_cons_succ, Option.join_some, fromO_some, bnd_ret, constD, cmpD, is_none, isNone, asB_bl, Bool.false_eq_true, if_false, if_true, i1, i2, isi_str, eq_str hw hw, beq_self_eq_true, bnd_assoc]
  rw [e]
  exact trunc_same
theorem alike_int {k : Nat} {i : Int} : evF fns (k + 1) 7 [.int i, .int i] = Ms.ret (.bl true) := by
  funext η
  rw [evF_succ (fd := fd_law_alike) rfl rfl]
  have e : evSs (evF fns k) fd_law_alike.code (startD fd_law_alike.N.length [.int i, .int i]) = Ms.ret (.rt (.bl true)) := by
    have i1 : isiD "bool" (.int i) = Ms.ret (.bl false) := isiM (t := "int") (fun _ => rfl) rfl
    have i2 : isiD "int" (.int i) = Ms.ret (.bl true) := isiM (t := "int") (fun _ => rfl) rfl
    simp only [fd_law_alike, evSs, evS, evE, evAnd, evEs, startD, List.map_cons, List.map_nil, List.length_cons, List.length_nil, List.cons_append, List.nil_append, List.getElem?_cons_zero, List.getElem?_cons_succ, Option.join_some, fromO_some, bnd_ret, constD, cmpD, is_none, isNone, asB_bl, Bool.false_eq_true, if_false, if_true, i1, i2, eq_int, beq_self_eq_true, Bool.not_false, bnd_assoc]
  rw [e]
  exact trunc_same
def alikeBody : Ss := match fd_law_alike.code with
  | .cons _ (.cons _ (.cons _ (.cons _ (.cons _ (.cons _ (.cons (.for_ _ _ b) _)))))) => b
  | _ => .nil
theorem alike_loop {k n : Nat} {a b : D} {η : List Cell} (h : ∀ i, i < n → ∃ x y, idxD a (.int i) η = .ok x η ∧ idxD b (.int i) η = .ok y η ∧ evF fns k 7 [x, y] η = .ok (.bl true) η) : ∀ (l : List Nat) (z : Option D), (∀ i ∈ l, i < n) →
    ∃ z2, forL [] (bindT (.name 2)) (evSs (evF fns k) alikeBody) (l.map fun i => .int ((i : Nat) : Int)) [some a, some b, z] η = .ok (.nx [some a, some b, z2]) η
  | [], z, _ => ⟨z, rfl⟩
  | i :: l, z, hl => by
    obtain ⟨x, y, h1, h2, h3⟩ := h i (hl i List.mem_cons_self)
    have e : evSs (evF fns k) alikeBody [some a, some b, some (.int i)] η = .ok (.nx [some a, some b, some (.int i)]) η := by
      simp only [alikeBody, fd_law_alike, evSs, evS, evE, evEs, List.getElem?_cons_zero, List.getElem?_cons_succ, Option.join_some, fromO_some, bnd_ret, bnd_assoc]
      unfold asB
      simp only [bnd_assoc]
      rw [bnd_ok h1, bnd_ok h2, bnd_ok h3]
      rfl
    obtain ⟨z2, q⟩ := alike_loop h l (some (.int i)) fun j hj => hl j (List.mem_cons_of_mem _ hj)
    refine ⟨z2, ?_⟩
    show forL [] _ _ (.int i :: l.map fun i => .int ((i : Nat) : Int)) _ _ = _
    conv => lhs; unfold forL
    have g0 : chkG [] η = .ok () η := rfl
    rw [bnd_ok g0]
    show bnd (evSs (evF fns k) alikeBody [some a, some b, some (.int i)]) _ η = _
    rw [bnd_ok e]
    exact q
theorem alike_gen {k n : Nat} {a b : D} {η : List Cell} {t : String} (ht : t = "tuple" ∨ t = "list") (hn : n ≤ 1000000) (ta : tyOf η a = some t) (tb : ∀ η, tyOf η b = some t) (la : lenD [a] η = .ok (.int n) η) (lb : lenD [b] η = .ok (.int n) η)
    (h : ∀ i, i < n → ∃ x y, idxD a (.int i) η = .ok x η ∧ idxD b (.int i) η = .ok y η ∧ evF fns k 7 [x, y] η = .ok (.bl true) η) : evF fns (k + 1) 7 [a, b] η = .ok (.bl true) η := by
  rw [evF_succ (fd := fd_law_alike) rfl rfl]
  obtain ⟨z2, q⟩ := alike_loop (k := k) h (List.range n) none fun i hi => List.mem_range.mp hi
  have nb : isNone b = false := by
    cases b <;> first | rfl | (have q2 := tb η; simp only [tyOf, Option.some.injEq] at q2; subst q2; simp at ht)
  have ib : ∀ T : String, ["bool", "int", "str", "tuple", "list"].contains T = true → isiD T b = Ms.ret (.bl (isSub t T)) := fun T hT => isiM tb hT
  have ia : ∀ T : String, ["bool", "int", "str", "tuple", "list"].contains T = true → isiD T a η = .ok (.bl (isSub t T)) η := fun T hT => isi_at ta hT
  have r1 : itR1 (.int n) η = .ok ((List.range n).map fun i => .int ((i : Nat) : Int), []) η := by
    have hj : -1000000 ≤ (n : Int) ∧ (n : Int) ≤ 1000000 := by omega
    simp only [itR1]
    rw [if_pos hj]
    simp [Ms.ret]
  have e : evSs (evF fns k) fd_law_alike.code (startD fd_law_alike.N.length [a, b]) η = .ok (.rt (.bl true)) η := by
    have s1 : isSub t "bool" = false := by rcases ht with rfl | rfl <;> rfl
    have s2 : isSub t "int" = false := by rcases ht with rfl | rfl <;> rfl
    have s3 : isSub t "str" = false := by rcases ht with rfl | rfl <;> rfl
    simp only [fd_law_alike, evSs, evS, evE, evAnd, evOr, evEs, startD, List.map_cons, List.map_nil, List.length_cons, List.length_nil, List.cons_append, List.nil_append, List.getElem?_cons_zero, List.getElem?_cons_succ, Option.join_some, fromO_some, bnd_ret, constD, cmpD, biD, is_none, nb, asB_bl, Bool.false_eq_true, if_false, asB_bnd, bnd_assoc, s1, s2, s3, ib "bool" rfl, ib "int" rfl, ib "str" rfl, ib "tuple" rfl, ib "list" rfl]
    rw [bnd_ok (ia "tuple" rfl)]
    simp only [ne_bl, beq_self_eq_true, Bool.not_true, bnd_ret, asB_bl, asB_bnd, Bool.false_eq_true, if_false, bnd_assoc]
    rw [bnd_ok (ia "list" rfl)]
    simp only [ne_bl, beq_self_eq_true, Bool.not_true, bnd_ret, asB_bl, asB_bnd, Bool.false_eq_true, if_false, bnd_assoc, List.getElem?_cons_zero, List.getElem?_cons_succ, Option.join_some, fromO_some]
    rw [bnd_ok la, bnd_ok lb]
    simp only [ne_int, beq_self_eq_true, Bool.not_true, bnd_ret, asB_bl, asB_bnd, Bool.false_eq_true, if_false, bnd_assoc, evIt, evE, evEs, biD, List.getElem?_cons_zero, List.getElem?_cons_succ, Option.join_some, fromO_some]
    rw [bnd_ok lb, bnd_ok r1]
    dsimp only
    simp only [alikeBody, fd_law_alike, evSs, evS, evE, evEs, bnd_ret, asB_bl, asB_bnd, bnd_assoc] at q
    exact (bnd_ok q).trans rfl
  rw [e]
  exact trunc_same
theorem ix_get {ds : List D} {i : Nat} {x : D} {η : List Cell} (h : ds[i]? = some x) : idxD (.tup ds) (.int i) η = .ok x η ∧ idxD (.fl ds) (.int i) η = .ok x η := by
  have hi := (List.getElem?_eq_some_iff.mp h).1
  have a : atI ds (i : Int) = some x := by
    unfold atI ixN
    have h1 : (0 : Int) ≤ (i : Int) := by omega
    have h2 : (i : Int) < (ds.length : Int) := by omega
    simp [h1, h2, h]
  constructor
  · show fromO (atI ds (i : Int)) η = _
    rw [a]
    rfl
  · show fromO ((asL η (.fl ds)).bind fun xs => atI xs (i : Int)) η = _
    simp [asL, a]
    rfl
theorem alike_tup {k : Nat} {w : Str} {i : Int} {η : List Cell} (hw : PyData.strOk w = true) : evF fns (k + 2) 7 [.tup [.str w, .int i], .tup [.str w, .int i]] η = .ok (.bl true) η :=
  alike_gen (t := "tuple") (n := 2) (.inl rfl) (by decide) rfl (fun _ => rfl) rfl rfl fun j hj => by
    match j, hj with
    | 0, _ => exact ⟨_, _, (ix_get rfl).1, (ix_get rfl).1, by rw [alike_str hw]; rfl⟩
    | 1, _ => exact ⟨_, _, (ix_get rfl).1, (ix_get rfl).1, by rw [alike_int]; rfl⟩
theorem alike_lst {k n : Nat} {ws : List Str} {η : List Cell} (hn : η[n]? = some (.lst (txts ws))) (hw : ∀ w ∈ ws, OkW w) (hl : ws.length ≤ 1000000) : evF fns (k + 2) 7 [.ref n, .fl (txts ws)] η = .ok (.bl true) η := by
  have ln : (txts ws).length = ws.length := by simp [txts]
  refine alike_gen (t := "list") (n := ws.length) (.inr rfl) hl (by simp [tyOf, hn]) (fun _ => rfl) ?_ ?_ fun j hj => ?_
  · show (match asQ η (D.ref n) with | some xs => Res.ok (D.int xs.length) η | none => Res.bad) = _
    rw [show asQ η (.ref n) = some (txts ws) from by simp [asQ, asL, hn]]
    show Res.ok (D.int (txts ws).length) η = _
    rw [ln]
  · show Res.ok (D.int (txts ws).length) η = _
    rw [ln]
  · have e : (txts ws)[j]? = some (.str ws[j]) := by simp [txts, hj]
    refine ⟨_, _, ?_, (ix_get e).2, by rw [alike_str (hw ws[j] (List.getElem_mem hj)).ok]; rfl⟩
    have e2 : idxD (.ref n) (.int j) η = idxD (.fl (txts ws)) (.int j) η := by
      show fromO ((asL η (.ref n)).bind fun xs => atI xs (j : Int)) η = fromO ((asL η (.fl (txts ws))).bind fun xs => atI xs (j : Int)) η
      simp [asL, hn]
    rw [e2]
    exact (ix_get e).2
/-! ### what is due -/
def dueBody1 : Ss := match fd_law_due.code with
  | .cons _ (.cons (.for_ _ _ b) _) => b
  | _ => .nil
def dueBody2 : Ss := match fd_law_due.code with
  | .cons _ (.cons _ (.cons (.for_ _ _ b) _)) => b
  | _ => .nil
theorem in_abc (c : Nat) (neg : Bool) : inD neg (.str (S1 c)) (.str "abcdefgh") = Ms.ret (.bl (if neg then !decide (c ∈ letters) else decide (c ∈ letters))) := by
  have e : ("abcdefgh" : Str).cps.toList = letters := by decide +kernel
  show Ms.ret (D.bl (if neg then !inStr (S1 c) "abcdefgh" else inStr (S1 c) "abcdefgh")) = _
  unfold inStr
  rw [StrLaws.found_one, e]
theorem in_crw (c : Nat) (neg : Bool) : inD neg (.str (S1 c)) (.str "crw") = Ms.ret (.bl (if neg then !signB c else signB c)) := by
  have e : ("crw" : Str).cps.toList = [99, 114, 119] := by decide +kernel
  show Ms.ret (D.bl (if neg then !inStr (S1 c) "crw" else inStr (S1 c) "crw")) = _
  unfold inStr
  rw [StrLaws.found_one, e]
  have : decide (c ∈ [99, 114, 119]) = signB c := by
    unfold signB
    simp only [List.mem_cons, List.mem_nil_iff, or_false, Bool.decide_or]
    cases h1 : decide (c = 99) <;> cases h2 : decide (c = 114) <;> cases h3 : decide (c = 119) <;> simp_all
  rw [this]
theorem due_body1 {k i : Nat} {z w : Str} {ws : List Str} {x a b c : Option D} (hw : OkW w) (hi : (txts ws)[i]? = some (.str w)) (η : List Cell) : evSs (evF fns k) dueBody1 [some (.str z), some (.fl (txts ws)), some (.int i), x, a, b, c] η =
    if stepB w = true then .ok (.nx [some (.str z), some (.fl (txts ws)), some (.int i), some (.str w), a, b, c]) η else .ok (.rt (.tup [.str "BadText", .int i])) η := by
  have ix := (ix_get (η := η) hi).2
  have t2 : 0 + 1 + 1 ≤ LIM := by decide
  simp only [dueBody1, fd_law_due, evSs, evS, evE, evEs, evOr, List.getElem?_cons_zero, List.getElem?_cons_succ, Option.join_some, fromO_some, bnd_ret, asB_bl, asB_bnd, bnd_assoc]
  rw [bnd_ok ix]
  simp only [bindT, List.set_cons_zero, List.set_cons_succ, List.getElem?_cons_zero, List.getElem?_cons_succ, Option.join_some, fromO_some, bnd_ret, asB_bl, asB_bnd, bnd_assoc, constD, biD, cmpD, len_str hw.lim, ne_int]
  by_cases h2 : w.length = 2
  · have hl : w.cps.toList.length = 2 := by simpa [Str.length] using h2
    match hq : w.cps.toList, hl with
    | [c1, c2], _ =>
      have e22 : (((2 : Nat) : Int) == 2) = true := rfl
      simp only [h2, e22, ix0 hq hw.lim, ix1 hq hw.lim, Bool.not_true, Bool.false_eq_true, if_false, bnd_ret, in_abc, in_crw, if_true, asB_bl, stepB, hq, bnd_assoc]
      cases h3 : decide (c1 ∈ letters) <;> cases h4 : signB c2 <;> simp only [h3, h4, Bool.not_true, Bool.not_false, Bool.false_eq_true, if_false, if_true, bnd_ret, asB_bl, bnd_assoc, t2, Bool.and_true, Bool.and_false, Bool.true_and, Bool.false_and, List.length_cons, List.length_nil] <;> rfl
  · have hs : stepB w = false := by
      unfold stepB
      split
      · rename_i c1 c2 hq
        exact absurd (by simp [Str.length, ← Array.length_toList, hq]) h2
      · rfl
    have e2 : ((w.length : Int) == 2) = false := by
      rw [beq_eq_false_iff_ne]
      omega
    simp only [e2, hs, Bool.not_false, Bool.false_eq_true, if_false, if_true, bnd_ret, asB_bl, bnd_assoc, t2, List.length_cons, List.length_nil]
    rfl
theorem due_loop1 {k : Nat} {z : Str} {ws : List Str} {a b c : Option D} {η : List Cell} (hw : ∀ w ∈ ws, OkW w) : ∀ (r : List Str) (i : Nat) (p x : Option D), ws.drop i = r →
    (bw i r = none → ∃ p2 x2, forL [] (bindT (.name 2)) (evSs (evF fns k) dueBody1) ((List.range' i r.length).map fun i => .int ((i : Nat) : Int)) [some (.str z), some (.fl (txts ws)), p, x, a, b, c] η = .ok (.nx [some (.str z), some (.fl (txts ws)), p2, x2, a, b, c]) η) ∧
    (∀ j, bw i r = some j → forL [] (bindT (.name 2)) (evSs (evF fns k) dueBody1) ((List.range' i r.length).map fun i => .int ((i : Nat) : Int)) [some (.str z), some (.fl (txts ws)), p, x, a, b, c] η = .ok (.rt (.tup [.str "BadText", .int j])) η)
  | [], i, p, x, _ => by
    refine ⟨fun _ => ⟨p, x, rfl⟩, fun j h => ?_⟩
    unfold bw at h
    cases h
  | w :: r, i, p, x, hd => by
    have hi : ws[i]? = some w := by
      have q := congrArg (fun l : List Str => l[0]?) hd
      simpa using q
    have ow := hw w (List.mem_of_getElem? hi)
    have hr : ws.drop (i + 1) = r := by
      rw [← List.drop_drop, hd]
      rfl
    have ht : (txts ws)[i]? = some (.str w) := by simp [txts, hi]
    have e : forL [] (bindT (.name 2)) (evSs (evF fns k) dueBody1) ((List.range' i (w :: r).length).map fun i => .int ((i : Nat) : Int)) [some (.str z), some (.fl (txts ws)), p, x, a, b, c] η =
        bnd (evSs (evF fns k) dueBody1 [some (.str z), some (.fl (txts ws)), some (.int i), x, a, b, c]) (fun fl => match fl with
          | .nx ρ3 => forL [] (bindT (.name 2)) (evSs (evF fns k) dueBody1) ((List.range' (i + 1) r.length).map fun i => .int ((i : Nat) : Int)) ρ3
          | .rt v => Ms.ret (.rt v)) η := by
      show forL _ _ _ (.int i :: (List.range' (i + 1) r.length).map fun i => .int ((i : Nat) : Int)) _ η = _
      conv => lhs; unfold forL
      rfl
    have bd := due_body1 (k := k) (i := i) (z := z) (x := x) (a := a) (b := b) (c := c) ow ht η
    rw [e]
    unfold bw
    by_cases hs : stepB w = true
    · rw [if_pos hs] at bd ⊢
      rw [bnd_ok bd]
      exact due_loop1 hw r (i + 1) _ _ hr
    · rw [if_neg hs] at bd ⊢
      refine ⟨(fun h => nomatch h), fun j h => ?_⟩
      cases h
      rw [bnd_ok bd]
      rfl
theorem eq_nil {fs : List Str} (h : ∀ w ∈ fs, OkW w) (hl : fs.length ≤ 1000000) : eqD (.fl (txts fs)) (.fl []) = Ms.ret (.bl fs.isEmpty) := by
  funext η
  have tp : ∀ fs : List Str, toPs (txts fs) = some (fs.map PyData.str) := fun fs => by
    induction fs with
    | nil => rfl
    | cons w r ih =>
      show (match toP (.str w), toPs (txts r) with | some p, some ps => some (p :: ps) | _, _ => none) = _
      rw [ih]
      rfl
  have cl : ∀ fs : List Str, (∀ w ∈ fs, OkW w) → PyData.canLayAll0 (fs.map PyData.str) = true := fun fs => by
    induction fs with
    | nil => exact fun _ => rfl
    | cons w r ih =>
      intro h
      show (PyData.canLay0 (.str w) && PyData.canLayAll0 (r.map PyData.str)) = true
      rw [ih fun v hv => h v (List.mem_cons_of_mem _ hv)]
      simp [PyData.canLay0, (h w List.mem_cons_self).ok]
  have dp : ∀ fs : List Str, PyData.depthAll (fs.map PyData.str) = 0 := fun fs => by
    induction fs with
    | nil => rfl
    | cons w r ih =>
      show max (PyData.depth (.str w)) (PyData.depthAll (r.map PyData.str)) = 0
      rw [ih]
      rfl
  have sh : SeqAt.shaped (.list (fs.map PyData.str)) = true := by
    simp [SeqAt.shaped, PyData.canLay0, cl fs h, PyData.depth, dp fs]
  have sh0 : SeqAt.shaped (.list []) = true := by
    simp [SeqAt.shaped, PyData.canLay0, PyData.canLayAll0, PyData.depth, PyData.depthAll]
  have d1 : derP η (.fl (txts fs)) = some (.list (fs.map PyData.str)) := by
    show (toPs (txts fs)).map PyData.list = _
    rw [tp]
    rfl
  have d2 : derP η (.fl []) = some (.list []) := rfl
  have ev : PyData.eqv (.list (fs.map PyData.str)) (.list []) = fs.isEmpty := by
    cases fs <;> simp [PyData.eqv, PyData.eqvAll]
  unfold eqD
  rw [d1, d2]
  dsimp only
  rw [if_pos ⟨sh, sh0⟩, ev]
  rfl
def lateC : Eo := .some (.cmp .eq (.sub (.loc 6) (.cst (.int 1))) (.cst (.str "w")))
theorem late_loop {cf : Nat → List D → M D} {p0 p1 p2 p3 p4 p5 p6 : Option D} {η : List Cell} : ∀ (us acc : List Str), (∀ w ∈ us, OkW w ∧ stepB w = true) → acc.length + us.length < LIM →
    lcL [] (fun d => bindT (.name 6) d (wipeD [p0, p1, p2, p3, p4, p5, p6] [6])) (evC cf lateC) (evE cf (.loc 6)) (txts us) (txts acc) η = .ok (txts (acc ++ us.filter fun w => sg w == 119)) η
  | [], acc, _, _ => by
    rw [List.filter_nil, List.append_nil]
    rfl
  | w :: us, acc, h, hl => by
    obtain ⟨ow, hs⟩ := h w List.mem_cons_self
    obtain ⟨c1, c2, hq, _, hg⟩ := step_two hs
    have o2 : OkW (S1 c2) := S1_ok (ok_char ow (by rw [hq]; simp))
    have eW : ("w" : Str) = S1 119 := by decide +kernel
    have oW : OkW (S1 119) := S1_ok (by decide)
    have hr : ∀ v ∈ us, OkW v ∧ stepB v = true := fun v hv => h v (List.mem_cons_of_mem _ hv)
    simp only [List.length_cons] at hl
    have la : (txts acc).length < LIM := by
      have : (txts acc).length = acc.length := by simp [txts]
      omega
    have c : evC cf lateC [p0, p1, p2, p3, p4, p5, some (.str w)] = Ms.ret (sg w == 119) := by
      simp only [lateC, evC, evE, List.getElem?_cons_zero, List.getElem?_cons_succ, Option.join_some, fromO_some, bnd_ret, constD, cmpD, ix1 hq ow.lim, eW, eq_str o2.ok oW.ok, asB_bl, S1_beq, hg]
    have x : evE cf (.loc 6) [p0, p1, p2, p3, p4, p5, some (.str w)] = Ms.ret (.str w) := by
      simp only [evE, List.getElem?_cons_zero, List.getElem?_cons_succ, Option.join_some, fromO_some]
    show lcL [] _ _ _ (.str w :: txts us) (txts acc) η = _
    conv => lhs; unfold lcL
    have g0 : chkG [] η = .ok () η := rfl
    rw [bnd_ok g0]
    show bnd (noX (evC cf lateC [p0, p1, p2, p3, p4, p5, some (.str w)])) (fun b => if b = true then bnd (noX (evE cf (.loc 6) [p0, p1, p2, p3, p4, p5, some (.str w)])) fun y => if (txts acc).length < LIM then lcL [] _ _ _ (txts us) (txts acc ++ [y]) else bad else lcL [] _ _ _ (txts us) (txts acc)) η = _
    rw [c, x]
    have nx1 : ∀ {α : Type} (v : α), noX (Ms.ret v) = Ms.ret v := fun v => rfl
    rw [nx1, nx1, bnd_ret, bnd_ret, if_pos la]
    rw [List.filter_cons]
    cases hb : sg w == 119 with
    | true =>
      rw [if_pos rfl, if_pos rfl]
      have q := late_loop (cf := cf) (p0 := p0) (p1 := p1) (p2 := p2) (p3 := p3) (p4 := p4) (p5 := p5) (p6 := p6) (η := η) us (acc ++ [w]) hr (by simp; omega)
      have e : txts acc ++ [D.str w] = txts (acc ++ [w]) := by simp [txts]
      rw [e]
      rw [List.append_assoc] at q
      exact q
    | false =>
      rw [if_neg Bool.false_ne_true, if_neg Bool.false_ne_true]
      exact late_loop us acc hr (by omega)
theorem cut_take {ws : List Str} {i : Nat} (hi : i ≤ ws.length) (η : List Cell) : sliceD (.fl (txts ws)) none (some (i : Int)) η = .ok (.fl (txts (ws.take i))) η := by
  have e : cutD (txts ws) none (some (i : Int)) = txts (ws.take i) := by
    have ln : (txts ws).length = ws.length := by simp [txts]
    unfold cutD
    rw [ln]
    have h1 : HT.sIx ws.length 0 none = 0 := rfl
    have h2 : HT.sIx ws.length ws.length (some (i : Int)) = i := by
      rw [HT.sIx_nat]
      omega
    rw [h1, h2]
    simp [txts, List.map_take]
  show (match asL η (.fl (txts ws)) with | some xs => Res.ok (D.fl (cutD xs none (some (i : Int)))) η | none => Res.bad) = _
  show Res.ok (D.fl (cutD (txts ws) none (some (i : Int)))) η = _
  rw [e]
def lateB (ws : List Str) (i : Nat) (w : Str) : Bool := (sg w == 99) && ((ws.take i).filter fun w => sg w == 119).isEmpty
theorem due_body2 {k i : Nat} {z w : Str} {ws : List Str} {p x a c : Option D} (hw : ∀ w ∈ ws, OkW w ∧ stepB w = true) (hl : ws.length ≤ 900000) (hi : ws[i]? = some w) (η : List Cell) : evSs (evF fns k) dueBody2 [some (.str z), some (.fl (txts ws)), p, x, some (.int i), a, c] η =
    if (((i : Int) == 12) || lateB ws i w) = true then .ok (.rt (.tup [.str "BadWork", .int i])) η else .ok (.nx [some (.str z), some (.fl (txts ws)), p, x, some (.int i), some (.bl (lateB ws i w)), c]) η := by
  obtain ⟨ow, hs⟩ := hw w (List.mem_of_getElem? hi)
  obtain ⟨c1, c2, hq, _, hg⟩ := step_two hs
  have o2 : OkW (S1 c2) := S1_ok (ok_char ow (by rw [hq]; simp))
  have eC : ("c" : Str) = S1 99 := by decide +kernel
  have oC : OkW (S1 99) := S1_ok (by decide)
  have ht : (txts ws)[i]? = some (.str w) := by simp [txts, hi]
  have ix := (ix_get (η := η) ht).2
  have t2 : 0 + 1 + 1 ≤ LIM := by decide
  have il : i ≤ ws.length := Nat.le_of_lt (List.getElem?_eq_some_iff.mp hi).1
  simp only [dueBody2, fd_law_due, evSs, evS, evE, evEs, evAnd, evOr, evO, evIt, List.getElem?_cons_zero, List.getElem?_cons_succ, Option.join_some, fromO_some, bnd_ret, asB_bl, asB_bnd, bnd_assoc, constD, cmpD, biD]
  rw [bnd_ok ix]
  simp only [ix1 hq ow.lim, bnd_ret, eC, eq_str o2.ok oC.ok, S1_beq, asB_bl, bnd_assoc]
  have val : ∀ (E : M D), E η = .ok (.bl ((ws.take i).filter fun w => sg w == 119).isEmpty) η → (if (c2 == 99) = true then E else Ms.ret (.bl false)) η = .ok (.bl (lateB ws i w)) η := fun E hE => by
    unfold lateB
    rw [hg]
    cases h9 : c2 == 99 with
    | true => rw [if_pos rfl, hE, Bool.true_and]
    | false => rw [if_neg Bool.false_ne_true, Bool.false_and] <;> rfl
  have hsub : ∀ v ∈ ws.take i, OkW v ∧ stepB v = true := fun v hv => hw v (List.mem_of_mem_take hv)
  have lt : ([] : List Str).length + (ws.take i).length < LIM := by
    have : LIM = 1000000 := rfl
    simp [List.length_take]
    omega
  have lp := late_loop (cf := evF fns k) (p0 := some (.str z)) (p1 := some (.fl (txts ws))) (p2 := p) (p3 := x) (p4 := some (.int i)) (p5 := a) (p6 := c) (η := η) (ws.take i) [] hsub lt
  rw [List.nil_append] at lp
  have ai : asI (.int (i : Int)) η = .ok (some (i : Int)) η := rfl
  have iv : itVal (.fl (txts (ws.take i))) η = .ok (txts (ws.take i), []) η := rfl
  have fl : ((ws.take i).filter fun w => sg w == 119).length ≤ 1000000 := by
    have q := List.length_filter_le (fun w => sg w == 119) (ws.take i)
    rw [List.length_take] at q
    omega
  have nl : newL false (txts ((ws.take i).filter fun w => sg w == 119)) η = .ok (.fl (txts ((ws.take i).filter fun w => sg w == 119))) η := by
    have ln : (txts ((ws.take i).filter fun w => sg w == 119)).length ≤ LIM := by
      have : LIM = 1000000 := rfl
      simp only [txts, List.length_map]
      omega
    unfold newL
    rw [if_pos ln, if_neg Bool.false_ne_true]
  have nl0 : newL false [] η = .ok (.fl []) η := rfl
  have okf : ∀ v ∈ (ws.take i).filter (fun w => sg w == 119), OkW v := fun v hv => (hsub v (List.mem_filter.mp hv).1).1
  rw [bnd_ok (val _ (by
    rw [bnd_ok ai, bnd_ok (cut_take il η), bnd_ok iv]
    refine (bnd_ok (a := txts ((ws.take i).filter fun w => sg w == 119)) (η' := η) ?_).trans ?_
    · simp only [lateC, evE] at lp
      exact lp
    · rw [bnd_ok nl, bnd_ok nl0, eq_nil okf fl]
      rfl))]
  simp only [bindT, List.set_cons_zero, List.set_cons_succ, List.getElem?_cons_zero, List.getElem?_cons_succ, Option.join_some, fromO_some, bnd_ret, bnd_assoc, eq_int, asB_bl]
  cases h12 : ((i : Int) == 12) with
  | true =>
    simp only [if_true, Bool.true_or, bnd_ret, asB_bl, bnd_assoc]
    rfl
  | false =>
    cases hL : lateB ws i w with
    | true =>
      simp only [if_true, Bool.false_eq_true, if_false, Bool.or_true, bnd_ret, asB_bl, bnd_assoc]
      rfl
    | false =>
      simp only [Bool.false_eq_true, if_false, Bool.or_false, bnd_ret, asB_bl, bnd_assoc]
      rfl
theorem due_loop2 {k : Nat} {z : Str} {ws : List Str} {p x c : Option D} {η : List Cell} (hw : ∀ w ∈ ws, OkW w ∧ stepB w = true) (hl : ws.length ≤ 900000) : ∀ (r : List Str) (i : Nat) (b : Bool) (n1 l1 : Option D), ws.drop i = r → i ≤ 12 → b = !((ws.take i).filter fun w => sg w == 119).isEmpty →
    (nw i b r = none → ∃ n2 l2, forL [] (bindT (.name 4)) (evSs (evF fns k) dueBody2) ((List.range' i r.length).map fun i => .int ((i : Nat) : Int)) [some (.str z), some (.fl (txts ws)), p, x, n1, l1, c] η = .ok (.nx [some (.str z), some (.fl (txts ws)), p, x, n2, l2, c]) η) ∧
    (∀ j, nw i b r = some j → forL [] (bindT (.name 4)) (evSs (evF fns k) dueBody2) ((List.range' i r.length).map fun i => .int ((i : Nat) : Int)) [some (.str z), some (.fl (txts ws)), p, x, n1, l1, c] η = .ok (.rt (.tup [.str "BadWork", .int j])) η)
  | [], i, b, n1, l1, _, _, _ => by
    refine ⟨fun _ => ⟨n1, l1, rfl⟩, fun j h => ?_⟩
    unfold nw at h
    cases h
  | w :: r, i, b, n1, l1, hd, h12, hb => by
    have hi : ws[i]? = some w := by
      have q := congrArg (fun l : List Str => l[0]?) hd
      simpa using q
    have hs := (hw w (List.mem_of_getElem? hi)).2
    have hr : ws.drop (i + 1) = r := by
      rw [← List.drop_drop, hd]
      rfl
    have e : forL [] (bindT (.name 4)) (evSs (evF fns k) dueBody2) ((List.range' i (w :: r).length).map fun i => .int ((i : Nat) : Int)) [some (.str z), some (.fl (txts ws)), p, x, n1, l1, c] η =
        bnd (evSs (evF fns k) dueBody2 [some (.str z), some (.fl (txts ws)), p, x, some (.int i), l1, c]) (fun fl => match fl with
          | .nx ρ3 => forL [] (bindT (.name 4)) (evSs (evF fns k) dueBody2) ((List.range' (i + 1) r.length).map fun i => .int ((i : Nat) : Int)) ρ3
          | .rt v => Ms.ret (.rt v)) η := by
      show forL _ _ _ (.int i :: (List.range' (i + 1) r.length).map fun i => .int ((i : Nat) : Int)) _ η = _
      conv => lhs; unfold forL
      rfl
    have bd := due_body2 (k := k) (i := i) (z := z) (p := p) (x := x) (a := l1) (c := c) hw hl hi η
    have same : (((i : Int) == 12) || lateB ws i w) = (decide (12 ≤ i) || !nextB w b) := by
      have q1 : ((i : Int) == 12) = decide (12 ≤ i) := by
        by_cases h : i = 12
        · subst h
          rfl
        · have h2 : ¬ 12 ≤ i := by omega
          have h3 : ¬ ((i : Int) = 12) := by omega
          rw [decide_eq_false h2, beq_eq_false_iff_ne.mpr h3]
      rw [q1]
      unfold lateB nextB
      rw [hs, hb]
      cases (sg w == 99) <;> cases ((ws.take i).filter fun w => sg w == 119).isEmpty <;> rfl
    rw [e]
    unfold nw
    rw [same] at bd
    by_cases hc : (decide (12 ≤ i) || !nextB w b) = true
    · rw [if_pos hc] at bd ⊢
      refine ⟨(fun h => nomatch h), fun j h => ?_⟩
      cases h
      rw [bnd_ok bd]
      rfl
    · rw [if_neg hc] at bd ⊢
      rw [bnd_ok bd]
      have hlt : i < ws.length := (List.getElem?_eq_some_iff.mp hi).1
      have hge : ws[i] = w := (List.getElem?_eq_some_iff.mp hi).2
      have i12 : i + 1 ≤ 12 := by
        have : decide (12 ≤ i) = false := by
          cases h : decide (12 ≤ i) with
          | false => rfl
          | true => rw [h] at hc; exact absurd rfl hc
        have := of_decide_eq_false this
        omega
      refine due_loop2 hw hl r (i + 1) (b || sg w == 119) _ _ hr i12 ?_
      rw [List.take_succ_eq_append_getElem hlt, hge, List.filter_append, hb]
      cases hf : (ws.take i).filter (fun w => sg w == 119) with
      | nil => cases h9 : (sg w == 119) <;> simp [List.filter, h9]
      | cons y ys => simp
theorem bw_none : ∀ {ws : List Str} {i : Nat}, bw i ws = none → ∀ w ∈ ws, stepB w = true
  | [], _, _, w, hw => by cases hw
  | v :: ws, i, h, w, hw => by
    unfold bw at h
    by_cases hs : stepB v = true
    · rw [if_pos hs] at h
      rcases List.mem_cons.mp hw with e | e
      · rw [e]
        exact hs
      · exact bw_none h w e
    · rw [if_neg hs] at h
      cases h
theorem rng_at {n : Nat} {η : List Cell} (hn : n ≤ 1000000) : itR1 (.int n) η = .ok ((List.range' 0 n).map fun i => .int ((i : Nat) : Int), []) η := by
  have hj : -1000000 ≤ (n : Int) ∧ (n : Int) ≤ 1000000 := by omega
  simp only [itR1]
  rw [if_pos hj]
  simp [Ms.ret, List.range_eq_range']
/-- what is due for a text -/
theorem due_ok {k : Nat} {z : Str} {η : List Cell} (hz : PyData.strOk z = true) (hl : z.length ≤ LIM) (hw : ∀ w ∈ wds z, OkW w) (hn : (wds z).length ≤ 900000) :
    (∀ j, bw 0 (wds z) = some j → evF fns (k + 1) 10 [.str z] η = .ok (.tup [.str "BadText", .int j]) η) ∧
    (bw 0 (wds z) = none → (∀ j, nw 0 false (wds z) = some j → evF fns (k + 1) 10 [.str z] η = .ok (.tup [.str "BadWork", .int j]) η) ∧ (nw 0 false (wds z) = none → evF fns (k + 1) 10 [.str z] η = .ok (.fl (txts (wds z))) η)) := by
  obtain ⟨a1, a2⟩ := due_loop1 (k := k) (z := z) (ws := wds z) (a := none) (b := none) (c := none) (η := η) hw (wds z) 0 none none rfl
  have oE : PyData.strOk ("" : Str) = true := by decide +kernel
  have ln : lenD [.fl (txts (wds z))] η = .ok (.int (wds z).length) η := by
    show Res.ok (D.int (txts (wds z)).length) η = _
    simp [txts]
  have e : evSs (evF fns k) fd_law_due.code (startD fd_law_due.N.length [.str z]) η =
      bnd (forL [] (bindT (.name 2)) (evSs (evF fns k) dueBody1) ((List.range' 0 (wds z).length).map fun i => .int ((i : Nat) : Int)) [some (.str z), some (.fl (txts (wds z))), none, none, none, none, none]) (fun fl => match fl with
        | .nx ρ => bnd (bnd (fromO ρ[1]?.join) fun a => bnd (lenD [a]) fun a => bnd (itR1 a) fun items => forL items.2 (bindT (.name 4)) (evSs (evF fns k) dueBody2) items.1 ρ) fun fl => (match fl with
          | .nx ρ => bnd (fromO ρ[1]?.join) fun d => Ms.ret (.rt d)
          | .rt d => Ms.ret (.rt d))
        | .rt d => Ms.ret (.rt d)) η := by
    simp only [fd_law_due, dueBody1, dueBody2, evSs, evS, evIt, startD, evE, evEs, constD, cmpD, biD, fromO_some, bnd_ret, bnd_assoc, asB_bl, ne_str hz oE, List.map_cons, List.map_nil, List.length_cons, List.length_nil, List.cons_append, List.nil_append, List.getElem?_cons_zero, List.getElem?_cons_succ, Option.join_some]
    rw [bnd_ok (split_here hl)]
    simp only [bindT, bnd_ret, List.replicate, List.set_cons_zero, List.set_cons_succ, List.getElem?_cons_zero, List.getElem?_cons_succ, Option.join_some, fromO_some]
    rw [bnd_ok ln, bnd_ok (rng_at (by omega))]
    all_goals dsimp only
    all_goals
      refine congrFun (congrArg (bnd _) (funext fun fl => ?_)) η
      cases fl with
      | nx ρ =>
        simp only [bnd_assoc]
        first
          | rfl
          | (congr 1; funext a; congr 1; funext a; congr 1; funext a; congr 1; funext fl; cases fl <;> rfl)
      | rt d => rfl
  have hf : evF fns (k + 1) 10 [.str z] η = trunc η.length (runB (evSs (evF fns k) fd_law_due.code (startD fd_law_due.N.length [.str z]) η)) := evF_succ (fd := fd_law_due) rfl rfl
  rw [hf, e]
  refine ⟨fun j h => ?_, fun h0 => ?_⟩
  · rw [bnd_ok (a2 j h)]
    exact trunc_same
  · obtain ⟨p2, x2, q⟩ := a1 h0
    have hw2 : ∀ w ∈ wds z, OkW w ∧ stepB w = true := fun w h => ⟨hw w h, bw_none h0 w h⟩
    obtain ⟨b1, b2⟩ := due_loop2 (k := k) (z := z) (ws := wds z) (p := p2) (x := x2) (c := none) (η := η) hw2 hn (wds z) 0 false none none rfl (by decide) rfl
    rw [bnd_ok q]
    dsimp only
    simp only [List.getElem?_cons_zero, List.getElem?_cons_succ, Option.join_some, fromO_some, bnd_ret, bnd_assoc]
    rw [bnd_ok ln, bnd_ok (rng_at (by omega))]
    refine ⟨fun j h => ?_, fun h => ?_⟩
    · rw [bnd_ok (b2 j h)]
      exact trunc_same
    · obtain ⟨n2, l2, q2⟩ := b1 h
      rw [bnd_ok q2]
      exact trunc_same
/-- what is told of a text is alike to what is due -/
theorem told_alike {k k2 k3 : Nat} {z : Str} {η : List Cell} {p : Str × Option Str} {q : Str} (h0 : η[0]? = some (.tab p q)) (hz : PyData.strOk z = true) (hl : z.length ≤ LIM) (hw : ∀ w ∈ wds z, OkW w) (hn : (wds z).length ≤ 900000) :
    ∃ e d d2, toldD p q 0 (evF fns (k + 5) 4 [.str z]) η = .ok d (η ++ [.lst e]) ∧ evF fns (k2 + 1) 10 [.str z] (η ++ [.lst e]) = .ok d2 (η ++ [.lst e]) ∧ evF fns (k3 + 2) 7 [d, d2] (η ++ [.lst e]) = .ok (.bl true) (η ++ [.lst e]) := by
  have lim : LIM = 1000000 := rfl
  obtain ⟨r1, r2⟩ := read_ok (k := k) (η := η) hz hl hw (by omega)
  have due := fun (e : List D) => due_ok (k := k2) (η := η ++ [.lst e]) hz hl hw hn
  have told : ∀ r, evF fns (k + 5) 4 [.str z] η = r → toldD p q 0 (evF fns (k + 5) 4 [.str z]) η = (match r with
      | .ok d η' => .ok d η'
      | .exc c fs η' => (match wordsOf D.str D.int c fs with
        | some ds => .ok (.tup ds) η'
        | none => .bad)
      | .bad => .bad) := fun r hr => by
    unfold toldD
    rw [h0]
    dsimp only
    rw [if_pos ⟨rfl, rfl⟩, hr]
    all_goals (cases r <;> rfl)
  have oT : PyData.strOk ("BadText" : Str) = true := by decide +kernel
  have oW : PyData.strOk ("BadWork" : Str) = true := by decide +kernel
  cases hb : bw 0 (wds z) with
  | some j =>
    obtain ⟨e, q1⟩ := r1 j hb
    exact ⟨e, _, _, told _ q1, (due e).1 j hb, alike_tup oT⟩
  | none =>
    obtain ⟨s1, s2⟩ := r2 hb
    cases hn2 : nw 0 false (wds z) with
    | some j =>
      obtain ⟨e, q1⟩ := s1 j hn2
      exact ⟨e, _, _, told _ q1, ((due e).2 hb).1 j hn2, alike_tup oW⟩
    | none => exact ⟨txts (wds z), _, _, told _ (s2 hn2), ((due _).2 hb).2 hn2, alike_lst get_last hw (by omega)⟩
end K14
end
section
set_option Elab.async false
set_option linter.all false
set_option maxRecDepth 100000
set_option maxHeartbeats 1000000
namespace K14
open PySem L2 Ms
theorem trunc_len {d : D} {η : List Cell} {n : Nat} (h : η.length = n) : trunc n (.ok d η) = .ok d η := by
  subst h
  exact trunc_same
theorem asB_at {m : M D} {η η' : List Cell} {b : Bool} (h : m η = .ok (.bl b) η') : asB m η = .ok b η' := by
  unfold asB
  rw [bnd_ok h]
  rfl
/-! ### the box of draws -/
def intsD (l : List Int) : List D := l.map D.int
/-- cells 0, 1, 2 -/
def boxed (c : Cell) (l : List Int) (s : Int) (rest : List Cell) : List Cell := c :: .lst (intsD l) :: .lst [.ref 1, .int s] :: rest
structure Seed (s : Int) : Prop where
  lo : 0 ≤ s
  hi : s < 2147483647
/-- a draw -/
theorem take_empty {k : Nat} {c : Cell} {s m : Int} {rest : List Cell} (hs : Seed s) (h0 : 0 < m) (h1 : m < 1000) :
    ∃ r s2, 0 ≤ r ∧ r < m ∧ Seed s2 ∧ evF fns (k + 1) 6 [.ref 2, .int m] (boxed c [] s rest) = .ok (.int r) (boxed c [] s2 rest) := by
  have sm := hs.lo
  have sh := hs.hi
  refine ⟨s * 48271 % 2147483647 / 7 % m, s * 48271 % 2147483647, Int.emod_nonneg _ (by omega), Int.emod_lt_of_pos _ h0, ⟨Int.emod_nonneg _ (by omega), Int.emod_lt_of_pos _ (by omega)⟩, ?_⟩
  have hf : evF fns (k + 1) 6 [.ref 2, .int m] (boxed c [] s rest) = trunc (boxed c [] s rest).length (runB (evSs (evF fns k) fd_law_take.code (startD fd_law_take.N.length [.ref 2, .int m]) (boxed c [] s rest))) := evF_succ (fd := fd_law_take) rfl rfl
  have e : evSs (evF fns k) fd_law_take.code (startD fd_law_take.N.length [.ref 2, .int m]) (boxed c [] s rest) = .ok (.rt (.int (s * 48271 % 2147483647 / 7 % m))) (boxed c [] (s * 48271 % 2147483647) rest) := by
    have i0 : ∀ s, idxD (.ref 2) (.int 0) (boxed c [] s rest) = .ok (.ref 1) (boxed c [] s rest) := fun s => rfl
    have i1 : ∀ s, idxD (.ref 2) (.int 1) (boxed c [] s rest) = .ok (.int s) (boxed c [] s rest) := fun s => rfl
    have nl : ∀ s, newL false [] (boxed c [] s rest) = .ok (.fl []) (boxed c [] s rest) := fun s => rfl
    have q : eqD (.ref 1) (.fl []) (boxed c [] s rest) = .ok (.bl true) (boxed c [] s rest) := by
      have d1 : derP (boxed c [] s rest) (.ref 1) = some (.list []) := rfl
      have d2 : derP (boxed c [] s rest) (.fl []) = some (.list []) := rfl
      unfold eqD
      rw [d1, d2]
      simp [SeqAt.shaped, PyData.canLay0, PyData.canLayAll0, PyData.depth, PyData.depthAll, PyData.eqv, PyData.eqvAll]
    have mu : mulD (.int s) (.int 48271) = Ms.ret (.int (s * 48271)) := by
      show (if smallI s || smallI 48271 then Ms.ret (D.int (s * 48271)) else bad) = _
      rw [if_pos (by
        have : smallI 48271 = true := by decide
        rw [this, Bool.or_true])]
    have md : ∀ a : Int, modD (.int a) (.int 2147483647) = Ms.ret (.int (a % 2147483647)) := fun a => rfl
    have fd7 : ∀ a : Int, fdivD (.int a) (.int 7) = Ms.ret (.int (a / 7)) := fun a => rfl
    have mm : ∀ a : Int, modD (.int a) (.int m) = Ms.ret (.int (a % m)) := fun a => by
      show (if 0 < m then Ms.ret (D.int (a % m)) else bad) = _
      rw [if_pos h0]
    simp only [fd_law_take, evSs, evS, evE, evEs, startD, List.map_cons, List.map_nil, List.length_cons, List.length_nil, List.cons_append, List.nil_append, List.getElem?_cons_zero, List.getElem?_cons_succ, Option.join_some, fromO_some, bnd_ret, constD, cmpD, binD, bnd_assoc, asB_bnd, asB_bl]
    rw [bnd_ok (i0 s), bnd_ok (nl s)]
    rw [bnd_ok (asB_at q)]
    simp only [if_true, bnd_assoc]
    rw [bnd_ok (i1 s)]
    simp only [mu, md, bnd_ret]
    have st : setD (.ref 2) (.int 1) (.int (s * 48271 % 2147483647)) (boxed c [] s rest) = .ok () (boxed c [] (s * 48271 % 2147483647) rest) := rfl
    rw [bnd_ok st]
    refine (bnd_ok (i1 _)).trans ?_
    show bnd (fdivD (.int (s * 48271 % 2147483647)) (.int 7)) (fun a => bnd (modD a (.int m)) fun d => Ms.ret (Fl.rt d)) (boxed c [] (s * 48271 % 2147483647) rest) = _
    rw [fd7, bnd_ret, mm, bnd_ret]
    rfl
  rw [hf, e]
  exact trunc_len rfl
theorem take_cons {k : Nat} {c : Cell} {s m x : Int} {l : List Int} {rest : List Cell} (h0 : 0 < m) (h1 : m < 1000) (hl : l.length ≤ 100) :
    ∃ r l2, 0 ≤ r ∧ r < m ∧ l2.length ≤ l.length + 1 ∧ evF fns (k + 1) 6 [.ref 2, .int m] (boxed c (x :: l) s rest) = .ok (.int r) (boxed c l2 s rest) := by
  refine ⟨x % m, if ((x / m == 0) || (x / m == -1)) = true then l else x / m :: l, Int.emod_nonneg _ (by omega), Int.emod_lt_of_pos _ h0, by split <;> simp, ?_⟩
  have hf : evF fns (k + 1) 6 [.ref 2, .int m] (boxed c (x :: l) s rest) = trunc (boxed c (x :: l) s rest).length (runB (evSs (evF fns k) fd_law_take.code (startD fd_law_take.N.length [.ref 2, .int m]) (boxed c (x :: l) s rest))) := evF_succ (fd := fd_law_take) rfl rfl
  have e : evSs (evF fns k) fd_law_take.code (startD fd_law_take.N.length [.ref 2, .int m]) (boxed c (x :: l) s rest) = .ok (.rt (.int (x % m))) (boxed c (if ((x / m == 0) || (x / m == -1)) = true then l else x / m :: l) s rest) := by
    have i0 : ∀ l, idxD (.ref 2) (.int 0) (boxed c l s rest) = .ok (.ref 1) (boxed c l s rest) := fun l => rfl
    have j0 : ∀ x, idxD (.ref 1) (.int 0) (boxed c (x :: l) s rest) = .ok (.int x) (boxed c (x :: l) s rest) := fun x => by
      have a : atI (intsD (x :: l)) 0 = some (.int x) := by
        have h2 : (0 : Int) < (l.length : Int) + 1 := by omega
        simp [atI, ixN, intsD, h2]
      show fromO ((asL (boxed c (x :: l) s rest) (.ref 1)).bind fun xs => atI xs 0) _ = _
      show fromO (atI (intsD (x :: l)) 0) _ = _
      rw [a]
      rfl
    have tp : ∀ l : List Int, toPs (intsD l) = some (l.map PyData.int) := fun l => by
      induction l with
      | nil => rfl
      | cons y r ih =>
        show (match toP (.int y), toPs (intsD r) with | some p, some ps => some (p :: ps) | _, _ => none) = _
        rw [ih]
        rfl
    have cl : ∀ l : List Int, PyData.canLayAll0 (l.map PyData.int) = true := fun l => by
      induction l with
      | nil => rfl
      | cons y r ih =>
        show (PyData.canLay0 (.int y) && PyData.canLayAll0 (r.map PyData.int)) = true
        rw [ih]
        rfl
    have dp : ∀ l : List Int, PyData.depthAll (l.map PyData.int) = 0 := fun l => by
      induction l with
      | nil => rfl
      | cons y r ih =>
        show max (PyData.depth (.int y)) (PyData.depthAll (r.map PyData.int)) = 0
        rw [ih]
        rfl
    have q : eqD (.ref 1) (.fl []) (boxed c (x :: l) s rest) = .ok (.bl false) (boxed c (x :: l) s rest) := by
      have d1 : derP (boxed c (x :: l) s rest) (.ref 1) = some (.list ((x :: l).map PyData.int)) := by
        show (toPs (intsD (x :: l))).map PyData.list = _
        rw [tp]
        rfl
      have d2 : derP (boxed c (x :: l) s rest) (.fl []) = some (.list []) := rfl
      have sh : SeqAt.shaped (.list ((x :: l).map PyData.int)) = true := by
        simp only [SeqAt.shaped, PyData.canLay0, cl (x :: l), PyData.depth, dp (x :: l)]
        decide
      have sh0 : SeqAt.shaped (.list []) = true := by
        simp [SeqAt.shaped, PyData.canLay0, PyData.canLayAll0, PyData.depth, PyData.depthAll]
      unfold eqD
      rw [d1, d2]
      dsimp only
      rw [if_pos ⟨sh, sh0⟩]
      simp [PyData.eqv, PyData.eqvAll]
    have nl : newL false [] (boxed c (x :: l) s rest) = .ok (.fl []) (boxed c (x :: l) s rest) := rfl
    have fdm : fdivD (.int x) (.int m) = Ms.ret (.int (x / m)) := by
      show (if 0 < m ∧ m < 1073741824 then Ms.ret (D.int (x / m)) else bad) = _
      rw [if_pos ⟨h0, by omega⟩]
    have mm : modD (.int x) (.int m) = Ms.ret (.int (x % m)) := by
      show (if 0 < m then Ms.ret (D.int (x % m)) else bad) = _
      rw [if_pos h0]
    simp only [fd_law_take, evSs, evS, evE, evEs, evOr, startD, List.map_cons, List.map_nil, List.length_cons, List.length_nil, List.cons_append, List.nil_append, List.getElem?_cons_zero, List.getElem?_cons_succ, Option.join_some, fromO_some, bnd_ret, constD, cmpD, binD, bnd_assoc, asB_bnd, asB_bl]
    rw [bnd_ok (i0 (x :: l)), bnd_ok nl, bnd_ok (asB_at q)]
    simp only [Bool.false_eq_true, if_false, bnd_ret, bnd_assoc, List.getElem?_cons_zero, List.getElem?_cons_succ, Option.join_some, fromO_some]
    rw [bnd_ok (i0 (x :: l)), bnd_ok (j0 x)]
    simp only [bindT, List.replicate, List.set_cons_zero, List.set_cons_succ, bnd_ret, List.getElem?_cons_zero, List.getElem?_cons_succ, Option.join_some, fromO_some, fdm, bnd_assoc]
    rw [bnd_ok (i0 (x :: l))]
    have st : setD (.ref 1) (.int 0) (.int (x / m)) (boxed c (x :: l) s rest) = .ok () (boxed c (x / m :: l) s rest) := by
      have z : ixN (intsD (x :: l)).length 0 = some 0 := by
        have h2 : (0 : Int) < (l.length : Int) + 1 := by omega
        simp [ixN, intsD, h2]
      show (match ixN (intsD (x :: l)).length 0 with | some j => Res.ok () _ | none => Res.bad) = _
      rw [z]
      rfl
    rw [bnd_ok st, bnd_ok (i0 (x / m :: l)), bnd_ok (j0 (x / m))]
    have rc : recvOk .popAt (.ref 1) (boxed c (x / m :: l) s rest) = true := rfl
    have pa : mtD .popAt (.ref 1) [.int 0] (boxed c (x / m :: l) s rest) = .ok (.int (x / m)) (boxed c l s rest) := by
      have z : ixN (intsD (x / m :: l)).length 0 = some 0 := by
        have h2 : (0 : Int) < (l.length : Int) + 1 := by omega
        simp [ixN, intsD, h2]
      have le : (intsD (x / m :: l)).length ≤ LIM := by
        have : LIM = 1000000 := rfl
        simp [intsD]
        omega
      show (match ixN (intsD (x / m :: l)).length 0 with | some k => (match (intsD (x / m :: l))[k]? with | some y => if (intsD (x / m :: l)).length ≤ LIM then Res.ok y _ else Res.bad | none => Res.bad) | none => Res.bad) = _
      rw [z]
      show (if (intsD (x / m :: l)).length ≤ LIM then Res.ok (D.int (x / m)) _ else Res.bad) = _
      rw [if_pos le]
      rfl
    have ng : negD (.int 1) = Ms.ret (.int (-1)) := rfl
    simp only [eq_int, asB_bl, bnd_ret, ng, bnd_assoc]
    cases h9 : (x / m == 0) with
    | true =>
      simp only [if_true, asB_bl, bnd_ret, bnd_assoc, Bool.true_or]
      rw [bnd_ok (i0 (x / m :: l)), bnd_ok (a := ()) (η' := boxed c (x / m :: l) s rest) (by simp only [rc, if_true]), bnd_ok pa]
      simp only [bnd_ret, List.getElem?_cons_zero, List.getElem?_cons_succ, Option.join_some, fromO_some, mm]
      rfl
    | false =>
      simp only [Bool.false_eq_true, if_false, asB_bnd, bnd_assoc, Bool.false_or]
      rw [bnd_ok (i0 (x / m :: l)), bnd_ok (j0 (x / m))]
      simp only [eq_int, asB_bl, bnd_ret, bnd_assoc]
      cases h8 : (x / m == -1) with
      | true =>
        simp only [if_true, bnd_assoc]
        rw [bnd_ok (i0 (x / m :: l)), bnd_ok (a := ()) (η' := boxed c (x / m :: l) s rest) (by simp only [rc, if_true]), bnd_ok pa]
        simp only [bnd_ret, List.getElem?_cons_zero, List.getElem?_cons_succ, Option.join_some, fromO_some, mm]
        rfl
      | false =>
        simp only [Bool.false_eq_true, if_false, bnd_ret, List.getElem?_cons_zero, List.getElem?_cons_succ, Option.join_some, fromO_some, mm]
        rfl
  rw [hf, e]
  exact trunc_len (by simp [boxed])
/-- a draw below m -/
theorem take_ok {k : Nat} {c : Cell} {s m : Int} {l : List Int} {rest : List Cell} (hs : Seed s) (h0 : 0 < m) (h1 : m < 1000) (hl : l.length ≤ 64) :
    ∃ r l2 s2, 0 ≤ r ∧ r < m ∧ Seed s2 ∧ l2.length ≤ l.length ∧ evF fns (k + 1) 6 [.ref 2, .int m] (boxed c l s rest) = .ok (.int r) (boxed c l2 s2 rest) := by
  cases l with
  | nil =>
    obtain ⟨r, s2, a, b, d, e⟩ := take_empty (k := k) (c := c) (rest := rest) hs h0 h1
    exact ⟨r, [], s2, a, b, d, Nat.le_refl _, e⟩
  | cons x l =>
    simp only [List.length_cons] at hl
    obtain ⟨r, l2, a, b, d, e⟩ := take_cons (k := k) (c := c) (s := s) (x := x) (rest := rest) h0 h1 (l := l) (by omega)
    exact ⟨r, l2, s, a, b, hs, d, e⟩
def stirBody : Ss := match fd_law_begun.code with
  | .cons _ (.cons (.for_ _ _ b) _) => b
  | _ => .nil
theorem mul_right {a b : Int} (h : smallI b = true) : mulD (.int a) (.int b) = Ms.ret (.int (a * b)) := by
  show (if smallI a || smallI b then Ms.ret (D.int (a * b)) else bad) = _
  rw [if_pos (by rw [h, Bool.or_true])]
theorem stir_loop {k : Nat} {d : D} {η : List Cell} : ∀ (ns : List Int) (s : Int) (x : Option D), Seed s → ∃ s2 x2, Seed s2 ∧ forL [] (bindT (.name 2)) (evSs (evF fns k) stirBody) (intsD ns) [some d, some (.int s), x] η = .ok (.nx [some d, some (.int s2), x2]) η
  | [], s, x, hs => ⟨s, x, hs, rfl⟩
  | n :: ns, s, x, _ => by
    have h1 : smallI 48271 = true := by decide
    have h2 : smallI 69621 = true := by decide
    have a1 : ∀ a b : Int, addD (.int a) (.int b) = Ms.ret (.int (a + b)) := fun a b => rfl
    have m1 : ∀ a : Int, modD (.int a) (.int 2147483647) = Ms.ret (.int (a % 2147483647)) := fun a => rfl
    have b : evSs (evF fns k) stirBody [some d, some (.int s), some (.int n)] = Ms.ret (.nx [some d, some (.int ((s * 48271 + n * 69621 + 11) % 2147483647)), some (.int n)]) := by
      simp only [stirBody, fd_law_begun, evSs, evS, evE, constD, binD, List.getElem?_cons_zero, List.getElem?_cons_succ, Option.join_some, fromO_some, bnd_ret, mul_right h1, mul_right h2, a1, m1, bindT, List.set_cons_zero, List.set_cons_succ]
    obtain ⟨s2, x2, q1, q2⟩ := stir_loop (k := k) (d := d) (η := η) ns ((s * 48271 + n * 69621 + 11) % 2147483647) (some (.int n)) ⟨Int.emod_nonneg _ (by omega), Int.emod_lt_of_pos _ (by omega)⟩
    refine ⟨s2, x2, q1, ?_⟩
    show forL [] _ _ (.int n :: intsD ns) _ η = _
    conv => lhs; unfold forL
    have g0 : chkG [] η = .ok () η := rfl
    rw [bnd_ok g0]
    show bnd (evSs (evF fns k) stirBody [some d, some (.int s), some (.int n)]) _ η = _
    rw [b, bnd_ret]
    exact q2
theorem begun_ok {k : Nat} {c : Cell} {ns : List Int} : ∃ s, Seed s ∧ evF fns (k + 1) 5 [.scr (intsD ns)] [c] = .ok (.ref 2) (boxed c ns s []) := by
  obtain ⟨s2, x2, h1, h2⟩ := stir_loop (k := k) (d := .scr (intsD ns)) (η := [c]) ns 0 none ⟨by decide, by decide⟩
  have iv : itVal (.scr (intsD ns)) [c] = .ok (intsD ns, []) [c] := rfl
  have lm : listMD [.scr (intsD ns)] [c] = .ok (.ref 1) [c, .lst (intsD ns)] := rfl
  have ln : lenD [.scr (intsD ns)] [c, .lst (intsD ns)] = .ok (.int (intsD ns).length) [c, .lst (intsD ns)] := rfl
  have gt : gtD (.int (intsD ns).length) (.int 2) = Ms.ret (.bl (decide ((2 : Int) < (intsD ns).length))) := rfl
  have tb : ∀ b : Bool, ∃ s3, Seed s3 ∧ bnd (intD [.bl b]) (fun y => mulD (.int s2) y) = Ms.ret (.int s3) := fun b => by
    have lo := h1.lo
    have hi := h1.hi
    cases b with
    | false => exact ⟨s2 * 0, ⟨by omega, by omega⟩, mul_right (by decide)⟩
    | true => exact ⟨s2 * 1, ⟨by omega, by omega⟩, mul_right (by decide)⟩
  obtain ⟨s3, h3, h4⟩ := tb (decide ((2 : Int) < (intsD ns).length))
  refine ⟨s3, h3, ?_⟩
  have hf : evF fns (k + 1) 5 [.scr (intsD ns)] [c] = trunc 1 (runB (evSs (evF fns k) fd_law_begun.code (startD fd_law_begun.N.length [.scr (intsD ns)]) [c])) := evF_succ (fd := fd_law_begun) rfl rfl
  have e : evSs (evF fns k) fd_law_begun.code (startD fd_law_begun.N.length [.scr (intsD ns)]) [c] = .ok (.rt (.ref 2)) (boxed c ns s3 []) := by
    simp only [stirBody, fd_law_begun, evSs, evS, evE, constD, binD, bindT, bnd_ret, bnd_assoc] at h2
    simp only [fd_law_begun, evSs, evS, evE, evEs, evIt, startD, List.map_cons, List.map_nil, List.length_cons, List.length_nil, List.cons_append, List.nil_append, List.replicate, constD, cmpD, binD, biD, bindT, List.set_cons_zero, List.set_cons_succ, List.getElem?_cons_zero, List.getElem?_cons_succ, Option.join_some, fromO_some, bnd_ret, bnd_assoc]
    rw [bnd_ok iv]
    refine (bnd_ok h2).trans ?_
    simp only [List.getElem?_cons_zero, List.getElem?_cons_succ, Option.join_some, fromO_some, bnd_ret, bnd_assoc]
    rw [bnd_ok lm, bnd_ok ln, gt, bnd_ret]
    have h5 : ∀ (kk : D → M Fl), bnd (intD [.bl (decide ((2 : Int) < (intsD ns).length))]) (fun y => bnd (mulD (.int s2) y) kk) = kk (.int s3) := fun kk => by
      rw [← bnd_assoc, h4, bnd_ret]
    first
      | (rw [h5]; rfl)
      | (simp only [← bnd_assoc, h4, bnd_ret]; rfl)
  rw [hf, e]
  rfl
theorem two_ok {a b : Nat} (ha : a < 1114112) (hb : b < 1114112) : OkW ⟨#[a, b]⟩ := ⟨by simp [PyData.strOk, ha, hb], by simp [Str.length]⟩
def abc : Str := "abcdefgh"
theorem step_ok {k : Nat} {c : Cell} {s : Int} {l : List Int} {rest : List Cell} {b : Bool} (hs : Seed s) (hl : l.length ≤ 64) :
    ∃ w l2 s2, OkW w ∧ w.length = 2 ∧ Seed s2 ∧ l2.length ≤ l.length ∧ evF fns (k + 2) 8 [.ref 2, .str abc, .bl b] (boxed c l s rest) = .ok (.str w) (boxed c l2 s2 rest) := by
  obtain ⟨r, l1, s1, r0, r1, hs1, hl1, t1⟩ := take_ok (k := k) (c := c) (rest := rest) (m := 4) hs (by decide) (by decide) hl
  obtain ⟨q, l2, s2, q0, q1, hs2, hl2, t2⟩ := take_ok (k := k) (c := c) (rest := rest) (m := 8) (l := l1) hs1 (by decide) (by decide) (by omega)
  have hf : evF fns (k + 2) 8 [.ref 2, .str abc, .bl b] (boxed c l s rest) = trunc (boxed c l s rest).length (runB (evSs (evF fns (k + 1)) fd_law_step.code (startD fd_law_step.N.length [.ref 2, .str abc, .bl b]) (boxed c l s rest))) := evF_succ (fd := fd_law_step) rfl rfl
  have la : lenD [.str abc] = Ms.ret (.int 8) := len_str (by decide +kernel)
  have four : r = 0 ∨ r = 1 ∨ r = 2 ∨ r = 3 := by omega
  have eight : q = 0 ∨ q = 1 ∨ q = 2 ∨ q = 3 ∨ q = 4 ∨ q = 5 ∨ q = 6 ∨ q = 7 := by omega
  have eR : ("r" : Str) = S1 114 := by decide +kernel
  have eW : ("w" : Str) = S1 119 := by decide +kernel
  have eC : ("c" : Str) = S1 99 := by decide +kernel
  have eA : abc = ⟨#[97, 98, 99, 100, 101, 102, 103, 104]⟩ := by decide +kernel
  have sign : ∃ ch, ch < 1000 ∧ ∀ η, idxD (.fl [.str "r", .str "w", .str "r", .str "c"]) (.int r) η = .ok (.str (S1 ch)) η := by
    rw [eR, eW, eC]
    rcases four with rfl | rfl | rfl | rfl
    · exact ⟨114, by decide, fun η => rfl⟩
    · exact ⟨119, by decide, fun η => rfl⟩
    · exact ⟨114, by decide, fun η => rfl⟩
    · exact ⟨99, by decide, fun η => rfl⟩
  have letter : ∃ ch, ch < 1000 ∧ ∀ η, idxD (.str abc) (.int q) η = .ok (.str (S1 ch)) η := by
    rw [eA]
    rcases eight with rfl | rfl | rfl | rfl | rfl | rfl | rfl | rfl
    · exact ⟨97, by decide, fun η => rfl⟩
    · exact ⟨98, by decide, fun η => rfl⟩
    · exact ⟨99, by decide, fun η => rfl⟩
    · exact ⟨100, by decide, fun η => rfl⟩
    · exact ⟨101, by decide, fun η => rfl⟩
    · exact ⟨102, by decide, fun η => rfl⟩
    · exact ⟨103, by decide, fun η => rfl⟩
    · exact ⟨104, by decide, fun η => rfl⟩
  obtain ⟨cs, hc1, hc2⟩ := sign
  obtain ⟨cl, hd1, hd2⟩ := letter
  have oS : OkW (S1 cs) := S1_ok (by omega)
  have oC : OkW (S1 99) := S1_ok (by decide)
  have nl : ∀ η, newL false [.str "r", .str "w", .str "r", .str "c"] η = .ok (.fl [.str "r", .str "w", .str "r", .str "c"]) η := fun η => rfl
  have ad : ∀ x y : Nat, addD (.str (S1 x)) (.str (S1 y)) = Ms.ret (.str ⟨#[x, y]⟩) := fun x y => by
    show (if (S1 x).length + (S1 y).length ≤ LIM then Ms.ret (D.str (S1 x ++ S1 y)) else bad) = _
    rw [if_pos (by
      show 1 + 1 ≤ LIM
      decide)]
    rfl
  refine ⟨⟨#[cl, if (!(cs == 99) || b) = true then cs else 119]⟩, l2, s2, two_ok (by omega) (by split <;> omega), rfl, hs2, by omega, ?_⟩
  have e : evSs (evF fns (k + 1)) fd_law_step.code (startD fd_law_step.N.length [.ref 2, .str abc, .bl b]) (boxed c l s rest) = .ok (.rt (.str ⟨#[cl, if (!(cs == 99) || b) = true then cs else 119]⟩)) (boxed c l2 s2 rest) := by
    simp only [fd_law_step, evSs, evS, evE, evEs, evOr, startD, List.map_cons, List.map_nil, List.length_cons, List.length_nil, List.cons_append, List.nil_append, List.replicate, constD, cmpD, binD, biD, bindT, List.set_cons_zero, List.set_cons_succ, List.getElem?_cons_zero, List.getElem?_cons_succ, Option.join_some, fromO_some, bnd_ret, bnd_assoc, la, asB_bnd, asB_bl]
    rw [bnd_ok (nl _), bnd_ok t1, bnd_ok (hc2 _)]
    rw [bnd_ok t2, bnd_ok (hd2 _)]
    simp only [eC, eW, ne_str oS.ok oC.ok, S1_beq, asB_bl, bnd_ret, bnd_assoc]
    cases (cs == 99) <;> cases b <;> simp [ad, asB_bl, bnd_ret, Ms.ret] <;> rfl
  rw [hf, e]
  exact trunc_len (by simp [boxed])
end K14
end
section
set_option Elab.async false
set_option linter.all false
set_option maxRecDepth 100000
set_option maxHeartbeats 1000000
namespace K14
open PySem L2 Ms
/-- a word of two signs -/
structure Two (w : Str) : Prop extends OkW w where
  two : w.length = 2
theorem Two.at_ {w : Str} (h : Two w) : ∃ c1 c2, w.cps.toList = [c1, c2] ∧ OkW (S1 c2) ∧ sg w = c2 := by
  have hl : w.cps.toList.length = 2 := by simpa [Str.length] using h.two
  match hq : w.cps.toList, hl with
  | [c1, c2], _ => exact ⟨c1, c2, rfl, S1_ok (ok_char h.toOkW (by rw [hq]; simp)), by simp [sg, hq]⟩
def bls (ws : List Str) : List D := ws.map fun w => .bl (sg w == 119)
theorem any_loop {cf : Nat → List D → M D} {p0 p1 p2 p3 p4 p5 : Option D} {n : Nat} {all : List Str} {η : List Cell} (hn : η[n]? = some (.lst (txts all))) : ∀ (us acc : List Str), (∀ w ∈ us, Two w) → acc.length + us.length < LIM →
    lcL [(n, txts all)] (fun d => bindT (.name 5) d (wipeD [p0, p1, p2, p3, p4, p5] [5])) (evC cf .none) (evE cf (.cmp .eq (.sub (.loc 5) (.cst (.int 1))) (.cst (.str "w")))) (txts us) (bls acc) η = .ok (bls (acc ++ us)) η
  | [], acc, _, _ => by
    rw [List.append_nil]
    show lcL _ _ _ _ [] _ η = _
    conv => lhs; unfold lcL
    exact bnd_ok (gd_one hn)
  | w :: us, acc, h, hl => by
    have ow := h w List.mem_cons_self
    obtain ⟨c1, c2, hq, o2, hg⟩ := ow.at_
    have eW : ("w" : Str) = S1 119 := by decide +kernel
    have oW : OkW (S1 119) := S1_ok (by decide)
    have hr : ∀ v ∈ us, Two v := fun v hv => h v (List.mem_cons_of_mem _ hv)
    simp only [List.length_cons] at hl
    have la : (bls acc).length < LIM := by
      have : (bls acc).length = acc.length := by simp [bls]
      omega
    have x : evE cf (.cmp .eq (.sub (.loc 5) (.cst (.int 1))) (.cst (.str "w"))) [p0, p1, p2, p3, p4, some (.str w)] = Ms.ret (.bl (sg w == 119)) := by
      simp only [evE, List.getElem?_cons_zero, List.getElem?_cons_succ, Option.join_some, fromO_some, bnd_ret, constD, cmpD, ix1 hq ow.lim, eW, eq_str o2.ok oW.ok, S1_beq, hg]
    have nx1 : ∀ {α : Type} (v : α), noX (Ms.ret v) = Ms.ret v := fun v => rfl
    have c : evC cf .none [p0, p1, p2, p3, p4, some (.str w)] = Ms.ret true := by simp only [evC]
    show lcL _ _ _ _ (.str w :: txts us) (bls acc) η = _
    conv => lhs; unfold lcL
    rw [bnd_ok (gd_one hn)]
    show bnd (noX (evC cf .none [p0, p1, p2, p3, p4, some (.str w)])) (fun b => if b = true then bnd (noX (evE cf (.cmp .eq (.sub (.loc 5) (.cst (.int 1))) (.cst (.str "w"))) [p0, p1, p2, p3, p4, some (.str w)])) fun y => if (bls acc).length < LIM then lcL _ _ _ _ (txts us) (bls acc ++ [y]) else bad else lcL _ _ _ _ (txts us) (bls acc)) η = _
    rw [c, x, nx1, nx1, bnd_ret, if_pos rfl, bnd_ret, if_pos la]
    have e : bls acc ++ [D.bl (sg w == 119)] = bls (acc ++ [w]) := by simp [bls]
    rw [e]
    have q := any_loop (cf := cf) (p0 := p0) (p1 := p1) (p2 := p2) (p3 := p3) (p4 := p4) (p5 := p5) hn us (acc ++ [w]) hr (by simp; omega)
    rw [List.append_assoc] at q
    exact q
def workBody : Ss := match fd_law_work.code with
  | .cons _ (.cons (.for_ _ _ b) _) => b
  | _ => .nil
theorem asBs_bls : ∀ ws : List Str, asBs (bls ws) = some (ws.map fun w => sg w == 119)
  | [] => rfl
  | w :: ws => by
    have ih := asBs_bls ws
    show asBs (.bl (sg w == 119) :: bls ws) = _
    simp only [asBs, ih, Option.map_some, List.map_cons]
theorem boxed_last {c : Cell} {l : List Int} {s : Int} {rest : List Cell} {x : Cell} : (boxed c l s (rest ++ [x]))[rest.length + 3]? = some x := by
  show (rest ++ [x])[rest.length]? = some x
  exact get_last
theorem boxed_set {c : Cell} {l : List Int} {s : Int} {rest : List Cell} {x y : Cell} : (boxed c l s (rest ++ [x])).set (rest.length + 3) y = boxed c l s (rest ++ [y]) := by
  show c :: .lst (intsD l) :: .lst [.ref 1, .int s] :: (rest ++ [x]).set rest.length y = _
  rw [set_last]
  rfl
theorem work_body {k : Nat} {c : Cell} {s : Int} {l : List Int} {rest : List Cell} {ws : List Str} {t x : Option D} (hs : Seed s) (hl : l.length ≤ 64) (hw : ∀ w ∈ ws, Two w) (hn : ws.length ≤ 1000) :
    ∃ w l2 s2, Two w ∧ Seed s2 ∧ l2.length ≤ l.length ∧ evSs (evF fns (k + 2)) workBody [some (.ref 2), some (.str abc), some (.int 12), some (.ref (rest.length + 3)), t, x] (boxed c l s (rest ++ [.lst (txts ws)])) =
      .ok (.nx [some (.ref 2), some (.str abc), some (.int 12), some (.ref (rest.length + 3)), t, x]) (boxed c l2 s2 (rest ++ [.lst (txts (ws ++ [w]))])) := by
  obtain ⟨w, l2, s2, ow, tw, hs2, hl2, st⟩ := step_ok (k := k) (c := c) (rest := rest ++ [.lst (txts ws)]) (b := (ws.map fun w => sg w == 119).any id) hs hl
  refine ⟨w, l2, s2, ⟨ow, tw⟩, hs2, hl2, ?_⟩
  have lim : LIM = 1000000 := rfl
  have gl := boxed_last (c := c) (l := l) (s := s) (rest := rest) (x := .lst (txts ws))
  have lp := any_loop (cf := evF fns (k + 2)) (p0 := some (.ref 2)) (p1 := some (.str abc)) (p2 := some (.int 12)) (p3 := some (.ref (rest.length + 3))) (p4 := t) (p5 := x) gl ws [] hw (by simp; omega)
  rw [List.nil_append] at lp
  have iv : itVal (.ref (rest.length + 3)) (boxed c l s (rest ++ [.lst (txts ws)])) = .ok (txts ws, [(rest.length + 3, txts ws)]) (boxed c l s (rest ++ [.lst (txts ws)])) := by
    unfold itVal itemsG
    simp only [gl]
  have nl : newL false (bls ws) (boxed c l s (rest ++ [.lst (txts ws)])) = .ok (.fl (bls ws)) (boxed c l s (rest ++ [.lst (txts ws)])) := by
    have ln : (bls ws).length ≤ LIM := by
      simp only [bls, List.length_map]
      omega
    unfold newL
    rw [if_pos ln, if_neg Bool.false_ne_true]
  have an : anyD [.fl (bls ws)] (boxed c l s (rest ++ [.lst (txts ws)])) = .ok (.bl ((ws.map fun w => sg w == 119).any id)) (boxed c l s (rest ++ [.lst (txts ws)])) := by
    show (match asBs (bls ws) with | some bs => Res.ok (D.bl (bs.any id)) _ | none => Res.bad) = _
    rw [asBs_bls]
  have r : recvOk .append (.ref (rest.length + 3)) (boxed c l s (rest ++ [.lst (txts ws)])) = true := by
    show (asL (boxed c l s (rest ++ [.lst (txts ws)])) (.ref (rest.length + 3))).isSome = true
    simp [asL, gl]
  have m : mtD .append (.ref (rest.length + 3)) [.str w] (boxed c l2 s2 (rest ++ [.lst (txts ws)])) = .ok .non (boxed c l2 s2 (rest ++ [.lst (txts (ws ++ [w]))])) := by
    have hl : (txts ws).length < LIM := by
      simp only [txts, List.length_map]
      omega
    simp only [mtD, boxed_last, hl, if_true, boxed_set]
    simp [txts]
  simp only [workBody, fd_law_work, evSs, evS, evE, evEs, evIt, biD, List.getElem?_cons_zero, List.getElem?_cons_succ, Option.join_some, fromO_some, bnd_ret, bnd_assoc, List.map_cons, List.map_nil]
  rw [bnd_ok (a := ()) (η' := boxed c l s (rest ++ [.lst (txts ws)])) (by simp only [r, if_true]), bnd_ok iv]
  refine (bnd_ok (a := bls ws) (η' := boxed c l s (rest ++ [.lst (txts ws)])) ?_).trans ?_
  · simp only [evE, bnd_assoc] at lp
    exact lp
  · rw [bnd_ok nl, bnd_ok an, bnd_ok st, bnd_ok m]
    rfl
theorem work_loop {k : Nat} {c : Cell} {rest : List Cell} {x : Option D} : ∀ (ts : List D) (l : List Int) (s : Int) (ws : List Str) (t : Option D), Seed s → l.length ≤ 64 → (∀ w ∈ ws, Two w) → ws.length + ts.length ≤ 1000 →
    ∃ ws2 l2 s2 t2, (∀ w ∈ ws2, Two w) ∧ ws2.length = ws.length + ts.length ∧ Seed s2 ∧ l2.length ≤ l.length ∧
      forL [] (bindT (.name 4)) (evSs (evF fns (k + 2)) workBody) ts [some (.ref 2), some (.str abc), some (.int 12), some (.ref (rest.length + 3)), t, x] (boxed c l s (rest ++ [.lst (txts ws)])) =
        .ok (.nx [some (.ref 2), some (.str abc), some (.int 12), some (.ref (rest.length + 3)), t2, x]) (boxed c l2 s2 (rest ++ [.lst (txts ws2)]))
  | [], l, s, ws, t, hs, _, hw, _ => ⟨ws, l, s, t, hw, rfl, hs, Nat.le_refl _, rfl⟩
  | d :: ts, l, s, ws, t, hs, hl, hw, hn => by
    simp only [List.length_cons] at hn
    obtain ⟨w, l1, s1, tw, hs1, hl1, b⟩ := work_body (k := k) (c := c) (rest := rest) (t := some d) (x := x) hs hl hw (by omega)
    obtain ⟨ws2, l2, s2, t2, h1, h2, h3, h4, q⟩ := work_loop (k := k) (c := c) (rest := rest) (x := x) ts l1 s1 (ws ++ [w]) (some d) hs1 (by omega) (fun v hv => by
      rcases List.mem_append.mp hv with z | z
      · exact hw v z
      · simp at z
        rw [z]
        exact tw) (by simp; omega)
    refine ⟨ws2, l2, s2, t2, h1, by rw [h2]; simp; omega, h3, by omega, ?_⟩
    have g0 : ∀ η, chkG [] η = .ok () η := fun η => rfl
    conv => lhs; unfold forL
    rw [bnd_ok (g0 _)]
    show bnd (evSs (evF fns (k + 2)) workBody [some (.ref 2), some (.str abc), some (.int 12), some (.ref (rest.length + 3)), some d, x]) _ _ = _
    rw [bnd_ok b]
    exact q
theorem work_ok {k : Nat} {c : Cell} {s : Int} {l : List Int} {rest : List Cell} (hs : Seed s) (hl : l.length ≤ 64) :
    ∃ ws l2 s2, (∀ w ∈ ws, Two w) ∧ ws.length ≤ 12 ∧ Seed s2 ∧ l2.length ≤ l.length ∧ evF fns (k + 3) 9 [.ref 2, .str abc, .int 12] (boxed c l s rest) = .ok (.ref (rest.length + 3)) (boxed c l2 s2 (rest ++ [.lst (txts ws)])) := by
  obtain ⟨r, l1, s1, r0, r1, hs1, hl1, t1⟩ := take_ok (k := k + 1) (c := c) (rest := rest ++ [.lst (txts [])]) (m := 13) hs (by decide) (by decide) hl
  obtain ⟨n, rfl⟩ : ∃ n : Nat, r = n := ⟨r.toNat, by omega⟩
  obtain ⟨ws, l2, s2, t2, h1, h2, h3, h4, q⟩ := work_loop (k := k) (c := c) (rest := rest) (x := none) ((List.range' 0 n).map fun i => .int ((i : Nat) : Int)) l1 s1 [] none hs1 (by omega) (fun w hw => by cases hw) (by simp; omega)
  refine ⟨ws, l2, s2, h1, by rw [h2]; simp; omega, h3, by omega, ?_⟩
  have hf : evF fns (k + 3) 9 [.ref 2, .str abc, .int 12] (boxed c l s rest) = trunc (boxed c l s rest).length (runB (evSs (evF fns (k + 2)) fd_law_work.code (startD fd_law_work.N.length [.ref 2, .str abc, .int 12]) (boxed c l s rest))) := evF_succ (fd := fd_law_work) rfl rfl
  have nl : newL true [] (boxed c l s rest) = .ok (.ref (rest.length + 3)) (boxed c l s (rest ++ [.lst (txts [])])) := rfl
  have a1 : addD (.int 12) (.int 1) = Ms.ret (.int 13) := rfl
  have e : evSs (evF fns (k + 2)) fd_law_work.code (startD fd_law_work.N.length [.ref 2, .str abc, .int 12]) (boxed c l s rest) = .ok (.rt (.ref (rest.length + 3))) (boxed c l2 s2 (rest ++ [.lst (txts ws)])) := by
    simp only [workBody, fd_law_work, evSs, evS, evE, evEs, evIt, biD, bnd_assoc] at q
    simp only [fd_law_work, evSs, evS, evE, evEs, evIt, startD, List.map_cons, List.map_nil, List.length_cons, List.length_nil, List.cons_append, List.nil_append, List.replicate, constD, biD, binD, fromO_some, bnd_ret, bnd_assoc]
    rw [bnd_ok nl]
    simp only [bindT, List.set_cons_zero, List.set_cons_succ, List.getElem?_cons_zero, List.getElem?_cons_succ, Option.join_some, fromO_some, bnd_ret, bnd_assoc, a1]
    rw [bnd_ok t1, bnd_ok (rng_at (by omega))]
    refine (bnd_ok q).trans ?_
    rfl
  rw [hf, e]
  show trunc (boxed c l s rest).length (.ok (.ref (rest.length + 3)) _) = _
  unfold trunc
  dsimp only
  rw [if_neg]
  rintro ⟨_, z2, _⟩
  simp [dUnder, boxed] at z2
end K14
end
section
set_option Elab.async false
set_option linter.all false
set_option maxRecDepth 100000
set_option maxHeartbeats 1000000
namespace K14
open PySem L2 Ms
/-- a short word -/
structure Sh (w : Str) : Prop where
  ok : PyData.strOk w = true
  len : w.length ≤ 3
/-- words at d -/
inductive At (rest : List Cell) : D → List Str → Prop where
  | fl (ws : List Str) : At rest (.fl (txts ws)) ws
  | ref {j : Nat} {ws : List Str} : rest[j]? = some (.lst (txts ws)) → At rest (.ref (j + 3)) ws
section
variable {c : Cell} {l : List Int} {s : Int} {rest : List Cell} {d e : D} {ws us : List Str}
theorem At.asL (h : At rest d ws) : asL (boxed c l s rest) d = some (txts ws) := by
  cases h with
  | fl => rfl
  | @ref j _ e =>
    have q : (boxed c l s rest)[j + 3]? = some (.lst (txts ws)) := e
    unfold Ms.asL
    simp only [q]
theorem At.asQ (h : At rest d ws) : asQ (boxed c l s rest) d = some (txts ws) := by
  have q := h.asL (c := c) (l := l) (s := s)
  cases h <;> exact q
theorem At.len (h : At rest d ws) : lenD [d] (boxed c l s rest) = .ok (.int ws.length) (boxed c l s rest) := by
  have q := h.asQ (c := c) (l := l) (s := s)
  have e : (txts ws).length = ws.length := by simp [txts]
  rw [← e]
  cases h with
  | fl => rfl
  | ref z =>
    unfold lenD
    simp only [q]
theorem At.slice (h : At rest d ws) (lo hi : Option Int) : sliceD d lo hi (boxed c l s rest) = .ok (.fl (cutD (txts ws) lo hi)) (boxed c l s rest) := by
  have q := h.asL (c := c) (l := l) (s := s)
  cases h with
  | fl => rfl
  | ref z =>
    unfold sliceD
    simp only [q]
theorem At.add (h : At rest d ws) (h2 : At rest e us) (hl : ws.length + us.length ≤ 100000) : addD d e (boxed c l s rest) = .ok (.fl (txts (ws ++ us))) (boxed c l s rest) := by
  have q := h.asL (c := c) (l := l) (s := s)
  have q2 := h2.asL (c := c) (l := l) (s := s)
  have le : (txts ws).length + (txts us).length ≤ LIM := by
    have : LIM = 1000000 := rfl
    simp only [txts, List.length_map]
    omega
  have e0 : txts (ws ++ us) = txts ws ++ txts us := by simp [txts]
  rw [e0]
  cases h <;> cases h2 <;> (unfold addD; simp only [q, q2]; rw [if_pos le])
theorem cut_some (ws : List Str) (lo hi : Option Int) : ∃ us : List Str, cutD (txts ws) lo hi = txts us ∧ (∀ w ∈ us, w ∈ ws) ∧ us.length ≤ ws.length := by
  refine ⟨(ws.drop (HT.sIx (txts ws).length 0 lo)).take (HT.sIx (txts ws).length (txts ws).length hi - HT.sIx (txts ws).length 0 lo), ?_, fun w h => List.mem_of_mem_drop (List.mem_of_mem_take h), ?_⟩
  · unfold cutD txts
    rw [List.map_take, List.map_drop]
  · rw [List.length_take, List.length_drop]
    omega
end
def odds : List Str := ["ac", "br", "hw", "", "a", "arr", "ir", "ax", "rA", "Ar", "a r", "cc"]
theorem odds_sh : ∀ w ∈ odds, Sh w := by
  have h : odds.all (fun w => PyData.strOk w && decide (w.length ≤ 3)) = true := by decide +kernel
  intro w hw
  have q := List.all_eq_true.mp h w hw
  simp only [Bool.and_eq_true, decide_eq_true_eq] at q
  exact ⟨q.1, q.2⟩
def changeBody : Ss := match fd_law.code with
  | .cons _ (.cons (.for_ _ _ (.cons _ (.cons (.for_ _ _ b) _))) _) => b
  | _ => .nil
theorem nl_false {ds : List D} {η : List Cell} (h : ds.length ≤ LIM) : newL false ds η = .ok (.fl ds) η := by
  unfold newL
  rw [if_pos h, if_neg Bool.false_ne_true]
def deedBody : Ss := match changeBody with
  | .cons _ (.cons _ r) => r
  | _ => .nil
def oddEs : Es := match changeBody with
  | .cons _ (.cons (.asg _ (.sub (.lst _ es) _)) _) => es
  | _ => .nil
theorem odd_es (cf : Nat → List D → M D) (ρ : Ms.Env) : evEs cf oddEs ρ = Ms.ret (txts odds) := by
  simp only [oddEs, changeBody, fd_law, evEs, evE, constD, fromO_some, bnd_ret]
  unfold txts odds
  simp only [List.map_cons, List.map_nil]
theorem change_code : changeBody = .cons (.par 5 6 (.call 6 (.cons (.loc 1) (.cons (.bin .add (.bi .len (.cons (.loc 3) .nil)) (.cst (.int 1))) .nil))) (.call 6 (.cons (.loc 1) (.cons (.cst (.int 5)) .nil))))
    (.cons (.asg (.name 7) (.sub (.lst false oddEs) (.call 6 (.cons (.loc 1) (.cons (.cst (.int 12)) .nil))))) deedBody) := by
  unfold deedBody oddEs changeBody fd_law
  dsimp only
theorem odds_len : odds.length = 12 := by
  unfold odds
  simp only [List.length_cons, List.length_nil]
theorem change_draw {k : Nat} {c : Cell} {s : Int} {l : List Int} {rest : List Cell} {ws : List Str} {d : D} {x0 x2 x4 x5 x6 x7 x8 x9 : Option D} (hs : Seed s) (hl : l.length ≤ 64) (ha : At rest d ws) (hn : ws.length ≤ 200) :
    ∃ r q w l2 s2, 0 ≤ q ∧ q < 5 ∧ Sh w ∧ Seed s2 ∧ l2.length ≤ l.length ∧
      evSs (evF fns (k + 1)) changeBody [x0, some (.ref 2), x2, some d, x4, x5, x6, x7, x8, x9] (boxed c l s rest) = evSs (evF fns (k + 1)) deedBody [x0, some (.ref 2), x2, some d, x4, some (.int r), some (.int q), some (.str w), x8, x9] (boxed c l2 s2 rest) := by
  have lim : LIM = 1000000 := rfl
  have ol := odds_len
  obtain ⟨r, l1, s1, r0, r1, hs1, hl1, t1⟩ := take_ok (k := k) (c := c) (rest := rest) (m := ws.length + 1) hs (by omega) (by omega) hl
  obtain ⟨q, l2, s2, q0, q1, hs2, hl2, t2⟩ := take_ok (k := k) (c := c) (rest := rest) (m := 5) hs1 (by decide) (by decide) (l := l1) (by omega)
  obtain ⟨o, l3, s3, o0, o1, hs3, hl3, t3⟩ := take_ok (k := k) (c := c) (rest := rest) (m := 12) hs2 (by decide) (by decide) (l := l2) (by omega)
  obtain ⟨o, rfl⟩ : ∃ n : Nat, o = n := ⟨o.toNat, by omega⟩
  obtain ⟨w, hw1⟩ : ∃ w, odds[o]? = some w := ⟨_, List.getElem?_eq_getElem (by omega)⟩
  have ix : ∀ η, idxD (.fl (txts odds)) (.int o) η = .ok (.str w) η := fun η => (ix_get (by unfold txts; rw [List.getElem?_map, hw1]; rfl)).2
  have a1 : ∀ a b : Int, addD (.int a) (.int b) = Ms.ret (.int (a + b)) := fun a b => rfl
  have nlO : ∀ η, newL false (txts odds) η = .ok (.fl (txts odds)) η := fun η => nl_false (by
    unfold txts
    rw [List.length_map]
    omega)
  refine ⟨r, q, w, l3, s3, q0, q1, odds_sh w (List.mem_of_getElem? hw1), hs3, by omega, ?_⟩
  rw [change_code]
  generalize deedBody = rst
  conv => lhs; simp only [evSs, evS, evE, evEs, odd_es, biD, binD, constD, bindT, List.set_cons_zero, List.set_cons_succ, List.getElem?_cons_zero, List.getElem?_cons_succ, Option.join_some, fromO_some, bnd_ret, bnd_assoc]
  rw [bnd_ok ha.len]
  simp only [a1, bnd_ret]
  rw [bnd_ok t1, bnd_ok t2, bnd_ok (nlO _), bnd_ok t3, bnd_ok (ix _)]
theorem change_deed {k : Nat} {c : Cell} {s : Int} {l : List Int} {rest : List Cell} {ws : List Str} {w : Str} {d : D} {r q : Int} {x0 x2 x4 x8 x9 : Option D} (ha : At rest d ws) (hw : ∀ w ∈ ws, Sh w) (hn : ws.length ≤ 200) (ow : Sh w) (q0 : 0 ≤ q) (q1 : q < 5) :
    ∃ ws2 y5 y6 y7, (∀ w ∈ ws2, Sh w) ∧ ws2.length ≤ 2 * ws.length + 1 ∧
      evSs (evF fns (k + 1)) deedBody [x0, some (.ref 2), x2, some d, x4, some (.int r), some (.int q), some (.str w), x8, x9] (boxed c l s rest) = .ok (.nx [x0, some (.ref 2), x2, some (.fl (txts ws2)), x4, y5, y6, y7, x8, x9]) (boxed c l s rest) := by
  have lim : LIM = 1000000 := rfl
  have a1 : ∀ a b : Int, addD (.int a) (.int b) = Ms.ret (.int (a + b)) := fun a b => rfl
  have s1' : ∀ a b : Int, subD (.int a) (.int b) = Ms.ret (.int (a - b)) := fun a b => rfl
  have lt : ∀ a b : Int, ltD (.int a) (.int b) = Ms.ret (.bl (decide (a < b))) := fun a b => rfl
  have fd2 : ∀ a : Int, fdivD (.int a) (.int 2) = Ms.ret (.int (a / 2)) := fun a => rfl
  have aI : ∀ i : Int, asI (.int i) = Ms.ret (some i) := fun i => rfl
  obtain ⟨u, cu, mu, lu⟩ := cut_some ws none (some r)
  have shu : ∀ w ∈ u, Sh w := fun v hv => hw v (mu v hv)
  have su := ha.slice (c := c) (l := l) (s := s) none (some r)
  rw [cu] at su
  have sx : ∀ z : Int, ∃ v : List Str, (∀ w ∈ v, Sh w) ∧ v.length ≤ ws.length ∧ sliceD d (some z) none (boxed c l s rest) = .ok (.fl (txts v)) (boxed c l s rest) := fun z => by
    obtain ⟨v, cv, mv, lv⟩ := cut_some ws (some z) none
    have sv := ha.slice (c := c) (l := l) (s := s) (some z) none
    rw [cv] at sv
    exact ⟨v, fun w h => hw w (mv w h), lv, sv⟩
  by_cases hq : q < 3
  · obtain ⟨v, shv, lv, sv⟩ := sx (r + q / 2)
    have add1 := (At.fl (rest := rest) u).add (c := c) (l := l) (s := s) (At.fl [w]) (by simp only [List.length_cons, List.length_nil]; omega)
    have add2 := (At.fl (rest := rest) (u ++ [w])).add (c := c) (l := l) (s := s) (At.fl v) (by simp only [List.length_append, List.length_cons, List.length_nil]; omega)
    have nw : newL false [.str w] (boxed c l s rest) = .ok (.fl (txts [w])) (boxed c l s rest) := nl_false (by simp only [List.length_cons, List.length_nil]; omega)
    refine ⟨u ++ [w] ++ v, some (.int r), some (.int q), some (.str w), fun x hx => ?_, by simp only [List.length_append, List.length_cons, List.length_nil]; omega, ?_⟩
    · simp only [List.mem_append, List.mem_singleton] at hx
      rcases hx with (hx | hx) | hx
      · exact shu x hx
      · rw [hx]; exact ow
      · exact shv x hx
    · simp only [deedBody, changeBody, fd_law, evSs, evS, evE, evEs, evO, binD, cmpD, constD, bindT, List.set_cons_zero, List.set_cons_succ, List.getElem?_cons_zero, List.getElem?_cons_succ, Option.join_some, fromO_some, bnd_ret, bnd_assoc, lt, asB_bl, hq, decide_true, if_true, aI]
      rw [bnd_ok su, bnd_ok nw, bnd_ok add1]
      simp only [fd2, a1, aI, bnd_ret, bnd_assoc]
      rw [bnd_ok sv, bnd_ok add2]
      rfl
  · obtain ⟨v, shv, lv, sv⟩ := sx (r + 1)
    have add1 := (At.fl (rest := rest) u).add (c := c) (l := l) (s := s) (At.fl v) (by omega)
    have add2 := ha.add (c := c) (l := l) (s := s) (At.fl u) (by omega)
    have nw : newL false [.fl (txts (u ++ v)), .fl (txts (ws ++ u))] (boxed c l s rest) = .ok (.fl [.fl (txts (u ++ v)), .fl (txts (ws ++ u))]) (boxed c l s rest) := nl_false (by simp only [List.length_cons, List.length_nil]; omega)
    have pick : ∃ ws2 : List Str, (∀ w ∈ ws2, Sh w) ∧ ws2.length ≤ 2 * ws.length + 1 ∧ ∀ η, idxD (.fl [.fl (txts (u ++ v)), .fl (txts (ws ++ u))]) (.int (q - 3)) η = .ok (.fl (txts ws2)) η := by
      have q34 : q = 3 ∨ q = 4 := by omega
      rcases q34 with rfl | rfl
      · exact ⟨u ++ v, fun x hx => (List.mem_append.mp hx).elim (shu x) (shv x), by rw [List.length_append]; omega, fun η => (ix_get (i := 0) rfl).2⟩
      · exact ⟨ws ++ u, fun x hx => (List.mem_append.mp hx).elim (hw x) (shu x), by rw [List.length_append]; omega, fun η => (ix_get (i := 1) rfl).2⟩
    obtain ⟨ws2, p1, p2, p3⟩ := pick
    refine ⟨ws2, some (.int r), some (.int q), some (.str w), p1, p2, ?_⟩
    simp only [deedBody, changeBody, fd_law, evSs, evS, evE, evEs, evO, binD, cmpD, constD, bindT, List.set_cons_zero, List.set_cons_succ, List.getElem?_cons_zero, List.getElem?_cons_succ, Option.join_some, fromO_some, bnd_ret, bnd_assoc, lt, asB_bl, hq, decide_false, if_false, Bool.false_eq_true, aI]
    rw [bnd_ok su]
    simp only [a1, aI, bnd_ret, bnd_assoc]
    rw [bnd_ok sv, bnd_ok add1, bnd_ok su, bnd_ok add2, bnd_ok nw]
    simp only [s1', bnd_ret]
    rw [bnd_ok (p3 _)]
    rfl
theorem change_body {k : Nat} {c : Cell} {s : Int} {l : List Int} {rest : List Cell} {ws : List Str} {d : D} {x0 x2 x4 x5 x6 x7 x8 x9 : Option D} (hs : Seed s) (hl : l.length ≤ 64) (ha : At rest d ws) (hw : ∀ w ∈ ws, Sh w) (hn : ws.length ≤ 200) :
    ∃ d2 ws2 l2 s2 y5 y6 y7, At rest d2 ws2 ∧ (∀ w ∈ ws2, Sh w) ∧ ws2.length ≤ 2 * ws.length + 1 ∧ Seed s2 ∧ l2.length ≤ l.length ∧
      evSs (evF fns (k + 1)) changeBody [x0, some (.ref 2), x2, some d, x4, x5, x6, x7, x8, x9] (boxed c l s rest) = .ok (.nx [x0, some (.ref 2), x2, some d2, x4, y5, y6, y7, x8, x9]) (boxed c l2 s2 rest) := by
  obtain ⟨r, q, w, l2, s2, q0, q1, ow, hs2, hl2, e1⟩ := change_draw (k := k) (c := c) (x0 := x0) (x2 := x2) (x4 := x4) (x5 := x5) (x6 := x6) (x7 := x7) (x8 := x8) (x9 := x9) hs hl ha hn
  obtain ⟨ws2, y5, y6, y7, h1, h2, e2⟩ := change_deed (k := k) (c := c) (l := l2) (s := s2) (r := r) (x0 := x0) (x2 := x2) (x4 := x4) (x8 := x8) (x9 := x9) ha hw hn ow q0 q1
  exact ⟨.fl (txts ws2), ws2, l2, s2, y5, y6, y7, .fl _, h1, h2, hs2, hl2, e1.trans e2⟩
theorem change_loop {k : Nat} {c : Cell} {rest : List Cell} {x0 x2 x8 x9 : Option D} : ∀ (ts : List D) (l : List Int) (s : Int) (d : D) (ws : List Str) (x4 x5 x6 x7 : Option D), Seed s → l.length ≤ 64 → At rest d ws → (∀ w ∈ ws, Sh w) → (ws.length + 1) * 2 ^ ts.length ≤ 104 →
    ∃ d2 ws2 l2 s2 y4 y5 y6 y7, At rest d2 ws2 ∧ (∀ w ∈ ws2, Sh w) ∧ ws2.length ≤ 103 ∧ Seed s2 ∧ l2.length ≤ l.length ∧
      forL [] (bindT (.name 4)) (evSs (evF fns (k + 1)) changeBody) ts [x0, some (.ref 2), x2, some d, x4, x5, x6, x7, x8, x9] (boxed c l s rest) = .ok (.nx [x0, some (.ref 2), x2, some d2, y4, y5, y6, y7, x8, x9]) (boxed c l2 s2 rest)
  | [], l, s, d, ws, x4, x5, x6, x7, hs, _, ha, hw, hn => ⟨d, ws, l, s, x4, x5, x6, x7, ha, hw, by simp at hn; omega, hs, Nat.le_refl _, rfl⟩
  | t :: ts, l, s, d, ws, x4, x5, x6, x7, hs, hl, ha, hw, hn => by
    have h1 : (2 * ws.length + 1 + 1) * 2 ^ ts.length ≤ 104 := by
      rw [List.length_cons, Nat.pow_succ] at hn
      have : (ws.length + 1) * (2 ^ ts.length * 2) = (2 * ws.length + 1 + 1) * 2 ^ ts.length := by
        rw [Nat.mul_comm (2 ^ ts.length) 2, ← Nat.mul_assoc]
        congr 1
        omega
      omega
    have h2 : ws.length + 1 ≤ 104 := Nat.le_trans (Nat.le_mul_of_pos_right _ (Nat.two_pow_pos _)) hn
    obtain ⟨d1, ws1, l1, s1, y5, y6, y7, a1, b1, c1, hs1, hl1, e1⟩ := change_body (k := k) (c := c) (x0 := x0) (x2 := x2) (x4 := some t) (x5 := x5) (x6 := x6) (x7 := x7) (x8 := x8) (x9 := x9) hs hl ha hw (by omega)
    obtain ⟨d2, ws2, l2, s2, z4, z5, z6, z7, a2, b2, c2, hs2, hl2, e2⟩ := change_loop (k := k) (c := c) (x0 := x0) (x2 := x2) (x8 := x8) (x9 := x9) ts l1 s1 d1 ws1 (some t) y5 y6 y7 hs1 (by omega) a1 b1 (Nat.le_trans (Nat.mul_le_mul_right _ (by omega)) h1)
    refine ⟨d2, ws2, l2, s2, z4, z5, z6, z7, a2, b2, c2, hs2, by omega, ?_⟩
    have g0 : ∀ η, chkG [] η = .ok () η := fun η => rfl
    conv => lhs; unfold forL
    rw [bnd_ok (g0 _)]
    show bnd (evSs (evF fns (k + 1)) changeBody [x0, some (.ref 2), x2, some d, some t, x5, x6, x7, x8, x9]) _ _ = _
    rw [bnd_ok e1]
    exact e2
/-! ### the text -/
theorem join_ok {sep : Str} (hs : PyData.strOk sep = true) : ∀ {ws : List Str}, (∀ w ∈ ws, PyData.strOk w = true) → PyData.strOk (Str.join sep ws) = true
  | [], _ => by
    show PyData.strOk PySem.Str.empty = true
    decide +kernel
  | [x], h => h x (by simp)
  | x :: y :: r, h => by
    have ih := join_ok hs (ws := y :: r) fun w hw => h w (List.mem_cons_of_mem _ hw)
    have hx := h x (by simp)
    have ap : ∀ a b : Str, PyData.strOk a = true → PyData.strOk b = true → PyData.strOk (a ++ b) = true := fun a b ha hb => by
      unfold PyData.strOk at *
      show (a.cps ++ b.cps).all _ = true
      rw [Array.all_append, ha, hb]
      rfl
    exact ap _ _ (ap _ _ hx hs) ih
theorem join_parts {sep : Str} : ∀ {ws : List Str}, PyData.strOk (Str.join sep ws) = true → ∀ w ∈ ws, PyData.strOk w = true
  | [], _ => fun w hw => by cases hw
  | [x], h => fun w hw => by
    simp at hw
    rw [hw]
    exact h
  | x :: y :: r, h => by
    have ap : ∀ a b : Str, PyData.strOk (a ++ b) = true → PyData.strOk a = true ∧ PyData.strOk b = true := fun a b h => by
      unfold PyData.strOk at *
      have h' : (a.cps ++ b.cps).all (fun c => decide (c < 0x110000)) = true := h
      rw [Array.all_append, Bool.and_eq_true] at h'
      exact h'
    obtain ⟨h1, h2⟩ := ap _ _ (show PyData.strOk (x ++ sep ++ Str.join sep (y :: r)) = true from h)
    obtain ⟨h3, _⟩ := ap _ _ h1
    intro w hw
    rcases List.mem_cons.mp hw with rfl | hw
    · exact h3
    · exact join_parts h2 w hw
theorem sum_le {l : List Nat} {a : Nat} (h : a ∈ l) : a ≤ l.sum := by
  induction l with
  | nil => cases h
  | cons b r ih =>
    rw [List.sum_cons]
    rcases List.mem_cons.mp h with rfl | h
    · omega
    · have := ih h
      omega
theorem sum_sh : ∀ {ws : List Str}, (∀ w ∈ ws, Sh w) → (ws.map (·.length)).sum ≤ 3 * ws.length
  | [], _ => Nat.zero_le _
  | w :: r, h => by
    have ih := sum_sh (ws := r) fun v hv => h v (List.mem_cons_of_mem _ hv)
    have h1 := (h w (by simp)).len
    simp only [List.map_cons, List.sum_cons, List.length_cons]
    omega
theorem text_ok {ws : List Str} (hw : ∀ w ∈ ws, Sh w) (hn : ws.length ≤ 103) : PyData.strOk (Txt.join spaceS ws) = true ∧ (Txt.join spaceS ws).length ≤ 500 ∧ (∀ w ∈ wds (Txt.join spaceS ws), OkW w) ∧ (wds (Txt.join spaceS ws)).length ≤ 900000 := by
  have oS : PyData.strOk spaceS = true := by decide +kernel
  have lS : spaceS.length = 1 := by decide +kernel
  have e : Txt.join spaceS ws = Str.join spaceS ws := StrLaws.glued_eq_join _ _
  have h1 : PyData.strOk (Txt.join spaceS ws) = true := by
    rw [e]
    exact join_ok oS fun w h => (hw w h).ok
  have h2 : (Txt.join spaceS ws).length ≤ 500 := by
    rw [e]
    have q := StrLaws.join_length_le spaceS ws
    have q2 := sum_sh hw
    rw [lS] at q
    omega
  refine ⟨h1, h2, ?_, ?_⟩
  · intro w hw
    unfold wds at hw
    split at hw
    · cases hw
    · have j := StrLaws.join_split (Txt.join spaceS ws) spaceS
      have p1 := join_parts (sep := spaceS) (ws := Txt.split (Txt.join spaceS ws) spaceS) (by rw [j]; exact h1) w hw
      have p2 := PyProof.Rows.split_weight (Txt.join spaceS ws) spaceS (by rw [lS]; exact Nat.le_refl 1)
      have p3 := sum_le (List.mem_map_of_mem (f := fun w : Str => w.length) hw)
      exact ⟨p1, by omega⟩
  · unfold wds
    split
    · exact Nat.zero_le _
    · have := PyProof.Rows.split_le (Txt.join spaceS ws) spaceS
      omega
end K14
end
section
set_option Elab.async false
set_option linter.all false
set_option maxRecDepth 100000
set_option maxHeartbeats 0
namespace K14
open PySem PySem.Spec PyProof.Rows L2 Ms
def mth (i : Nat) : Stmt := match top i with
  | .ClassDef _ _ _ (st :: _) _ _ _ _ _ _ _ => st
  | st => st
def df (x : Str) (i : Nat) : He.DefD := ⟨(x, none), x, x, defArgs (top i), defBody (top i), defScope (top i), [], []⟩
def dm (c : Str) (q : Str) (i : Nat) : He.DefD := ⟨(c, some "__init__"), "__init__", q, defArgs (mth i), defBody (mth i), defScope (mth i), [], []⟩
def dfs : List He.DefD := [df "is_word" 10, df "is_step" 16, df "is_next" 17, df "need_work" 18, df "read_work" 20, df "_law_begun" 22, df "_law_take" 23, df "_law_alike" 24, df "_law_step" 26, df "_law_work" 27, df "_law_due" 28, df "law" 29, df "_law_told" 25, dm "BadWork" "BadWork.__init__" 3, dm "BadText" "BadText.__init__" 7]
def gl : List Str := ["is_word", "is_step", "is_next", "need_work", "read_work", "_law_begun", "_law_take", "_law_alike", "_law_step", "_law_work", "_law_due", "law", "_law_told", "MarkError", "BadPaper", "BadWork", "BadStep", "BadCount", "NoWork", "BadText"]
def fa : List He.Fa := gl.map He.Fa.glo ++ (builtinNames ++ [("ValueError" : Str)]).map He.Fa.free ++ [.str "WORDS" "abcdefgh", .int "MOST_STEPS" 12, .str "RIGHT" "r", .str "CARRIED" "c", .str "WRONG" "w", .meth "BadWork" "__init__", .meth "BadText" "__init__"]
def tf : List He.Defn := [("law", none)]
abbrev R : PySem.W.OpenRow := PySem.W.OpenLaw.row PySem.Challenge.rw_markscript_k14_works_texts_refused
abbrev hk : PySem.W.Hook := hookY 5 fa dfs tf (exB [1, 5])
def ob (s : PySem.W.SharedT) : He.AlX := obsY 5 fa dfs tf (exB [1, 5]) (HandSHeadRun.getT s)
theorem ob_eq (s : PySem.W.SharedT) : ob s = hk.obs s.abs := obsY_eq (HandSHeadRun.getT_eq s)
def loose : List Str := ["MarkError", "BadPaper", "BadWork", "BadStep", "BadCount", "NoWork", "BadText", "WORDS", "is_word", "MOST_STEPS", "RIGHT", "CARRIED", "WRONG", "is_step", "is_next", "need_work", "read_work", "_law_begun", "_law_take", "_law_alike", "_law_told", "_law_step", "_law_work", "_law_due"]
theorem run (w : World) : HandSHeadRun.RunEq R (PySem.W.view R.prog [29]) hk ob 4000 loose w := by
  intro os
  kernel_rfl
end K14
end
section
set_option Elab.async false
set_option linter.all false
set_option maxRecDepth 100000
set_option maxHeartbeats 4000000
namespace K14
open PySem PySem.Spec PyProof.Rows L2 Ms
abbrev Lq : Str := "law.<locals>.<lambda>"
section
variable {P : Program} {w : World} {K : PySem.W.Frag} {h base : Heap} {mg : Str → Option Value}
theorem glo (X : K.In h) (G : h.Ns mainGlobals mg) (c : He.SaysX fa dfs [] tf (exB [1, 5]) w h K) {x : Str} (hx : x ∈ gl) : mg x = some (.ref (He.ga K x)) :=
  He.glo_ok X G (c.t.d.facts (f := .glo x) (List.mem_append_left _ (List.mem_append_left _ (List.mem_map_of_mem hx))))
theorem fre (X : K.In h) (G : h.Ns mainGlobals mg) (c : He.SaysX fa dfs [] tf (exB [1, 5]) w h K) {x : Str} (hx : x ∈ builtinNames ++ [("ValueError" : Str)]) : mg x = none :=
  He.free_ok X G (c.t.d.facts (f := .free x) (List.mem_append_left _ (List.mem_append_right _ (List.mem_map_of_mem hx))))
theorem names3 (X : K.In h) (G : h.Ns mainGlobals mg) (c : He.SaysX fa dfs [] tf (exB [1, 5]) w h K) : Names3 K mg where
  cl := fun j n hn => by
    have e : clsOf K j = He.ga K n := by
      unfold clsOf
      rw [List.getD_eq_getElem?_getD, hn]
      rfl
    rw [e]
    refine glo X G c ?_
    have hm : n ∈ excNames := List.mem_of_getElem? hn
    have : ∀ n ∈ excNames, n ∈ gl := by decide +kernel
    exact this n hm
  mrk := glo X G c (by decide +kernel)
  isi := fre X G c (by decide +kernel)
  ve := fre X G c (by decide +kernel)
theorem defAt (c : He.SaysX fa dfs [] tf (exB [1, 5]) w h K) {d : He.DefD} (hd : d ∈ dfs) : ∃ fd, FunD K d.name d.qual d.params d.body d.scope (d.dvs K) (d.kws K) (He.fAd K d.at_) fd := c.t.d.defs hd
theorem fn_ty {v : Value} (h : PySem.W.isFn K v = true) : PySem.W.typeIn K v = some (.type "function") := by
  unfold PySem.W.isFn at h
  exact eq_of_beq h
theorem md (X : K.In h) (G : h.Ns mainGlobals mg) (c : He.SaysX fa dfs [] tf (exB [1, 5]) w h K) (tb : LamX.TabB base mg (He.cT K ("law", none)).1 (He.cT K ("law", none)).2) : Mod1 P w K mg base (clsOf K) tab where
  glo := by
    intro x cc hx
    have q : (x, cc) ∈ cs := hx
    simp only [cs, List.mem_cons, Prod.mk.injEq, List.mem_nil_iff, or_false] at q
    rcases q with ⟨rfl, rfl⟩ | ⟨rfl, rfl⟩ | ⟨rfl, rfl⟩ | ⟨rfl, rfl⟩ | ⟨rfl, rfl⟩
    · obtain ⟨t, e⟩ := He.str_ok X G (c.t.d.facts (f := .str "WORDS" "abcdefgh") (by simp [fa]))
      exact ⟨_, _, e, rfl, ⟨t, rfl⟩, rfl⟩
    · obtain ⟨t, e⟩ := He.int_ok X G (c.t.d.facts (f := .int "MOST_STEPS" 12) (by simp [fa]))
      exact ⟨_, _, e, rfl, ⟨t, rfl⟩, rfl⟩
    · obtain ⟨t, e⟩ := He.str_ok X G (c.t.d.facts (f := .str "RIGHT" "r") (by simp [fa]))
      exact ⟨_, _, e, rfl, ⟨t, rfl⟩, rfl⟩
    · obtain ⟨t, e⟩ := He.str_ok X G (c.t.d.facts (f := .str "CARRIED" "c") (by simp [fa]))
      exact ⟨_, _, e, rfl, ⟨t, rfl⟩, rfl⟩
    · obtain ⟨t, e⟩ := He.str_ok X G (c.t.d.facts (f := .str "WRONG" "w") (by simp [fa]))
      exact ⟨_, _, e, rfl, ⟨t, rfl⟩, rfl⟩
  bl := fun x hx => fre X G c (List.mem_append_left _ hx)
  fn := by
    intro f fd hf
    have no : ∀ {fd : FD} {a : Addr} {q : Str} {sc : Scope}, fd.lam = none → ∀ L, fd.lam = some L → a = He.fAd K L.p ∧ (∀ n f cd, (PyProof.Rows.envOfC q sc n f cd).qual ++ "<lambda>" = L.q) ∧ LamX.TabB base mg (He.cT K L.p).1 (He.cT K L.p).2 := fun e L z => by rw [e] at z; cases z
    match f, hf with
    | 0, hf =>
      cases hf
      obtain ⟨dt, F⟩ := defAt c (d := df "is_word" 10) (by simp [dfs])
      exact ⟨_, dt, _, _, _, _, _, glo X G c (x := "is_word") (by decide +kernel), F, (F.bindsN fun _ _ _ _ _ _ us hl => match us, hl with | [_], _ => rfl), ⟨by decide +kernel, by decide +kernel, by decide +kernel, by decide +kernel, by decide +kernel, by decide +kernel, by decide +kernel⟩, ok_is_word, no rfl⟩
    | 1, hf =>
      cases hf
      obtain ⟨dt, F⟩ := defAt c (d := df "is_step" 16) (by simp [dfs])
      exact ⟨_, dt, _, _, _, _, _, glo X G c (x := "is_step") (by decide +kernel), F, (F.bindsN fun _ _ _ _ _ _ us hl => match us, hl with | [_], _ => rfl), ⟨by decide +kernel, by decide +kernel, by decide +kernel, by decide +kernel, by decide +kernel, by decide +kernel, by decide +kernel⟩, ok_is_step, no rfl⟩
    | 2, hf =>
      cases hf
      obtain ⟨dt, F⟩ := defAt c (d := df "is_next" 17) (by simp [dfs])
      exact ⟨_, dt, _, _, _, _, _, glo X G c (x := "is_next") (by decide +kernel), F, (F.bindsN fun _ _ _ _ _ _ us hl => match us, hl with | [_, _], _ => rfl), ⟨by decide +kernel, by decide +kernel, by decide +kernel, by decide +kernel, by decide +kernel, by decide +kernel, by decide +kernel⟩, ok_is_next, no rfl⟩
    | 3, hf =>
      cases hf
      obtain ⟨dt, F⟩ := defAt c (d := df "need_work" 18) (by simp [dfs])
      exact ⟨_, dt, _, _, _, _, _, glo X G c (x := "need_work") (by decide +kernel), F, (F.bindsN fun _ _ _ _ _ _ us hl => match us, hl with | [_], _ => rfl), ⟨by decide +kernel, by decide +kernel, by decide +kernel, by decide +kernel, by decide +kernel, by decide +kernel, by decide +kernel⟩, ok_need_work, no rfl⟩
    | 4, hf =>
      cases hf
      obtain ⟨dt, F⟩ := defAt c (d := df "read_work" 20) (by simp [dfs])
      exact ⟨_, dt, _, _, _, _, _, glo X G c (x := "read_work") (by decide +kernel), F, (F.bindsN fun _ _ _ _ _ _ us hl => match us, hl with | [_], _ => rfl), ⟨by decide +kernel, by decide +kernel, by decide +kernel, by decide +kernel, by decide +kernel, by decide +kernel, by decide +kernel⟩, ok_read_work, no rfl⟩
    | 5, hf =>
      cases hf
      obtain ⟨dt, F⟩ := defAt c (d := df "_law_begun" 22) (by simp [dfs])
      exact ⟨_, dt, _, _, _, _, _, glo X G c (x := "_law_begun") (by decide +kernel), F, (F.bindsN fun _ _ _ _ _ _ us hl => match us, hl with | [_], _ => rfl), ⟨by decide +kernel, by decide +kernel, by decide +kernel, by decide +kernel, by decide +kernel, by decide +kernel, by decide +kernel⟩, ok_law_begun, no rfl⟩
    | 6, hf =>
      cases hf
      obtain ⟨dt, F⟩ := defAt c (d := df "_law_take" 23) (by simp [dfs])
      exact ⟨_, dt, _, _, _, _, _, glo X G c (x := "_law_take") (by decide +kernel), F, (F.bindsN fun _ _ _ _ _ _ us hl => match us, hl with | [_, _], _ => rfl), ⟨by decide +kernel, by decide +kernel, by decide +kernel, by decide +kernel, by decide +kernel, by decide +kernel, by decide +kernel⟩, ok_law_take, no rfl⟩
    | 7, hf =>
      cases hf
      obtain ⟨dt, F⟩ := defAt c (d := df "_law_alike" 24) (by simp [dfs])
      exact ⟨_, dt, _, _, _, _, _, glo X G c (x := "_law_alike") (by decide +kernel), F, (F.bindsN fun _ _ _ _ _ _ us hl => match us, hl with | [_, _], _ => rfl), ⟨by decide +kernel, by decide +kernel, by decide +kernel, by decide +kernel, by decide +kernel, by decide +kernel, by decide +kernel⟩, ok_law_alike, no rfl⟩
    | 8, hf =>
      cases hf
      obtain ⟨dt, F⟩ := defAt c (d := df "_law_step" 26) (by simp [dfs])
      exact ⟨_, dt, _, _, _, _, _, glo X G c (x := "_law_step") (by decide +kernel), F, (F.bindsN fun _ _ _ _ _ _ us hl => match us, hl with | [_, _, _], _ => rfl), ⟨by decide +kernel, by decide +kernel, by decide +kernel, by decide +kernel, by decide +kernel, by decide +kernel, by decide +kernel⟩, ok_law_step, no rfl⟩
    | 9, hf =>
      cases hf
      obtain ⟨dt, F⟩ := defAt c (d := df "_law_work" 27) (by simp [dfs])
      exact ⟨_, dt, _, _, _, _, _, glo X G c (x := "_law_work") (by decide +kernel), F, (F.bindsN fun _ _ _ _ _ _ us hl => match us, hl with | [_, _, _], _ => rfl), ⟨by decide +kernel, by decide +kernel, by decide +kernel, by decide +kernel, by decide +kernel, by decide +kernel, by decide +kernel⟩, ok_law_work, no rfl⟩
    | 10, hf =>
      cases hf
      obtain ⟨dt, F⟩ := defAt c (d := df "_law_due" 28) (by simp [dfs])
      exact ⟨_, dt, _, _, _, _, _, glo X G c (x := "_law_due") (by decide +kernel), F, (F.bindsN fun _ _ _ _ _ _ us hl => match us, hl with | [_], _ => rfl), ⟨by decide +kernel, by decide +kernel, by decide +kernel, by decide +kernel, by decide +kernel, by decide +kernel, by decide +kernel⟩, ok_law_due, no rfl⟩
    | 11, hf =>
      cases hf
      obtain ⟨dt, F⟩ := defAt c (d := df "law" 29) (by simp [dfs])
      exact ⟨_, dt, _, _, _, _, _, glo X G c (x := "law") (by decide +kernel), F, (F.bindsN fun _ _ _ _ _ _ us hl => match us, hl with | [_], _ => rfl), ⟨by decide +kernel, by decide +kernel, by decide +kernel, by decide +kernel, by decide +kernel, by decide +kernel, by decide +kernel⟩, ok_law, fun L z => by
        cases z
        exact ⟨rfl, fun _ _ _ => rfl, tb⟩⟩
    | n + 12, hf => exact absurd hf (by simp [tab, fns])
  xs := by
    intro j x fs hx
    have q : (j, x, fs) ∈ [((1 : Nat), (("BadWork" : Str), [("number" : Str)])), (5, "BadText", ["place"])] := hx
    simp only [List.mem_cons, Prod.mk.injEq, List.mem_nil_iff, or_false] at q
    have FX := exB_ok c.more
    rcases q with ⟨rfl, rfl, rfl⟩ | ⟨rfl, rfl, rfl⟩
    · refine ⟨(names3 X G c).cl 1 "BadWork" rfl, fun f hf => FX.noat 1 (by decide) f (by revert f; decide +kernel), FX.oex 1 (by simp), ?_⟩
      obtain ⟨dt, F⟩ := defAt c (d := dm "BadWork" "BadWork.__init__" 3) (by simp [dfs])
      have mt := He.meth_ok (c.t.d.facts (f := .meth "BadWork" "__init__") (by simp [fa]))
      exact ⟨_, dt, ["self", "number"], mt.at_, fn_ty mt.fn, (F.bindsN fun _ _ _ _ _ _ us hl => match us, hl with | [_, _], _ => rfl), init1 F ⟨by decide +kernel, by decide +kernel, by decide +kernel, by decide +kernel, by decide +kernel, by decide +kernel, by decide +kernel⟩ (by decide +kernel) (glo X G c (x := "MarkError") (by decide +kernel)) FX.base (FX.oex 1 (by simp)) (FX.noat 1 (by decide) "number" (by decide +kernel)) (by decide +kernel) (by decide +kernel) (by decide +kernel) (fun _ => rfl)⟩
    · refine ⟨(names3 X G c).cl 5 "BadText" rfl, fun f hf => FX.noat 5 (by decide) f (by revert f; decide +kernel), FX.oex 5 (by simp), ?_⟩
      obtain ⟨dt, F⟩ := defAt c (d := dm "BadText" "BadText.__init__" 7) (by simp [dfs])
      have mt := He.meth_ok (c.t.d.facts (f := .meth "BadText" "__init__") (by simp [fa]))
      exact ⟨_, dt, ["self", "place"], mt.at_, fn_ty mt.fn, (F.bindsN fun _ _ _ _ _ _ us hl => match us, hl with | [_, _], _ => rfl), init1 F ⟨by decide +kernel, by decide +kernel, by decide +kernel, by decide +kernel, by decide +kernel, by decide +kernel, by decide +kernel⟩ (by decide +kernel) (glo X G c (x := "MarkError") (by decide +kernel)) FX.base (FX.oex 5 (by simp)) (FX.noat 5 (by decide) "place" (by decide +kernel)) (by decide +kernel) (by decide +kernel) (by decide +kernel) (fun _ => rfl)⟩
  told := by
    intro L fd _ _ Y e1 e2 e3 e4 e5
    have FX := exB_ok c.more
    obtain ⟨dt, F⟩ := defAt c (d := df "_law_told" 25) (by simp [dfs])
    have bn : Binds K dt ["_law_work_here"] [] := F.bindsN fun _ _ _ _ _ _ us hl => match us, hl with | [_], _ => rfl
    obtain ⟨oc, od, dV, kV, doc, pm, an, cdv, ct, osl, rfl, lk, hcd, _, _⟩ := F.ex
    have gv := told_gives FX (names3 X G c) (P := Y.prog) (w := Y.w) (g := He.fAd K ("_law_told", none)) (cdg := cdv) (X := Y) rfl rfl e3 e4
    subst e1 e2 e3 e4 e5
    exact ⟨He.ga Y.K "_law_told", _, _, _, dV, kV, doc, pm, cdv, ct, oc, an, od, osl, Nt, "_law_work_here", glo X G c (by decide +kernel), F.kp, lk, hcd, bn, ⟨by decide +kernel, by decide +kernel, by decide +kernel, ndT, by decide +kernel, by decide +kernel, by decide +kernel⟩, rfl, .inl (by decide +kernel), by decide +kernel, by decide +kernel, gv⟩
end

def startη : List Cell := [.tab ("law", none) Lq]
/-- where the law begins -/
theorem begin_ok {K : PySem.W.Frag} {H : Hp} {a : Addr} {ns : List Int} {cls : Nat → Addr} {r : Res D} (hT : H (He.cT K ("law", none)).2 = some (.tbl #[])) (hS : SqL K H a (ns.map V.int)) (hr : evF fns 9 11 [.scr (ns.map D.int)] startη = r) (ht : ∃ η, r = .ok (.bl true) η) :
    spF cls K 1 (evF fns 9 11) [.ref a] H (fun v _ => v = .bl true) fun _ _ _ => False := by
  obtain ⟨η, rfl⟩ := ht
  have inr : ∀ (G : Hp) (ι : List Addr) (ns : List Int), Reps K G ι (ns.map V.int) (ns.map D.int) := fun G ι ns => by
    induction ns with
    | nil => exact .nil
    | cons n ns ih => exact .cons (.int n) ih
  have fin : ∀ (G : Hp), Same G H → (∀ b ps, G b ≠ some (.tbl ps)) → G (He.cT K ("law", none)).2 = none → SqL K G a (ns.map V.int) → spF cls K 1 (evF fns 9 11) [.ref a] H (fun v _ => v = .bl true) fun _ _ _ => False := fun G sm nt gP sq => by
    refine ⟨rfl, G, [(He.cT K ("law", none)).2], startη, [.scr (ns.map D.int)], ⟨sm, rfl, by simp, ?_, ?_, ?_, nt⟩, .cons (.scr sq (inr _ _ _)) .nil, ?_⟩
    · intro n b c q _ _
      match n, q with
      | 0, q =>
        cases q
        exact gP
    · intro n b c q q2
      match n, q, q2 with
      | 0, q, q2 =>
        cases q
        cases q2
        refine ⟨rfl, #[], hT, trivial, fun pos cv z => ?_⟩
        have z' : codeAmong pos [] = some cv := z
        simp [codeAmong] at z'
    · intro n b q
      match n, q with
      | 0, q =>
        cases q
        rw [hT]
        exact fun z => nomatch z
    · rw [hr]
      intro G' ι' H' _ _ v rv
      cases rv
      rfl
  rcases hS with hS | hS
  · have ho : ∃ o, H a = some o ∧ ∀ ps, o ≠ .tbl ps := by
      rcases hS with e | ⟨o, e⟩
      · exact ⟨_, e, fun ps z => nomatch z⟩
      · exact ⟨_, e, fun ps z => nomatch z⟩
    obtain ⟨o, e, nt⟩ := ho
    have hne : (He.cT K ("law", none)).2 ≠ a := fun z => by
      rw [z, e] at hT
      exact nt _ (Option.some.inj hT)
    refine fin (upd (fun _ => none) a o) (fun b u q => ?_) (fun b ps q => ?_) (upd_ne hne) (.inl ?_)
    · by_cases hb : b = a
      · rw [hb, upd_same] at q
        rw [hb, e, q]
      · rw [upd_ne hb] at q
        cases q
    · by_cases hb : b = a
      · rw [hb, upd_same] at q
        exact nt ps (Option.some.inj q)
      · rw [upd_ne hb] at q
        cases q
    · rcases hS with e2 | ⟨o2, e2⟩
      · rw [e] at e2
        cases e2
        exact .inl upd_same
      · rw [e] at e2
        cases e2
        exact .inr ⟨o2, upd_same⟩
  · exact fin (fun _ => none) (fun _ _ q => nomatch q) (fun _ _ q => nomatch q) rfl (.inr hS)
end K14
open PySem PySem.W PySem.Calls PyProof.Rows
theorem PySem.Challenge.k14_from (hlaw : ∀ ns : List Int, ns.length ≤ 63 → ∃ η, Ms.evF K14.fns 9 11 [.scr (ns.map Ms.D.int)] K14.startη = .ok (.bl true) η) : PySem.Challenge.rw_markscript_k14_works_texts_refused.Holds := by
  w_on; o_law
  refine HandSHeadRun.head_any (r := OpenLaw.row PySem.Challenge.rw_markscript_k14_works_texts_refused) (q := view (OpenLaw.row PySem.Challenge.rw_markscript_k14_works_texts_refused).prog [29]) (H := K14.hk) (ob := K14.ob) (M := 4000) (loose := K14.loose) (d := HandSHeadRun.topDef (OpenLaw.row PySem.Challenge.rw_markscript_k14_works_texts_refused).prog 29) (kwd := []) K14.ob_eq
    (by kernel_rfl) (fun s => by kernel_rfl) K14.run (by kernel_rfl) (by kernel_rfl) (by kernel_rfl) (by rfl) (by first | assumption | decide +kernel) (by decide +kernel) ⟨rfl, rfl, rfl, rfl, rfl, by decide +kernel⟩ ?hw ?hc
  case hw => w_witness2
  case hc =>
    refine LamX.walk_ofTsE (l := PySem.Challenge.rw_markscript_k14_works_texts_refused) (n := 63) (k := 29) (x := "_law_script") (CX := fun w => L2.CX (PySem.Challenge.rw_markscript_k14_works_texts_refused).prog w) rfl (by decide) (by kernel_rfl) ⟨rfl, by decide, by decide⟩ ?F (fun w H s e s' z => ?_)
    · intro w mg fa h Y G hmg0
      obtain ⟨K, KX, c⟩ := Y
      have hmg : mg ("law" : PySem.Str) = some (.ref fa) := by
        have e : (HandSHeadRun.topDef (OpenLaw.row PySem.Challenge.rw_markscript_k14_works_texts_refused).prog 29).name = ("law" : PySem.Str) := by kernel_rfl
        rw [← e]
        exact hmg0
      have e := hmg.symm.trans (K14.glo KX G c (x := "law") (by decide +kernel))
      cases e
      obtain ⟨fd, F⟩ := K14.defAt c (d := K14.df "law" 29) (by simp [K14.dfs])
      refine ⟨K, KX, fd, [He.cT K ("law", none)], Ms.spF (Ms.clsOf K) K 1 (Ms.evF K14.fns 9 11), ?_, ?_, ?_, ?_, ?_, ?_⟩
      · intro p hp
        simp at hp
        subst hp
        exact c.empty ("law", none) (by simp [K14.tf])
      · intro p hp
        simp at hp
        subst hp
        exact c.out ("law", none) (by simp [K14.tf])
      · intro p hp
        simp at hp
        subst hp
        exact PySem.W.codeHd_of_K KX (c.hd ("law", none) (by simp [K14.tf]))
      · intro s u
        exact L2.FunD.bindsA (ps := ["_law_script"]) F (fun _ _ _ _ _ _ us hl => match us, hl with | [_], _ => rfl) s [u] rfl
      · intro H a ns hl _ hT hS
        exact K14.begin_ok (hT _ (by simp)) hS rfl (hlaw ns hl)
      · intro base hb hG tb
        exact Ms.fn_all (T := K14.tab) (K14.md KX G c (tb _ (by simp))) 9 11 K14.fd_law rfl _ fd _ _ _ _ _ F ⟨by decide +kernel, by decide +kernel, by decide +kernel, by decide +kernel, by decide +kernel, by decide +kernel, by decide +kernel⟩ K14.ok_law fun L z => by
          cases z
          exact ⟨rfl, fun _ _ _ => rfl, tb _ (by simp)⟩
    · obtain ⟨_, _, _, _, _, _, _, _, _, _, _, _, q⟩ := z
      exact q.elim
end
section
set_option Elab.async false
set_option linter.all false
set_option maxRecDepth 100000
set_option maxHeartbeats 1000000
namespace K14
open PySem L2 Ms
def turnBody : Ss := match fd_law.code with
  | .cons _ (.cons (.for_ _ _ b) _) => b
  | _ => .nil
def againBody : Ss := match turnBody with
  | .cons _ (.cons _ (.cons _ (.cons (.for_ _ _ b) _))) => b
  | _ => .nil
abbrev lamS : Str := "law.<locals>.<lambda>"
abbrev tabC : Cell := .tab ("law", none) lamS
theorem again_body {k : Nat} {z : Str} {l : List Int} {s : Int} {rest : List Cell} {x0 x1 x2 x3 x4 x5 x6 x7 x9 : Option D} (hz : PyData.strOk z = true) (hl : z.length ≤ LIM) (hw : ∀ w ∈ wds z, OkW w) (hn : (wds z).length ≤ 900000) :
    ∃ e, evSs (evF fns (k + 5)) againBody [x0, x1, x2, x3, x4, x5, x6, x7, some (.str z), x9] (boxed tabC l s rest) = .ok (.nx [x0, x1, x2, x3, x4, x5, x6, x7, some (.str z), x9]) (boxed tabC l s (rest ++ [.lst e])) := by
  obtain ⟨e, d, d2, h1, h2, h3⟩ := told_alike (k := k) (k2 := k + 4) (k3 := k + 3) (z := z) (η := boxed tabC l s rest) (p := ("law", none)) (q := lamS) rfl hz hl hw hn
  have eb : boxed tabC l s rest ++ [.lst e] = boxed tabC l s (rest ++ [.lst e]) := rfl
  rw [eb] at h1 h2 h3
  refine ⟨e, ?_⟩
  simp only [againBody, turnBody, fd_law, evSs, evS, evE, evEs, List.getElem?_cons_zero, List.getElem?_cons_succ, Option.join_some, fromO_some, bnd_ret, bnd_assoc, asB_bnd]
  rw [bnd_ok h1, bnd_ok h2, bnd_ok (asB_at h3)]
  simp only [asB_bl, bnd_ret, Bool.not_true, Bool.false_eq_true, if_false]
  rfl
theorem again_loop {k : Nat} {z : Str} {l : List Int} {s : Int} {x0 x1 x2 x3 x4 x5 x6 x7 : Option D} (hz : PyData.strOk z = true) (hl : z.length ≤ LIM) (hw : ∀ w ∈ wds z, OkW w) (hn : (wds z).length ≤ 900000) : ∀ (ts : List D) (rest : List Cell) (x9 : Option D),
    ∃ rest2 y9, forL [] (bindT (.name 9)) (evSs (evF fns (k + 5)) againBody) ts [x0, x1, x2, x3, x4, x5, x6, x7, some (.str z), x9] (boxed tabC l s rest) = .ok (.nx [x0, x1, x2, x3, x4, x5, x6, x7, some (.str z), y9]) (boxed tabC l s rest2)
  | [], rest, x9 => ⟨rest, x9, rfl⟩
  | t :: ts, rest, x9 => by
    obtain ⟨e, h1⟩ := again_body (k := k) (l := l) (s := s) (rest := rest) (x0 := x0) (x1 := x1) (x2 := x2) (x3 := x3) (x4 := x4) (x5 := x5) (x6 := x6) (x7 := x7) (x9 := some t) hz hl hw hn
    obtain ⟨rest2, y9, h2⟩ := again_loop hz hl hw hn ts (rest ++ [.lst e]) (some t)
    refine ⟨rest2, y9, ?_⟩
    have g0 : ∀ η, chkG [] η = .ok () η := fun η => rfl
    conv => lhs; unfold forL
    rw [bnd_ok (g0 _)]
    show bnd (evSs (evF fns (k + 5)) againBody [x0, x1, x2, x3, x4, x5, x6, x7, some (.str z), some t]) _ _ = _
    rw [bnd_ok h1]
    exact h2
theorem evSs_step (cf : Nat → List D → M D) (st : S) (r : Ss) (ρ : Ms.Env) : evSs cf (.cons st r) ρ = bnd (evS cf st ρ) fun fl => match fl with
    | .nx ρ' => evSs cf r ρ'
    | .rt d => Ms.ret (.rt d) := by
  conv => lhs; unfold evSs
  all_goals congr 1
theorem evS_for (cf : Nat → List D → M D) (tg : Tn) (it : Ms.It) (b : Ss) (ρ : Ms.Env) : evS cf (.for_ tg it b) ρ = bnd (evIt cf it ρ) fun items => forL items.2 (bindT tg) (evSs cf b) items.1 ρ := by
  conv => lhs; unfold evS
theorem turn_body {l : List Int} {s : Int} {rest : List Cell} {x0 x2 x3 x4 x5 x6 x7 x8 x9 : Option D} (hs : Seed s) (hl : l.length ≤ 64) :
    ∃ l2 s2 rest2 y3 y4 y5 y6 y7 y8 y9, Seed s2 ∧ l2.length ≤ l.length ∧ evSs (evF fns 8) turnBody [x0, some (.ref 2), x2, x3, x4, x5, x6, x7, x8, x9] (boxed tabC l s rest) = .ok (.nx [x0, some (.ref 2), x2, y3, y4, y5, y6, y7, y8, y9]) (boxed tabC l2 s2 rest2) := by
  obtain ⟨ws, l1, s1, w1, w2, hs1, hl1, h1⟩ := work_ok (k := 5) (c := tabC) (rest := rest) hs hl
  obtain ⟨r, l2, s2, r0, r1, hs2, hl2, h2⟩ := take_ok (k := 7) (c := tabC) (rest := rest ++ [.lst (txts ws)]) (m := 4) (l := l1) hs1 (by decide) (by decide) (by omega)
  obtain ⟨n, rfl⟩ : ∃ n : Nat, r = n := ⟨r.toNat, by omega⟩
  have at1 : At (rest ++ [.lst (txts ws)]) (.ref (rest.length + 3)) ws := .ref get_last
  have sh1 : ∀ w ∈ ws, Sh w := fun w hw => ⟨(w1 w hw).ok, by rw [(w1 w hw).two]; decide⟩
  have hp : (ws.length + 1) * 2 ^ ((List.range' 0 n).map fun i => D.int ((i : Nat) : Int)).length ≤ 104 := by
    rw [List.length_map, List.length_range']
    have : n = 0 ∨ n = 1 ∨ n = 2 ∨ n = 3 := by omega
    rcases this with rfl | rfl | rfl | rfl <;> simp <;> omega
  obtain ⟨d, ws2, l3, s3, y4, y5, y6, y7, at2, sh2, n2, hs3, hl3, h3⟩ := change_loop (k := 7) (c := tabC) (x0 := x0) (x2 := x2) (x8 := x8) (x9 := x9) ((List.range' 0 n).map fun i => .int ((i : Nat) : Int)) l2 s2 (.ref (rest.length + 3)) ws x4 x5 x6 x7 hs2 (by omega) at1 sh1 hp
  obtain ⟨t1, t2, t3, t4⟩ := text_ok sh2 n2
  obtain ⟨rest2, y9, h4⟩ := again_loop (k := 3) (l := l3) (s := s3) (x0 := x0) (x1 := some (.ref 2)) (x2 := x2) (x3 := some d) (x4 := y4) (x5 := y5) (x6 := y6) (x7 := y7) t1 (Nat.le_trans t2 (by decide)) t3 t4 ((List.range' 0 2).map fun i => .int ((i : Nat) : Int)) (rest ++ [.lst (txts ws)]) x9
  refine ⟨l3, s3, rest2, some d, y4, y5, y6, y7, some (.str (Txt.join spaceS ws2)), y9, hs3, by omega, ?_⟩
  have jn : mtD .join (.str spaceS) [d] (boxed tabC l3 s3 (rest ++ [.lst (txts ws)])) = .ok (.str (Txt.join spaceS ws2)) (boxed tabC l3 s3 (rest ++ [.lst (txts ws)])) := by
    have q := at2.asQ (c := tabC) (l := l3) (s := s3)
    have ss : ∀ us : List Str, asSs (txts us) = some us := fun us => by
      induction us with
      | nil => rfl
      | cons u us ih =>
        show (asSs (txts us)).map (u :: ·) = _
        rw [ih]
        rfl
    have le : (ws2.map (·.length)).sum + ws2.length * spaceS.length ≤ LIM := by
      have a := sum_sh sh2
      have b : spaceS.length = 1 := by decide +kernel
      have c : LIM = 1000000 := rfl
      rw [b]
      omega
    simp only [mtD, q, Option.bind_some, ss, le, if_true]
  have rc : recvOk .join (.str spaceS) (boxed tabC l3 s3 (rest ++ [.lst (txts ws)])) = true := rfl
  have r2 := rng_at (n := 2) (η := boxed tabC l3 s3 (rest ++ [.lst (txts ws)])) (by decide)
  have rn := rng_at (n := n) (η := boxed tabC l2 s2 (rest ++ [.lst (txts ws)])) (by omega)
  simp only [changeBody, fd_law] at h3
  simp only [againBody, turnBody, fd_law] at h4
  simp only [turnBody, fd_law]
  rw [evSs_step]
  have s1' : evS (evF fns 8) (.asg (.name 3) (.call 9 (.cons (.loc 1) (.cons (.cst (.str "abcdefgh")) (.cons (.cst (.int 12)) .nil))))) [x0, some (.ref 2), x2, x3, x4, x5, x6, x7, x8, x9] (boxed tabC l s rest) = .ok (.nx [x0, some (.ref 2), x2, some (.ref (rest.length + 3)), x4, x5, x6, x7, x8, x9]) (boxed tabC l1 s1 (rest ++ [.lst (txts ws)])) := by
    simp only [evS, evE, evEs, constD, List.getElem?_cons_zero, List.getElem?_cons_succ, Option.join_some, fromO_some, bnd_ret, bnd_assoc]
    exact (bnd_ok h1).trans rfl
  rw [bnd_ok s1']
  try dsimp only
  rw [evSs_step, evS_for]
  have i2 : evIt (evF fns 8) (.rng1 (.call 6 (.cons (.loc 1) (.cons (.cst (.int 4)) .nil)))) [x0, some (.ref 2), x2, some (.ref (rest.length + 3)), x4, x5, x6, x7, x8, x9] (boxed tabC l1 s1 (rest ++ [.lst (txts ws)])) = .ok ((List.range' 0 n).map fun i => .int ((i : Nat) : Int), []) (boxed tabC l2 s2 (rest ++ [.lst (txts ws)])) := by
    simp only [evIt, evE, evEs, constD, List.getElem?_cons_zero, List.getElem?_cons_succ, Option.join_some, fromO_some, bnd_ret, bnd_assoc]
    exact (bnd_ok h2).trans rn
  rw [bnd_assoc, bnd_ok i2]
  try dsimp only
  rw [bnd_ok h3]
  try dsimp only
  rw [evSs_step]
  have s3' : evS (evF fns 8) (.asg (.name 8) (.mt .join (.cst (.str " ")) (.cons (.loc 3) .nil))) [x0, some (.ref 2), x2, some d, y4, y5, y6, y7, x8, x9] (boxed tabC l3 s3 (rest ++ [.lst (txts ws)])) = .ok (.nx [x0, some (.ref 2), x2, some d, y4, y5, y6, y7, some (.str (Txt.join spaceS ws2)), x9]) (boxed tabC l3 s3 (rest ++ [.lst (txts ws)])) := by
    simp only [evS, evE, evEs, constD, List.getElem?_cons_zero, List.getElem?_cons_succ, Option.join_some, fromO_some, bnd_ret, bnd_assoc]
    rw [bnd_ok (a := ()) (η' := boxed tabC l3 s3 (rest ++ [.lst (txts ws)])) (by rfl)]
    exact (bnd_ok jn).trans rfl
  rw [bnd_ok s3']
  try dsimp only
  rw [evSs_step, evS_for]
  have i4 : evIt (evF fns 8) (.rng1 (.cst (.int 2))) [x0, some (.ref 2), x2, some d, y4, y5, y6, y7, some (.str (Txt.join spaceS ws2)), x9] (boxed tabC l3 s3 (rest ++ [.lst (txts ws)])) = .ok ((List.range' 0 2).map fun i => .int ((i : Nat) : Int), []) (boxed tabC l3 s3 (rest ++ [.lst (txts ws)])) := by
    simp only [evIt, evE, evEs, constD, List.getElem?_cons_zero, List.getElem?_cons_succ, Option.join_some, fromO_some, bnd_ret, bnd_assoc]
    exact r2
  rw [bnd_assoc, bnd_ok i4]
  try dsimp only
  rw [bnd_ok h4]
  rfl
theorem turn_loop {x0 : Option D} : ∀ (ts : List D) (l : List Int) (s : Int) (rest : List Cell) (x2 x3 x4 x5 x6 x7 x8 x9 : Option D), Seed s → l.length ≤ 64 →
    ∃ l2 s2 rest2 y2 y3 y4 y5 y6 y7 y8 y9, forL [] (bindT (.name 2)) (evSs (evF fns 8) turnBody) ts [x0, some (.ref 2), x2, x3, x4, x5, x6, x7, x8, x9] (boxed tabC l s rest) = .ok (.nx [x0, some (.ref 2), y2, y3, y4, y5, y6, y7, y8, y9]) (boxed tabC l2 s2 rest2)
  | [], l, s, rest, x2, x3, x4, x5, x6, x7, x8, x9, hs, hl => ⟨l, s, rest, x2, x3, x4, x5, x6, x7, x8, x9, rfl⟩
  | t :: ts, l, s, rest, x2, x3, x4, x5, x6, x7, x8, x9, hs, hl => by
    obtain ⟨l1, s1, rest1, z3, z4, z5, z6, z7, z8, z9, hs1, hl1, h1⟩ := turn_body (x0 := x0) (x2 := some t) (x3 := x3) (x4 := x4) (x5 := x5) (x6 := x6) (x7 := x7) (x8 := x8) (x9 := x9) (rest := rest) hs hl
    obtain ⟨l2, s2, rest2, y2, y3, y4, y5, y6, y7, y8, y9, h2⟩ := turn_loop (x0 := x0) ts l1 s1 rest1 (some t) z3 z4 z5 z6 z7 z8 z9 hs1 (by omega)
    refine ⟨l2, s2, rest2, y2, y3, y4, y5, y6, y7, y8, y9, ?_⟩
    have g0 : ∀ η, chkG [] η = .ok () η := fun η => rfl
    conv => lhs; unfold forL
    rw [bnd_ok (g0 _)]
    show bnd (evSs (evF fns 8) turnBody [x0, some (.ref 2), some t, x3, x4, x5, x6, x7, x8, x9]) _ _ = _
    rw [bnd_ok h1]
    exact h2
theorem trunc_any {n : Nat} {d : D} {η : List Cell} : ∃ η2, trunc n (.ok d η) = .ok d η2 := by
  by_cases h : n ≤ η.length ∧ dUnder n d = true ∧ (η.take n).all (cUnder n) = true
  · exact ⟨η.take n, if_pos h⟩
  · exact ⟨η, if_neg h⟩
theorem law_true (ns : List Int) (hl : ns.length ≤ 63) : ∃ η, evF fns 9 11 [.scr (ns.map D.int)] startη = .ok (.bl true) η := by
  obtain ⟨s, hs, h1⟩ := begun_ok (k := 7) (c := tabC) (ns := ns)
  obtain ⟨l2, s2, rest2, y2, y3, y4, y5, y6, y7, y8, y9, h2⟩ := turn_loop (x0 := some (.scr (ns.map D.int))) ((List.range' 0 6).map fun i => .int ((i : Nat) : Int)) ns s [] none none none none none none none none hs (by omega)
  have hf : evF fns 9 11 [.scr (ns.map D.int)] startη = trunc startη.length (runB (evSs (evF fns 8) fd_law.code (startD fd_law.N.length [.scr (ns.map D.int)]) startη)) := evF_succ (fd := fd_law) rfl rfl
  have e : evSs (evF fns 8) fd_law.code (startD fd_law.N.length [.scr (ns.map D.int)]) startη = .ok (.rt (.bl true)) (boxed tabC l2 s2 rest2) := by
    simp only [turnBody, fd_law] at h2
    simp only [fd_law]
    rw [evSs_step]
    have s1 : evS (evF fns 8) (.asg (.name 1) (.call 5 (.cons (.loc 0) .nil))) [some (.scr (ns.map D.int)), none, none, none, none, none, none, none, none, none] startη = .ok (.nx [some (.scr (ns.map D.int)), some (.ref 2), none, none, none, none, none, none, none, none]) (boxed tabC ns s []) := by
      simp only [evS, evE, evEs, List.getElem?_cons_zero, List.getElem?_cons_succ, Option.join_some, fromO_some, bnd_ret, bnd_assoc]
      exact (bnd_ok h1).trans rfl
    have r6 := rng_at (n := 6) (η := boxed tabC ns s []) (by decide)
    refine (bnd_ok s1).trans ?_
    try dsimp only
    rw [evSs_step, evS_for]
    have i2 : evIt (evF fns 8) (.rng1 (.cst (.int 6))) [some (.scr (ns.map D.int)), some (.ref 2), none, none, none, none, none, none, none, none] (boxed tabC ns s []) = .ok ((List.range' 0 6).map fun i => .int ((i : Nat) : Int), []) (boxed tabC ns s []) := by
      simp only [evIt, evE, constD, fromO_some, bnd_ret]
      exact r6
    rw [bnd_assoc, bnd_ok i2]
    try dsimp only
    rw [bnd_ok h2]
    rfl
  rw [hf, e]
  exact trunc_any
end K14
open PySem PySem.W PySem.Calls PyProof.Rows
theorem PySem.Challenge.cw_markscript_k14_works_texts_refused_holds : PySem.Challenge.rw_markscript_k14_works_texts_refused.Holds := by
  exact PySem.Challenge.k14_from K14.law_true
end
