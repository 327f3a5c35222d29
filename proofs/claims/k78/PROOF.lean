import PyProof.Rows.All
import Wide.All
import OpenK.AllK
import Wide.FinOn
import HandS.ForMost
import HandS.ForExc
import HandS.Walk
import HandS.Star
import HandS.IsInst
import HandS.FStr
import KE.GoesMore
import HandS.SortInts
import HandS.SetFor
import HandS.RaiseMore
import HandS.More
import HandS.Defaults
import HandS.Head0
import HandS.Head1
import HandS.Head2
import HandS.HeadEnd
import HandS.HeadHook1
import HandS.HeadHook2
import KE.KStateDown
import HandS.Style
import HandS.Small
import PySem.Challenge.RW_lapseseats_k78_told_rows_of_deeds
set_option Elab.async false
set_option linter.all false
set_option maxRecDepth 100000
set_option maxHeartbeats 0
/-! # Data over the hand layer: what expressions and statements do to data, the heap out of sight -/
namespace DL
open PySem PySem.Spec PyProof.Rows L2

/-- data: a frozen value is a tree; a thing that may still change is a place in the store -/
inductive D where
  | non | bl (b : Bool) | int (i : Int) | str (s : Str)
  | tup (l : List D) | lst (l : List D) | scr (l : List D)
  | dic (l : List (Key × D))
  | ins (n : Nat) (fs : List (Str × D))
  | ptr (k : Nat)
  | raw (v : V)

/-- what stands at a place of the store -/
inductive Cell where
  | dead
  | lst (l : List D)
  | dic (l : List (Key × D))
  | ins (n : Nat) (fs : List (Str × D))

abbrev Mu := List Cell
abbrev Gm := List (Option D)

/-- what can be frozen data -/
def isData : HO → Bool
  | .lst _ => true
  | .tup _ => true
  | .dK _ => true
  | _ => false
theorem rd_data {F : Hp} {a : Addr} {u v : HO} {o : Obj} (e : F a = some (.frz o u)) (h : Rd F a v) (d : isData v = true) : u = v := by
  rcases h with h | ⟨o', h⟩
  · rw [e] at h; cases h; cases d
  · rw [e] at h; cases h; rfl

/-- what frozen data lean on is there, too (a dict may be locked in the one and not in the other) -/
structure LeR (F F' : Hp) : Prop where
  rd : ∀ a u, isData u = true → Rd F a u → Rd F' a u
  ins : ∀ a C dx fs, F a = some (.ins C dx fs) → F' a = some (.ins C dx fs)
  lst : ∀ a xs, F a = some (.lst xs) → F' a = some (.lst xs)
/-- all of F is there, too -/
def Le (F F' : Hp) : Prop := ∀ a o, F a = some o → F' a = some o
theorem Le.refl (F : Hp) : Le F F := fun _ _ h => h
theorem Le.trans {F F1 F2 : Hp} (a : Le F F1) (b : Le F1 F2) : Le F F2 := fun x o h => b x o (a x o h)
theorem Le.r {F F' : Hp} (h : Le F F') : LeR F F' :=
  ⟨fun a u _ r => r.elim (fun r => .inl (h a _ r)) fun ⟨o, r⟩ => .inr ⟨o, h a _ r⟩, fun a C dx fs e => h a _ e, fun a xs e => h a _ e⟩
theorem Le.new {F : Hp} {p : Addr} {o : HO} (h : F p = none) : Le F (upd F p o) := fun a u e => by rw [upd_ne (ne_of_none e h)]; exact e
theorem LeR.l {K : PySem.W.Frag} {F F' : Hp} {a : Addr} {xs : List V} (e : LeR F F') (h : SqL K F a xs) : SqL K F' a xs := h.elim (fun h => .inl (e.rd a _ rfl h)) .inr
theorem LeR.t {K : PySem.W.Frag} {F F' : Hp} {a : Addr} {xs : List V} (e : LeR F F') (h : SqT K F a xs) : SqT K F' a xs := h.elim (fun h => .inl (e.rd a _ rfl h)) .inr
theorem Le.l {K : PySem.W.Frag} {F F' : Hp} {a : Addr} {xs : List V} (e : Le F F') (h : SqL K F a xs) : SqL K F' a xs := e.r.l h
theorem Le.t {K : PySem.W.Frag} {F F' : Hp} {a : Addr} {xs : List V} (e : Le F F') (h : SqT K F a xs) : SqT K F' a xs := e.r.t h
/-- a lock is put on, is taken off -/
theorem LeR.lock {F : Hp} {d : Addr} {od : Obj} {u : HO} (h : F d = some u) (hu : ∃ kvs, u = .dK kvs) : LeR F (upd F d (.frz od u)) := by
  obtain ⟨kvs, rfl⟩ := hu
  refine ⟨fun a v dv r => ?_, fun a C dx fs e => ?_, fun a xs e => ?_⟩
  · by_cases ha : a = d
    · subst ha
      rcases r with r | ⟨o, r⟩
      · rw [h] at r; cases r; exact .inr ⟨od, upd_same⟩
      · rw [h] at r; cases r
    · exact r.elim (fun r => .inl (by rw [upd_ne ha]; exact r)) fun ⟨o, r⟩ => .inr ⟨o, by rw [upd_ne ha]; exact r⟩
  · rw [upd_ne (ne_of e h (by intro z; cases z))]; exact e
  · rw [upd_ne (ne_of e h (by intro z; cases z))]; exact e
theorem LeR.unlock {F : Hp} {d : Addr} {od : Obj} {u : HO} (h : F d = some (.frz od u)) : LeR F (upd F d u) := by
  refine ⟨fun a v dv r => ?_, fun a C dx fs e => ?_, fun a xs e => ?_⟩
  · by_cases ha : a = d
    · subst ha
      rcases r with r | ⟨o, r⟩
      · rw [h] at r; cases r; cases dv
      · rw [h] at r; cases r; exact .inl upd_same
    · exact r.elim (fun r => .inl (by rw [upd_ne ha]; exact r)) fun ⟨o, r⟩ => .inr ⟨o, by rw [upd_ne ha]; exact r⟩
  · rw [upd_ne (ne_of e h (by intro z; cases z))]; exact e
  · rw [upd_ne (ne_of e h (by intro z; cases z))]; exact e

/-- a mark keeps an object as it is, and no datum leans on it -/
def unmark : HO → HO
  | .frz _ (.frz _ u) => u
  | o => o
def mark (u : HO) : HO := .frz { cls := .none, data := .fields #[] } (.frz { cls := .none, data := .fields #[] } u)
/-- F is a part of H -/
def Sub (F H : Hp) : Prop := ∀ a o, F a = some o → H a = some (unmark o)
theorem Sub.r {F H : Hp} (s : Sub F H) : LeR F H := by
  refine ⟨fun a u d r => ?_, fun a C dx fs h => s a _ h, fun a xs h => s a _ h⟩
  rcases r with r | ⟨o, r⟩
  · refine .inl ((s a _ r).trans ?_)
    cases u <;> first | rfl | cases d
  · refine .inr ⟨o, (s a _ r).trans ?_⟩
    cases u <;> first | rfl | cases d
theorem Sub.free {F H : Hp} (s : Sub F H) {p : Addr} (h : H p = none) : F p = none := by
  cases q : F p with
  | none => rfl
  | some o => rw [s p o q] at h; cases h
theorem Sub.upd {F H : Hp} (s : Sub F H) (p : Addr) (o : HO) (hu : unmark o = o) : Sub (upd F p o) (L2.upd H p o) := fun a u e => by
  by_cases h : a = p
  · subst h; rw [upd_same] at e ⊢; cases e; rw [hu]
  · rw [upd_ne h] at e ⊢; exact s a u e
theorem Sub.mut {F H : Hp} (s : Sub F H) {p : Addr} (h : F p = none) (o : HO) : Sub F (L2.upd H p o) := fun a u e => by
  rw [upd_ne (ne_of_none e h)]; exact s a u e
/-- a marked thing may change -/
theorem LeR.remark {F : Hp} {d : Addr} {u : HO} {v : HO} (h : F d = some (mark u)) : LeR F (L2.upd F d v) := by
  refine ⟨fun a w dw r => ?_, fun a C dx fs e => ?_, fun a xs e => ?_⟩
  · by_cases ha : a = d
    · subst ha
      rcases r with r | ⟨o, r⟩
      · rw [h] at r; cases r; cases dw
      · rw [h] at r; cases r; cases dw
    · exact r.elim (fun r => .inl (by rw [upd_ne ha]; exact r)) fun ⟨o, r⟩ => .inr ⟨o, by rw [upd_ne ha]; exact r⟩
  · rw [upd_ne (ne_of e h (by intro z; cases z))]; exact e
  · rw [upd_ne (ne_of e h (by intro z; cases z))]; exact e

/-! ### what a value is -/
section
variable (K : PySem.W.Frag) (ct : Nat → Addr) (A : List Addr) (F : Hp)
mutual
inductive Rep : V → D → Prop
  | non : Rep .non .non
  | bl (b : Bool) : Rep (.bl b) (.bl b)
  | int (i : Int) : Rep (.int i) (.int i)
  | str (s : Str) : Rep (.str s) (.str s)
  | raw (v : V) : Rep v (.raw v)
  | tup {a : Addr} {vs : List V} {ds : List D} : SqT K F a vs → Reps vs ds → Rep (.ref a) (.tup ds)
  | lst {a : Addr} {vs : List V} {ds : List D} : F a = some (.lst vs) → Reps vs ds → Rep (.ref a) (.lst ds)
  | scr {a : Addr} {vs : List V} {ds : List D} : SqL K F a vs → Reps vs ds → Rep (.ref a) (.scr ds)
  | dic {a : Addr} {kvs : List (Key × V)} {kds : List (Key × D)} : Rd F a (.dK kvs) → kvs.map (·.1) = kds.map (·.1) → Reps (kvs.map (·.2)) (kds.map (·.2)) → Rep (.ref a) (.dic kds)
  | ins {a dx : Addr} {n : Nat} {vfs : List (Str × V)} {fs : List (Str × D)} : F a = some (.ins (ct n) dx vfs) → vfs.map (·.1) = fs.map (·.1) → Reps (vfs.map (·.2)) (fs.map (·.2)) → Rep (.ref a) (.ins n fs)
  | ptr {a : Addr} {k : Nat} : A[k]? = some a → Rep (.ref a) (.ptr k)
inductive Reps : List V → List D → Prop
  | nil : Reps [] []
  | cons {v : V} {vs : List V} {d : D} {ds : List D} : Rep v d → Reps vs ds → Reps (v :: vs) (d :: ds)
end
end
section
variable {K : PySem.W.Frag} {ct : Nat → Addr} {A A' : List Addr} {F F' : Hp}
theorem pre_get {k : Nat} {a : Addr} (p : A <+: A') (h : A[k]? = some a) : A'[k]? = some a := by
  obtain ⟨t, rfl⟩ := p
  rw [List.getElem?_append_left (List.getElem?_eq_some_iff.mp h).1]
  exact h
mutual
theorem Rep.monoR (e : LeR F F') (p : A <+: A') : ∀ {v : V} {d : D}, Rep K ct A F v d → Rep K ct A' F' v d
  | _, _, .non => .non
  | _, _, .bl b => .bl b
  | _, _, .int i => .int i
  | _, _, .str s => .str s
  | _, _, .raw v => .raw v
  | _, _, .tup h r => .tup (e.t h) (Reps.monoR e p r)
  | _, _, .lst h r => .lst (e.lst _ _ h) (Reps.monoR e p r)
  | _, _, .scr h r => .scr (e.l h) (Reps.monoR e p r)
  | _, _, .dic h k r => .dic (e.rd _ _ rfl h) k (Reps.monoR e p r)
  | _, _, .ins h k r => .ins (e.ins _ _ _ _ h) k (Reps.monoR e p r)
  | _, _, .ptr h => .ptr (pre_get p h)
theorem Reps.monoR (e : LeR F F') (p : A <+: A') : ∀ {vs : List V} {ds : List D}, Reps K ct A F vs ds → Reps K ct A' F' vs ds
  | _, _, .nil => .nil
  | _, _, .cons h r => .cons (Rep.monoR e p h) (Reps.monoR e p r)
end
theorem Rep.mono {v : V} {d : D} (e : Le F F') (p : A <+: A') (h : Rep K ct A F v d) : Rep K ct A' F' v d := h.monoR e.r p
theorem Reps.mono {vs : List V} {ds : List D} (e : Le F F') (p : A <+: A') (h : Reps K ct A F vs ds) : Reps K ct A' F' vs ds := h.monoR e.r p
theorem Reps.len : ∀ {vs : List V} {ds : List D}, Reps K ct A F vs ds → vs.length = ds.length
  | _, _, .nil => rfl
  | _, _, .cons _ r => congrArg (· + 1) (Reps.len r)
theorem Reps.get : ∀ {vs : List V} {ds : List D} {i : Nat} {d : D}, Reps K ct A F vs ds → ds[i]? = some d → ∃ v, vs[i]? = some v ∧ Rep K ct A F v d
  | _, _, _, _, .nil, h => by simp at h
  | _, _, 0, _, .cons h _, e => by simp at e; subst e; exact ⟨_, rfl, h⟩
  | _, _, i + 1, _, .cons _ r, e => by
    obtain ⟨v, h1, h2⟩ := Reps.get (i := i) r (by simpa using e)
    exact ⟨v, by simpa using h1, h2⟩
theorem Reps.getV : ∀ {vs : List V} {ds : List D} {i : Nat} {v : V}, Reps K ct A F vs ds → vs[i]? = some v → ∃ d, ds[i]? = some d ∧ Rep K ct A F v d
  | _, _, _, _, .nil, h => by simp at h
  | _, _, 0, _, .cons h _, e => by simp at e; subst e; exact ⟨_, rfl, h⟩
  | _, _, i + 1, _, .cons _ r, e => by
    obtain ⟨v, h1, h2⟩ := Reps.getV (i := i) r (by simpa using e)
    exact ⟨v, by simpa using h1, h2⟩
theorem Reps.app : ∀ {vs ws : List V} {ds es : List D}, Reps K ct A F vs ds → Reps K ct A F ws es → Reps K ct A F (vs ++ ws) (ds ++ es)
  | _, _, _, _, .nil, s => s
  | _, _, _, _, .cons h r, s => .cons h (Reps.app r s)
theorem Reps.take : ∀ {vs : List V} {ds : List D} (n : Nat), Reps K ct A F vs ds → Reps K ct A F (vs.take n) (ds.take n)
  | _, _, 0, _ => .nil
  | _, _, _ + 1, .nil => .nil
  | _, _, n + 1, .cons h r => .cons h (Reps.take n r)
theorem Reps.drop : ∀ {vs : List V} {ds : List D} (n : Nat), Reps K ct A F vs ds → Reps K ct A F (vs.drop n) (ds.drop n)
  | _, _, 0, r => r
  | _, _, _ + 1, .nil => .nil
  | _, _, n + 1, .cons _ r => Reps.drop n r
theorem Reps.set {v : V} {d : D} (h : Rep K ct A F v d) : ∀ {vs : List V} {ds : List D} (i : Nat), Reps K ct A F vs ds → Reps K ct A F (vs.set i v) (ds.set i d)
  | _, _, _, .nil => .nil
  | _, _, 0, .cons _ r => .cons h r
  | _, _, i + 1, .cons q r => .cons q (Reps.set h i r)
theorem Reps.snoc {vs : List V} {ds : List D} {v : V} {d : D} (r : Reps K ct A F vs ds) (h : Rep K ct A F v d) : Reps K ct A F (vs ++ [v]) (ds ++ [d]) := r.app (.cons h .nil)
theorem Reps.ints : ∀ (ns : List Int), Reps K ct A F (ns.map V.int) (ns.map D.int)
  | [] => .nil
  | n :: ns => .cons (.int n) (Reps.ints ns)
theorem Reps.of_ints : ∀ {ns : List Int} {vs : List V}, Reps K ct A F vs (ns.map D.int) → vs = ns.map V.int
  | [], _, .nil => rfl
  | n :: ns, _, .cons (.int _) r => by rw [Reps.of_ints r]; rfl
theorem Reps.of_strs : ∀ {ns : List Str} {vs : List V}, Reps K ct A F vs (ns.map D.str) → vs = ns.map V.str
  | [], _, .nil => rfl
  | n :: ns, _, .cons (.str _) r => by rw [Reps.of_strs r]; rfl
theorem Reps.of_bls : ∀ {ns : List Bool} {vs : List V}, Reps K ct A F vs (ns.map D.bl) → vs = ns.map V.bl
  | [], _, .nil => rfl
  | n :: ns, _, .cons (.bl _) r => by rw [Reps.of_bls r]; rfl
theorem Reps.strs : ∀ (ns : List Str), Reps K ct A F (ns.map V.str) (ns.map D.str)
  | [] => .nil
  | n :: ns => .cons (.str n) (Reps.strs ns)
end

/-! ### the store, the slots -/
section
variable (K : PySem.W.Frag) (ct : Nat → Addr)
def CellOk (A : List Addr) (F H : Hp) (a : Addr) : Cell → Prop
  | .dead => True
  | .lst ds => F a = none ∧ ∃ vs, H a = some (.lst vs) ∧ Reps K ct A F vs ds
  | .dic kds => F a = none ∧ ∃ kvs : List (Key × V), H a = some (.dK kvs) ∧ kvs.map (·.1) = kds.map (·.1) ∧ Reps K ct A F (kvs.map (·.2)) (kds.map (·.2))
  | .ins n fs => F a = none ∧ ∃ (dx : Addr) (vfs : List (Str × V)), H a = some (.ins (ct n) dx vfs) ∧ vfs.map (·.1) = fs.map (·.1) ∧ Reps K ct A F (vfs.map (·.2)) (fs.map (·.2))
structure Rl0 (μ : Mu) (H F : Hp) (A : List Addr) : Prop where
  sub : Sub F H
  len : A.length = μ.length
  nd : ∀ (i j : Nat) (a : Addr) (c c' : Cell), A[i]? = some a → A[j]? = some a → μ[i]? = some c → μ[j]? = some c' → c ≠ .dead → c' ≠ .dead → i = j
  there : ∀ a ∈ A, ∃ o, H a = some o
  ok : ∀ (k : Nat) (a : Addr) (c : Cell), A[k]? = some a → μ[k]? = some c → CellOk K ct A F H a c
/-- a slot whose datum is known -/
inductive Slots (A : List Addr) (F : Hp) : Gm → L2.St → Prop
  | nil : Slots A F [] []
  | any {o : Option V} {Γ : Gm} {σ : L2.St} : Slots A F Γ σ → Slots A F (none :: Γ) (o :: σ)
  | cons {v : V} {d : D} {Γ : Gm} {σ : L2.St} : Rep K ct A F v d → Slots A F Γ σ → Slots A F (some d :: Γ) (some v :: σ)
structure Rl (Γ : Gm) (μ : Mu) (σ : L2.St) (H F : Hp) (A : List Addr) : Prop where
  m : Rl0 K ct μ H F A
  s : Slots K ct A F Γ σ
end
section
variable {K : PySem.W.Frag} {ct : Nat → Addr} {A A' : List Addr} {F F' H H' : Hp} {Γ : Gm} {μ : Mu} {σ : L2.St}
theorem Slots.monoR (e : LeR F F') (p : A <+: A') : ∀ {Γ : Gm} {σ : L2.St}, Slots K ct A F Γ σ → Slots K ct A' F' Γ σ
  | _, _, .nil => .nil
  | _, _, .any r => .any (Slots.monoR e p r)
  | _, _, .cons h r => .cons (h.monoR e p) (Slots.monoR e p r)
theorem Slots.mono {Γ : Gm} {σ : L2.St} (e : Le F F') (p : A <+: A') (h : Slots K ct A F Γ σ) : Slots K ct A' F' Γ σ := h.monoR e.r p
theorem Slots.get : ∀ {Γ : Gm} {σ : L2.St} {i : Nat} {d : D}, Slots K ct A F Γ σ → Γ[i]? = some (some d) → ∃ v, σ[i]? = some (some v) ∧ Rep K ct A F v d
  | _, _, _, _, .nil, h => by simp at h
  | _, _, 0, _, .any _, h => by simp at h
  | _, _, 0, _, .cons h _, e => by simp at e; subst e; exact ⟨_, rfl, h⟩
  | _, _, i + 1, _, .any r, e => by
    obtain ⟨v, h1, h2⟩ := Slots.get (i := i) r (by simpa using e)
    exact ⟨v, by simpa using h1, h2⟩
  | _, _, i + 1, _, .cons _ r, e => by
    obtain ⟨v, h1, h2⟩ := Slots.get (i := i) r (by simpa using e)
    exact ⟨v, by simpa using h1, h2⟩
theorem Slots.set {v : V} {d : D} (h : Rep K ct A F v d) : ∀ {Γ : Gm} {σ : L2.St} (i : Nat), Slots K ct A F Γ σ → Slots K ct A F (Γ.set i (some d)) (σ.set i (some v))
  | _, _, _, .nil => .nil
  | _, _, 0, .any r => .cons h r
  | _, _, 0, .cons _ r => .cons h r
  | _, _, i + 1, .any r => .any (Slots.set h i r)
  | _, _, i + 1, .cons q r => .cons q (Slots.set h i r)
theorem Slots.wipe1 : ∀ {Γ : Gm} {σ : L2.St} (i : Nat) {o : Option V}, Slots K ct A F Γ σ → Slots K ct A F (Γ.set i none) (σ.set i o)
  | _, _, _, _, .nil => .nil
  | _, _, 0, _, .any r => .any r
  | _, _, 0, _, .cons _ r => .any r
  | _, _, i + 1, _, .any r => .any (Slots.wipe1 i r)
  | _, _, i + 1, _, .cons q r => .cons q (Slots.wipe1 i r)
def wipeG (Γ : Gm) : List Nat → Gm
  | [] => Γ
  | v :: vs => (wipeG Γ vs).set v none
theorem Slots.wipe {Γ : Gm} {σ : L2.St} (h : Slots K ct A F Γ σ) : ∀ vs : List Nat, Slots K ct A F (wipeG Γ vs) (L2.wipe σ vs)
  | [] => h
  | v :: vs => (Slots.wipe h vs).wipe1 v
/-- what is known, forgotten in part -/
inductive GLe : Gm → Gm → Prop
  | nil : GLe [] []
  | any {o : Option D} {Γ Γ' : Gm} : GLe Γ Γ' → GLe (none :: Γ) (o :: Γ')
  | cons {d : D} {Γ Γ' : Gm} : GLe Γ Γ' → GLe (some d :: Γ) (some d :: Γ')
theorem Slots.less : ∀ {Γ Γ' : Gm} {σ : L2.St}, GLe Γ Γ' → Slots K ct A F Γ' σ → Slots K ct A F Γ σ
  | _, _, _, .nil, .nil => .nil
  | _, _, _, .any g, .any r => .any (Slots.less g r)
  | _, _, _, .any g, .cons _ r => .any (Slots.less g r)
  | _, _, _, .cons g, .cons h r => .cons h (Slots.less g r)
theorem Slots.start : ∀ {ds : List D} {vs : List V} (n : Nat), Reps K ct A F vs ds → Slots K ct A F (ds.map some ++ List.replicate n none) (vs.map some ++ List.replicate n none)
  | _, _, 0, .nil => .nil
  | _, _, n + 1, .nil => .any (Slots.start n .nil)
  | _, _, n, .cons h r => .cons h (Slots.start n r)

theorem CellOk.monoR {c : Cell} {a : Addr} (e : LeR F F') (p : A <+: A') (hf : F a = none → F' a = none) (hh : ∀ o, H a = some o → F a = none → H' a = some o) (h : CellOk K ct A F H a c) : CellOk K ct A' F' H' a c := by
  cases c with
  | dead => trivial
  | lst ds => obtain ⟨f, vs, h1, h2⟩ := h; exact ⟨hf f, vs, hh _ h1 f, h2.monoR e p⟩
  | dic ds => obtain ⟨f, vs, h1, h2, h3⟩ := h; exact ⟨hf f, vs, hh _ h1 f, h2, h3.monoR e p⟩
  | ins n ds => obtain ⟨f, dx, vs, h1, h2, h3⟩ := h; exact ⟨hf f, dx, vs, hh _ h1 f, h2, h3.monoR e p⟩
theorem CellOk.mono {c : Cell} {a : Addr} (e : Le F F') (p : A <+: A') (hf : F a = none → F' a = none) (hh : ∀ o, H a = some o → F a = none → H' a = some o) (h : CellOk K ct A F H a c) : CellOk K ct A' F' H' a c := h.monoR e.r p hf hh
theorem CellOk.fr {K : PySem.W.Frag} {ct : Nat → Addr} {A : List Addr} {F H : Hp} {a : Addr} {c : Cell} (h : CellOk K ct A F H a c) (l : c ≠ .dead) : F a = none := by
  cases c with
  | dead => exact absurd rfl l
  | lst l => exact h.1
  | dic l => exact h.1
  | ins n l => exact h.1
/-- a live place is not where something frozen or marked is -/
theorem Rl0.ne {K : PySem.W.Frag} {ct : Nat → Addr} {μ : Mu} {H F : Hp} {A : List Addr} (r : Rl0 K ct μ H F A) {k : Nat} {a b : Addr} {c : Cell} {u : HO} (ha : A[k]? = some a) (hc : μ[k]? = some c) (l : c ≠ .dead) (h : F b = some u) : a ≠ b := fun z => by
  subst z
  rw [(r.ok k a c ha hc).fr l] at h
  cases h
/-- a new object joins the frozen part -/
theorem Rl0.grow (r : Rl0 K ct μ H F A) {p : Addr} (hp : H p = none) (o : HO) (hu : unmark o = o := by rfl) : Rl0 K ct μ (upd H p o) (upd F p o) A where
  sub := r.sub.upd p o hu
  len := r.len
  nd := r.nd
  there := fun a ha => by
    obtain ⟨u, e⟩ := r.there a ha
    exact ⟨u, by rw [upd_ne (ne_of_none e hp)]; exact e⟩
  ok := fun k a c ha hc => by
    obtain ⟨u, e⟩ := r.there a (List.mem_of_getElem? ha)
    have ne := ne_of_none e hp
    refine (r.ok k a c ha hc).mono (.new (r.sub.free hp)) (List.prefix_refl _) (fun f => ?_) (fun o' h _ => ?_)
    · rw [upd_ne ne]; exact f
    · rw [upd_ne ne]; exact h
theorem Rl0.le_grow (r : Rl0 K ct μ H F A) {p : Addr} (hp : H p = none) (o : HO) : Le F (upd F p o) := .new (r.sub.free hp)
/-- a new object joins the store -/
theorem Rl0.push (r : Rl0 K ct μ H F A) {p : Addr} (hp : H p = none) {o : HO} {c : Cell} (hc : CellOk K ct (A ++ [p]) F (upd H p o) p c) : Rl0 K ct (μ ++ [c]) (upd H p o) F (A ++ [p]) where
  sub := r.sub.mut (r.sub.free hp) o
  len := by simp [r.len]
  nd := fun i j a c1 c2 hi hj h1 h2 l1 l2 => by
    have key : ∀ n : Nat, (A ++ [p])[n]? = some a → (n < A.length ∧ A[n]? = some a) ∨ (n = A.length ∧ a = p) := fun n hn => by
      by_cases hk : n < A.length
      · rw [List.getElem?_append_left hk] at hn; exact .inl ⟨hk, hn⟩
      · have hk' : n < (A ++ [p]).length := (List.getElem?_eq_some_iff.mp hn).1
        rw [List.length_append] at hk'
        have hk2 : n = A.length := by
          have : ([p] : List Addr).length = 1 := rfl
          omega
        subst hk2
        rw [List.getElem?_append_right (Nat.le_refl _), Nat.sub_self] at hn
        simp at hn
        exact .inr ⟨rfl, hn.symm⟩
    rcases key i hi with ⟨a1, a2⟩ | ⟨a1, a2⟩ <;> rcases key j hj with ⟨b1, b2⟩ | ⟨b1, b2⟩
    · rw [List.getElem?_append_left (by rw [← r.len]; exact a1)] at h1
      rw [List.getElem?_append_left (by rw [← r.len]; exact b1)] at h2
      exact r.nd i j a c1 c2 a2 b2 h1 h2 l1 l2
    · obtain ⟨u, e⟩ := r.there a (List.mem_of_getElem? a2)
      subst b2; rw [hp] at e; cases e
    · obtain ⟨u, e⟩ := r.there a (List.mem_of_getElem? b2)
      subst a2; rw [hp] at e; cases e
    · rw [a1, b1]
  there := fun a ha => by
    rcases List.mem_append.mp ha with ha | ha
    · obtain ⟨u, e⟩ := r.there a ha
      exact ⟨u, by rw [upd_ne (ne_of_none e hp)]; exact e⟩
    · rw [List.mem_singleton] at ha
      subst ha
      exact ⟨o, upd_same⟩
  ok := fun k a c' ha hc' => by
    by_cases hk : k < A.length
    · rw [List.getElem?_append_left hk] at ha
      rw [List.getElem?_append_left (by rw [← r.len]; exact hk)] at hc'
      obtain ⟨u, e⟩ := r.there a (List.mem_of_getElem? ha)
      exact (r.ok k a c' ha hc').mono (.refl _) (List.prefix_append _ _) (fun f => f) fun o' h _ => by rw [upd_ne (ne_of_none e hp)]; exact h
    · have hk' : k < (A ++ [p]).length := (List.getElem?_eq_some_iff.mp ha).1
      rw [List.length_append] at hk'
      have hk2 : k = A.length := by
        have : ([p] : List Addr).length = 1 := rfl
        omega
      subst hk2
      rw [List.getElem?_append_right (Nat.le_refl _), Nat.sub_self] at ha
      rw [r.len, List.getElem?_append_right (Nat.le_refl _), Nat.sub_self] at hc'
      simp at ha hc'
      subst ha; subst hc'
      exact hc
/-- the object at a place is changed -/
theorem Rl0.write (r : Rl0 K ct μ H F A) {k : Nat} {a : Addr} {c0 : Cell} (ha : A[k]? = some a) (h0 : μ[k]? = some c0) (l0 : c0 ≠ .dead) (hf : F a = none) {o : HO} {c : Cell} (hc : CellOk K ct A F (upd H a o) a c) : Rl0 K ct (μ.set k c) (upd H a o) F A where
  sub := r.sub.mut hf o
  len := by simp [r.len]
  nd := fun i j b c1 c2 hi hj h1 h2 l1 l2 => by
    have key : ∀ (n : Nat) (c' : Cell), (μ.set k c)[n]? = some c' → c' ≠ .dead → ∃ c'', μ[n]? = some c'' ∧ c'' ≠ .dead := fun n c' hn hl => by
      by_cases e : n = k
      · subst e; exact ⟨c0, h0, l0⟩
      · rw [List.getElem?_set_ne (Ne.symm e)] at hn; exact ⟨c', hn, hl⟩
    obtain ⟨x1, y1, z1⟩ := key i c1 h1 l1
    obtain ⟨x2, y2, z2⟩ := key j c2 h2 l2
    exact r.nd i j b x1 x2 hi hj y1 y2 z1 z2
  there := fun b hb => by
    by_cases h : b = a
    · subst h; exact ⟨o, upd_same⟩
    · obtain ⟨u, e⟩ := r.there b hb
      exact ⟨u, by rw [upd_ne h]; exact e⟩
  ok := fun j b c' hb hc' => by
    by_cases h : j = k
    · subst h
      rw [ha] at hb
      cases hb
      rw [List.getElem?_set_self (by rw [← r.len]; exact (List.getElem?_eq_some_iff.mp ha).1)] at hc'
      cases hc'
      exact hc
    · rw [List.getElem?_set_ne (Ne.symm h)] at hc'
      by_cases hd : c' = .dead
      · subst hd; trivial
      have ne : b ≠ a := fun e => by
        subst e
        exact h (r.nd j k b c' c0 hb ha hc' h0 hd l0)
      exact (r.ok j b c' hb hc').mono (.refl _) (List.prefix_refl _) (fun f => f) fun o' h _ => by rw [upd_ne ne]; exact h
end
end DL

namespace DL
open PySem PySem.Spec PyProof.Rows L2

/-! ### dicts of data -/
def dget (kds : List (Key × D)) (k : Key) : Option D := (kds.find? fun kv => decide (kv.1 = k)).map (·.2)
def dput (kds : List (Key × D)) (k : Key) (v : D) : List (Key × D) :=
  if (kds.any fun kv => decide (kv.1 = k)) = true then kds.map (fun kv => if kv.1 = k then (kv.1, v) else kv) else kds ++ [(k, v)]
def ddrop (kds : List (Key × D)) (k : Key) : List (Key × D) := kds.filter fun kv => decide (kv.1 ≠ k)
section
variable {K : PySem.W.Frag} {ct : Nat → Addr} {A A' : List Addr} {F F' : Hp}
/-- pairs of a dict, as values and as data -/
def KD (K : PySem.W.Frag) (ct : Nat → Addr) (A : List Addr) (F : Hp) (kvs : List (Key × V)) (kds : List (Key × D)) : Prop := kvs.map (·.1) = kds.map (·.1) ∧ Reps K ct A F (kvs.map (·.2)) (kds.map (·.2))
theorem KD.cons_inv {p : Key × V} {kvs : List (Key × V)} {q : Key × D} {kds : List (Key × D)} (h : KD K ct A F (p :: kvs) (q :: kds)) : p.1 = q.1 ∧ Rep K ct A F p.2 q.2 ∧ KD K ct A F kvs kds := by
  obtain ⟨h1, h2⟩ := h
  simp only [List.map_cons, List.cons.injEq] at h1
  simp only [List.map_cons] at h2
  cases h2 with
  | cons a b => exact ⟨h1.1, a, h1.2, b⟩
theorem KD.cons {p : Key × V} {kvs : List (Key × V)} {q : Key × D} {kds : List (Key × D)} (e : p.1 = q.1) (r : Rep K ct A F p.2 q.2) (h : KD K ct A F kvs kds) : KD K ct A F (p :: kvs) (q :: kds) :=
  ⟨by simp only [List.map_cons, e, h.1], .cons r h.2⟩
theorem KD.nil : KD K ct A F [] [] := ⟨rfl, .nil⟩
theorem KD.len {kvs : List (Key × V)} {kds : List (Key × D)} (h : KD K ct A F kvs kds) : kvs.length = kds.length := by
  have := congrArg List.length h.1
  simpa using this
theorem KD.app : ∀ {kvs : List (Key × V)} {kds : List (Key × D)} {kvs' : List (Key × V)} {kds' : List (Key × D)}, KD K ct A F kvs kds → KD K ct A F kvs' kds' → KD K ct A F (kvs ++ kvs') (kds ++ kds') := fun h h' =>
  ⟨by simp only [List.map_append, h.1, h'.1], by simp only [List.map_append]; exact h.2.app h'.2⟩
theorem KD.get : ∀ {kvs : List (Key × V)} {kds : List (Key × D)} (k : Key), KD K ct A F kvs kds → match valV kvs k, dget kds k with | some v, some d => Rep K ct A F v d | none, none => True | _, _ => False
  | [], [], _, _ => trivial
  | [], _ :: _, _, h => by have := h.len; simp at this
  | _ :: _, [], _, h => by have := h.len; simp at this
  | p :: kvs, q :: kds, k, h => by
    obtain ⟨e, r, t⟩ := h.cons_inv
    by_cases hk : p.1 = k
    · have hk' : q.1 = k := e ▸ hk
      rw [valV_pos hk, show dget (q :: kds) k = some q.2 by simp [dget, List.find?_cons, hk']]
      exact r
    · have hk' : ¬ q.1 = k := fun z => hk (e.trans z)
      rw [valV_neg hk, show dget (q :: kds) k = dget kds k by simp [dget, List.find?_cons, hk']]
      exact KD.get k t
theorem KD.get_some {kvs : List (Key × V)} {kds : List (Key × D)} {k : Key} {d : D} (h : KD K ct A F kvs kds) (e : dget kds k = some d) : ∃ v, valV kvs k = some v ∧ Rep K ct A F v d := by
  have g := h.get k
  rw [e] at g
  cases q : valV kvs k with
  | none => rw [q] at g; exact g.elim
  | some v => rw [q] at g; exact ⟨v, rfl, g⟩
theorem KD.get_none {kvs : List (Key × V)} {kds : List (Key × D)} {k : Key} (h : KD K ct A F kvs kds) (e : dget kds k = none) : valV kvs k = none := by
  have g := h.get k
  rw [e] at g
  cases q : valV kvs k with
  | none => rfl
  | some v => rw [q] at g; exact g.elim
theorem KD.isSome {kvs : List (Key × V)} {kds : List (Key × D)} (k : Key) (h : KD K ct A F kvs kds) : (valV kvs k).isSome = (dget kds k).isSome := by
  cases q : dget kds k with
  | none => rw [h.get_none q] <;> rfl
  | some d => obtain ⟨v, e, _⟩ := h.get_some q; rw [e]; rfl
theorem any_keys {α β : Type} (k : Key) : ∀ {l : List (Key × α)} {m : List (Key × β)}, l.map (·.1) = m.map (·.1) → (l.any fun kv => decide (kv.1 = k)) = (m.any fun kv => decide (kv.1 = k))
  | [], [], _ => rfl
  | [], _ :: _, h => by simp at h
  | _ :: _, [], h => by simp at h
  | p :: l, q :: m, h => by
    simp only [List.map_cons, List.cons.injEq] at h
    simp only [List.any_cons, h.1, any_keys k h.2]
theorem KD.mapput {k : Key} {v : V} {d : D} (r : Rep K ct A F v d) : ∀ {kvs : List (Key × V)} {kds : List (Key × D)}, KD K ct A F kvs kds → KD K ct A F (kvs.map fun kv => if kv.1 = k then (kv.1, v) else kv) (kds.map fun kv => if kv.1 = k then (kv.1, d) else kv)
  | [], [], _ => .nil
  | [], _ :: _, h => by have := h.len; simp at this
  | _ :: _, [], h => by have := h.len; simp at this
  | p :: kvs, q :: kds, h => by
    obtain ⟨e, r', t⟩ := h.cons_inv
    simp only [List.map_cons]
    by_cases hk : p.1 = k
    · have hk' : q.1 = k := e ▸ hk
      rw [if_pos hk, if_pos hk']
      exact .cons e r (KD.mapput r t)
    · have hk' : ¬ q.1 = k := fun z => hk (e.trans z)
      rw [if_neg hk, if_neg hk']
      exact .cons e r' (KD.mapput r t)
theorem KD.put {kvs : List (Key × V)} {kds : List (Key × D)} (k : Key) {v : V} {d : D} (h : KD K ct A F kvs kds) (r : Rep K ct A F v d) : KD K ct A F (putK kvs k v) (dput kds k d) := by
  unfold putK dput
  rw [any_keys k h.1]
  split
  · exact KD.mapput r h
  · exact h.app (.cons rfl r .nil)
theorem KD.drop (k : Key) : ∀ {kvs : List (Key × V)} {kds : List (Key × D)}, KD K ct A F kvs kds → KD K ct A F (dropK kvs k) (ddrop kds k)
  | [], [], _ => .nil
  | [], _ :: _, h => by have := h.len; simp at this
  | _ :: _, [], h => by have := h.len; simp at this
  | p :: kvs, q :: kds, h => by
    obtain ⟨e, r', t⟩ := h.cons_inv
    unfold dropK ddrop
    simp only [List.filter_cons]
    by_cases hk : p.1 = k
    · have hk' : q.1 = k := e ▸ hk
      have dn : decide (k ≠ k) = false := by simp
      simp only [hk, hk', dn]
      exact KD.drop k t
    · have hk' : ¬ q.1 = k := fun z => hk (e.trans z)
      simp only [hk, hk', ne_eq, not_false_eq_true, decide_true, if_true]
      exact .cons e r' (KD.drop k t)
theorem KD.mono {kvs : List (Key × V)} {kds : List (Key × D)} (e : Le F F') (p : A <+: A') (h : KD K ct A F kvs kds) : KD K ct A' F' kvs kds := ⟨h.1, h.2.mono e p⟩
/-- the fields of an instance -/
theorem fs_look : ∀ {vfs : List (Str × V)} {fs : List (Str × D)} {f : Str} {d : D}, vfs.map (·.1) = fs.map (·.1) → Reps K ct A F (vfs.map (·.2)) (fs.map (·.2)) → fs.lookup f = some d → ∃ v, vfs.lookup f = some v ∧ Rep K ct A F v d
  | [], [], _, _, _, _, h => by simp at h
  | [], _ :: _, _, _, h, _, _ => by simp at h
  | _ :: _, [], _, _, h, _, _ => by simp at h
  | (a, v) :: vfs, (b, e) :: fs, f, d, h, r, l => by
    simp only [List.map_cons, List.cons.injEq] at h
    simp only [List.map_cons] at r
    obtain ⟨rfl, h2⟩ := h
    cases r with
    | cons r1 r2 =>
      by_cases hf : (f == a) = true
      · simp only [List.lookup, hf] at l ⊢
        cases l
        exact ⟨v, rfl, r1⟩
      · have hf' : (f == a) = false := by simpa using hf
        simp only [List.lookup, hf'] at l ⊢
        exact fs_look h2 r2 l
def putD (f : Str) (v : D) : List (Str × D) → List (Str × D)
  | [] => [(f, v)]
  | (g, x) :: r => if g = f then (g, v) :: r else (g, x) :: putD f v r
end

/-! ### readings over data -/
section
variable (K : PySem.W.Frag) (ct : Nat → Addr)
def tD (Γ : Gm) (μ : Mu) (d : D) (μ' : Mu) : TE := fun σ H Q => ∃ F A, Rl K ct Γ μ σ H F A ∧ ∀ v H' F' A', Le F F' → A <+: A' → Rl K ct Γ μ' σ H' F' A' → Rep K ct A' F' v d → Q v H'
def tT (Γ : Gm) (μ : Mu) (b : Bool) (μ' : Mu) : TT := fun σ H Q => ∃ F A, Rl K ct Γ μ σ H F A ∧ ∀ H' F' A', Le F F' → A <+: A' → Rl K ct Γ μ' σ H' F' A' → Q b H'
def tAs (Γ : Gm) (μ : Mu) (ds : List D) (μ' : Mu) : TA := fun σ H Q => ∃ F A, Rl K ct Γ μ σ H F A ∧ ∀ vs H' F' A', Le F F' → A <+: A' → Rl K ct Γ μ' σ H' F' A' → Reps K ct A' F' vs ds → Q vs H'
/-- an operation on two values, a call on values -/
def r2 (μ : Mu) (da db d : D) : R2 := fun x y H Q => ∃ F A, Rl0 K ct μ H F A ∧ Rep K ct A F x da ∧ Rep K ct A F y db ∧ ∀ v H' F', Le F F' → Rl0 K ct μ H' F' A → Rep K ct A F' v d → Q v H'
def rc (μ : Mu) (ds : List D) (d : D) : List V → Hp → VK → Prop := fun xs H Q => ∃ F A, Rl0 K ct μ H F A ∧ Reps K ct A F xs ds ∧ ∀ v H' F', Le F F' → Rl0 K ct μ H' F' A → Rep K ct A F' v d → Q v H'
end
abbrev DE (X : Cx) (ct : Nat → Addr) (Γ : Gm) (μ : Mu) (e : Expr) (d : D) (μ' : Mu) : Prop := PE X e (tD X.K ct Γ μ d μ')
abbrev DT (X : Cx) (ct : Nat → Addr) (Γ : Gm) (μ : Mu) (e : Expr) (b : Bool) (μ' : Mu) : Prop := PT X e (tT X.K ct Γ μ b μ')
abbrev DW (X : Cx) (ct : Nat → Addr) (Γ : Gm) (μ : Mu) (e : Expr) (b : Bool) (μ' : Mu) : Prop := PW X e (tT X.K ct Γ μ b μ')
abbrev DA (X : Cx) (ct : Nat → Addr) (Γ : Gm) (μ : Mu) (es : List Expr) (ds : List D) (μ' : Mu) : Prop := PA X es (tAs X.K ct Γ μ ds μ')
abbrev O2 (X : Cx) (ct : Nat → Addr) (f : Value → Value → Sem Value) (μ : Mu) (da db d : D) : Prop := OpR X f (r2 X.K ct μ da db d)
abbrev C1 (X : Cx) (ct : Nat → Addr) (f : Value) (μ : Mu) (ds : List D) (d : D) : Prop := CallR X f (rc X.K ct μ ds d)

section
variable {X : Cx}
theorem PE.imp {e : Expr} {t t' : TE} (h : PE X e t) (k : ∀ σ H Q, t' σ H Q → t σ H Q) : PE X e t' := ⟨fun pins s σ H Q I q => h.run pins s σ H Q I (k σ H Q q)⟩
theorem PT.imp {e : Expr} {t t' : TT} (h : PT X e t) (k : ∀ σ H Q, t' σ H Q → t σ H Q) : PT X e t' := ⟨fun pins s σ H Q I q => h.run pins s σ H Q I (k σ H Q q)⟩
theorem PW.imp {e : Expr} {t t' : TT} (h : PW X e t) (k : ∀ σ H Q, t' σ H Q → t σ H Q) : PW X e t' := ⟨fun whole pins s σ H Q I q => h.run whole pins s σ H Q I (k σ H Q q)⟩
theorem PA.imp {e : List Expr} {t t' : TA} (h : PA X e t) (k : ∀ σ H Q, t' σ H Q → t σ H Q) : PA X e t' := ⟨fun pos pins s σ H Q I q => h.run pos pins s σ H Q I (k σ H Q q)⟩
theorem PS.imp {e : Stmt} {t t' : TS} (h : PS X e t) (k : ∀ D σ H, t' D σ H → t D σ H) : PS X e t' := ⟨fun pins s σ H D I q => h.run pins s σ H D I (k D σ H q)⟩
theorem PSs.imp {e : List Stmt} {t t' : TS} (h : PSs X e t) (k : ∀ D σ H, t' D σ H → t D σ H) : PSs X e t' := ⟨fun pins s σ H D I q => h.run pins s σ H D I (k D σ H q)⟩
theorem OpR.imp {f : Value → Value → Sem Value} {r r' : R2} (h : OpR X f r) (k : ∀ x y H Q, r' x y H Q → r x y H Q) : OpR X f r' := fun pins s σ H x y v u Q I rx ry q => h pins s σ H x y v u Q I rx ry (k _ _ _ _ q)
theorem CallR.imp {f : Value} {r r' : List V → Hp → VK → Prop} (h : CallR X f r) (k : ∀ xs H Q, r' xs H Q → r xs H Q) : CallR X f r' := fun pins s σ H xs us Q I rx q => h pins s σ H xs us Q I rx (k _ _ _ q)
end

section
variable {X : Cx} {ct : Nat → Addr} {Γ : Gm} {μ μ1 μ2 μ3 : Mu} {d da db dc : D} {ds : List D} {e a b c : Expr} {es : List Expr} {pos p : Pos} {x : Str}
abbrev pr {A : List Addr} : A <+: A := List.prefix_refl A

/-! ### names, constants -/
theorem de_var (i : Nat) (hΓ : Γ[i]? = some (some d) := by rfl) (hN : X.N[i]? = some x := by rfl) (hv : Vis X.env.scope x := by first | exact Or.inl rfl | exact Or.inr (Or.inl rfl) | exact Or.inr (Or.inr rfl)) (hd : (x == ("__debug__" : Str)) = false := by decide)
    (hcd : (x == ("__classdict__" : Str)) = false := by decide) : DE X ct Γ μ (.Name x pos) d μ :=
  PE.imp (pe_var hN hv hd hcd) fun σ H Q ⟨F, A, r, k⟩ => let ⟨v, hv, rep⟩ := r.s.get hΓ; ⟨v, hv, k v H F A (.refl _) pr r rep⟩
theorem de_c {v : V} (h : PE X e (tC v)) (rep : ∀ A F, Rep X.K ct A F v d) : DE X ct Γ μ e d μ := PE.imp h fun σ H Q ⟨F, A, r, k⟩ => k v H F A (.refl _) pr r (rep A F)
theorem de_int {i j} : DE X ct Γ μ (.Constant (.int i) j pos) (.int i) μ := de_c pe_int fun _ _ => .int i
theorem de_bl {i j} : DE X ct Γ μ (.Constant (.bool i) j pos) (.bl i) μ := de_c pe_bl fun _ _ => .bl i
theorem de_non {j} : DE X ct Γ μ (.Constant .none j pos) .non μ := de_c pe_non fun _ _ => .non
theorem de_str {i j} : DE X ct Γ μ (.Constant (.str i) j pos) (.str i) μ := de_c pe_str fun _ _ => .str i
/-- a constant of the module -/
structure GlC (K : PySem.W.Frag) (ct : Nat → Addr) (mg : Str → Option Value) (x : Str) (d : D) : Prop where
  ex : ∃ (u : Value) (v : V), mg x = some u ∧ RelV v u ∧ ∀ A F, Rep K ct A F v d
theorem de_glob (g : GlC X.K ct X.mg x d) (hg : Gl X x := by rfl) (hd : (x == ("__debug__" : Str)) = false := by decide) : DE X ct Γ μ (.Name x pos) d μ := by
  obtain ⟨u, v, hm, r, rep⟩ := g.ex
  exact de_c (pe_glob hg hm r hd) rep
theorem de_bltn {v : V} {u : Value} (hm : X.mg x = none) (hv : bootBuiltins x = some u) (r : RelV v u) (hg : Gl X x := by rfl) (hn : x ≠ "__name__" := by decide) (hd : (x == ("__debug__" : Str)) = false := by decide) : DE X ct Γ μ (.Name x pos) (.raw v) μ :=
  de_c (pe_bltn hg hm hv r hn hd) fun _ _ => .raw v

/-! ### operators -/
theorem tOp_D {r : R2} (h : ∀ x y H Q, r2 X.K ct μ2 da db d x y H Q → r x y H Q) : ∀ σ H Q, tD X.K ct Γ μ d μ2 σ H Q → tOp r (tD X.K ct Γ μ da μ1) (tD X.K ct Γ μ1 db μ2) σ H Q := fun σ H Q ⟨F, A, r, k⟩ =>
  ⟨F, A, r, fun v H1 F1 A1 e1 p1 r1 h1 => ⟨F1, A1, r1, fun w H2 F2 A2 e2 p2 r2 h2 => h _ _ _ _ ⟨F2, A2, r2.m, h1.mono e2 p2, h2, fun v' H' F' e3 r3 h3 =>
    k v' H' F' A2 (e1.trans (e2.trans e3)) (p1.trans p2) ⟨r3, r2.s.mono e3 pr⟩ h3⟩⟩⟩
theorem de_op {op : Operator} (o : O2 X ct (binaryOp op) μ2 da db d) (ha : DE X ct Γ μ a da μ1) (hb : DE X ct Γ μ1 b db μ2) : DE X ct Γ μ (.BinOp a op b pos) d μ2 := PE.imp (pe_op o ha hb) (tOp_D fun _ _ _ _ h => h)
theorem de_cmp {op : CmpOp} (o : O2 X ct (compareOp op) μ2 da db d) (ha : DE X ct Γ μ a da μ1) (hb : DE X ct Γ μ1 b db μ2) (hm : behindInMarks op b = false := by first | exact nomark _ | rfl | with_unfolding_all rfl) : DE X ct Γ μ (.Compare a [op] [b] pos) d μ2 :=
  PE.imp (pe_cmpR o ha hb hm) (tOp_D fun _ _ _ _ h => h)
theorem rep_bl {K : PySem.W.Frag} {A : List Addr} {F : Hp} {v : V} {k : Bool} (h : Rep K ct A F v (.bl k)) : v = .bl k := by cases h; rfl
theorem rep_int {K : PySem.W.Frag} {A : List Addr} {F : Hp} {v : V} {k : Int} (h : Rep K ct A F v (.int k)) : v = .int k := by cases h; rfl
theorem rep_str {K : PySem.W.Frag} {A : List Addr} {F : Hp} {v : V} {k : Str} (h : Rep K ct A F v (.str k)) : v = .str k := by cases h; rfl
theorem rep_non {K : PySem.W.Frag} {A : List Addr} {F : Hp} {v : V} (h : Rep K ct A F v .non) : v = .non := by cases h; rfl
theorem dt_cmp {op : CmpOp} {k : Bool} (o : O2 X ct (compareOp op) μ2 da db (.bl k)) (ha : DE X ct Γ μ a da μ1) (hb : DE X ct Γ μ1 b db μ2) (hm : behindInMarks op b = false := by first | exact nomark _ | rfl | with_unfolding_all rfl) : DT X ct Γ μ (.Compare a [op] [b] pos) k μ2 :=
  PT.imp (pt_cmpR o ha hb hm) fun σ H Q ⟨F, A, r, q⟩ => tOp_D (d := .bl k) (fun _ _ _ _ h => h) σ H _ ⟨F, A, r, fun v H' F' A' e p r' h => ⟨k, rep_bl h, q H' F' A' e p r'⟩⟩
theorem o2_of {f : Value → Value → Sem Value} {r : R2} (o : OpR X f r) (h : ∀ (x y : V) (H F : Hp) (A : List Addr) (Q : VK), Rl0 X.K ct μ H F A → Rep X.K ct A F x da → Rep X.K ct A F y db →
    (∀ v H' F', Le F F' → Rl0 X.K ct μ H' F' A → Rep X.K ct A F' v d → Q v H') → r x y H Q) : O2 X ct f μ da db d :=
  OpR.imp o fun x y H Q ⟨F, A, m, rx, ry, k⟩ => h x y H F A Q m rx ry k
theorem o2_I0 {f : Value → Value → Sem Value} {g : Int → Int → V} {i j : Int} (o : OpR X f (rI0 g)) (h : ∀ A F, Rep X.K ct A F (g i j) d) : O2 X ct f μ (.int i) (.int j) d :=
  o2_of o fun x y H F A Q m rx ry k => ⟨i, j, rep_int rx, rep_int ry, k _ H F (.refl _) m (h A F)⟩
theorem o2_I {f : Value → Value → Sem Value} {C : Int → Int → Prop} {g : Int → Int → V} {i j : Int} (o : OpR X f (rI C g)) (c : C i j) (h : ∀ A F, Rep X.K ct A F (g i j) d) : O2 X ct f μ (.int i) (.int j) d :=
  o2_of o fun x y H F A Q m rx ry k => ⟨i, j, rep_int rx, rep_int ry, c, k _ H F (.refl _) m (h A F)⟩
theorem o2_add {i j : Int} : O2 X ct (binaryOp .Add) μ (.int i) (.int j) (.int (i + j)) := o2_I0 op_add fun _ _ => .int _
theorem o2_sub {i j : Int} : O2 X ct (binaryOp .Sub) μ (.int i) (.int j) (.int (i - j)) := o2_I0 op_sub fun _ _ => .int _
theorem o2_mul {i j : Int} (c : CMul i j) : O2 X ct (binaryOp .Mult) μ (.int i) (.int j) (.int (i * j)) := o2_I op_mul c fun _ _ => .int _
theorem o2_fdiv {i j : Int} (c : CDiv i j) : O2 X ct (binaryOp .FloorDiv) μ (.int i) (.int j) (.int (i / j)) := o2_I op_fdiv c fun _ _ => .int _
theorem o2_mod {i j : Int} (c : 0 < j) : O2 X ct (binaryOp .Mod) μ (.int i) (.int j) (.int (i % j)) := o2_I op_mod c fun _ _ => .int _
theorem o2_pow {i j : Int} (c : CPow i j) : O2 X ct (binaryOp .Pow) μ (.int i) (.int j) (.int (i ^ j.toNat)) := o2_I op_pow c fun _ _ => .int _
theorem o2_lt {i j : Int} : O2 X ct (compareOp .Lt) μ (.int i) (.int j) (.bl (decide (i < j))) := o2_I0 op_lt fun _ _ => .bl _
theorem o2_le {i j : Int} : O2 X ct (compareOp .LtE) μ (.int i) (.int j) (.bl (decide (i ≤ j))) := o2_I0 op_le fun _ _ => .bl _
theorem o2_gt {i j : Int} : O2 X ct (compareOp .Gt) μ (.int i) (.int j) (.bl (decide (j < i))) := o2_I0 op_gt fun _ _ => .bl _
theorem o2_ge {i j : Int} : O2 X ct (compareOp .GtE) μ (.int i) (.int j) (.bl (decide (j ≤ i))) := o2_I0 op_ge fun _ _ => .bl _
theorem o2_adds {i j : Str} (h : i.length + j.length ≤ sizeLine) : O2 X ct (binaryOp .Add) μ (.str i) (.str j) (.str (i ++ j)) :=
  o2_of op_add_str fun x y H F A Q m rx ry k => ⟨i, j, rep_str rx, rep_str ry, h, k _ H F (.refl _) m (.str _)⟩
/-- new frozen things -/
theorem new_tup {K : PySem.W.Frag} {A : List Addr} {H F : Hp} {Q : VK} {vs : List V} (m : Rl0 K ct μ H F A) (r : Reps K ct A F vs ds) (k : ∀ v H' F', Le F F' → Rl0 K ct μ H' F' A → Rep K ct A F' v (.tup ds) → Q v H') : ∀ p, H p = none → Q (.ref p) (upd H p (.tup vs)) :=
  fun p hp => k _ _ (upd F p (.tup vs)) (m.le_grow hp _) (m.grow hp _) (.tup (SqT.of upd_same) (r.mono (m.le_grow hp _) pr))
theorem new_lst {K : PySem.W.Frag} {A : List Addr} {H F : Hp} {Q : VK} {vs : List V} (m : Rl0 K ct μ H F A) (r : Reps K ct A F vs ds) (k : ∀ v H' F', Le F F' → Rl0 K ct μ H' F' A → Rep K ct A F' v (.lst ds) → Q v H') : ∀ p, H p = none → Q (.ref p) (upd H p (.lst vs)) :=
  fun p hp => k _ _ (upd F p (.lst vs)) (m.le_grow hp _) (m.grow hp _) (.lst upd_same (r.mono (m.le_grow hp _) pr))
theorem sqL_sub {K : PySem.W.Frag} {F H : Hp} {a : Addr} {xs : List V} (s : Sub F H) (h : SqL K F a xs) : SqL K H a xs := s.r.l h
theorem sqT_sub {K : PySem.W.Frag} {F H : Hp} {a : Addr} {xs : List V} (s : Sub F H) (h : SqT K F a xs) : SqT K H a xs := s.r.t h
theorem o2_catL {l m : List D} (h : l.length + m.length ≤ sizeLine) : O2 X ct (binaryOp .Add) μ (.lst l) (.lst m) (.lst (l ++ m)) :=
  o2_of op_cat fun x y H F A Q q rx ry k => by
    cases rx with
    | lst h1 r1 => cases ry with
      | lst h2 r2 => exact ⟨_, _, _, _, rfl, rfl, q.sub _ _ h1, q.sub _ _ h2, by rw [r1.len, r2.len]; exact h, new_lst q (r1.app r2) k⟩
theorem o2_catT {l m : List D} (h0 : l ≠ []) (h : l.length + m.length ≤ sizeLine) : O2 X ct (binaryOp .Add) μ (.tup l) (.tup m) (.tup (l ++ m)) :=
  o2_of op_catT fun x y H F A Q q rx ry k => by
    cases rx with
    | tup h1 r1 => cases ry with
      | tup h2 r2 =>
        refine ⟨_, _, _, _, rfl, rfl, sqT_sub q.sub h1, sqT_sub q.sub h2, fun z => ?_, by rw [r1.len, r2.len]; exact h, fun z => ?_, fun _ => new_tup q (r1.app r2) k⟩
        · subst z; have := r1.len; cases l with | nil => exact h0 rfl | cons a b => simp at this
        · subst z
          have : m = [] := by have := r2.len; cases m with | nil => rfl | cons a b => simp at this
          subst this
          rw [List.append_nil] at k
          exact k _ H F (.refl _) q (.tup h1 r1)
theorem o2_repL {l : List D} {n : Int} (h1 : -(2 ^ 63) ≤ n) (h2 : n < 2 ^ 63) (h : l.length * n.toNat ≤ sizeLine) : O2 X ct (binaryOp .Mult) μ (.lst l) (.int n) (.lst (List.replicate n.toNat l).flatten) :=
  o2_of op_rep fun x y H F A Q q rx ry k => by
    cases ry
    cases rx with
    | lst h3 r1 =>
      refine ⟨_, _, _, rfl, rfl, q.sub _ _ h3, h1, h2, by rw [r1.len]; exact h, new_lst q ?_ k⟩
      induction n.toNat with
      | zero => exact .nil
      | succ j ih => rw [List.replicate_succ, List.replicate_succ, List.flatten_cons, List.flatten_cons]; exact r1.app ih

/-! ### == -/
mutual
def toPy : D → Option PyData
  | .non => some .none
  | .bl b => some (.bool b)
  | .int i => some (.int i)
  | .str s => some (.str s)
  | .tup l => (toPys l).map .tuple
  | .lst l => (toPys l).map .list
  | .scr l => (toPys l).map .list
  | .dic _ => none
  | .ins _ _ => none
  | .ptr _ => none
  | .raw _ => none
def toPys : List D → Option (List PyData)
  | [] => some []
  | d :: ds => match toPy d, toPys ds with
    | some p, some ps => some (p :: ps)
    | _, _ => none
end
mutual
theorem Rep.dp {K : PySem.W.Frag} {A : List Addr} {F H : Hp} (s : Sub F H) : ∀ {d : D} {v : V} {p : PyData}, Rep K ct A F v d → toPy d = some p → Dp K H v p
  | .non, _, _, .non, h => by simp only [toPy, Option.some.injEq] at h; subst h; exact .non
  | .bl b, _, _, .bl _, h => by simp only [toPy, Option.some.injEq] at h; subst h; exact .bl b
  | .int b, _, _, .int _, h => by simp only [toPy, Option.some.injEq] at h; subst h; exact .int b
  | .str b, _, _, .str _, h => by simp only [toPy, Option.some.injEq] at h; subst h; exact .str b
  | .tup l, _, _, .tup h1 r, h => by
    simp only [toPy, Option.map_eq_some_iff] at h
    obtain ⟨ps, e, rfl⟩ := h
    exact .tup (sqT_sub s h1) (Reps.dp s r e)
  | .lst l, _, _, .lst h1 r, h => by
    simp only [toPy, Option.map_eq_some_iff] at h
    obtain ⟨ps, e, rfl⟩ := h
    exact .lst (SqL.of (s _ _ h1)) (Reps.dp s r e)
  | .scr l, _, _, .scr h1 r, h => by
    simp only [toPy, Option.map_eq_some_iff] at h
    obtain ⟨ps, e, rfl⟩ := h
    exact .lst (sqL_sub s h1) (Reps.dp s r e)
  | .dic _, _, _, _, h => by simp [toPy] at h
  | .ins _ _, _, _, _, h => by simp [toPy] at h
  | .ptr _, _, _, _, h => by simp [toPy] at h
  | .raw _, _, _, _, h => by simp [toPy] at h
theorem Reps.dp {K : PySem.W.Frag} {A : List Addr} {F H : Hp} (s : Sub F H) : ∀ {ds : List D} {vs : List V} {ps : List PyData}, Reps K ct A F vs ds → toPys ds = some ps → DpAll K H vs ps
  | [], _, _, .nil, h => by simp only [toPys, Option.some.injEq] at h; subst h; exact .nil
  | d :: ds, _, _, .cons r t, h => by
    simp only [toPys] at h
    cases e1 : toPy d with
    | none => simp [e1] at h
    | some p =>
      cases e2 : toPys ds with
      | none => simp [e1, e2] at h
      | some q =>
        simp only [e1, e2, Option.some.injEq] at h
        subst h
        exact .cons (Rep.dp s r e1) (Reps.dp s t e2)
end
theorem o2_eqD {pa pb : PyData} (hu : X.A.units + 64 < cLine) (ea : toPy da = some pa) (eb : toPy db = some pb) (sa : SeqAt.shaped pa = true) (sb : SeqAt.shaped pb = true) : O2 X ct (compareOp .Eq) μ da db (.bl (PyData.eqv pa pb)) :=
  o2_of (op_eqD hu) fun x y H F A Q q rx ry k => ⟨pa, pb, rx.dp q.sub ea, ry.dp q.sub eb, sa, sb, k _ H F (.refl _) q (.bl _)⟩
theorem o2_neD {pa pb : PyData} (hu : X.A.units + 64 < cLine) (ea : toPy da = some pa) (eb : toPy db = some pb) (sa : SeqAt.shaped pa = true) (sb : SeqAt.shaped pb = true) : O2 X ct (compareOp .NotEq) μ da db (.bl (!PyData.eqv pa pb)) :=
  o2_of (op_neD hu) fun x y H F A Q q rx ry k => ⟨pa, pb, rx.dp q.sub ea, ry.dp q.sub eb, sa, sb, k _ H F (.refl _) q (.bl _)⟩
/-- a scalar as a value -/
def scD : D → Option V
  | .non => some .non
  | .bl b => some (.bl b)
  | .int i => some (.int i)
  | .str s => some (.str s)
  | _ => none
theorem rep_sc {K : PySem.W.Frag} {A : List Addr} {F : Hp} {v w : V} (h : Rep K ct A F v d) (e : scD d = some w) : v = w := by
  cases h <;> simp [scD] at e <;> exact e
theorem o2_eqS {v w : V} (ea : scD da = some v) (eb : scD db = some w) (h : scal v w = true) : O2 X ct (compareOp .Eq) μ da db (.bl (decide (v = w))) :=
  o2_of op_eq fun x y H F A Q q rx ry k => by
    have e1 := rep_sc rx ea
    have e2 := rep_sc ry eb
    subst e1; subst e2
    exact ⟨h, k _ H F (.refl _) q (.bl _)⟩
theorem o2_neS {v w : V} (ea : scD da = some v) (eb : scD db = some w) (h : scal v w = true) : O2 X ct (compareOp .NotEq) μ da db (.bl (!decide (v = w))) :=
  o2_of op_ne fun x y H F A Q q rx ry k => by
    have e1 := rep_sc rx ea
    have e2 := rep_sc ry eb
    subst e1; subst e2
    exact ⟨h, k _ H F (.refl _) q (.bl _)⟩
theorem o2_eqI {i j : Int} : O2 X ct (compareOp .Eq) μ (.int i) (.int j) (.bl (decide (i = j))) := by
  have h := o2_eqS (X := X) (ct := ct) (μ := μ) (da := .int i) (db := .int j) rfl rfl rfl
  rw [show decide (V.int i = V.int j) = decide (i = j) by simp] at h
  exact h
theorem o2_neI {i j : Int} : O2 X ct (compareOp .NotEq) μ (.int i) (.int j) (.bl (!decide (i = j))) := by
  have h := o2_neS (X := X) (ct := ct) (μ := μ) (da := .int i) (db := .int j) rfl rfl rfl
  rw [show decide (V.int i = V.int j) = decide (i = j) by simp] at h
  exact h
theorem o2_eqZ {i j : Str} : O2 X ct (compareOp .Eq) μ (.str i) (.str j) (.bl (decide (i = j))) := by
  have h := o2_eqS (X := X) (ct := ct) (μ := μ) (da := .str i) (db := .str j) rfl rfl rfl
  rw [show decide (V.str i = V.str j) = decide (i = j) by simp] at h
  exact h
theorem o2_neZ {i j : Str} : O2 X ct (compareOp .NotEq) μ (.str i) (.str j) (.bl (!decide (i = j))) := by
  have h := o2_neS (X := X) (ct := ct) (μ := μ) (da := .str i) (db := .str j) rfl rfl rfl
  rw [show decide (V.str i = V.str j) = decide (i = j) by simp] at h
  exact h
theorem o2_eqB {i j : Bool} : O2 X ct (compareOp .Eq) μ (.bl i) (.bl j) (.bl (i == j)) := by
  have h := o2_eqS (X := X) (ct := ct) (μ := μ) (da := .bl i) (db := .bl j) rfl rfl rfl
  rw [show decide (V.bl i = V.bl j) = (i == j) from dec_bl] at h
  exact h
theorem o2_neB {i j : Bool} : O2 X ct (compareOp .NotEq) μ (.bl i) (.bl j) (.bl (!(i == j))) := by
  have h := o2_neS (X := X) (ct := ct) (μ := μ) (da := .bl i) (db := .bl j) rfl rfl rfl
  rw [show decide (V.bl i = V.bl j) = (i == j) from dec_bl] at h
  exact h
/-! ### is None -/
def isNon : D → Option Bool
  | .non => some true
  | .raw _ => none
  | _ => some false
theorem rep_isNon {K : PySem.W.Frag} {A : List Addr} {F : Hp} {v : V} {k : Bool} (h : Rep K ct A F v d) (e : isNon d = some k) : decide (v = .non) = k := by
  cases h <;> simp [isNon] at e <;> subst e <;> simp
theorem o2_is {k : Bool} (e : isNon da = some k) : O2 X ct (compareOp .Is) μ da .non (.bl k) :=
  o2_of op_isN fun x y H F A Q q rx ry q' => by cases ry; exact ⟨rfl, by rw [rep_isNon rx e]; exact q' _ H F (.refl _) q (.bl _)⟩
theorem o2_isnt {k : Bool} (e : isNon da = some k) : O2 X ct (compareOp .IsNot) μ da .non (.bl (!k)) :=
  o2_of op_notN fun x y H F A Q q rx ry q' => by cases ry; exact ⟨rfl, by rw [rep_isNon rx e]; exact q' _ H F (.refl _) q (.bl _)⟩
/-! ### in -/
def isSeq : D → Option (List D)
  | .tup l => some l
  | .lst l => some l
  | .scr l => some l
  | _ => none
theorem rep_seq {K : PySem.W.Frag} {A : List Addr} {F : Hp} {v : V} {l : List D} (h : Rep K ct A F v d) (e : isSeq d = some l) : ∃ a vs, v = .ref a ∧ (SqL K F a vs ∨ SqT K F a vs) ∧ Reps K ct A F vs l := by
  cases h <;> simp [isSeq] at e
  case tup h r => subst e; exact ⟨_, _, rfl, .inr h, r⟩
  case lst h r => subst e; exact ⟨_, _, rfl, .inl (SqL.of h), r⟩
  case scr h r => subst e; exact ⟨_, _, rfl, .inl h, r⟩
/-- == of flat data -/
def eqF : D → D → Bool
  | .non, .non => true
  | .bl a, .bl b => a == b
  | .bl a, .int b => (if a then 1 else 0) == b
  | .int a, .bl b => a == (if b then 1 else 0)
  | .int a, .int b => a == b
  | .str a, .str b => a == b
  | _, _ => false
def flatD : D → Bool
  | .non => true
  | .bl _ => true
  | .int _ => true
  | .str _ => true
  | _ => false
theorem rep_flat {K : PySem.W.Frag} {A : List Addr} {F : Hp} {v : V} (h : Rep K ct A F v d) (e : flatD d = true) : flatV v = true ∧ scD d = some v := by
  cases h <;> simp [flatD] at e <;> exact ⟨rfl, rfl⟩
theorem eqV_F {v w : V} (ea : scD da = some v) (eb : scD db = some w) : eqV v w = eqF da db := by
  cases da <;> simp [scD] at ea <;> subst ea <;> cases db <;> simp [scD] at eb <;> subst eb <;> rfl
theorem reps_flat {K : PySem.W.Frag} {A : List Addr} {F : Hp} : ∀ {vs : List V} {l : List D}, Reps K ct A F vs l → l.all flatD = true → vs.all flatV = true ∧ ∀ (x : V) (dx : D), scD dx = some x → inV x vs = l.any fun y => eqF y dx
  | _, _, .nil, _ => ⟨rfl, fun _ _ _ => rfl⟩
  | _, _, .cons h r, e => by
    rw [List.all_cons, Bool.and_eq_true] at e
    obtain ⟨f1, f2⟩ := rep_flat h e.1
    obtain ⟨g1, g2⟩ := reps_flat r e.2
    refine ⟨by rw [List.all_cons, f1, g1]; rfl, fun x dx hx => ?_⟩
    unfold inV
    rw [List.any_cons, List.any_cons, eqV_F f2 hx]
    have := g2 x dx hx
    unfold inV at this
    rw [this]
theorem o2_in {l : List D} (hl : isSeq db = some l) (fa : flatD da = true) (fl : l.all flatD = true) : O2 X ct (compareOp .In) μ da db (.bl (l.any fun y => eqF y da)) :=
  o2_of op_in_seq fun x y H F A Q q rx ry k => by
    obtain ⟨a, vs, rfl, hs, r⟩ := rep_seq ry hl
    obtain ⟨f1, f2⟩ := rep_flat rx fa
    obtain ⟨g1, g2⟩ := reps_flat r fl
    exact ⟨a, vs, rfl, hs.imp (sqL_sub q.sub) (sqT_sub q.sub), f1, g1, by rw [if_neg (by decide), g2 x da f2]; exact k _ H F (.refl _) q (.bl _)⟩
theorem o2_nin {l : List D} (hl : isSeq db = some l) (fa : flatD da = true) (fl : l.all flatD = true) : O2 X ct (compareOp .NotIn) μ da db (.bl (!l.any fun y => eqF y da)) :=
  o2_of op_notIn_seq fun x y H F A Q q rx ry k => by
    obtain ⟨a, vs, rfl, hs, r⟩ := rep_seq ry hl
    obtain ⟨f1, f2⟩ := rep_flat rx fa
    obtain ⟨g1, g2⟩ := reps_flat r fl
    exact ⟨a, vs, rfl, hs.imp (sqL_sub q.sub) (sqT_sub q.sub), f1, g1, by rw [if_pos rfl, g2 x da f2]; exact k _ H F (.refl _) q (.bl _)⟩
end
end DL

namespace DL
open PySem PySem.Spec PyProof.Rows L2
section
variable {X : Cx} {ct : Nat → Addr} {Γ Γ1 : Gm} {μ μ1 μ2 μ3 : Mu} {d da db dc : D} {ds es' : List D} {e a b c o : Expr} {es rest : List Expr} {pos p : Pos} {x f m : Str} {k k' : Bool} {n : Nat} {fs : List (Str × D)}
/-! ### tests -/
theorem dt_val (h : DE X ct Γ μ e (.bl k) μ1) (he : ∀ whole, isTrue e X.env whole = (do let v ← whole; standAt e.pos; holding [v] (truthy v)) := by intro _; rfl) : DT X ct Γ μ e k μ1 :=
  PT.imp (pt_val h he) fun σ H Q ⟨F, A, r, q⟩ => ⟨F, A, r, fun v H' F' A' e' p' r' h' => ⟨k, rep_bl h', q H' F' A' e' p' r'⟩⟩
theorem dt_not (h : DT X ct Γ μ a k μ1) : DT X ct Γ μ (.UnaryOp .Not a pos) (!k) μ1 := PT.imp (pt_not h) fun σ H Q ⟨F, A, r, q⟩ => ⟨F, A, r, fun H' F' A' e' p' r' => q H' F' A' e' p' r'⟩
theorem dt_w (h : DW X ct Γ μ e k μ1) : DT X ct Γ μ e k μ1 := h.pt
theorem dw_and1 (h : DT X ct Γ μ a k μ1) : DW X ct Γ μ (.BoolOp .And [a] pos) k μ1 := pw_and1 h
theorem dw_or1 (h : DT X ct Γ μ a k μ1) : DW X ct Γ μ (.BoolOp .Or [a] pos) k μ1 := pw_or1 h
theorem pw_triv {X : Cx} {e : Expr} : PW X e (fun _ _ _ => False) := ⟨fun _ _ _ _ _ _ _ h => h.elim⟩
theorem pe_triv {X : Cx} {e : Expr} : PE X e (fun _ _ _ => False) := ⟨fun _ _ _ _ _ _ h => h.elim⟩
theorem dw_and (ha : DT X ct Γ μ a k μ1) (hb : k = true → DW X ct Γ μ1 (.BoolOp .And (b :: rest) pos) k' μ2) (e : k = false → μ2 = μ1 := by intro _; rfl) : DW X ct Γ μ (.BoolOp .And (a :: b :: rest) pos) (k && k') μ2 := by
  cases k with
  | true =>
    refine PW.imp (pw_and ha (hb rfl)) fun σ H Q ⟨F, A, r, q⟩ => ⟨F, A, r, fun H' F' A' e' p' r' => ?_⟩
    refine iteT ?_
    exact ⟨F', A', r', fun H2 F2 A2 e2 p2 r2 => q H2 F2 A2 (e'.trans e2) (p'.trans p2) r2⟩
  | false =>
    have z := e rfl
    subst z
    refine PW.imp (pw_and ha pw_triv) fun σ H Q ⟨F, A, r, q⟩ => ⟨F, A, r, fun H' F' A' e' p' r' => ?_⟩
    refine iteF ?_
    exact q H' F' A' e' p' r'
theorem dw_or (ha : DT X ct Γ μ a k μ1) (hb : k = false → DW X ct Γ μ1 (.BoolOp .Or (b :: rest) pos) k' μ2) (e : k = true → μ2 = μ1 := by intro _; rfl) : DW X ct Γ μ (.BoolOp .Or (a :: b :: rest) pos) (k || k') μ2 := by
  cases k with
  | false =>
    refine PW.imp (pw_or ha (hb rfl)) fun σ H Q ⟨F, A, r, q⟩ => ⟨F, A, r, fun H' F' A' e' p' r' => ?_⟩
    refine iteF ?_
    exact ⟨F', A', r', fun H2 F2 A2 e2 p2 r2 => q H2 F2 A2 (e'.trans e2) (p'.trans p2) r2⟩
  | true =>
    have z := e rfl
    subst z
    refine PW.imp (pw_or ha pw_triv) fun σ H Q ⟨F, A, r, q⟩ => ⟨F, A, r, fun H' F' A' e' p' r' => ?_⟩
    refine iteT ?_
    exact q H' F' A' e' p' r'
theorem de_not (h : DE X ct Γ μ a (.bl k) μ1) : DE X ct Γ μ (.UnaryOp .Not a pos) (.bl (!k)) μ1 :=
  PE.imp (pe_not h) fun σ H Q ⟨F, A, r, q⟩ => ⟨F, A, r, fun v H' F' A' e' p' r' h' => ⟨k, rep_bl h', q _ H' F' A' e' p' r' (.bl _)⟩⟩
theorem de_one {op : BoolOp} (h : DE X ct Γ μ a d μ1) : DE X ct Γ μ (.BoolOp op [a] pos) d μ1 := pe_one h
theorem de_and (ha : DE X ct Γ μ a (.bl k) μ1) (hb : k = true → DE X ct Γ μ1 (.BoolOp .And (b :: rest) pos) (.bl k') μ2) (e : k = false → μ2 = μ1 := by intro _; rfl) : DE X ct Γ μ (.BoolOp .And (a :: b :: rest) pos) (.bl (k && k')) μ2 := by
  cases k with
  | true =>
    refine PE.imp (pe_and ha (hb rfl)) fun σ H Q ⟨F, A, r, q⟩ => ⟨F, A, r, fun v H' F' A' e' p' r' h' => ⟨true, rep_bl h', ?_⟩⟩
    refine iteT ?_
    exact ⟨F', A', r', fun v H2 F2 A2 e2 p2 r2 h2 => q v H2 F2 A2 (e'.trans e2) (p'.trans p2) r2 h2⟩
  | false =>
    have z := e rfl
    subst z
    refine PE.imp (pe_and ha pe_triv) fun σ H Q ⟨F, A, r, q⟩ => ⟨F, A, r, fun v H' F' A' e' p' r' h' => ⟨false, rep_bl h', ?_⟩⟩
    refine iteF ?_
    exact q _ H' F' A' e' p' r' (.bl _)
theorem de_or (ha : DE X ct Γ μ a (.bl k) μ1) (hb : k = false → DE X ct Γ μ1 (.BoolOp .Or (b :: rest) pos) (.bl k') μ2) (e : k = true → μ2 = μ1 := by intro _; rfl) : DE X ct Γ μ (.BoolOp .Or (a :: b :: rest) pos) (.bl (k || k')) μ2 := by
  cases k with
  | false =>
    refine PE.imp (pe_or ha (hb rfl)) fun σ H Q ⟨F, A, r, q⟩ => ⟨F, A, r, fun v H' F' A' e' p' r' h' => ⟨false, rep_bl h', ?_⟩⟩
    refine iteF ?_
    exact ⟨F', A', r', fun v H2 F2 A2 e2 p2 r2 h2 => q v H2 F2 A2 (e'.trans e2) (p'.trans p2) r2 h2⟩
  | true =>
    have z := e rfl
    subst z
    refine PE.imp (pe_or ha pe_triv) fun σ H Q ⟨F, A, r, q⟩ => ⟨F, A, r, fun v H' F' A' e' p' r' h' => ⟨true, rep_bl h', ?_⟩⟩
    refine iteT ?_
    exact q _ H' F' A' e' p' r' (.bl _)
theorem de_if' (hc : DT X ct Γ μ c k μ1) (ha : k = true → DE X ct Γ μ1 a d μ2) (hb : k = false → DE X ct Γ μ1 b d μ2) : DE X ct Γ μ (.IfExp c a b pos) d μ2 := by
  cases k with
  | true =>
    refine PE.imp (pe_ifExp hc (ha rfl) pe_triv) fun σ H Q ⟨F, A, r, q⟩ => ⟨F, A, r, fun H' F' A' e' p' r' => ?_⟩
    refine iteT ?_
    exact ⟨F', A', r', fun v H2 F2 A2 e2 p2 r2 h2 => q v H2 F2 A2 (e'.trans e2) (p'.trans p2) r2 h2⟩
  | false =>
    refine PE.imp (pe_ifExp hc pe_triv (hb rfl)) fun σ H Q ⟨F, A, r, q⟩ => ⟨F, A, r, fun H' F' A' e' p' r' => ?_⟩
    refine iteF ?_
    exact ⟨F', A', r', fun v H2 F2 A2 e2 p2 r2 h2 => q v H2 F2 A2 (e'.trans e2) (p'.trans p2) r2 h2⟩
theorem de_if (hc : DT X ct Γ μ c k μ1) (ha : k = true → DE X ct Γ μ1 a da μ2) (hb : k = false → DE X ct Γ μ1 b db μ2) : DE X ct Γ μ (.IfExp c a b pos) (bif k then da else db) μ2 :=
  de_if' hc (fun h => by subst h; exact ha rfl) fun h => by subst h; exact hb rfl
theorem de_eq {d' : D} (h : DE X ct Γ μ e d μ1) (q : d = d') : DE X ct Γ μ e d' μ1 := q ▸ h
theorem dt_eq (h : DT X ct Γ μ e k μ1) (q : k = k') : DT X ct Γ μ e k' μ1 := q ▸ h

/-! ### fields, subscripts -/
structure FldOk (K : PySem.W.Frag) (ct : Nat → Addr) (n : Nat) (f : Str) : Prop where
  cl : Cls K (ct n)
  na : NoAttr K (ct n) f
theorem de_fld (h : FldOk X.K ct n f) (he : DE X ct Γ μ e (.ins n fs) μ1) (hl : fs.lookup f = some d) (hb : attributeBase e f X.env (eval e X.env) = eval e X.env := by rfl) : DE X ct Γ μ (.Attribute e f pos) d μ1 :=
  PE.imp (pe_fld he hb) fun σ H Q ⟨F, A, r, q⟩ => ⟨F, A, r, fun v H' F' A' e' p' r' h' => by
    cases h' with
    | ins h1 h2 h3 =>
      obtain ⟨v, e1, e2⟩ := fs_look h2 h3 hl
      exact ⟨_, _, _, _, v, rfl, r'.m.sub _ _ h1, h.cl, h.na, e1, q v H' F' A' e' p' r' e2⟩⟩
theorem de_fldM {j : Nat} (h : FldOk X.K ct n f) (he : DE X ct Γ μ e (.ptr j) μ1) (hm : μ1[j]? = some (.ins n fs)) (hl : fs.lookup f = some d) (hb : attributeBase e f X.env (eval e X.env) = eval e X.env := by rfl) : DE X ct Γ μ (.Attribute e f pos) d μ1 :=
  PE.imp (pe_fld he hb) fun σ H Q ⟨F, A, r, q⟩ => ⟨F, A, r, fun v H' F' A' e' p' r' h' => by
    cases h' with
    | ptr h1 =>
      obtain ⟨_, dx, vfs, h2, h3, h4⟩ := r'.m.ok _ _ _ h1 hm
      obtain ⟨v, e1, e2⟩ := fs_look h3 h4 hl
      exact ⟨_, _, _, _, v, rfl, h2, h.cl, h.na, e1, q v H' F' A' e' p' r' e2⟩⟩
/-- what a[i] is -/
inductive IxD (μ : Mu) : D → D → D → Prop
  | tup {l : List D} {i : Int} {d : D} (h : atI l i = some d) : IxD μ (.tup l) (.int i) d
  | lst {l : List D} {i : Int} {d : D} (h : atI l i = some d) : IxD μ (.lst l) (.int i) d
  | scr {l : List D} {i : Int} {d : D} (h : atI l i = some d) : IxD μ (.scr l) (.int i) d
  | cell {j : Nat} {l : List D} {i : Int} {d : D} (hm : μ[j]? = some (.lst l)) (h : atI l i = some d) : IxD μ (.ptr j) (.int i) d
  | dicI {l : List (Key × D)} {i : Int} {d : D} (h : dget l (.inl i) = some d) : IxD μ (.dic l) (.int i) d
  | dicS {l : List (Key × D)} {i : Str} {d : D} (h : dget l (.inr i) = some d) : IxD μ (.dic l) (.str i) d
  | cdI {j : Nat} {l : List (Key × D)} {i : Int} {d : D} (hm : μ[j]? = some (.dic l)) (h : dget l (.inl i) = some d) : IxD μ (.ptr j) (.int i) d
  | cdS {j : Nat} {l : List (Key × D)} {i : Str} {d : D} (hm : μ[j]? = some (.dic l)) (h : dget l (.inr i) = some d) : IxD μ (.ptr j) (.str i) d
theorem reps_at {K : PySem.W.Frag} {A : List Addr} {F : Hp} {vs : List V} {l : List D} {i : Int} (r : Reps K ct A F vs l) (h : atI l i = some d) : ∃ v, atI vs i = some v ∧ Rep K ct A F v d := by
  unfold atI at h ⊢
  rw [r.len]
  cases q : ixN l.length i with
  | none => rw [q] at h; cases h
  | some j =>
    rw [q] at h
    exact r.get h
theorem de_ixS {r : R2} (hr : IxR X r) (hk : ∀ x y H Q, r2 X.K ct μ2 da db d x y H Q → r x y H Q) (ha : DE X ct Γ μ a da μ1) (hb : DE X ct Γ μ1 b db μ2) (hs : PlainIx b) : DE X ct Γ μ (.Subscript a b pos) d μ2 := PE.imp (pe_ix hr ha hb hs) (tOp_D hk)
theorem de_ixD (hu : X.A.units + 1 < cLine) (hk : ∀ x y H (Q : VK), r2 X.K ct μ2 da db d x y H Q → ∃ a v, x = .ref a ∧ DGet H a y (some v) ∧ Q v H) (ha : DE X ct Γ μ a da μ1) (hb : DE X ct Γ μ1 b db μ2) (hs : NoSl b) : DE X ct Γ μ (.Subscript a b pos) d μ2 :=
  PE.imp (pe_dget hu ha hb hs) (tOp_D (r := fun x y H Q => ∃ a v, x = .ref a ∧ DGet H a y (some v) ∧ Q v H) hk)
theorem de_ix (h : IxD μ2 da db d) (hu : X.A.units + 1 < cLine) (ha : DE X ct Γ μ a da μ1) (hb : DE X ct Γ μ1 b db μ2) (hs : PlainIx b := by intro _ _; rfl) (hs' : NoSl b := by intro _ _; rfl) : DE X ct Γ μ (.Subscript a b pos) d μ2 := by
  cases h with
  | tup h => exact de_ixS ix_tup (fun x y H Q ⟨F, A, m, rx, ry, k⟩ => by
      cases rx with
      | tup s r => cases ry with
        | int => obtain ⟨v, e1, e2⟩ := reps_at r h; exact ⟨_, _, _, v, rfl, rfl, sqT_sub m.sub s, e1, k v H F (.refl _) m e2⟩) ha hb hs
  | lst h => exact de_ixS ix_list (fun x y H Q ⟨F, A, m, rx, ry, k⟩ => by
      cases rx with
      | lst s r => cases ry with
        | int => obtain ⟨v, e1, e2⟩ := reps_at r h; exact ⟨_, _, _, v, rfl, rfl, SqL.of (m.sub _ _ s), e1, k v H F (.refl _) m e2⟩) ha hb hs
  | scr h => exact de_ixS ix_list (fun x y H Q ⟨F, A, m, rx, ry, k⟩ => by
      cases rx with
      | scr s r => cases ry with
        | int => obtain ⟨v, e1, e2⟩ := reps_at r h; exact ⟨_, _, _, v, rfl, rfl, sqL_sub m.sub s, e1, k v H F (.refl _) m e2⟩) ha hb hs
  | cell hm h => exact de_ixS ix_list (fun x y H Q ⟨F, A, m, rx, ry, k⟩ => by
      cases rx with
      | ptr s => cases ry with
        | int =>
          obtain ⟨_, vs, hv, r⟩ := m.ok _ _ _ s hm
          obtain ⟨v, e1, e2⟩ := reps_at r h
          exact ⟨_, _, _, v, rfl, rfl, SqL.of hv, e1, k v H F (.refl _) m e2⟩) ha hb hs
  | dicI h => exact de_ixD hu (fun x y H Q ⟨F, A, m, rx, ry, k⟩ => by
      cases rx with
      | dic s r1 r2 => cases ry with
        | int =>
          obtain ⟨v, e1, e2⟩ := KD.get_some ⟨r1, r2⟩ h
          exact ⟨_, v, rfl, .inl ⟨_, .inl _, m.sub.r.rd _ _ rfl s, rfl, e1.symm⟩, k v H F (.refl _) m e2⟩) ha hb hs'
  | dicS h => exact de_ixD hu (fun x y H Q ⟨F, A, m, rx, ry, k⟩ => by
      cases rx with
      | dic s r1 r2 => cases ry with
        | str =>
          obtain ⟨v, e1, e2⟩ := KD.get_some ⟨r1, r2⟩ h
          exact ⟨_, v, rfl, .inl ⟨_, .inr _, m.sub.r.rd _ _ rfl s, rfl, e1.symm⟩, k v H F (.refl _) m e2⟩) ha hb hs'
  | cdI hm h => exact de_ixD hu (fun x y H Q ⟨F, A, m, rx, ry, k⟩ => by
      cases rx with
      | ptr s => cases ry with
        | int =>
          obtain ⟨_, kvs, hv, r1, r2⟩ := m.ok _ _ _ s hm
          obtain ⟨v, e1, e2⟩ := KD.get_some ⟨r1, r2⟩ h
          exact ⟨_, v, rfl, .inl ⟨_, .inl _, .inl hv, rfl, e1.symm⟩, k v H F (.refl _) m e2⟩) ha hb hs'
  | cdS hm h => exact de_ixD hu (fun x y H Q ⟨F, A, m, rx, ry, k⟩ => by
      cases rx with
      | ptr s => cases ry with
        | str =>
          obtain ⟨_, kvs, hv, r1, r2⟩ := m.ok _ _ _ s hm
          obtain ⟨v, e1, e2⟩ := KD.get_some ⟨r1, r2⟩ h
          exact ⟨_, v, rfl, .inl ⟨_, .inr _, .inl hv, rfl, e1.symm⟩, k v H F (.refl _) m e2⟩) ha hb hs'
/-- k in d -/
inductive DicD (μ : Mu) : D → D → Bool → Prop
  | dicI {l : List (Key × D)} {i : Int} : DicD μ (.int i) (.dic l) (dget l (.inl i)).isSome
  | dicS {l : List (Key × D)} {i : Str} : DicD μ (.str i) (.dic l) (dget l (.inr i)).isSome
  | cdI {j : Nat} {l : List (Key × D)} {i : Int} (hm : μ[j]? = some (.dic l)) : DicD μ (.int i) (.ptr j) (dget l (.inl i)).isSome
  | cdS {j : Nat} {l : List (Key × D)} {i : Str} (hm : μ[j]? = some (.dic l)) : DicD μ (.str i) (.ptr j) (dget l (.inr i)).isSome
theorem DicD.get {K : PySem.W.Frag} {H F : Hp} {A : List Addr} {x y : V} (h : DicD μ da db k) (m : Rl0 K ct μ H F A) (rx : Rep K ct A F x da) (ry : Rep K ct A F y db) : ∃ a o, y = .ref a ∧ DGet H a x o ∧ o.isSome = k := by
  cases h with
  | dicI => cases rx with
    | int => cases ry with
      | dic s r1 r2 => exact ⟨_, _, rfl, .inl ⟨_, .inl _, m.sub.r.rd _ _ rfl s, rfl, rfl⟩, KD.isSome _ ⟨r1, r2⟩⟩
  | dicS => cases rx with
    | str => cases ry with
      | dic s r1 r2 => exact ⟨_, _, rfl, .inl ⟨_, .inr _, m.sub.r.rd _ _ rfl s, rfl, rfl⟩, KD.isSome _ ⟨r1, r2⟩⟩
  | cdI hm => cases rx with
    | int => cases ry with
      | ptr s => obtain ⟨_, kvs, hv, r1, r2⟩ := m.ok _ _ _ s hm; exact ⟨_, _, rfl, .inl ⟨_, .inl _, .inl hv, rfl, rfl⟩, KD.isSome _ ⟨r1, r2⟩⟩
  | cdS hm => cases rx with
    | str => cases ry with
      | ptr s => obtain ⟨_, kvs, hv, r1, r2⟩ := m.ok _ _ _ s hm; exact ⟨_, _, rfl, .inl ⟨_, .inr _, .inl hv, rfl, rfl⟩, KD.isSome _ ⟨r1, r2⟩⟩
theorem de_din (h : DicD μ2 da db k) (hu : X.A.units + 1 < cLine) (ha : DE X ct Γ μ a da μ1) (hb : DE X ct Γ μ1 b db μ2) (hm : behindInMarks .In b = false := by first | rfl | with_unfolding_all rfl) : DE X ct Γ μ (.Compare a [.In] [b] pos) (.bl k) μ2 :=
  PE.imp (pe_cmp (pc_din hu ha hb) hm) (tOp_D (r := fun x y H Q => ∃ a o, y = .ref a ∧ DGet H a x o ∧ Q (.bl o.isSome) H) fun x y H Q ⟨F, A, m, rx, ry, q⟩ => by
    obtain ⟨a, o, e1, g, e2⟩ := h.get m rx ry
    exact ⟨a, o, e1, g, by rw [e2]; exact q _ H F (.refl _) m (.bl _)⟩)
theorem de_dnin (h : DicD μ2 da db k) (hu : X.A.units + 1 < cLine) (ha : DE X ct Γ μ a da μ1) (hb : DE X ct Γ μ1 b db μ2) (hm : behindInMarks .NotIn b = false := by first | rfl | with_unfolding_all rfl) : DE X ct Γ μ (.Compare a [.NotIn] [b] pos) (.bl (!k)) μ2 :=
  PE.imp (pe_cmp (pc_dnotin hu ha hb) hm) (tOp_D (r := fun x y H Q => ∃ a o, y = .ref a ∧ DGet H a x o ∧ Q (.bl (!o.isSome)) H) fun x y H Q ⟨F, A, m, rx, ry, q⟩ => by
    obtain ⟨a, o, e1, g, e2⟩ := h.get m rx ry
    exact ⟨a, o, e1, g, by rw [e2]; exact q _ H F (.refl _) m (.bl _)⟩)
theorem dt_din (h : DicD μ2 da db k) (hu : X.A.units + 1 < cLine) (ha : DE X ct Γ μ a da μ1) (hb : DE X ct Γ μ1 b db μ2) (hm : behindInMarks .In b = false := by first | rfl | with_unfolding_all rfl) : DT X ct Γ μ (.Compare a [.In] [b] pos) k μ2 :=
  PT.imp (pt_cmp (pc_din hu ha hb) hm) fun σ H Q ⟨F, A, r, q⟩ => show tOp (fun x y H Q => ∃ a o, y = .ref a ∧ DGet H a x o ∧ Q (.bl o.isSome) H) _ _ σ H (fun x H1 => ∃ c, x = .bl c ∧ Q c H1) from tOp_D (d := .bl k) (r := fun x y H Q => ∃ a o, y = .ref a ∧ DGet H a x o ∧ Q (.bl o.isSome) H) (fun x y H Q ⟨F, A, m, rx, ry, q⟩ => by
    obtain ⟨a, o, e1, g, e2⟩ := h.get m rx ry
    exact ⟨a, o, e1, g, by rw [e2]; exact q _ H F (.refl _) m (.bl _)⟩) σ H _ ⟨F, A, r, fun v H' F' A' e p r' h => ⟨k, rep_bl h, q H' F' A' e p r'⟩⟩
theorem dt_dnin (h : DicD μ2 da db k) (hu : X.A.units + 1 < cLine) (ha : DE X ct Γ μ a da μ1) (hb : DE X ct Γ μ1 b db μ2) (hm : behindInMarks .NotIn b = false := by first | rfl | with_unfolding_all rfl) : DT X ct Γ μ (.Compare a [.NotIn] [b] pos) (!k) μ2 :=
  PT.imp (pt_cmp (pc_dnotin hu ha hb) hm) fun σ H Q ⟨F, A, r, q⟩ => show tOp (fun x y H Q => ∃ a o, y = .ref a ∧ DGet H a x o ∧ Q (.bl (!o.isSome)) H) _ _ σ H (fun x H1 => ∃ c, x = .bl c ∧ Q c H1) from tOp_D (d := .bl (!k)) (r := fun x y H Q => ∃ a o, y = .ref a ∧ DGet H a x o ∧ Q (.bl (!o.isSome)) H) (fun x y H Q ⟨F, A, m, rx, ry, q⟩ => by
    obtain ⟨a, o, e1, g, e2⟩ := h.get m rx ry
    exact ⟨a, o, e1, g, by rw [e2]; exact q _ H F (.refl _) m (.bl _)⟩) σ H _ ⟨F, A, r, fun v H' F' A' e p r' h => ⟨!k, rep_bl h, q H' F' A' e p r'⟩⟩

/-! ### arguments, displays -/
theorem da_nil : DA X ct Γ μ [] [] μ := PA.imp pa_nil fun σ H Q ⟨F, A, r, q⟩ => q [] H F A (.refl _) pr r .nil
theorem da_cons (h : DE X ct Γ μ e d μ1) (hr : DA X ct Γ μ1 es ds μ2) (hs : starEach (e :: es) X.env = (false, eval e X.env) :: starEach es X.env := by rfl) : DA X ct Γ μ (e :: es) (d :: ds) μ2 :=
  PA.imp (pa_cons h hr hs) fun σ H Q ⟨F, A, r, q⟩ => ⟨F, A, r, fun v H1 F1 A1 e1 p1 r1 h1 => ⟨F1, A1, r1, fun vs H2 F2 A2 e2 p2 r2 h2 => q _ H2 F2 A2 (e1.trans e2) (p1.trans p2) r2 (.cons (h1.mono e2 p2) h2)⟩⟩
theorem da_star {l : List D} (h : DE X ct Γ μ e d μ1) (hl : isSeq d = some l) (hr : DA X ct Γ μ1 es ds μ2) (hs : starEach (.Starred e p :: es) X.env = (true, eval e X.env) :: starEach es X.env := by rfl) : DA X ct Γ μ (.Starred e p :: es) (l ++ ds) μ2 :=
  PA.imp (StX.pa_star h hr hs) fun σ H Q ⟨F, A, r, q⟩ => ⟨F, A, r, fun v H1 F1 A1 e1 p1 r1 h1 => by
    obtain ⟨a, vs, rfl, s, rr⟩ := rep_seq h1 hl
    exact ⟨a, vs, rfl, s.symm.imp (sqT_sub r1.m.sub) (sqL_sub r1.m.sub), F1, A1, r1, fun ws H2 F2 A2 e2 p2 r2 h2 => q _ H2 F2 A2 (e1.trans e2) (p1.trans p2) r2 ((rr.mono e2 p2).app h2)⟩⟩
theorem da_starM {l : List D} {j : Nat} (h : DE X ct Γ μ e (.ptr j) μ1) (hl : μ1[j]? = some (.lst l)) (hr : DA X ct Γ μ1 es ds μ2) (hs : starEach (.Starred e p :: es) X.env = (true, eval e X.env) :: starEach es X.env := by rfl) : DA X ct Γ μ (.Starred e p :: es) (l ++ ds) μ2 :=
  PA.imp (StX.pa_star h hr hs) fun σ H Q ⟨F, A, r, q⟩ => ⟨F, A, r, fun v H1 F1 A1 e1 p1 r1 h1 => by
    cases h1 with
    | ptr s =>
      obtain ⟨_, vs, hv, rr⟩ := r1.m.ok _ _ _ s hl
      exact ⟨_, vs, rfl, .inr (SqL.of hv), F1, A1, r1, fun ws H2 F2 A2 e2 p2 r2 h2 => q _ H2 F2 A2 (e1.trans e2) (p1.trans p2) r2 ((rr.mono e2 p2).app h2)⟩⟩
theorem de_tup {x1} (h : DA X ct Γ μ es ds μ1) (hz : ds.length ≤ sizeLine) : DE X ct Γ μ (.Tuple es x1 pos) (.tup ds) μ1 :=
  PE.imp (pe_tup h) fun σ H Q ⟨F, A, r, q⟩ => ⟨F, A, r, fun vs H1 F1 A1 e1 p1 r1 h1 => ⟨by rw [h1.len]; exact hz, new_tup r1.m h1 fun v H' F' e' m' h' => q v H' F' A1 (e1.trans e') p1 ⟨m', r1.s.mono e' pr⟩ h'⟩⟩
theorem de_lst (h : DA X ct Γ μ es ds μ1) (hz : ds.length ≤ sizeLine) : DE X ct Γ μ (.List es pos) (.lst ds) μ1 :=
  PE.imp (pe_lst h) fun σ H Q ⟨F, A, r, q⟩ => ⟨F, A, r, fun vs H1 F1 A1 e1 p1 r1 h1 => ⟨by rw [h1.len]; exact hz, new_lst r1.m h1 fun v H' F' e' m' h' => q v H' F' A1 (e1.trans e') p1 ⟨m', r1.s.mono e' pr⟩ h'⟩⟩
/-- a new thing of the store -/
theorem new_cell {K : PySem.W.Frag} {A : List Addr} {H F : Hp} {σ : L2.St} {Q : VK} {p : Addr} {o : HO} {c : Cell} (r : Rl K ct Γ μ σ H F A) (hp : H p = none) (hc : CellOk K ct (A ++ [p]) F (upd H p o) p c)
    (k : ∀ v H' F' A', Le F F' → A <+: A' → Rl K ct Γ (μ ++ [c]) σ H' F' A' → Rep K ct A' F' v (.ptr μ.length) → Q v H') : Q (.ref p) (upd H p o) := by
  refine k _ _ F (A ++ [p]) (.refl _) (List.prefix_append _ _) ⟨r.m.push hp hc, r.s.mono (.refl _) (List.prefix_append _ _)⟩ (.ptr ?_)
  rw [← r.m.len, List.getElem?_append_right (Nat.le_refl _), Nat.sub_self]
  rfl
theorem de_lstM (h : DA X ct Γ μ es ds μ1) (hz : ds.length ≤ sizeLine) : DE X ct Γ μ (.List es pos) (.ptr μ1.length) (μ1 ++ [.lst ds]) :=
  PE.imp (pe_lst h) fun σ H Q ⟨F, A, r, q⟩ => ⟨F, A, r, fun vs H1 F1 A1 e1 p1 r1 h1 => ⟨by rw [h1.len]; exact hz, fun p hp =>
    new_cell (c := .lst ds) r1 hp ⟨r1.m.sub.free hp, vs, upd_same, h1.mono (.refl _) (List.prefix_append _ _)⟩ fun v H' F' A' e' p' r' h' => q v H' F' A' (e1.trans e') (p1.trans p') r' h'⟩⟩
theorem de_dic0 : DE X ct Γ μ (.Dict [] [] pos) (.dic []) μ :=
  PE.imp pe_dnewK fun σ H Q ⟨F, A, r, q⟩ p hp => q _ _ (upd F p (.dK [])) A (r.m.le_grow hp _) pr ⟨r.m.grow hp _, r.s.mono (r.m.le_grow hp _) pr⟩ (.dic (.inl upd_same) rfl .nil)
theorem de_dic0M : DE X ct Γ μ (.Dict [] [] pos) (.ptr μ.length) (μ ++ [.dic []]) :=
  PE.imp pe_dnewK fun σ H Q ⟨F, A, r, q⟩ p hp => new_cell (c := .dic []) r hp ⟨r.m.sub.free hp, [], upd_same, rfl, .nil⟩ q

/-! ### calls of built-ins -/
theorem tCB_D {r : List V → Hp → VK → Prop} (h : ∀ xs H Q, rc X.K ct μ1 ds d xs H Q → r xs H Q) : ∀ σ H Q, tD X.K ct Γ μ d μ1 σ H Q → tCB r (tAs X.K ct Γ μ ds μ1) σ H Q := fun σ H Q ⟨F, A, r, k⟩ =>
  ⟨F, A, r, fun vs H1 F1 A1 e1 p1 r1 h1 => h _ _ _ ⟨F1, A1, r1.m, h1, fun v' H' F' e3 r3 h3 => k v' H' F' A1 (e1.trans e3) p1 ⟨r3, r1.s.mono e3 pr⟩ h3⟩⟩
theorem de_callB {id : String} (hc : C1 X ct (.builtin id) μ1 ds d) (hm : X.mg x = none) (hv : bootBuiltins x = some (.builtin id)) (ha : DA X ct Γ μ (e :: es) ds μ1) (hg : Gl X x := by rfl) (hn : x ≠ "__name__" := by decide) (hdb : (x == ("__debug__" : Str)) = false := by decide)
    (he : starEach (e :: es) X.env = (false, eval e X.env) :: starEach es X.env := by rfl) (hpl : (backTo pos (starEach es X.env)).any (·.1) = false := by rfl) : DE X ct Γ μ (.Call (.Name x p) (e :: es) [] pos) d μ1 :=
  PE.imp (pe_callB hc hg hm hv ha hn hdb he hpl) (tCB_D fun _ _ _ h => h)
theorem de_callT {T : String} (hc : C1 X ct (.type T) μ1 ds d) (hm : X.mg x = none) (hv : bootBuiltins x = some (.type T)) (ha : DA X ct Γ μ (e :: es) ds μ1) (hg : Gl X x := by rfl) (hn : x ≠ "__name__" := by decide) (hdb : (x == ("__debug__" : Str)) = false := by decide)
    (he : starEach (e :: es) X.env = (false, eval e X.env) :: starEach es X.env := by rfl) (hpl : (backTo pos (starEach es X.env)).any (·.1) = false := by rfl) : DE X ct Γ μ (.Call (.Name x p) (e :: es) [] pos) d μ1 :=
  PE.imp (pe_callTy hc hg hm hv ha hn hdb he hpl) (tCB_D fun _ _ _ h => h)
theorem c1_of {f : Value} {r : List V → Hp → VK → Prop} (o : CallR X f r) (h : ∀ (xs : List V) (H F : Hp) (A : List Addr) (Q : VK), Rl0 X.K ct μ H F A → Reps X.K ct A F xs ds →
    (∀ v H' F', Le F F' → Rl0 X.K ct μ H' F' A → Rep X.K ct A F' v d → Q v H') → r xs H Q) : C1 X ct f μ ds d := CallR.imp o fun xs H Q ⟨F, A, m, rx, k⟩ => h xs H F A Q m rx k
theorem reps1 {K : PySem.W.Frag} {A : List Addr} {F : Hp} {xs : List V} (h : Reps K ct A F xs [d]) : ∃ v, xs = [v] ∧ Rep K ct A F v d := by
  cases h with
  | cons h t => cases t; exact ⟨_, rfl, h⟩
theorem reps2 {K : PySem.W.Frag} {A : List Addr} {F : Hp} {xs : List V} (h : Reps K ct A F xs [da, db]) : ∃ v w, xs = [v, w] ∧ Rep K ct A F v da ∧ Rep K ct A F w db := by
  cases h with
  | cons h t => obtain ⟨w, rfl, h2⟩ := reps1 t; exact ⟨_, _, rfl, h, h2⟩
theorem c1_int {i : Int} : C1 X ct (.type "int") μ [.int i] (.int i) := c1_of call_int1 fun xs H F A Q m r k => by
  obtain ⟨v, rfl, h⟩ := reps1 r
  cases h
  exact .inl ⟨i, rfl, k _ H F (.refl _) m (.int i)⟩
theorem c1_abs {i : Int} : C1 X ct (.builtin "abs") μ [.int i] (.int (if i < 0 then -i else i)) := c1_of call_abs fun xs H F A Q m r k => by
  obtain ⟨v, rfl, h⟩ := reps1 r
  cases h
  exact ⟨i, rfl, k _ H F (.refl _) m (.int _)⟩
theorem c1_max {i j : Int} (hc : X.calm = true) : C1 X ct (.builtin "max") μ [.int i, .int j] (.int (max i j)) := c1_of (call_max2 hc) fun xs H F A Q m r k => by
  obtain ⟨v, w, rfl, h, h'⟩ := reps2 r
  cases h; cases h'
  refine ⟨i, j, rfl, ?_⟩
  have e : (if j > i then j else i) = max i j := by split <;> omega
  rw [e]
  exact k _ H F (.refl _) m (.int _)
theorem c1_min {i j : Int} (hc : X.calm = true) : C1 X ct (.builtin "min") μ [.int i, .int j] (.int (min i j)) := c1_of (call_min2 hc) fun xs H F A Q m r k => by
  obtain ⟨v, w, rfl, h, h'⟩ := reps2 r
  cases h; cases h'
  refine ⟨i, j, rfl, ?_⟩
  have e : (if j < i then j else i) = min i j := by split <;> omega
  rw [e]
  exact k _ H F (.refl _) m (.int _)
/-- how long a thing is -/
inductive LenD (μ : Mu) : D → Nat → Prop
  | seq {d : D} {l : List D} (h : isSeq d = some l) : LenD μ d l.length
  | str {s : Str} (h : s.length ≤ sizeLine) : LenD μ (.str s) s.length
  | cell {j : Nat} {l : List D} (h : μ[j]? = some (.lst l)) : LenD μ (.ptr j) l.length
theorem c1_len {n : Nat} (hl : LenD μ da n) : C1 X ct (.builtin "len") μ [da] (.int n) := c1_of call_len fun xs H F A Q m r k => by
  obtain ⟨v, rfl, h⟩ := reps1 r
  refine ⟨v, n, rfl, ?_, k _ H F (.refl _) m (.int _)⟩
  cases hl with
  | seq e =>
    obtain ⟨a, vs, rfl, s, rr⟩ := rep_seq h e
    rcases s with s | s
    · exact .inl ⟨vs, sqL_sub m.sub s, rr.len.symm⟩
    · exact .inr ⟨vs, sqT_sub m.sub s, rr.len.symm⟩
  | str e => cases h; exact ⟨e, rfl⟩
  | cell e => cases h with
    | ptr s => obtain ⟨_, vs, hv, rr⟩ := m.ok _ _ _ s e; exact .inl ⟨vs, SqL.of hv, rr.len.symm⟩
theorem c1_lenD {j : Nat} {l : List (Key × D)} (hm : μ[j]? = some (.dic l)) : C1 X ct (.builtin "len") μ [.ptr j] (.int l.length) := c1_of call_lenD fun xs H F A Q m r k => by
  obtain ⟨v, rfl, h⟩ := reps1 r
  cases h with
  | ptr s =>
    obtain ⟨_, kvs, hv, r1, r2⟩ := m.ok _ _ _ s hm
    exact ⟨_, _, rfl, hv, by rw [show kvs.length = l.length from KD.len ⟨r1, r2⟩]; exact k _ H F (.refl _) m (.int _)⟩
end
end DL

namespace DL
open PySem PySem.Spec PyProof.Rows L2
/-! ### scopes of places -/
mutual
def okD (n : Nat) : D → Bool
  | .ptr k => decide (k < n)
  | .tup l => okDs n l
  | .lst l => okDs n l
  | .scr l => okDs n l
  | .dic l => okKs n l
  | .ins _ l => okFs n l
  | .non => true
  | .bl _ => true
  | .int _ => true
  | .str _ => true
  | .raw _ => true
def okDs (n : Nat) : List D → Bool
  | [] => true
  | d :: l => okD n d && okDs n l
def okKs (n : Nat) : List (Key × D) → Bool
  | [] => true
  | (_, d) :: l => okD n d && okKs n l
def okFs (n : Nat) : List (Str × D) → Bool
  | [] => true
  | (_, d) :: l => okD n d && okFs n l
end
def okC (n : Nat) : Cell → Bool
  | .dead => true
  | .lst l => okDs n l
  | .dic l => okKs n l
  | .ins _ l => okFs n l
def Scoped (μ : Mu) : Prop := ∀ c ∈ μ, okC μ.length c = true
theorem okDs_all (n : Nat) : ∀ l : List D, okDs n l = l.all (okD n)
  | [] => by simp [okDs]
  | d :: l => by simp [okDs, okDs_all n l]
theorem okKs_all (n : Nat) : ∀ l : List (Key × D), okKs n l = l.all fun kv => okD n kv.2
  | [] => by simp [okKs]
  | (_, d) :: l => by simp [okKs, okKs_all n l]
theorem okFs_all (n : Nat) : ∀ l : List (Str × D), okFs n l = l.all fun kv => okD n kv.2
  | [] => by simp [okFs]
  | (_, d) :: l => by simp [okFs, okFs_all n l]
mutual
theorem okD_mono {n m : Nat} (h : n ≤ m) : ∀ d : D, okD n d = true → okD m d = true
  | .ptr k, e => by simp [okD] at e ⊢; omega
  | .tup l, e => by simp only [okD] at e ⊢; exact okDs_mono h l e
  | .lst l, e => by simp only [okD] at e ⊢; exact okDs_mono h l e
  | .scr l, e => by simp only [okD] at e ⊢; exact okDs_mono h l e
  | .dic l, e => by simp only [okD] at e ⊢; exact okKs_mono h l e
  | .ins _ l, e => by simp only [okD] at e ⊢; exact okFs_mono h l e
  | .non, _ => by simp only [okD]
  | .bl _, _ => by simp only [okD]
  | .int _, _ => by simp only [okD]
  | .str _, _ => by simp only [okD]
  | .raw _, _ => by simp only [okD]
theorem okDs_mono {n m : Nat} (h : n ≤ m) : ∀ l : List D, okDs n l = true → okDs m l = true
  | [], _ => by simp only [okDs]
  | d :: l, e => by
    simp only [okDs, Bool.and_eq_true] at e ⊢
    exact ⟨okD_mono h d e.1, okDs_mono h l e.2⟩
theorem okKs_mono {n m : Nat} (h : n ≤ m) : ∀ l : List (Key × D), okKs n l = true → okKs m l = true
  | [], _ => by simp only [okKs]
  | (_, d) :: l, e => by
    simp only [okKs, Bool.and_eq_true] at e ⊢
    exact ⟨okD_mono h d e.1, okKs_mono h l e.2⟩
theorem okFs_mono {n m : Nat} (h : n ≤ m) : ∀ l : List (Str × D), okFs n l = true → okFs m l = true
  | [], _ => by simp only [okFs]
  | (_, d) :: l, e => by
    simp only [okFs, Bool.and_eq_true] at e ⊢
    exact ⟨okD_mono h d e.1, okFs_mono h l e.2⟩
end
theorem okC_mono {n m : Nat} (h : n ≤ m) (c : Cell) (e : okC n c = true) : okC m c = true := by
  cases c with
  | dead => rfl
  | lst l => exact okDs_mono h l e
  | dic l => exact okKs_mono h l e
  | ins n l => exact okFs_mono h l e
theorem Scoped.nil : Scoped [] := fun _ h => by cases h
theorem Scoped.push {μ : Mu} {c : Cell} (h : Scoped μ) (hc : okC (μ.length + 1) c = true) : Scoped (μ ++ [c]) := fun d hd => by
  have e : (μ ++ [c]).length = μ.length + 1 := by simp
  rw [e]
  rcases List.mem_append.mp hd with hd | hd
  · exact okC_mono (Nat.le_succ _) d (h d hd)
  · rw [List.mem_singleton] at hd; subst hd; exact hc
theorem Scoped.set {μ : Mu} {c : Cell} {k : Nat} (h : Scoped μ) (hc : okC μ.length c = true) : Scoped (μ.set k c) := fun d hd => by
  rw [List.length_set]
  rcases List.mem_or_eq_of_mem_set hd with hd | hd
  · exact h d hd
  · subst hd; exact hc
section
variable {K : PySem.W.Frag} {ct : Nat → Addr} {A : List Addr} {F H : Hp} {n : Nat}
theorem take_get {k : Nat} {a : Addr} (h : A[k]? = some a) (hk : k < n) : (A.take n)[k]? = some a := by rw [List.getElem?_take_of_lt hk]; exact h
mutual
theorem Rep.cut : ∀ {v : V} {d : D}, Rep K ct A F v d → okD n d = true → Rep K ct (A.take n) F v d
  | _, _, .non, _ => .non
  | _, _, .bl b, _ => .bl b
  | _, _, .int i, _ => .int i
  | _, _, .str s, _ => .str s
  | _, _, .raw v, _ => .raw v
  | _, _, .tup h r, e => .tup h (Reps.cut r (by simpa only [okD] using e))
  | _, _, .lst h r, e => .lst h (Reps.cut r (by simpa only [okD] using e))
  | _, _, .scr h r, e => .scr h (Reps.cut r (by simpa only [okD] using e))
  | _, _, .dic h k r, e => .dic h k (Reps.cut r (by rw [okD, okKs_all] at e; rw [okDs_all, List.all_map]; exact e))
  | _, _, .ins h k r, e => .ins h k (Reps.cut r (by rw [okD, okFs_all] at e; rw [okDs_all, List.all_map]; exact e))
  | _, _, .ptr h, e => .ptr (take_get h (by simpa [okD] using e))
theorem Reps.cut : ∀ {vs : List V} {ds : List D}, Reps K ct A F vs ds → okDs n ds = true → Reps K ct (A.take n) F vs ds
  | _, _, .nil, _ => .nil
  | _, _, .cons h r, e => by
    simp only [okDs, Bool.and_eq_true] at e
    exact .cons (Rep.cut h e.1) (Reps.cut r e.2)
end
theorem Rl0.cut {μ ex : Mu} (r : Rl0 K ct (μ ++ ex) H F A) (sc : Scoped μ) : Rl0 K ct μ H F (A.take μ.length) where
  sub := r.sub
  len := by have := r.len; rw [List.length_append] at this; rw [List.length_take]; omega
  nd := fun i j a c c' hi hj h1 h2 l1 l2 => by
    have ki : i < μ.length := (List.getElem?_eq_some_iff.mp h1).1
    have kj : j < μ.length := (List.getElem?_eq_some_iff.mp h2).1
    rw [List.getElem?_take_of_lt ki] at hi
    rw [List.getElem?_take_of_lt kj] at hj
    exact r.nd i j a c c' hi hj (by rw [List.getElem?_append_left ki]; exact h1) (by rw [List.getElem?_append_left kj]; exact h2) l1 l2
  there := fun a ha => r.there a (List.mem_of_mem_take ha)
  ok := fun k a c ha hc => by
    have hk : k < μ.length := (List.getElem?_eq_some_iff.mp hc).1
    rw [List.getElem?_take_of_lt hk] at ha
    have h := r.ok k a c ha (by rw [List.getElem?_append_left hk]; exact hc)
    have e := sc c (List.mem_of_getElem? hc)
    cases c with
    | dead => trivial
    | lst l => obtain ⟨f, vs, h1, h2⟩ := h; exact ⟨f, vs, h1, h2.cut e⟩
    | dic l => obtain ⟨f, vs, h1, h2, h3⟩ := h; exact ⟨f, vs, h1, h2, h3.cut (by have e' : okKs μ.length l = true := e; rw [okKs_all] at e'; rw [okDs_all, List.all_map]; exact e')⟩
    | ins n l => obtain ⟨f, dx, vs, h1, h2, h3⟩ := h; exact ⟨f, dx, vs, h1, h2, h3.cut (by have e' : okFs μ.length l = true := e; rw [okFs_all] at e'; rw [okDs_all, List.all_map]; exact e')⟩
end
theorem pre_take {A A' : List Addr} {n : Nat} (h : A <+: A') (hn : A.length ≤ n) : A <+: A'.take n := by
  obtain ⟨t, rfl⟩ := h
  rw [List.take_append, List.take_of_length_le hn]
  exact List.prefix_append _ _

/-! ### what a def does to data -/
inductive Out where
  | val (d : D)
  | exc (n : Nat) (fs : List (Str × D))
abbrev Rf := List D → Mu → Out → Mu → Prop
/-- an exception's own dict -/
def XOk (K : PySem.W.Frag) (ct : Nat → Addr) (A : List Addr) (F H : Hp) (dd : Option Addr) (fs : List (Str × D)) : Prop :=
  fs = [] ∨ ∃ (dx : Addr) (vfs : List (Str × V)), dd = some dx ∧ H dx = some (.xd vfs) ∧ F dx = some (.xd vfs) ∧ vfs.map (·.1) = fs.map (·.1) ∧ Reps K ct A F (vfs.map (·.2)) (fs.map (·.2))
def spD (K : PySem.W.Frag) (ct : Nat → Addr) (R : Rf) : Sp := fun vs H Q E => ∃ F A μ ds o μ', Rl0 K ct μ H F A ∧ Reps K ct A F vs ds ∧ R ds μ o μ' ∧
  match o with
  | .val d => ∀ v H' F' A', Le F F' → A <+: A' → Rl0 K ct μ' H' F' A' → Rep K ct A' F' v d → Q v H'
  | .exc n fs => ∀ dd H' F' A', Le F F' → A <+: A' → Rl0 K ct μ' H' F' A' → XOk K ct A' F' H' dd fs → E (.ref (ct n)) dd H'

/-- behind a statement, over data -/
structure P4 where
  nx : Gm → Mu → Prop := fun _ _ => False
  rt : D → Mu → Prop := fun _ _ => False
  bk : Gm → Mu → Prop := fun _ _ => False
  ct : Gm → Mu → Prop := fun _ _ => False
def tS (K : PySem.W.Frag) (ct : Nat → Addr) (Γ : Gm) (μ : Mu) (P : P4) : TS := fun D σ H => ∃ F A, Rl K ct Γ μ σ H F A ∧
  (∀ Γ' μ' σ' H' F' A', Le F F' → A <+: A' → Rl K ct Γ' μ' σ' H' F' A' → P.nx Γ' μ' → D.nx σ' H') ∧
  (∀ d μ' v H' F' A', Le F F' → A <+: A' → Rl0 K ct μ' H' F' A' → Rep K ct A' F' v d → P.rt d μ' → D.rt v H') ∧
  (∀ Γ' μ' σ' H' F' A', Le F F' → A <+: A' → Rl K ct Γ' μ' σ' H' F' A' → P.bk Γ' μ' → D.bk σ' H') ∧
  (∀ Γ' μ' σ' H' F' A', Le F F' → A <+: A' → Rl K ct Γ' μ' σ' H' F' A' → P.ct Γ' μ' → D.ct σ' H')
abbrev DS (X : Cx) (ct : Nat → Addr) (st : Stmt) (Γ : Gm) (μ : Mu) (P : P4) : Prop := PS X st (tS X.K ct Γ μ P)
abbrev DSs (X : Cx) (ct : Nat → Addr) (sts : List Stmt) (Γ : Gm) (μ : Mu) (P : P4) : Prop := PSs X sts (tS X.K ct Γ μ P)

section
variable {X : Cx} {ct : Nat → Addr} {Γ Γ1 Γ2 : Gm} {μ μ1 μ2 μ3 : Mu} {d da db dc : D} {ds : List D} {e a b c o : Expr} {es : List Expr} {st : Stmt} {rest sa sb : List Stmt} {pos p tp : Pos} {x f m : Str} {k k' : Bool} {P P' : P4}
theorem tS.mono {K : PySem.W.Frag} (h1 : ∀ Γ μ, P.nx Γ μ → P'.nx Γ μ) (h2 : ∀ d μ, P.rt d μ → P'.rt d μ) (h3 : ∀ Γ μ, P.bk Γ μ → P'.bk Γ μ) (h4 : ∀ Γ μ, P.ct Γ μ → P'.ct Γ μ) : ∀ D σ H, tS K ct Γ μ P' D σ H → tS K ct Γ μ P D σ H := fun D σ H ⟨F, A, r, q1, q2, q3, q4⟩ =>
  ⟨F, A, r, fun Γ' μ' σ' H' F' A' e p r' h => q1 Γ' μ' σ' H' F' A' e p r' (h1 _ _ h), fun d μ' v H' F' A' e p r' rr h => q2 d μ' v H' F' A' e p r' rr (h2 _ _ h), fun Γ' μ' σ' H' F' A' e p r' h => q3 Γ' μ' σ' H' F' A' e p r' (h3 _ _ h), fun Γ' μ' σ' H' F' A' e p r' h => q4 Γ' μ' σ' H' F' A' e p r' (h4 _ _ h)⟩
/-- from a later place -/
theorem tS.go {K : PySem.W.Frag} {D : Ends} {σ σ' : L2.St} {H H' F F' : Hp} {A A' : List Addr} (e : Le F F') (p : A <+: A') (r : Rl K ct Γ1 μ1 σ' H' F' A')
    (q1 : ∀ Γ' μ' σ' H' F' A', Le F F' → A <+: A' → Rl K ct Γ' μ' σ' H' F' A' → P.nx Γ' μ' → D.nx σ' H')
    (q2 : ∀ d μ' v H' F' A', Le F F' → A <+: A' → Rl0 K ct μ' H' F' A' → Rep K ct A' F' v d → P.rt d μ' → D.rt v H')
    (q3 : ∀ Γ' μ' σ' H' F' A', Le F F' → A <+: A' → Rl K ct Γ' μ' σ' H' F' A' → P.bk Γ' μ' → D.bk σ' H')
    (q4 : ∀ Γ' μ' σ' H' F' A', Le F F' → A <+: A' → Rl K ct Γ' μ' σ' H' F' A' → P.ct Γ' μ' → D.ct σ' H') : tS K ct Γ1 μ1 P D σ' H' :=
  ⟨F', A', r, fun Γ' μ' σ' H' F2 A2 e2 p2 r' h => q1 Γ' μ' σ' H' F2 A2 (e.trans e2) (p.trans p2) r' h, fun d μ' v H' F2 A2 e2 p2 r' rr h => q2 d μ' v H' F2 A2 (e.trans e2) (p.trans p2) r' rr h,
    fun Γ' μ' σ' H' F2 A2 e2 p2 r' h => q3 Γ' μ' σ' H' F2 A2 (e.trans e2) (p.trans p2) r' h, fun Γ' μ' σ' H' F2 A2 e2 p2 r' h => q4 Γ' μ' σ' H' F2 A2 (e.trans e2) (p.trans p2) r' h⟩
/-- a statement, then the rest from wherever it leads -/
theorem ds_cons (h : DS X ct st Γ μ { P with nx := fun Γ' μ' => DSs X ct rest Γ' μ' P }) : DSs X ct (st :: rest) Γ μ P := by
  have hu : PSs X rest (fun D σ H => ∃ Γ' μ', DSs X ct rest Γ' μ' P ∧ tS X.K ct Γ' μ' P D σ H) := ⟨fun pins s σ H D I ⟨Γ', μ', h, q⟩ => h.run pins s σ H D I q⟩
  refine PSs.imp (pss_cons h hu) fun D σ H ⟨F, A, r, q1, q2, q3, q4⟩ => ?_
  exact ⟨F, A, r, fun Γ' μ' σ' H' F' A' e p r' h => ⟨Γ', μ', h, tS.go (σ := σ) (H := H) e p r' q1 q2 q3 q4⟩, q2, q3, q4⟩
theorem ds_nil (h : P.nx Γ μ) : DSs X ct [] Γ μ P := PSs.imp pss_nil fun D σ H ⟨F, A, r, q1, q2, q3, q4⟩ => q1 Γ μ σ H F A (.refl _) pr r h
theorem ds_imp (h : DSs X ct sa Γ μ P) (h1 : ∀ Γ μ, P.nx Γ μ → P'.nx Γ μ) (h2 : ∀ d μ, P.rt d μ → P'.rt d μ) (h3 : ∀ Γ μ, P.bk Γ μ → P'.bk Γ μ) (h4 : ∀ Γ μ, P.ct Γ μ → P'.ct Γ μ) : DSs X ct sa Γ μ P' := PSs.imp h (tS.mono h1 h2 h3 h4)
theorem ds_ret (h : DE X ct Γ μ e d μ1) (hp : P.rt d μ1) : DSs X ct (.Return (some e) pos :: rest) Γ μ P :=
  ds_cons (PS.imp (ps_ret h) fun D σ H ⟨F, A, r, q1, q2, q3, q4⟩ => ⟨F, A, r, fun v H' F' A' e p r' rr => q2 d μ1 v H' F' A' e p r'.m rr hp⟩)
theorem ds_retN (hp : P.rt .non μ) : DSs X ct (.Return none pos :: rest) Γ μ P :=
  ds_cons (PS.imp ps_retN fun D σ H ⟨F, A, r, q1, q2, q3, q4⟩ => q2 .non μ .non H F A (.refl _) pr r.m .non hp)
theorem ds_pass (hr : DSs X ct rest Γ μ P) : DSs X ct (.Pass pos :: rest) Γ μ P := ds_cons (PS.imp ps_pass fun D σ H ⟨F, A, r, q1, q2, q3, q4⟩ => q1 Γ μ σ H F A (.refl _) pr r hr)
theorem ds_cont (hp : P.ct Γ μ) : DSs X ct (.Continue pos :: rest) Γ μ P := ds_cons (PS.imp ps_continue fun D σ H ⟨F, A, r, q1, q2, q3, q4⟩ => q4 Γ μ σ H F A (.refl _) pr r hp)
theorem ds_brk (hp : P.bk Γ μ) : DSs X ct (.Break pos :: rest) Γ μ P := ds_cons (PS.imp ps_break fun D σ H ⟨F, A, r, q1, q2, q3, q4⟩ => q3 Γ μ σ H F A (.refl _) pr r hp)
theorem ds_expr (h : DE X ct Γ μ e d μ1) (hr : DSs X ct rest Γ μ1 P) (hs : swapsWith e none pos.line X.env = pure false := by rfl) : DSs X ct (.Expr e pos :: rest) Γ μ P :=
  ds_cons (PS.imp (ps_expr h hs) fun D σ H ⟨F, A, r, q1, q2, q3, q4⟩ => ⟨F, A, r, fun v H' F' A' e p r' rr => q1 Γ μ1 σ H' F' A' e p r' hr⟩)
theorem ds_set (i : Nat) (hN : X.N.Nodup) (h : DE X ct Γ μ e d μ1) (hr : DSs X ct rest (Γ.set i (some d)) μ1 P) (hi : X.N[i]? = some x := by rfl) (hx : Loc X.env.scope x := by first | exact Or.inl rfl | exact Or.inr rfl)
    (hs : swapsWith e (some (.Name x p)) pos.line X.env = pure false := by rfl) (hf : X.fn x = true ∨ X.env.scope.names.lookup x = some .local := by first | exact .inl rfl | exact .inr rfl) : DSs X ct (.Assign [.Name x p] e pos :: rest) Γ μ P :=
  ds_cons (PS.imp (ps_set hN hi hx h hs hf) fun D σ H ⟨F, A, r, q1, q2, q3, q4⟩ => ⟨F, A, r, fun v H' F' A' e p r' rr => q1 _ μ1 _ H' F' A' e p ⟨r'.m, r'.s.set rr i⟩ hr⟩)
theorem ds_if (hc : DT X ct Γ μ c k μ1) (h1 : k = true → DSs X ct sa Γ μ1 { P with nx := fun Γ' μ' => DSs X ct rest Γ' μ' P }) (h2 : k = false → DSs X ct sb Γ μ1 { P with nx := fun Γ' μ' => DSs X ct rest Γ' μ' P }) : DSs X ct (.If c sa sb pos :: rest) Γ μ P := by
  refine ds_cons ?_
  cases k with
  | true =>
    refine PS.imp (ps_if hc (h1 rfl) pss_never) fun D σ H ⟨F, A, r, q1, q2, q3, q4⟩ => ⟨F, A, r, fun H' F' A' e p r' => ?_⟩
    exact iteT (tS.go (σ := σ) (H := H) e p r' q1 q2 q3 q4)
  | false =>
    refine PS.imp (ps_if hc pss_never (h2 rfl)) fun D σ H ⟨F, A, r, q1, q2, q3, q4⟩ => ⟨F, A, r, fun H' F' A' e p r' => ?_⟩
    exact iteF (tS.go (σ := σ) (H := H) e p r' q1 q2 q3 q4)
/-- less is known of the slots -/
theorem ds_less (g : GLe Γ1 Γ) (h : DSs X ct sa Γ1 μ P) : DSs X ct sa Γ μ P := PSs.imp h fun D σ H ⟨F, A, r, q1, q2, q3, q4⟩ => ⟨F, A, ⟨r.m, r.s.less g⟩, q1, q2, q3, q4⟩
/-- a place of the store is frozen -/
theorem freeze {K : PySem.W.Frag} {H F : Hp} {A : List Addr} {j : Nat} {a : Addr} {u : HO} (r : Rl0 K ct μ H F A) (ha : A[j]? = some a) (hu : H a = some u) (hf : F a = none) (hm : unmark u = u) {c0 : Cell} (h0 : μ[j]? = some c0) (l0 : c0 ≠ .dead) : Le F (upd F a u) ∧ Rl0 K ct (μ.set j .dead) H (upd F a u) A := by
  have le : Le F (upd F a u) := .new hf
  refine ⟨le, ⟨fun b o e => ?_, by simp [r.len], fun i i' b c c' hi hi' h1 h2 l1 l2 => ?_, r.there, fun i b c hb hc => ?_⟩⟩
  · by_cases h : b = a
    · subst h; rw [upd_same] at e; cases e; rw [hm]; exact hu
    · rw [upd_ne h] at e; exact r.sub b o e
  · have key : ∀ (n : Nat) (c' : Cell), (μ.set j .dead)[n]? = some c' → c' ≠ .dead → μ[n]? = some c' := fun n c' hn hl => by
      by_cases e : n = j
      · subst e
        rw [List.getElem?_set_self (List.getElem?_eq_some_iff.mp h0).1] at hn
        cases hn; exact absurd rfl hl
      · rw [List.getElem?_set_ne (Ne.symm e)] at hn; exact hn
    exact r.nd i i' b c c' hi hi' (key i c h1 l1) (key i' c' h2 l2) l1 l2
  · by_cases h : i = j
    · subst h
      rw [List.getElem?_set_self (by rw [← r.len]; exact (List.getElem?_eq_some_iff.mp ha).1)] at hc
      cases hc
      trivial
    · rw [List.getElem?_set_ne (Ne.symm h)] at hc
      by_cases hd : c = .dead
      · subst hd; trivial
      have ne : b ≠ a := fun e => by
        subst e
        exact h (r.nd i j b c c0 hb ha hc h0 hd l0)
      exact (r.ok i b c hb hc).mono le pr (fun f => by rw [upd_ne ne]; exact f) fun o h _ => h
/-- a cell as frozen data -/
def frozen : Cell → Option D
  | .dead => none
  | .lst l => some (.lst l)
  | .dic l => some (.dic l)
  | .ins n l => some (.ins n l)
theorem freeze_rep {K : PySem.W.Frag} {H F : Hp} {A : List Addr} {j : Nat} {a : Addr} {cl : Cell} (r : Rl0 K ct μ H F A) (ha : A[j]? = some a) (hc : μ[j]? = some cl) (hd : frozen cl = some d) :
    ∃ u, H a = some u ∧ F a = none ∧ unmark u = u ∧ cl ≠ .dead ∧ Rep K ct A (upd F a u) (.ref a) d := by
  have h := r.ok j a cl ha hc
  cases cl with
  | dead => cases hd
  | lst l => obtain ⟨f, vs, h1, h2⟩ := h; cases hd; exact ⟨_, h1, f, rfl, by simp, .lst upd_same (h2.mono (.new f) pr)⟩
  | dic l => obtain ⟨f, vs, h1, h2, h3⟩ := h; cases hd; exact ⟨_, h1, f, rfl, by simp, .dic (.inl upd_same) h2 (h3.mono (.new f) pr)⟩
  | ins n l => obtain ⟨f, dx, vs, h1, h2, h3⟩ := h; cases hd; exact ⟨_, h1, f, rfl, by simp, .ins upd_same h2 (h3.mono (.new f) pr)⟩
theorem ds_freeze (i : Nat) {j : Nat} {cl : Cell} (hi : Γ[i]? = some (some (.ptr j))) (hc : μ[j]? = some cl) (hd : frozen cl = some d) (h : DSs X ct sa (Γ.set i (some d)) (μ.set j .dead) P) : DSs X ct sa Γ μ P :=
  PSs.imp h fun D σ H ⟨F, A, r, q1, q2, q3, q4⟩ => by
    obtain ⟨v, hv, rv⟩ := r.s.get hi
    cases rv with
    | @ptr a _ ha =>
      obtain ⟨u, hu, hf, hm, hl, rep⟩ := freeze_rep r.m ha hc hd
      obtain ⟨le, r'⟩ := freeze r.m ha hu hf hm hc hl
      have e : σ.set i (some (.ref a)) = σ := by
        apply List.ext_getElem?
        intro n
        by_cases hn : n = i
        · subst hn
          rw [List.getElem?_set_self (List.getElem?_eq_some_iff.mp hv).1, hv]
        · rw [List.getElem?_set_ne (Ne.symm hn)]
      have s := (r.s.mono le pr).set rep i
      rw [e] at s
      exact tS.go (σ := σ) (H := H) le pr ⟨r', s⟩ q1 q2 q3 q4

/-! ### calls of defs -/
structure Fn (P : Program) (w : World) (K : PySem.W.Frag) (mg : Str → Option Value) (base : Heap) (ct : Nat → Addr) (x : Str) (k : Nat) (R : Rf) : Prop where
  ex : ∃ (CX : CXT) (f : Addr) (fd : FuncData) (ps : List Str) (dvs : List V) (dus : List Value) (dds : List D), FnOk P w K mg base CX k f fd ps (spD K ct fun ds μ o μ' => ∃ ds', ds = ds' ++ dds ∧ R ds' μ o μ') ∧ mg x = some (.ref f) ∧ PySem.W.keepIn K (.ref f) = true ∧ Binds K fd ps dus ∧ Vals dvs dus ∧
    (∀ A F, Reps K ct A F dvs dds) ∧ ∀ X : Cx, X.prog = P → X.w = w → Passes CX X E0
theorem tCall_D {K : PySem.W.Frag} {dvs : List V} {dds : List D} {R : Rf} {t : TA} (hd : ∀ A F, Reps K ct A F dvs dds) (h : R ds μ1 (.val d) μ2) :
    ∀ σ H Q, tD K ct Γ μ d μ2 σ H Q → (∀ Q', tAs K ct Γ μ ds μ1 σ H Q' → t σ H Q') → tCall (spD K ct fun ds μ o μ' => ∃ ds', ds = ds' ++ dds ∧ R ds' μ o μ') dvs E0 t σ H Q := fun σ H Q ⟨F, A, r, q⟩ ht =>
  ht _ ⟨F, A, r, fun vs H1 F1 A1 e1 p1 r1 h1 => ⟨F1, A1, μ1, ds ++ dds, .val d, μ2, r1.m, h1.app (hd A1 F1), ⟨ds, rfl, h⟩, fun v H2 F2 A2 e2 p2 r2 h2 => q v H2 F2 A2 (e1.trans e2) (p1.trans p2) ⟨r2, r1.s.mono e2 p2⟩ h2⟩⟩
theorem de_call {kk : Nat} {R : Rf} (G : Fn X.prog X.w X.K X.mg X.base ct x kk R) (hr : Room kk X.A) (ha : DA X ct Γ μ (e :: es) ds μ1) (h : R ds μ1 (.val d) μ2) (hg : Gl X x := by rfl)
    (hdb : (x == ("__debug__" : Str)) = false := by decide) (he : starEach (e :: es) X.env = (false, eval e X.env) :: starEach es X.env := by rfl) (hpl : (backTo pos (starEach es X.env)).any (·.1) = false := by rfl) : DE X ct Γ μ (.Call (.Name x p) (e :: es) [] pos) d μ2 := by
  obtain ⟨CX, f, fd, ps, dvs, dus, dds, F, hm, hk, hb, hv, hd, hx⟩ := G.ex
  exact PE.imp (pe_call F hr hg hm hk hb hv (hx X rfl rfl) ha hdb he hpl) fun σ H Q q => tCall_D hd h σ H Q q fun Q' z => z
theorem de_call0 {kk : Nat} {R : Rf} (G : Fn X.prog X.w X.K X.mg X.base ct x kk R) (hr : Room kk X.A) (h : R [] μ (.val d) μ2) (hg : Gl X x := by rfl) (hdb : (x == ("__debug__" : Str)) = false := by decide) : DE X ct Γ μ (.Call (.Name x p) [] [] pos) d μ2 := by
  obtain ⟨CX, f, fd, ps, dvs, dus, dds, F, hm, hk, hb, hv, hd, hx⟩ := G.ex
  exact PE.imp (pe_call0 F hr hg hm hk hb hv (hx X rfl rfl) hdb) fun σ H Q q => tCall_D (μ1 := μ) (ds := []) hd h σ H Q q fun Q' ⟨F, A, r, z⟩ => z [] H F A (.refl _) pr r .nil
/-- a method of the class at ct n -/
structure Me (P : Program) (w : World) (K : PySem.W.Frag) (mg : Str → Option Value) (base : Heap) (ct : Nat → Addr) (n : Nat) (m : Str) (k : Nat) (R : Rf) : Prop where
  cl : Cls K (ct n)
  ex : ∃ (CX : CXT) (f : Addr) (fd : FuncData) (ps : List Str), FnOk P w K mg base CX k f fd ps (spD K ct R) ∧ Meth K (ct n) m f ∧ Binds K fd ps [] ∧ ∀ X : Cx, X.prog = P → X.w = w → Passes CX X E0
/-- the receiver's place: frozen, or in the store -/
inductive RecD (μ : Mu) : D → Nat → List (Str × D) → Prop
  | ins {n : Nat} {fs : List (Str × D)} : RecD μ (.ins n fs) n fs
  | cell {j n : Nat} {fs : List (Str × D)} (h : μ[j]? = some (.ins n fs)) : RecD μ (.ptr j) n fs
theorem look_none : ∀ {vfs : List (Str × V)} {fs : List (Str × D)} {f : Str}, vfs.map (·.1) = fs.map (·.1) → fs.lookup f = none → vfs.lookup f = none
  | [], _, _, _, _ => rfl
  | _ :: _, [], _, h, _ => by simp at h
  | (a, v) :: vfs, (b, e) :: fs, f, h, l => by
    simp only [List.map_cons, List.cons.injEq] at h
    obtain ⟨rfl, h2⟩ := h
    by_cases hf : (f == a) = true
    · simp only [List.lookup, hf] at l; cases l
    · have hf' : (f == a) = false := by simpa using hf
      simp only [List.lookup, hf'] at l ⊢
      exact look_none h2 l
theorem RecD.get {K : PySem.W.Frag} {H F : Hp} {A : List Addr} {v : V} {n : Nat} {fs : List (Str × D)} (h : RecD μ d n fs) (r : Rl0 K ct μ H F A) (rv : Rep K ct A F v d) : ∃ a dx vfs, v = .ref a ∧ H a = some (.ins (ct n) dx vfs) ∧ vfs.map (·.1) = fs.map (·.1) := by
  cases h with
  | ins => cases rv with
    | ins h1 h2 h3 => exact ⟨_, _, _, rfl, r.sub _ _ h1, h2⟩
  | cell hm => cases rv with
    | ptr s => obtain ⟨_, dx, vfs, h2, h3, h4⟩ := r.ok _ _ _ s hm; exact ⟨_, dx, vfs, rfl, h2, h3⟩
theorem tMeth_D {K : PySem.W.Frag} {R : Rf} {t : TA} {n : Nat} {fs : List (Str × D)} (hrec : RecD μ1 da n fs) (hl : fs.lookup m = none) (h : R (da :: ds) μ2 (.val d) μ3) :
    ∀ σ H Q, tD K ct Γ μ d μ3 σ H Q → (∀ σ H Q', tAs K ct Γ μ1 ds μ2 σ H Q' → t σ H Q') → tMeth (ct n) m (spD K ct R) [] E0 (tD K ct Γ μ da μ1) t σ H Q := fun σ H Q ⟨F, A, r, q⟩ ht =>
  ⟨F, A, r, fun v H1 F1 A1 e1 p1 r1 h1 => by
    obtain ⟨a, dx, vfs, rfl, h2, h3⟩ := hrec.get r1.m h1
    refine ⟨a, dx, vfs, rfl, h2, look_none h3 hl, ht _ _ _ ⟨F1, A1, r1, fun vs H2 F2 A2 e2 p2 r2 hv => ?_⟩⟩
    show spD K ct R (V.ref a :: (vs ++ [])) H2 Q E0
    rw [List.append_nil]
    exact ⟨F2, A2, μ2, da :: ds, .val d, μ3, r2.m, .cons (h1.mono e2 p2) hv, h, fun v H3 F3 A3 e3 p3 r3 h3 => q v H3 F3 A3 (e1.trans (e2.trans e3)) (p1.trans (p2.trans p3)) ⟨r3, r2.s.mono e3 p3⟩ h3⟩⟩
theorem de_meth {kk n : Nat} {R : Rf} {fs : List (Str × D)} {apos : Pos} {pl : Sem Bool} (G : Me X.prog X.w X.K X.mg X.base ct n m kk R) (hr : Room kk X.A) (ho : DE X ct Γ μ o da μ1) (hrec : RecD μ1 da n fs) (hl : fs.lookup m = none) (ha : DA X ct Γ μ1 (e :: es) ds μ2) (h : R (da :: ds) μ2 (.val d) μ3)
    (hst : starEach (e :: es) X.env = (false, eval e X.env) :: starEach es X.env := by rfl) (hpl : (backTo pos (starEach es X.env)).any (·.1) = false := by rfl)
    (ht : eval (.Call (.Attribute o m apos) (e :: es) [] pos) X.env = (do
      let ov ← eval o X.env
      standAt apos.atName
      let (f, first) ← holding [ov] (getMethod ov m pl)
      callWith pos f first (backTo pos (starEach (e :: es) X.env)) (backToKw pos (keywordEach [] X.env))) := by rfl) : DE X ct Γ μ (.Call (.Attribute o m apos) (e :: es) [] pos) d μ3 := by
  obtain ⟨CX, f, fd, ps, F, hm, hb, hx⟩ := G.ex
  exact PE.imp (pe_meth ho G.cl hm F hr hb .nil (hx X rfl rfl) ha hst hpl ht) fun σ H Q q => tMeth_D hrec hl h σ H Q q fun σ H Q' z => z
theorem de_meth0 {kk n : Nat} {R : Rf} {fs : List (Str × D)} {apos : Pos} {pl : Sem Bool} (G : Me X.prog X.w X.K X.mg X.base ct n m kk R) (hr : Room kk X.A) (ho : DE X ct Γ μ o da μ1) (hrec : RecD μ1 da n fs) (hl : fs.lookup m = none) (h : R [da] μ1 (.val d) μ3)
    (ht : eval (.Call (.Attribute o m apos) [] [] pos) X.env = (do
      let ov ← eval o X.env
      standAt apos.atName
      let (f, first) ← holding [ov] (getMethod ov m pl)
      callWith pos f first (backTo pos (starEach [] X.env)) (backToKw pos (keywordEach [] X.env))) := by rfl) : DE X ct Γ μ (.Call (.Attribute o m apos) [] [] pos) d μ3 := by
  obtain ⟨CX, f, fd, ps, F, hm, hb, hx⟩ := G.ex
  exact PE.imp (pe_meth0 ho G.cl hm F hr hb .nil (hx X rfl rfl) ht) fun σ H Q q => tMeth_D (μ2 := μ1) (ds := []) hrec hl h σ H Q q fun σ H Q' ⟨F, A, r, z⟩ => z [] H F A (.refl _) pr r .nil
/-- a new instance: its __init__ fills the fresh place -/
structure Mkr (P : Program) (w : World) (K : PySem.W.Frag) (mg : Str → Option Value) (base : Heap) (ct : Nat → Addr) (n : Nat) (x : Str) (k : Nat) (I : List D → Mu → List (Str × D) → Mu → Prop) : Prop where
  ex : ∃ (CX : CXT) (f : Addr) (fd : FuncData) (ps : List Str) (dvs : List V) (dus : List Value) (dds : List D),
    FnOk P w K mg base CX k f fd ps (spD K ct fun ds μ o μ' => ∃ as fs μ0 μ1, μ = μ0 ++ [.ins n []] ∧ ds = .ptr μ0.length :: (as ++ dds) ∧ I as μ0 fs μ1 ∧ o = .val .non ∧ μ' = μ0 ++ [.ins n fs] ++ μ1) ∧ Mk K (ct n) f ∧ mg x = some (.ref (ct n)) ∧ Binds K fd ps dus ∧ Vals dvs dus ∧
    (∀ A F, Reps K ct A F dvs dds) ∧ ∀ X : Cx, X.prog = P → X.w = w → Passes CX X E0
theorem tMake_D {K : PySem.W.Frag} {n : Nat} {I : List D → Mu → List (Str × D) → Mu → Prop} {dvs : List V} {dds : List D} {t : TA} {fs : List (Str × D)} (hd : ∀ A F, Reps K ct A F dvs dds) (h : I ds μ1 fs μ2) :
    ∀ σ H Q, tD K ct Γ μ (.ptr μ1.length) (μ1 ++ [.ins n fs] ++ μ2) σ H Q → (∀ Q', tAs K ct Γ μ ds μ1 σ H Q' → t σ H Q') →
      tMake (ct n) (spD K ct fun ds μ o μ' => ∃ as fs μ0 μ1, μ = μ0 ++ [.ins n []] ∧ ds = .ptr μ0.length :: (as ++ dds) ∧ I as μ0 fs μ1 ∧ o = .val .non ∧ μ' = μ0 ++ [.ins n fs] ++ μ1) dvs E0 t σ H Q := fun σ H Q ⟨F, A, r, q⟩ ht =>
  ht _ ⟨F, A, r, fun vs H1 F1 A1 e1 p1 r1 h1 y dx ny nd ne => by
    have ny2 : upd H1 dx (.own y) y = none := by rw [upd_ne (Ne.symm ne)]; exact ny
    have g1 := r1.m.grow nd (.own y)
    have le1 : Le F1 (upd F1 dx (.own y)) := r1.m.le_grow nd _
    have g2 := g1.push (o := .ins (ct n) dx []) (c := .ins n []) ny2 ⟨g1.sub.free ny2, dx, [], upd_same, rfl, .nil⟩
    refine ⟨_, _, μ1 ++ [.ins n []], .ptr μ1.length :: (ds ++ dds), .val .non, _, g2, .cons (.ptr ?_) ((h1.mono le1 (List.prefix_append _ _)).app (hd _ _)), ⟨ds, fs, μ1, μ2, rfl, rfl, h, rfl, rfl⟩, fun v H2 F2 A2 e2 p2 r2 h2 => ⟨by cases h2; rfl, q _ H2 F2 A2 (e1.trans (le1.trans e2)) (p1.trans ((List.prefix_append _ _).trans p2)) ⟨r2, r1.s.mono (le1.trans e2) ((List.prefix_append _ _).trans p2)⟩ (.ptr ?_)⟩⟩
    · rw [← r1.m.len, List.getElem?_append_right (Nat.le_refl _), Nat.sub_self]; rfl
    · refine pre_get p2 ?_
      rw [← r1.m.len, List.getElem?_append_right (Nat.le_refl _), Nat.sub_self]; rfl⟩
theorem de_makeM {kk n : Nat} {I : List D → Mu → List (Str × D) → Mu → Prop} {fs : List (Str × D)} (G : Mkr X.prog X.w X.K X.mg X.base ct n x kk I) (hr : Room (kk + 1) X.A) (ha : DA X ct Γ μ (e :: es) ds μ1) (h : I ds μ1 fs μ2) (hg : Gl X x := by rfl)
    (hdb : (x == ("__debug__" : Str)) = false := by decide) (he : starEach (e :: es) X.env = (false, eval e X.env) :: starEach es X.env := by rfl) (hpl : (backTo pos (starEach es X.env)).any (·.1) = false := by rfl) : DE X ct Γ μ (.Call (.Name x p) (e :: es) [] pos) (.ptr μ1.length) (μ1 ++ [.ins n fs] ++ μ2) := by
  obtain ⟨CX, f, fd, ps, dvs, dus, dds, F, hM, hm, hb, hv, hd, hx⟩ := G.ex
  exact PE.imp (pe_make hM F hr hg hm hb hv (hx X rfl rfl) ha hdb he hpl) fun σ H Q q => tMake_D hd h σ H Q q fun Q' z => z
theorem de_make0M {kk n : Nat} {I : List D → Mu → List (Str × D) → Mu → Prop} {fs : List (Str × D)} (G : Mkr X.prog X.w X.K X.mg X.base ct n x kk I) (hr : Room (kk + 1) X.A) (h : I [] μ fs μ2) (hg : Gl X x := by rfl)
    (hdb : (x == ("__debug__" : Str)) = false := by decide) : DE X ct Γ μ (.Call (.Name x p) [] [] pos) (.ptr μ.length) (μ ++ [.ins n fs] ++ μ2) := by
  obtain ⟨CX, f, fd, ps, dvs, dus, dds, F, hM, hm, hb, hv, hd, hx⟩ := G.ex
  exact PE.imp (pe_make0 hM F hr hg hm hb hv (hx X rfl rfl) hdb) fun σ H Q q => tMake_D (μ1 := μ) (ds := []) hd h σ H Q q fun Q' ⟨F, A, r, z⟩ => z [] H F A (.refl _) pr r .nil
theorem Slots.cut {K : PySem.W.Frag} {F : Hp} {A : List Addr} {n : Nat} {σ : L2.St} (s : Slots K ct A F Γ σ) (h : ∀ d' ∈ Γ, ∀ d'', d' = some d'' → okD n d'' = true) : Slots K ct (A.take n) F Γ σ := by
  induction s with
  | nil => exact .nil
  | any _ ih => exact .any (ih fun d' hd' => h d' (List.mem_cons_of_mem _ hd'))
  | cons h' _ ih => exact .cons (h'.cut (h _ List.mem_cons_self _ rfl)) (ih fun d' hd' => h d' (List.mem_cons_of_mem _ hd'))
/-- the last thing of the store, which is the value, is frozen and leaves the store -/
theorem de_fz {cl : Cell} (h : DE X ct Γ μ e (.ptr μ1.length) (μ1 ++ [cl])) (hd : frozen cl = some d) (sc : Scoped μ1) (so : okD μ1.length d = true) (hΓ : ∀ d' ∈ Γ, ∀ d'', d' = some d'' → okD μ1.length d'' = true) (hl : μ.length ≤ μ1.length) : DE X ct Γ μ e d μ1 := by
  refine PE.imp h fun σ H Q ⟨F, A, r, q⟩ => ⟨F, A, r, fun v H' F' A' e' p' r' h' => ?_⟩
  cases h' with
  | ptr ha =>
    obtain ⟨u, hu, hf, hm, hl', rep⟩ := freeze_rep r'.m ha (List.getElem?_concat_length ..) hd
    obtain ⟨le, r2⟩ := freeze r'.m ha hu hf hm (List.getElem?_concat_length ..) hl'
    rw [List.set_append_right _ _ (Nat.le_refl _), Nat.sub_self] at r2
    have r3 := Rl0.cut r2 sc
    refine q _ H' _ _ (e'.trans le) (pre_take p' (by rw [r.m.len]; exact hl)) ⟨r3, ?_⟩ (rep.cut so)
    exact (r'.s.mono le pr).cut hΓ
end
/-! ### a def keeps its promise -/
section
variable {P : Program} {w : World} {K : PySem.W.Frag} {mg : Str → Option Value} {base : Heap} {ct : Nat → Addr}
/-- how a body ends -/
def Ended (n : Nat) (d : D) (μ' : Mu) (d2 : D) (μ2 : Mu) : Prop := d2 = d ∧ (μ2 = μ' ∨ (n ≤ μ'.length ∧ okD μ'.length d = true ∧ Scoped μ' ∧ ∃ ex, μ2 = μ' ++ ex))
theorem ended_go {K : PySem.W.Frag} {F F' H' : Hp} {A A' : List Addr} {μ' μ2 : Mu} {d d2 : D} {v : V} {Q : VK} {n : Nat} (q : ∀ v H' F' A', Le F F' → A <+: A' → Rl0 K ct μ' H' F' A' → Rep K ct A' F' v d → Q v H') (e : Le F F') (p : A <+: A') (r : Rl0 K ct μ2 H' F' A') (h : Rep K ct A' F' v d2) (hn : A.length = n) (z : Ended n d μ' d2 μ2) : Q v H' := by
  obtain ⟨rfl, z⟩ := z
  rcases z with rfl | ⟨h1, h2, h3, ex, rfl⟩
  · exact q v H' F' A' e p r h
  · exact q v H' F' _ e (pre_take p (by rw [hn]; exact h1)) (Rl0.cut r h3) (h.cut h2)
theorem fn_okD {x qual : Str} {st : Stmt} {f : Addr} {fd : FuncData} {N ps : List Str} {k : Nat} {R : Rf} (F : Fun K x qual st f fd) (S : FnScope N ps (defScope st)) (hl : ∀ ds μ o μ', R ds μ o μ' → ds.length = ps.length)
    (hbody : ∀ (cdv : Value) (A : Around) (outer : List Env) (s : Shared) (H : Hp) (E : XK) (ds : List D) (μ : Mu) (o : Out) (μ' : Mu), Room k (A.deeper (envOfC qual (defScope st) s.heap.objs.size f cdv)) → R ds μ o μ' →
      ∃ d, o = .val d ∧ DSs (cxOf CX0 P w K mg base N qual (defScope st) f cdv A outer s H E).nox ct (defBody st) (ds.map some ++ List.replicate (N.length - ds.length) none) μ
        { nx := fun _ μ2 => Ended μ.length d μ' .non μ2, rt := fun d2 μ2 => Ended μ.length d μ' d2 μ2 }) : FnOk P w K mg base CX0 (k + 1) f fd ps (spD K ct R) := by
  refine F.ok S (fun vs H Q E ⟨F, A, μ, ds, o, μ', r, rs, h, _⟩ => by rw [rs.len]; exact hl _ _ _ _ h) fun cdv A outer s H vs Q E hr ⟨F, A', μ, ds, o, μ', r, rs, h, q⟩ => ?_
  obtain ⟨d, rfl, hb⟩ := hbody cdv A outer s H E ds μ o μ' hr h
  refine ⟨_, hb, F, A', ⟨r, ?_⟩, fun Γ2 μ2 σ2 H2 F2 A2 e2 p2 r2 z => ended_go q e2 p2 r2.m .non r.len z, fun d2 μ2 v H2 F2 A2 e2 p2 r2 h2 z => ended_go q e2 p2 r2 h2 r.len z, fun _ _ _ _ _ _ _ _ _ z => z.elim, fun _ _ _ _ _ _ _ _ _ z => z.elim⟩
  unfold L2.start
  rw [rs.len]
  exact Slots.start _ rs
end
end DL

namespace DL
open PySem PySem.Spec PyProof.Rows L2
/-! ### targets: which slots get what -/
def setS (σ : L2.St) : List (Nat × V) → L2.St
  | [] => σ
  | (i, v) :: l => setS (σ.set i (some v)) l
def setG (Γ : Gm) : List (Nat × D) → Gm
  | [] => Γ
  | (i, d) :: l => setG (Γ.set i (some d)) l
theorem setS_app (σ : L2.St) : ∀ l m : List (Nat × V), setS σ (l ++ m) = setS (setS σ l) m
  | [], m => rfl
  | (i, v) :: l, m => setS_app (σ.set i (some v)) l m
section
variable {K : PySem.W.Frag} {ct : Nat → Addr} {A : List Addr} {F : Hp}
theorem Slots.setS : ∀ {l : List (Nat × D)} {vs : List V} {Γ : Gm} {σ : L2.St}, Reps K ct A F vs (l.map (·.2)) → Slots K ct A F Γ σ → Slots K ct A F (setG Γ l) (DL.setS σ ((l.map (·.1)).zip vs))
  | [], _, _, _, _, s => by simpa [DL.setS, setG] using s
  | (i, d) :: l, _, Γ, σ, r, s => by
    simp only [List.map_cons] at r
    cases r with
    | cons h t => exact Slots.setS (l := l) t (s.set h i)
theorem wipe_set (σ : L2.St) (i : Nat) (o : Option V) : ∀ {vs : List Nat}, i ∈ vs → wipe (σ.set i o) vs = wipe σ vs
  | [], h => by cases h
  | v :: vs, h => by
    unfold wipe
    by_cases hi : i ∈ vs
    · rw [wipe_set σ i o hi]
    · rcases List.mem_cons.mp h with e | e
      · subst e
        have : ∀ (ws : List Nat) (σ : L2.St), i ∉ ws → wipe (σ.set i o) ws = (wipe σ ws).set i o := by
          intro ws
          induction ws with
          | nil => intro σ _; rfl
          | cons w ws ih =>
            intro σ hw
            unfold wipe
            rw [ih σ (fun z => hw (List.mem_cons_of_mem _ z)), List.set_comm]
            intro z; subst z; exact hw List.mem_cons_self
        rw [this vs σ hi, List.set_set]
      · exact absurd e hi
theorem wipe_get {σ : L2.St} {i : Nat} : ∀ {vs : List Nat}, i ∈ vs → i < σ.length → (wipe σ vs)[i]? = some none
  | v :: vs, h, hi => by
    unfold wipe
    by_cases e : v = i
    · subst e
      rw [List.getElem?_set_self (by rw [wipe_length]; exact hi)]
    · rw [List.getElem?_set_ne e]
      exact wipe_get ((List.mem_cons.mp h).resolve_left (Ne.symm e)) hi
theorem wipe_out {σ : L2.St} {i : Nat} : ∀ {vs : List Nat}, i ∉ vs → (wipe σ vs)[i]? = σ[i]?
  | [], _ => rfl
  | v :: vs, h => by
    unfold wipe
    rw [List.getElem?_set_ne (by intro e; subst e; exact h List.mem_cons_self)]
    exact wipe_out fun z => h (List.mem_cons_of_mem _ z)
theorem wipe_wipe (σ : L2.St) (vs : List Nat) : wipe (wipe σ vs) vs = wipe σ vs := by
  apply List.ext_getElem?
  intro i
  by_cases h : i ∈ vs
  · by_cases hi : i < σ.length
    · rw [wipe_get h (by rw [wipe_length]; exact hi), wipe_get h hi]
    · rw [List.getElem?_eq_none (by rw [wipe_length, wipe_length]; omega), List.getElem?_eq_none (by rw [wipe_length]; omega)]
  · rw [wipe_out h]
theorem wipe_setS {vs : List Nat} : ∀ {l : List (Nat × V)} {σ : L2.St}, (∀ p ∈ l, p.1 ∈ vs) → wipe (DL.setS σ l) vs = wipe σ vs
  | [], _, _ => rfl
  | (i, v) :: l, σ, h => by
    show wipe (DL.setS (σ.set i (some v)) l) vs = _
    rw [wipe_setS (l := l) fun p hp => h p (List.mem_cons_of_mem _ hp), wipe_set σ i _ (h (i, v) List.mem_cons_self)]
end
def tG (K : PySem.W.Frag) (ct : Nat → Addr) (d : D) (l : List (Nat × D)) : TG := fun v σ H Q => ∃ F A μ, Rl0 K ct μ H F A ∧ Rep K ct A F v d ∧ ∀ vs, Reps K ct A F vs (l.map (·.2)) → Q (setS σ ((l.map (·.1)).zip vs)) H
def tGs (K : PySem.W.Frag) (ct : Nat → Addr) (ds : List D) (l : List (Nat × D)) : TGs := fun vs σ H Q => ∃ F A μ, Rl0 K ct μ H F A ∧ Reps K ct A F vs ds ∧ ∀ ws, Reps K ct A F ws (l.map (·.2)) → Q (setS σ ((l.map (·.1)).zip ws)) H
abbrev DG (X : Cx) (ct : Nat → Addr) (tg : Expr) (d : D) (l : List (Nat × D)) : Prop := PG X tg (tG X.K ct d l)
abbrev DGs (X : Cx) (ct : Nat → Addr) (tgs : List Expr) (ds : List D) (l : List (Nat × D)) : Prop := PGs X tgs (tGs X.K ct ds l)
section
variable {X : Cx} {ct : Nat → Addr} {Γ Γ1 Γ2 : Gm} {μ μ1 μ2 μ3 : Mu} {d da db dc : D} {ds xs : List D} {e a b c o tg elt iter : Expr} {es tgs : List Expr} {st : Stmt} {rest sa sb body : List Stmt} {pos p tp : Pos} {x f m : Str} {k k' : Bool} {P P' : P4} {l l1 l2 : List (Nat × D)}
theorem PG.imp {t t' : TG} (h : PG X tg t) (k : ∀ v σ H Q, t' v σ H Q → t v σ H Q) : PG X tg t' := ⟨fun pins s σ H v u Q I r q => h.run pins s σ H v u Q I r (k v σ H Q q)⟩
theorem PGs.imp {t t' : TGs} (h : PGs X tgs t) (k : ∀ v σ H Q, t' v σ H Q → t v σ H Q) : PGs X tgs t' := ⟨fun pins s σ H v u Q I r q => h.run pins s σ H v u Q I r (k v σ H Q q)⟩
theorem PI.imp {t t' : TI} (h : PI X tg iter t) (k : ∀ σ H R, t' σ H R → t σ H R) : PI X tg iter t' := ⟨fun pins s σ H R I q => h.run pins s σ H R I (k σ H R q)⟩
theorem dg_name (i : Nat) (hN : X.N.Nodup) (hi : X.N[i]? = some x := by rfl) (hx : Loc X.env.scope x := by first | exact Or.inl rfl | exact Or.inr rfl) (hf : X.fn x = true ∨ X.env.scope.names.lookup x = some .local := by first | exact .inl rfl | exact .inr rfl) : DG X ct (.Name x p) d [(i, d)] :=
  PG.imp (pg_name hN hi hx hf) fun v σ H Q ⟨F, A, μ, r, rep, q⟩ => q [v] (.cons rep .nil)
theorem dgs_nil : DGs X ct [] [] [] := PGs.imp pgs_nil fun v σ H Q ⟨F, A, μ, r, rep, q⟩ => by cases rep; exact ⟨rfl, q [] .nil⟩
theorem dgs_cons (h : DG X ct e d l1) (hr : DGs X ct es ds l2) (hs : (assignEach (e :: es) X.env).map (·.2) = assign e X.env :: (assignEach es X.env).map (·.2) := by rfl) : DGs X ct (e :: es) (d :: ds) (l1 ++ l2) :=
  PGs.imp (pgs_cons h hr hs) fun v σ H Q ⟨F, A, μ, r, rep, q⟩ => by
    cases rep with
    | cons h1 h2 =>
      refine ⟨_, _, rfl, F, A, μ, r, h1, fun vs hv => ⟨F, A, μ, r, h2, fun ws hw => ?_⟩⟩
      have := q (vs ++ ws) (by rw [List.map_append]; exact hv.app hw)
      rw [List.map_append, List.zip_append (by have := hv.len; simp at this; simp [this]), setS_app] at this
      exact this
theorem dg_tup {kk : Nat} {n : Nat} (hc : X.calm = true) (h : DGs X ct es ds l) (hz : ds.length = n := by rfl) (hn : (assignEach es X.env).length = n := by rfl) (hst : (assignEach es X.env).findIdx? (·.1) = none := by rfl) : DG X ct (.Tuple es kk pos) (.tup ds) l :=
  PG.imp (pg_tup hc h hn hst) fun v σ H Q ⟨F, A, μ, r, rep, q⟩ => by
    cases rep with
    | tup h1 h2 => exact ⟨_, _, rfl, sqT_sub r.sub h1, by rw [h2.len]; exact hz, F, A, μ, r, h2, q⟩
theorem ds_asg (he : DE X ct Γ μ e d μ1) (hg : DG X ct tg d l) (hr : DSs X ct rest (setG Γ l) μ1 P) (hs : swapsWithSole [tg] e pos.line X.env = pure false := by rfl) (hw : swappedStores [tg] e X.env = pure none := by rfl)
    (h1 : (assignEach [tg] X.env).map (·.2) = [assign tg X.env] := by rfl) : DSs X ct (.Assign [tg] e pos :: rest) Γ μ P :=
  ds_cons (PS.imp (ps_asg he hg hs hw h1) fun D σ H ⟨F, A, r, q1, q2, q3, q4⟩ => ⟨F, A, r, fun v H' F' A' e p r' rr => ⟨F', A', μ1, r'.m, rr, fun vs hv => q1 _ μ1 _ H' F' A' e p ⟨r'.m, r'.s.setS hv⟩ hr⟩⟩)
theorem ds_par (i j : Nat) {y : Str} {px py pt : Pos} {kt k2 pt2} (hc : X.calm = true) (hN : X.N.Nodup) (ha : DA X ct Γ μ [a, b] [da, db] μ1) (hr : DSs X ct rest ((Γ.set i (some da)).set j (some db)) μ1 P) (hi : X.N[i]? = some x := by rfl) (hj : X.N[j]? = some y := by rfl) (hij : i ≠ j := by decide)
    (hx : X.env.scope.names.lookup x = some .local := by rfl) (hy : X.env.scope.names.lookup y = some .local := by rfl)
    (hw : swappedStores [.Tuple [.Name x px, .Name y py] kt pt] (.Tuple [a, b] k2 pt2) X.env = pure (some [x, y]) := by rfl)
    (hs : swapsWithSole [.Tuple [.Name x px, .Name y py] kt pt] (.Tuple [a, b] k2 pt2) pos.line X.env = pure false := by rfl) : DSs X ct (.Assign [.Tuple [.Name x px, .Name y py] kt pt] (.Tuple [a, b] k2 pt2) pos :: rest) Γ μ P :=
  ds_cons (PS.imp (ps_par hc hN hi hj hij hx hy ha hw hs) fun D σ H ⟨F, A, r, q1, q2, q3, q4⟩ => ⟨F, A, r, fun vs H' F' A' e p r' rr => by
    obtain ⟨v, w, rfl, h1, h2⟩ := reps2 rr
    exact ⟨v, w, rfl, q1 _ μ1 _ H' F' A' e p ⟨r'.m, (r'.s.set h1 i).set h2 j⟩ hr⟩⟩)

/-! ### what is walked -/
structure WalkD (K : PySem.W.Frag) (ct : Nat → Addr) (J : It) (xs : List D) (F1 : Hp) (A1 : List Addr) : Prop where
  goes : ∀ (i : Nat) (H F : Hp), i < xs.length → Le F1 F → Sub F H → J.go i H
  stops : ∀ (H F : Hp), Le F1 F → Sub F H → J.stop xs.length H
  yields : ∀ (i : Nat) (H F : Hp) (A : List Addr) (μ : Mu) (v : V) (H' : Hp) (d : D), xs[i]? = some d → Le F1 F → A1 <+: A → Rl0 K ct μ H F A → J.yld i H v H' → ∃ F', Le F F' ∧ Rl0 K ct μ H' F' A ∧ Rep K ct A F' v d
def tI (K : PySem.W.Frag) (ct : Nat → Addr) (Γ : Gm) (μ : Mu) (xs : List D) (μ1 : Mu) : TI := fun σ H R => ∃ F A, Rl K ct Γ μ σ H F A ∧ ∀ J H1 F1 A1, Le F F1 → A <+: A1 → Rl K ct Γ μ1 σ H1 F1 A1 → WalkD K ct J xs F1 A1 → xs.length ≤ sizeLine → R J H1
abbrev DI (X : Cx) (ct : Nat → Addr) (tg iter : Expr) (Γ : Gm) (μ : Mu) (xs : List D) (μ1 : Mu) : Prop := PI X tg iter (tI X.K ct Γ μ xs μ1)
/-- sequences are never longer than the line -/
theorem PE.bd {t : TE} (h : PE X e t) : PE X e (fun σ H Q => t σ H fun v H' => (∀ a xs, SqL X.K H' a xs ∨ SqT X.K H' a xs → xs.length ≤ sizeLine) → Q v H') :=
  ⟨fun pins s σ H Q I q => thn (h.run pins s σ H _ I q) fun u s' ⟨v, H', I', r, q'⟩ => ⟨v, H', I', r, q' fun a xs z => by
    rcases z with z | z
    · obtain ⟨_, _, _, hz⟩ := I'.list z; exact hz
    · obtain ⟨_, _, _, hz⟩ := I'.tuple z; exact hz⟩⟩
theorem PA.bd {t : TA} (h : PA X es t) : PA X es (fun σ H Q => t σ H fun v H' => (∀ a xs, SqL X.K H' a xs ∨ SqT X.K H' a xs → xs.length ≤ sizeLine) → Q v H') :=
  ⟨fun pos pins s σ H Q I q => thn (h.run pos pins s σ H _ I q) fun u s' ⟨v, H', I', r, q'⟩ => ⟨v, H', I', r, q' fun a xs z => by
    rcases z with z | z
    · obtain ⟨_, _, _, hz⟩ := I'.list z; exact hz
    · obtain ⟨_, _, _, hz⟩ := I'.tuple z; exact hz⟩⟩
theorem walkD_list {K : PySem.W.Frag} {ad : Addr} {vs : List V} {F1 : Hp} {A1 : List Addr} (s : SqL K F1 ad vs) (r : Reps K ct A1 F1 vs xs) : WalkD K ct (Itl K ad) xs F1 A1 where
  goes := fun i H F hi e sb => ⟨vs, vs[i]'(by rw [r.len]; exact hi), sqL_sub sb (e.l s), by simp [r.len, hi]⟩
  stops := fun H F e sb => ⟨vs, sqL_sub sb (e.l s), Nat.le_of_eq r.len⟩
  yields := fun i H F A μ v H' d hd e p m y => by
    obtain ⟨rfl, y⟩ := y
    obtain ⟨w, hw, rw'⟩ := r.get hd
    have := y vs (sqL_sub m.sub (e.l s))
    rw [hw] at this
    cases this
    exact ⟨F, .refl _, m, rw'.mono e p⟩
theorem walkD_tup {K : PySem.W.Frag} {ad : Addr} {vs : List V} {F1 : Hp} {A1 : List Addr} (s : SqT K F1 ad vs) (r : Reps K ct A1 F1 vs xs) : WalkD K ct (Itt K ad) xs F1 A1 where
  goes := fun i H F hi e sb => ⟨vs, vs[i]'(by rw [r.len]; exact hi), sqT_sub sb (e.t s), by simp [r.len, hi]⟩
  stops := fun H F e sb => ⟨vs, sqT_sub sb (e.t s), Nat.le_of_eq r.len⟩
  yields := fun i H F A μ v H' d hd e p m y => by
    obtain ⟨rfl, y⟩ := y
    obtain ⟨w, hw, rw'⟩ := r.get hd
    have := y vs (sqT_sub m.sub (e.t s))
    rw [hw] at this
    cases this
    exact ⟨F, .refl _, m, rw'.mono e p⟩
theorem di_seq (h : DE X ct Γ μ e d μ1) (hd : isSeq d = some xs) : DI X ct tg e Γ μ xs μ1 := by
  have go : (∃ l, d = .tup l) ∨ ¬ ∃ l, d = .tup l := Classical.em _
  rcases go with ⟨l, rfl⟩ | no
  · cases hd
    refine PI.imp (pi_tup (PE.bd h)) fun σ H R ⟨F, A, r, q⟩ => ⟨F, A, r, fun v H' F' A' e p r' rr bd => ?_⟩
    cases rr with
    | tup s rs =>
      have s' := sqT_sub r'.m.sub s
      exact ⟨_, rfl, ⟨_, s'⟩, q _ H' F' A' e p r' (walkD_tup s rs) (by rw [← rs.len]; exact bd _ _ (.inr s'))⟩
  · refine PI.imp (pi_list (PE.bd h)) fun σ H R ⟨F, A, r, q⟩ => ⟨F, A, r, fun v H' F' A' e p r' rr bd => ?_⟩
    cases rr <;> simp [isSeq] at hd
    case tup s rs => exact absurd ⟨_, rfl⟩ no
    case lst s rs =>
      subst hd
      exact ⟨_, rfl, ⟨_, SqL.of (r'.m.sub _ _ s)⟩, q _ H' F' A' e p r' (walkD_list (SqL.of s) rs) (by rw [← rs.len]; exact bd _ _ (.inl (SqL.of (r'.m.sub _ _ s))))⟩
    case scr s rs =>
      subst hd
      exact ⟨_, rfl, ⟨_, sqL_sub r'.m.sub s⟩, q _ H' F' A' e p r' (walkD_list s rs) (by rw [← rs.len]; exact bd _ _ (.inl (sqL_sub r'.m.sub s)))⟩
/-- lo, lo + 1, .. -/
def upto (lo : Int) (n : Nat) : List D := (List.range n).map fun i => D.int (lo + (i : Nat))
theorem upto_len (lo : Int) (n : Nat) : (upto lo n).length = n := by simp [upto]
theorem upto_get {lo : Int} {n i : Nat} {d : D} (h : (upto lo n)[i]? = some d) : i < n ∧ d = .int (lo + (i : Nat)) := by
  unfold upto at h
  rw [List.getElem?_map] at h
  by_cases hi : i < n
  · rw [List.getElem?_range hi] at h
    simp at h
    exact ⟨hi, h.symm⟩
  · rw [List.getElem?_eq_none (by simpa using hi)] at h
    simp at h
theorem walkD_range {K : PySem.W.Frag} {lo : Int} {n : Nat} {F1 : Hp} {A1 : List Addr} : WalkD K ct (Itr lo n) (upto lo n) F1 A1 where
  goes := fun i H F hi e sb => by rw [upto_len] at hi; exact hi
  stops := fun H F e sb => by rw [upto_len]; exact Nat.le_refl n
  yields := fun i H F A μ v H' d hd e p m y => by
    obtain ⟨rfl, rfl⟩ := y
    obtain ⟨_, rfl⟩ := upto_get hd
    exact ⟨F, .refl _, m, .int _⟩
theorem di_range1 {n : Int} (hm : X.mg "range" = none) (ha : DA X ct Γ μ [a] [.int n] μ1) (h1 : -(2 ^ 62) ≤ n) (h2 : n ≤ 16777216) (hg : Gl X "range" := by rfl) (hs : starEach [a] X.env = [(false, eval a X.env)] := by rfl) : DI X ct tg (.Call (.Name "range" p) [a] [] pos) Γ μ (upto 0 n.toNat) μ1 :=
  PI.imp (pi_range1 hg hm ha hs) fun σ H R ⟨F, A, r, q⟩ => ⟨F, A, r, fun v H' F' A' e p r' rr => by
    obtain ⟨w, rfl, h⟩ := reps1 rr
    cases h
    exact ⟨n, rfl, h1, by omega, q _ H' F' A' e p r' walkD_range (by rw [upto_len, sizeLine_eq]; omega)⟩⟩
theorem di_range2 {lo n : Int} (hm : X.mg "range" = none) (ha : DA X ct Γ μ [a, b] [.int lo, .int n] μ1) (h0 : -(2 ^ 62) ≤ lo) (h0' : lo < 2 ^ 62) (h1 : -(2 ^ 62) ≤ n) (h1' : n < 2 ^ 62) (h2 : n - lo ≤ 16777216) (hg : Gl X "range" := by rfl) (hs : starEach [a, b] X.env = [(false, eval a X.env), (false, eval b X.env)] := by rfl) (hs2 : starEach [b] X.env = [(false, eval b X.env)] := by rfl) : DI X ct tg (.Call (.Name "range" p) [a, b] [] pos) Γ μ (upto lo (n - lo).toNat) μ1 :=
  PI.imp (pi_range2 hg hm ha hs hs2) fun σ H R ⟨F, A, r, q⟩ => ⟨F, A, r, fun v H' F' A' e p r' rr => by
    obtain ⟨w, w', rfl, h, h'⟩ := reps2 rr
    cases h; cases h'
    exact ⟨lo, n, rfl, ⟨h0, h0', h1, h1'⟩, q _ H' F' A' e p r' walkD_range (by rw [upto_len, sizeLine_eq]; omega)⟩⟩
/-- enumerate -/
def enumD (l : List D) : List D := (List.range l.length).map fun i => D.tup [.int (i : Nat), l.getD i .non]
theorem enumD_len (l : List D) : (enumD l).length = l.length := by simp [enumD]
theorem enumD_get {l : List D} {i : Nat} {d : D} (h : (enumD l)[i]? = some d) : ∃ y, l[i]? = some y ∧ d = .tup [.int (i : Nat), y] := by
  unfold enumD at h
  rw [List.getElem?_map] at h
  by_cases hi : i < l.length
  · rw [List.getElem?_range hi] at h
    simp at h
    exact ⟨l[i], by simp [hi], by rw [← h]; simp [hi]⟩
  · rw [List.getElem?_eq_none (by simpa using hi)] at h
    simp at h
theorem walkD_enum {K : PySem.W.Frag} {ad : Addr} {vs : List V} {F1 : Hp} {A1 : List Addr} (s : SqL K F1 ad vs) (r : Reps K ct A1 F1 vs xs) : WalkD K ct (Ite K ad) (enumD xs) F1 A1 where
  goes := fun i H F hi e sb => by
    rw [enumD_len, ← r.len] at hi
    exact ⟨vs, vs[i], sqL_sub sb (e.l s), by simp [hi]⟩
  stops := fun H F e sb => ⟨vs, sqL_sub sb (e.l s), by rw [enumD_len, r.len]; exact Nat.le_refl _⟩
  yields := fun i H F A μ v H' d hd e p m y => by
    obtain ⟨T, x, rfl, hT, rfl, hx⟩ := y
    obtain ⟨y, hy, rfl⟩ := enumD_get hd
    obtain ⟨w, hw, rw'⟩ := r.get hy
    have := hx vs (sqL_sub m.sub (e.l s))
    rw [hw] at this
    cases this
    exact ⟨_, m.le_grow hT _, m.grow hT _, .tup (SqT.of upd_same) (.cons (.int _) (.cons (rw'.mono (e.trans (m.le_grow hT _)) p) .nil))⟩
theorem di_enumL {tpos : Pos} {elts : List Expr} {kk : Nat} (hm : X.mg "enumerate" = none) (h : DA X ct Γ μ [e] [d] μ1) (hd : d = .lst xs ∨ d = .scr xs) (hg : Gl X "enumerate" := by rfl) (hs : starEach [e] X.env = [(false, eval e X.env)] := by rfl) :
    DI X ct (.Tuple elts kk tpos) (.Call (.Name "enumerate" p) [e] [] pos) Γ μ (enumD xs) μ1 :=
  PI.imp (pi_enum hg hm (PA.bd h) hs) fun σ H R ⟨F, A, r, q⟩ => ⟨F, A, r, fun v H' F' A' e p r' rr bd => by
    obtain ⟨w, rfl, h⟩ := reps1 rr
    rcases hd with rfl | rfl
    · cases h with
      | lst s rs => exact ⟨_, _, rfl, SqL.of (r'.m.sub _ _ s), q _ H' F' A' e p r' (walkD_enum (SqL.of s) rs) (by rw [enumD_len, ← rs.len]; exact bd _ _ (.inl (SqL.of (r'.m.sub _ _ s))))⟩
    · cases h with
      | scr s rs => exact ⟨_, _, rfl, sqL_sub r'.m.sub s, q _ H' F' A' e p r' (walkD_enum s rs) (by rw [enumD_len, ← rs.len]; exact bd _ _ (.inl (sqL_sub r'.m.sub s)))⟩⟩

/-! ### for -/
theorem GLe.refl : ∀ Γ : Gm, GLe Γ Γ
  | [] => .nil
  | none :: Γ => .any (GLe.refl Γ)
  | some d :: Γ => .cons (GLe.refl Γ)
/-- any target, any body that has a reading -/
def gAny (X : Cx) (tg : Expr) : TG := fun v σ H Q => ∃ t, PG X tg t ∧ t v σ H Q
def sAny (X : Cx) (body : List Stmt) : TS := fun D σ H => ∃ t, PSs X body t ∧ t D σ H
theorem pg_any : PG X tg (gAny X tg) := ⟨fun pins s σ H v u Q I r ⟨t, h, q⟩ => h.run pins s σ H v u Q I r q⟩
theorem pss_any : PSs X body (sAny X body) := ⟨fun pins s σ H D I ⟨t, h, q⟩ => h.run pins s σ H D I q⟩
theorem tFor_D {wi : TI} {D : Ends} {σ : L2.St} {H F : Hp} {A : List Addr} (hwi : ∀ R, (∀ J H1 F1 A1, Le F F1 → A <+: A1 → Rl X.K ct Γ μ1 σ H1 F1 A1 → WalkD X.K ct J xs F1 A1 → xs.length ≤ sizeLine → R J H1) → wi σ H R)
    (I : Nat → Gm → Mu → Prop) (h0 : ∃ Γ0, GLe Γ0 Γ ∧ I 0 Γ0 μ1)
    (hs : ∀ i d Γ' μ', xs[i]? = some d → I i Γ' μ' → xs.length ≤ sizeLine → ∃ l, DG X ct tg d l ∧ DSs X ct body (setG Γ' l) μ' { nx := fun Γ μ => ∃ Γ0, GLe Γ0 Γ ∧ I (i + 1) Γ0 μ, ct := fun Γ μ => ∃ Γ0, GLe Γ0 Γ ∧ I (i + 1) Γ0 μ, bk := P.nx, rt := P.rt })
    (hd : ∀ Γ' μ', I xs.length Γ' μ' → P.nx Γ' μ')
    (q1 : ∀ Γ' μ' σ' H' F' A', Le F F' → A <+: A' → Rl X.K ct Γ' μ' σ' H' F' A' → P.nx Γ' μ' → D.nx σ' H')
    (q2 : ∀ d μ' v H' F' A', Le F F' → A <+: A' → Rl0 X.K ct μ' H' F' A' → Rep X.K ct A' F' v d → P.rt d μ' → D.rt v H') : tFor wi (gAny X tg) (sAny X body) D σ H := by
  refine hwi _ fun J H1 F1 A1 e1 p1 r1 wd hz => ?_
  refine ⟨fun i m σ H => ∃ Γ' μ' F A, i + m = xs.length ∧ Le F1 F ∧ A1 <+: A ∧ Rl X.K ct Γ' μ' σ H F A ∧ I i Γ' μ', ⟨xs.length, ?_⟩, ?_⟩
  · obtain ⟨Γ0, g, h⟩ := h0
    exact ⟨Γ0, μ1, F1, A1, Nat.zero_add _, .refl _, pr, ⟨r1.m, r1.s.less g⟩, h⟩
  · rintro i m σ' H' ⟨Γ', μ', F', A', hm, e', p', r', hI⟩
    cases m with
    | zero =>
      have : i = xs.length := by omega
      subst this
      exact .inl ⟨wd.stops H' F' e' r'.m.sub, q1 Γ' μ' σ' H' F' A' (e1.trans e') (p1.trans p') r' (hd Γ' μ' hI)⟩
    | succ m =>
      refine .inr ⟨wd.goes i H' F' (by omega) e' r'.m.sub, _, fun σ2 H2 z => ⟨m, Nat.lt_succ_self m, z⟩, fun v H2 hy => ?_⟩
      have hx : xs[i]? = some (xs[i]'(by omega)) := by simp
      obtain ⟨F2, e2, m2, rv⟩ := wd.yields i H' F' A' μ' v H2 _ hx e' p' r'.m hy
      obtain ⟨l, hG, hS⟩ := hs i _ Γ' μ' hx hI hz
      refine ⟨_, hG, F2, A', μ', m2, rv, fun vs hv => ⟨_, hS, F2, A', ⟨m2, (r'.s.mono e2 pr).setS hv⟩, ?_, ?_, ?_, ?_⟩⟩
      · rintro Γ3 μ3 σ3 H3 F3 A3 e3 p3 r3 ⟨Γ0, g, h⟩
        exact ⟨Γ0, μ3, F3, A3, by omega, e'.trans (e2.trans e3), p'.trans p3, ⟨r3.m, r3.s.less g⟩, h⟩
      · exact fun d3 μ3 v3 H3 F3 A3 e3 p3 r3 rr h => q2 d3 μ3 v3 H3 F3 A3 (e1.trans (e'.trans (e2.trans e3))) (p1.trans (p'.trans p3)) r3 rr h
      · exact fun Γ3 μ3 σ3 H3 F3 A3 e3 p3 r3 h => q1 Γ3 μ3 σ3 H3 F3 A3 (e1.trans (e'.trans (e2.trans e3))) (p1.trans (p'.trans p3)) r3 h
      · rintro Γ3 μ3 σ3 H3 F3 A3 e3 p3 r3 ⟨Γ0, g, h⟩
        exact ⟨Γ0, μ3, F3, A3, by omega, e'.trans (e2.trans e3), p'.trans p3, ⟨r3.m, r3.s.less g⟩, h⟩
theorem ds_for (hp : PassesOwn (model X.prog X.w) X.A X.env X.xe) (hc : X.calm = true) (hi : DI X ct tg iter Γ μ xs μ1) (I : Nat → Gm → Mu → Prop) (h0 : ∃ Γ0, GLe Γ0 Γ ∧ I 0 Γ0 μ1)
    (hs : ∀ i d Γ' μ', xs[i]? = some d → I i Γ' μ' → xs.length ≤ sizeLine → ∃ l, DG X ct tg d l ∧ DSs X ct body (setG Γ' l) μ' { nx := fun Γ μ => ∃ Γ0, GLe Γ0 Γ ∧ I (i + 1) Γ0 μ, ct := fun Γ μ => ∃ Γ0, GLe Γ0 Γ ∧ I (i + 1) Γ0 μ, bk := fun Γ μ => DSs X ct rest Γ μ P, rt := P.rt })
    (hd : ∀ Γ' μ', I xs.length Γ' μ' → DSs X ct rest Γ' μ' P) (hfs : ∀ x, foldedSetIterable iter X.env x = pure x := by intro _; rfl) : DSs X ct (.For tg iter body [] pos :: rest) Γ μ P :=
  ds_cons (PS.imp (ps_for hp hc hi pg_any pss_any hfs) fun D σ H ⟨F, A, r, q1, q2, q3, q4⟩ =>
    tFor_D (P := { P with nx := fun Γ μ => DSs X ct rest Γ μ P }) (fun R k => ⟨F, A, r, k⟩) I h0 hs hd q1 q2)

/-! ### comprehensions -/
/-- the context of a comprehension's block -/
abbrev Bk (X : Cx) (scope : Scope) (s : Shared) (H : Hp) (C : Addr) (cl : List (Str × Addr)) (fp : List Addr) : Cx := X.blk s H scope (compEnvC scope cl C X.env) fp
abbrev DTs (X : Cx) (ct : Nat → Addr) (ifs : List Expr) (Γ : Gm) (μ : Mu) (k : Bool) (μ' : Mu) : Prop := PTs X ifs (tT X.K ct Γ μ k μ')
theorem PTs.imp {ifs : List Expr} {t t' : TT} (h : PTs X ifs t) (k : ∀ σ H Q, t' σ H Q → t σ H Q) : PTs X ifs t' := ⟨fun pins s σ H Q I q => h.run pins s σ H Q I (k σ H Q q)⟩
theorem dts_nil : DTs X ct [] Γ μ true μ := PTs.imp pts_nil fun σ H Q ⟨F, A, r, q⟩ => q H F A (.refl _) pr r
theorem dts_one (h : DT X ct Γ μ c k μ1) : DTs X ct [c] Γ μ k μ1 := pts_one h
theorem tLc_D {K : PySem.W.Frag} {vs : List Nat} {g : TG} {tt : TT} {te : TE} {res : List D} (I : Nat → List D → Mu → Prop) (h0 : I 0 [] μ1)
    (hs : ∀ i d acc μ', xs[i]? = some d → I i acc μ' → ∃ l k μ2, (∀ p ∈ l, p.1 ∈ vs) ∧ (∀ v σ H Q, tG K ct d l v σ H Q → g v σ H Q) ∧ (∀ σ H Q, tT K ct (setG (wipeG Γ vs) l) μ' k μ2 σ H Q → tt σ H Q) ∧
      (k = true → ∃ y μ3, (∀ σ H Q, tD K ct (setG (wipeG Γ vs) l) μ2 y μ3 σ H Q → te σ H Q) ∧ I (i + 1) (acc ++ [y]) μ3) ∧ (k = false → I (i + 1) acc μ2))
    (hl : ∀ i acc μ', I i acc μ' → acc.length ≤ i) (hd : ∀ acc μ', I xs.length acc μ' → acc = res ∧ μ' = μ2) {wi : TI} {σ : L2.St} {H F : Hp} {A : List Addr} {Q : VK} (hwi : ∀ R, (∀ J H1 F1 A1, Le F F1 → A <+: A1 → Rl K ct Γ μ1 σ H1 F1 A1 → WalkD K ct J xs F1 A1 → xs.length ≤ sizeLine → R J H1) → wi σ H R)
    (q : ∀ v H' F' A', Le F F' → A <+: A' → Rl K ct Γ μ2 σ H' F' A' → Rep K ct A' F' v (.lst res) → Q v H') : tLc wi g tt te vs σ H Q :=
  hwi _ fun J H1 F1 A1 e1 p1 r1 wd hz D0 hD => by
    -- the list at D0 is marked: it stays as it is while the block runs, and no datum leans on it
    refine ⟨fun i m H => ∃ (acc : List D) (vacc : List V) (μ' : Mu) (F : Hp) (A : List Addr), i + m = xs.length ∧ (∀ a o, F1 a = some o → F a = some o) ∧ A1 <+: A ∧ Rl K ct Γ μ' σ H F A ∧ F D0 = some (mark (.lst vacc)) ∧ Reps K ct A F vacc acc ∧ I i acc μ', ⟨xs.length, ?_⟩, ?_⟩
    · have nA : D0 ∉ A1 := fun z => by obtain ⟨o, ho⟩ := r1.m.there _ z; rw [hD] at ho; cases ho
      have fD := r1.m.sub.free hD
      refine ⟨[], [], μ1, upd F1 D0 (mark (.lst [])), A1, Nat.zero_add _, Le.new fD, pr, ⟨⟨fun a o h => ?_, r1.m.len, r1.m.nd, fun a ha => ?_, fun k a c ha hc => ?_⟩, r1.s.mono (.new fD) pr⟩, upd_same, .nil, h0⟩
      · by_cases ha : a = D0
        · subst ha; rw [upd_same] at h ⊢; cases h; rfl
        · rw [upd_ne ha] at h ⊢; exact r1.m.sub a o h
      · obtain ⟨o, ho⟩ := r1.m.there a ha
        exact ⟨o, by rw [upd_ne (ne_of_none ho hD)]; exact ho⟩
      · have ne : a ≠ D0 := fun z => nA (z ▸ List.mem_of_getElem? ha)
        exact (r1.m.ok k a c ha hc).mono (.new fD) pr (fun f => by rw [upd_ne ne]; exact f) fun o ho _ => by rw [upd_ne ne]; exact ho
    · rintro i m H' ⟨acc, vacc, μ', F', A', hm, e', p', r', fD, rv, hI⟩
      have hv : H' D0 = some (.lst vacc) := r'.m.sub _ _ fD
      cases m with
      | zero =>
        have : i = xs.length := by omega
        subst this
        obtain ⟨rfl, rfl⟩ := hd acc μ' hI
        have le : LeR F' (upd F' D0 (.lst vacc)) := .remark fD
        have le1 : Le F1 (upd F' D0 (.lst vacc)) := fun a o h => by rw [upd_ne (ne_of_none h (r1.m.sub.free hD))]; exact e' a o h
        refine .inl ⟨wd.stops H' F' e' r'.m.sub, q _ H' (upd F' D0 (.lst vacc)) A' (e1.trans le1) (p1.trans p') ⟨⟨fun a o h => ?_, r'.m.len, r'.m.nd, r'.m.there, fun k a c ha hc => ?_⟩, r'.s.monoR le pr⟩ (.lst upd_same (rv.monoR le pr))⟩
        · by_cases ha : a = D0
          · subst ha; rw [upd_same] at h; cases h; exact hv
          · rw [upd_ne ha] at h; exact r'.m.sub a o h
        · by_cases hd' : c = .dead
          · subst hd'; trivial
          have ne : a ≠ D0 := r'.m.ne ha hc hd' fD
          exact (r'.m.ok k a c ha hc).monoR le pr (fun f => by rw [upd_ne ne]; exact f) fun o ho _ => ho
      | succ m =>
        refine .inr ⟨wd.goes i H' F' (by omega) e' r'.m.sub, _, fun H2 z => ⟨m, Nat.lt_succ_self m, z⟩, fun v H2 hy => ?_⟩
        have hx : xs[i]? = some (xs[i]'(by omega)) := by simp
        obtain ⟨F2, e2, m2, rx⟩ := wd.yields i H' F' A' μ' v H2 _ hx e' p' r'.m hy
        obtain ⟨l, k, μ3, hlv, hg, ht, hk1, hk2⟩ := hs i _ acc μ' hx hI
        refine hg _ _ _ _ ⟨F2, A', μ', m2, rx, fun ws hw => ⟨?_, ht _ _ _ ⟨F2, A', ⟨m2, ((r'.s.mono e2 pr).wipe vs).setS hw⟩, fun H3 F3 A3 e3 p3 r3 => ?_⟩⟩⟩
        · rw [wipe_setS fun p hp => ?_, wipe_wipe]
          obtain ⟨h1, _⟩ := List.of_mem_zip hp
          obtain ⟨q, hq, e⟩ := List.mem_map.mp h1
          rw [← e]
          exact hlv q hq
        have s3 : Slots K ct A3 F3 Γ σ := r'.s.mono (e2.trans e3) p3
        cases k with
        | false =>
          exact iteF ⟨acc, vacc, μ3, F3, A3, by omega, Le.trans e' (e2.trans e3), p'.trans p3, ⟨r3.m, s3⟩, e3 _ _ (e2 _ _ fD), rv.mono (e2.trans e3) p3, hk2 rfl⟩
        | true =>
          obtain ⟨y, μ4, he, hI2⟩ := hk1 rfl
          refine iteT (he _ _ _ ⟨F3, A3, r3, fun w H4 F4 A4 e4 p4 r4 rw' => ?_⟩)
          have fD4 := e4 _ _ (e3 _ _ (e2 _ _ fD))
          have hz2 : vacc.length < sizeLine := by
            have h1 := hl i acc μ' hI
            have h2 := rv.len
            omega
          refine ⟨vacc, r4.m.sub _ _ fD4, hz2, acc ++ [y], vacc ++ [w], μ4, upd F4 D0 (mark (.lst (vacc ++ [w]))), A4, by omega, fun a o h => ?_, p'.trans (p3.trans p4), ⟨⟨fun a o h => ?_, r4.m.len, r4.m.nd, fun a ha => ?_, fun k a c ha hc => ?_⟩, (s3.mono e4 p4).monoR (.remark fD4) pr⟩, upd_same, ((rv.mono (e2.trans (e3.trans e4)) (p3.trans p4)).snoc rw').monoR (.remark fD4) pr, hI2⟩
          · rw [upd_ne (ne_of_none h (r1.m.sub.free hD))]; exact e4 _ _ (e3 _ _ (e2 _ _ (e' a o h)))
          · by_cases ha : a = D0
            · subst ha; rw [upd_same] at h ⊢; cases h; rfl
            · rw [upd_ne ha] at h ⊢; exact r4.m.sub a o h
          · by_cases z : a = D0
            · subst z; exact ⟨_, upd_same⟩
            · rw [upd_ne z]; exact r4.m.there a ha
          · by_cases hd' : c = .dead
            · subst hd'; trivial
            have ne : a ≠ D0 := r4.m.ne ha hc hd' fD4
            exact (r4.m.ok k a c ha hc).monoR (.remark fD4) pr (fun f => by rw [upd_ne ne]; exact f) fun o ho _ => by rw [upd_ne ne]; exact ho
/-- [elt for tg in iter if ..] -/
theorem de_lc {ifs : List Expr} {scope : Scope} {res : List D} (own : List (Str × Nat)) (hc : X.calm = true) (hN : X.N.Nodup) (hi : DI X ct tg iter Γ μ xs μ1) (ok : BlkOk X.N X.env.scope scope own) (I : Nat → List D → Mu → Prop) (h0 : I 0 [] μ1)
    (hs : ∀ i d acc μ', xs[i]? = some d → I i acc μ' → ∃ l k μ2, (∀ p ∈ l, p.1 ∈ own.map (·.2)) ∧ (∀ s H C cl fp, DG (Bk X scope s H C cl fp) ct tg d l) ∧ (∀ s H C cl fp, DTs (Bk X scope s H C cl fp) ct ifs (setG (wipeG Γ (own.map (·.2))) l) μ' k μ2) ∧
      (k = true → ∃ y μ3, (∀ s H C cl fp, DE (Bk X scope s H C cl fp) ct (setG (wipeG Γ (own.map (·.2))) l) μ2 elt y μ3) ∧ I (i + 1) (acc ++ [y]) μ3) ∧ (k = false → I (i + 1) acc μ2))
    (hl : ∀ i acc μ', I i acc μ' → acc.length ≤ i) (hd : ∀ acc μ', I xs.length acc μ' → acc = res ∧ μ' = μ2) (hfs : ∀ x, foldedSetIterable iter X.env x = pure x := by intro _; rfl) : DE X ct Γ μ (.ListComp elt [⟨tg, iter, ifs, 0⟩] scope pos) (.lst res) μ2 := by
  refine PE.imp (pe_lc (g := fun v σ H Q => ∃ t, (∀ s H C cl fp, PG (Bk X scope s H C cl fp) tg t) ∧ t v σ H Q) (tt := fun σ H Q => ∃ t, (∀ s H C cl fp, PTs (Bk X scope s H C cl fp) ifs t) ∧ t σ H Q) (te := fun σ H Q => ∃ t, (∀ s H C cl fp, PE (Bk X scope s H C cl fp) elt t) ∧ t σ H Q) hc hN hi ok
    (fun s H C cl fp => ⟨fun pins s' σ H' v u Q I r ⟨t, h, q⟩ => (h s H C cl fp).run pins s' σ H' v u Q I r q⟩) (fun s H C cl fp => ⟨fun pins s' σ H' Q I ⟨t, h, q⟩ => (h s H C cl fp).run pins s' σ H' Q I q⟩) (fun s H C cl fp => ⟨fun pins s' σ H' Q I ⟨t, h, q⟩ => (h s H C cl fp).run pins s' σ H' Q I q⟩) hfs) fun σ H Q ⟨F, A, r, q⟩ => ?_
  refine tLc_D I h0 (fun i d acc μ' hx hI => ?_) hl hd (fun R k => ⟨F, A, r, k⟩) q
  obtain ⟨l, k, μ3, h1, h2, h3, h4, h5⟩ := hs i d acc μ' hx hI
  refine ⟨l, k, μ3, h1, fun v σ H Q q => ⟨_, h2, q⟩, fun σ H Q q => ⟨_, h3, q⟩, fun hk => ?_, h5⟩
  obtain ⟨y, μ4, h6, h7⟩ := h4 hk
  exact ⟨y, μ4, fun σ H Q q => ⟨_, h6, q⟩, h7⟩
/-- .. of elements that change nothing -/
theorem de_lcP {α : Type} {ifs : List Expr} {scope : Scope} (own : List (Str × Nat)) (as : List α) (enc : α → D) (pd : α → Bool) (g : α → D) (hc : X.calm = true) (hN : X.N.Nodup) (hi : DI X ct tg iter Γ μ (as.map enc) μ1) (ok : BlkOk X.N X.env.scope scope own)
    (hs : ∀ z ∈ as, ∃ l, (∀ p ∈ l, p.1 ∈ own.map (·.2)) ∧ (∀ s H C cl fp, DG (Bk X scope s H C cl fp) ct tg (enc z) l) ∧ (∀ s H C cl fp, DTs (Bk X scope s H C cl fp) ct ifs (setG (wipeG Γ (own.map (·.2))) l) μ1 (pd z) μ1) ∧
      (pd z = true → ∀ s H C cl fp, DE (Bk X scope s H C cl fp) ct (setG (wipeG Γ (own.map (·.2))) l) μ1 elt (g z) μ1)) (hfs : ∀ x, foldedSetIterable iter X.env x = pure x := by intro _; rfl) : DE X ct Γ μ (.ListComp elt [⟨tg, iter, ifs, 0⟩] scope pos) (.lst ((as.filter pd).map g)) μ1 := by
  refine de_lc own hc hN hi ok (fun i acc μ' => acc = ((as.take i).filter pd).map g ∧ μ' = μ1) ⟨rfl, rfl⟩ (fun i d acc μ' hx ⟨e1, e2⟩ => ?_) (fun i acc μ' ⟨e1, e2⟩ => ?_) (fun acc μ' ⟨e1, e2⟩ => ?_) hfs
  · subst e1; subst e2
    rw [List.getElem?_map, Option.map_eq_some_iff] at hx
    obtain ⟨z, hz, rfl⟩ := hx
    obtain ⟨l, h1, h2, h3, h4⟩ := hs z (List.mem_of_getElem? hz)
    have et : as.take (i + 1) = as.take i ++ [z] := by
      obtain ⟨hi, e⟩ := List.getElem?_eq_some_iff.mp hz
      rw [List.take_succ_eq_append_getElem hi, e]
    refine ⟨l, pd z, _, h1, h2, h3, fun hk => ⟨g z, _, h4 hk, ?_, rfl⟩, fun hk => ⟨?_, rfl⟩⟩
    · rw [et, List.filter_append, List.filter_cons, hk]; simp
    · rw [et, List.filter_append, List.filter_cons, hk]; simp
  · subst e1
    rw [List.length_map]
    exact Nat.le_trans (List.length_filter_le _ _) (by rw [List.length_take]; omega)
  · rw [List.length_map, List.take_length] at e1
    exact ⟨e1, e2⟩
end
end DL

namespace DL
open PySem PySem.Spec PyProof.Rows L2
open AutoSeq1 (wpAny_loadPart')
/-! ### enumerate(tuple) -/
theorem meets_enum_newT (l : Addr) (items : Array Value) :
    Meets (Builtin.«enumerate.__new__» ⟨[.type "enumerate", .ref l], []⟩) (fun _ R s => s.heap.IsTuple l items ∧
      R (.ok (.ret (.ref (s.heap.push { cls := .type "tuple_iterator", data := .fields #[.ref l, .int 0 0] }).objs.size)))
        { s with heap := (s.heap.push { cls := .type "tuple_iterator", data := .fields #[.ref l, .int 0 0] }).push { cls := .type "enumerate", data := .fields #[.none, .bool false, .ref s.heap.objs.size, rawInt 0, .none, .none] } }) :=
  .of_wp fun prog w A R s h => by
    obtain ⟨hp, g, d, tk, os⟩ := s; obtain ⟨hL, h⟩ := h
    have hsub := sub_enumerate
    have q1 : ∀ {A' : Around} {E : Value → Shared → Prop} {Q : Value → Shared → Prop}, Q (.ref hp.objs.size) ⟨hp.push { cls := .type "tuple_iterator", data := .fields #[.ref l, .int 0 0] }, g, d, tk, os⟩ → wpAny (model prog w) A' (pyIter (.ref l)) Q E ⟨hp, g, d, tk, os⟩ :=
      fun q => wpAny_pyIter_tuple (s := ⟨hp, g, d, tk, os⟩) hL q
    obtain ⟨ol, hl, _, _⟩ := id hL
    wp_walk using wpAny_loadPart' hl, q1
    refine wpAny_stack_any fun st => wpAny_pure ?_
    split
    · rename_i c _ _ _ _ _
      cases (c == Value.type "enumerate")
      · wp_walk using wpAny_loadPart' hl, q1
        exact ⟨_, rfl, h⟩
      · wp_walk using wpAny_loadPart' hl, q1
        exact ⟨_, rfl, h⟩
    · wp_walk using wpAny_loadPart' hl, q1
      exact ⟨_, rfl, h⟩
section
variable {prog : Program} {w : World} {A : Around} {E : Value → Shared → Prop} {s : Shared}
theorem call_enum_tuple {l : Addr} {items : Array Value} {Q : Value → Shared → Prop} (hL : s.heap.IsTuple l items)
    (h : ∀ h', IsEnum h' (s.heap.objs.size + 1) s.heap.objs.size 0 .none → h'.IsTupleIter s.heap.objs.size l 0 → h'.objs.size = s.heap.objs.size + 2 →
      (∀ b o, s.heap.get? b = some o → h'.get? b = some o) → Q (.ref (s.heap.objs.size + 1)) { s with heap := h' }) :
    wpAny (model prog w) A (call (.type "enumerate") [.ref l]) Q E s := by
  refine callType_new F.called_enumerate (by decide) (F.typeCall_enumerate_1 _) (F.newCall_enumerate_1 _) (fun obj => F.args_object_init_2 obj _) F.entry_enumerate_new
    (meets_enum_newT l items) ⟨hL, ?_⟩
  have hz : (s.heap.push { cls := .type "tuple_iterator", data := .fields #[.ref l, .int 0 0] }).objs.size = s.heap.objs.size + 1 := Heap.size_push ..
  show _ ∧ _
  rw [hz]
  have he : IsEnum ((s.heap.push { cls := .type "tuple_iterator", data := .fields #[.ref l, .int 0 0] }).push
      { cls := .type "enumerate", data := .fields #[.none, .bool false, .ref s.heap.objs.size, rawInt 0, .none, .none] }) (s.heap.objs.size + 1) s.heap.objs.size 0 .none := by
    have := Heap.get?_push_size (s.heap.push { cls := .type "tuple_iterator", data := .fields #[.ref l, .int 0 0] })
      (o := { cls := .type "enumerate", data := .fields #[.none, .bool false, .ref s.heap.objs.size, rawInt 0, .none, .none] }) rfl
    rw [hz] at this; exact this
  refine ⟨⟨_, he, rfl⟩, h _ he ⟨_, Heap.get?_push_of_some _ (Heap.get?_push_size _ rfl), rfl, rfl⟩ (by rw [Heap.size_push, hz]) fun b o x => Heap.get?_push_of_some _ (Heap.get?_push_of_some _ x)⟩
end
/-- the tuple at a, each item in a new pair -/
def IteT (K : PySem.W.Frag) (a : Addr) : It :=
  ⟨fun i H => ∃ (xs : List V) (x : V), SqT K H a xs ∧ xs[i]? = some x, fun i H v H' => ∃ T x, v = .ref T ∧ H T = none ∧ H' = upd H T (.tup [.int (i : Nat), x]) ∧ ∀ xs, SqT K H a xs → xs[i]? = some x, fun i H => ∃ xs : List V, SqT K H a xs ∧ xs.length ≤ i⟩
theorem turn_enumT {P : Program} {w : World} {K : PySem.W.Frag} {elts : List Expr} {kk : Nat} {tpos : Pos} (a e it : Addr) (hae : a ≠ e) (hai : a ≠ it) :
    Turn P w K (.Tuple elts kk tpos) (IteT K a) [e, it] e (fun i h => (∃ old, IsEnum h e it ((i : Nat) : Int) old) ∧ h.IsTupleIter it a i ∧ e ≠ it) where
  mem := by simp
  obj := fun i h st b hb => by
    obtain ⟨⟨old, he⟩, ⟨o, ho, hc, hd⟩, _⟩ := st
    have e' : b = e ∨ b = it := by simpa using hb
    rcases e' with z | z
    · rw [z]; exact ⟨_, he, fun v q => nomatch q⟩
    · rw [z]; exact ⟨o, ho, fun v q => by rw [hd] at q; cases q⟩
  keep := fun i h h' st k => let ⟨⟨old, he⟩, hi, hne⟩ := st; ⟨⟨old, k e (by simp) _ he⟩, hi.at fun o q => k it (by simp) o q, hne⟩
  item := by
    intro X hP hw hK hc i pins s σ H E I hf st hg
    subst hP hw hK
    obtain ⟨⟨old, he⟩, hit, hne⟩ := st
    obtain ⟨xs, x, hq, hx⟩ := hg
    obtain ⟨its, rv, p, hz⟩ := I.tuple hq
    obtain ⟨u, hu, ru⟩ := rv.get hx
    have hel : e < s.heap.objs.size := Heap.lt_size he
    have hil : it < s.heap.objs.size := by obtain ⟨_, q, _⟩ := hit; exact Heap.lt_size q
    have hlt : i < its.toArray.size := by have := (List.getElem?_eq_some_iff.mp hu).1; simpa using this
    have hh : X.A.handled = none := I.ok.hd hc
    refine wpAny_pyNext_enum_itemD (Draws.tuple (A := X.A.in1) hh it a hai its.toArray) he ⟨hit, p⟩ hlt hne (by simp; exact ⟨hne, Ne.symm hae⟩) fun x' h' tk hx' ho st' hT hsz hk => ?_
    obtain ⟨hit', _⟩ := st'
    have eu : x' = u := by
      have h1 : its.toArray[i]? = some x' := hx'
      have h2 : its.toArray[i]? = some u := by simpa using hu
      rw [h1] at h2; exact Option.some.inj h2
    subst eu
    refine ⟨_, rfl, wpAny_letOwnedTupleGo_enum (s := { s with heap := h', toks := tk + 1 }) ho fun h'' he' sb => ?_⟩
    have hT2 : h''.get? s.heap.objs.size = some { cls := .type "tuple", data := .seq #[.int i tk, x'] } := (sb.2 _ (Nat.ne_of_gt hel)).trans hT
    have new : ObjOk X.prog X.w (upd H s.heap.objs.size (.tup [.int (i : Nat), x])) h'' s.heap.objs.size (.tup [.int (i : Nat), x]) :=
      ⟨by show 2 ≤ sizeLine; decide, [.int i tk, x'], .cons ⟨_, rfl⟩ (.cons ru .nil), ⟨_, hT2, rfl, _, rfl⟩⟩
    have I1 : Inv X pins σ (upd H s.heap.objs.size (.tup [.int (i : Nat), x])) { s with heap := h'', toks := tk + 1 } :=
      I.turnedNew (ch := [e, it]) (fun b ob hb q => (sb.2 b (fun z => hb (by simp [z]))).trans (hk b ob (fun z => hb (by simp [z])) (fun z => hb (by simp [z])) q)) hf (Nat.le_refl _) new
    refine ⟨.ref s.heap.objs.size, _, I1, rfl, ⟨_, x, rfl, I.hok.fresh (Nat.le_refl _), rfl, fun ys hy => by rw [I.tuple_inj hy hq]; exact hx⟩, ⟨⟨x', ?_⟩, hit'.at fun o q => (sb.2 it (Ne.symm hne)).trans q, hne⟩, fun b hb => ?_⟩
    · have e1 : ((i + 1 : Nat) : Int) = (i : Int) + 1 := by omega
      rw [e1]; exact he'
    · have hb' : b < s.heap.objs.size := by
        have e' : b = e ∨ b = it := by simpa using hb
        rcases e' with z | z
        · rw [z]; exact hel
        · rw [z]; exact hil
      rw [upd_ne (Nat.ne_of_lt hb')]
      exact (hf b hb).1
  done := by
    intro X hP hw hK hc i pins s σ H E I hf st hg
    subst hP hw hK
    obtain ⟨⟨old, he⟩, hit, hne⟩ := st
    obtain ⟨xs, hq, hx⟩ := hg
    obtain ⟨its, rv, p, hz⟩ := I.tuple hq
    obtain ⟨f0, f1, f2, f3, f4, f5⟩ := hf it (by simp)
    have hl := rv.length
    have hh : X.A.handled = none := I.ok.hd hc
    -- done at any place from the end on
    have hT : s.TypeIs (.ref e) "enumerate" := ⟨_, he, rfl⟩
    unfold pyNext
    refine wpAny_bind (wpAny_attempt (wpAny_callSpecial?_slot (name := Str.ofString "__next__") hT F.slot_enumerate_next
      (wpAny_call_entry F.slot_enumerate_next hT F.entry_enumerate_next ?_ (F.args_enumerate_next_1 _))))
    show wpAny _ _ (field (.ref e) 2 >>= _) _ _ _
    refine wpAny_bind (wpAny_field he rfl (x := .ref it) rfl ?_)
    refine wpAny_bind (wpAny_nextOf_tuple_end (A := X.A.in1) hh hit p (by simp; omega) fun h' x he' hx' => ?_)
    obtain ⟨o, ho, hc'⟩ := hx'
    refine wpAny_bind (wpAny_isInstance (T := "StopIteration") (b := true) ⟨o, ho, hc'⟩ isSubtype_stop ?_)
    exact wpAny_pure ⟨rfl, I.turned (t' := s.toks) (fun b o hb q => he' b o hb q) f0 f1 f3 f4 f5⟩
  self := fun A i s Q E st h => let ⟨⟨_, he⟩, _⟩ := st; wpAny_pyIter_enum he h
def iEnumT (K : PySem.W.Frag) (ta : TA) : TI := fun σ H R => ta σ H fun vs H1 => ∃ a xs, vs = [.ref a] ∧ SqT K H1 a xs ∧ R (IteT K a) H1
theorem pi_enumT {X : Cx} {e : Expr} {ta : TA} {p pos tpos : Pos} {elts : List Expr} {kk : Nat} (hg : Gl X "enumerate") (hm : X.mg "enumerate" = none) (ha : PA X [e] ta) (hs : starEach [e] X.env = [(false, eval e X.env)] := by rfl) :
    PI X (.Tuple elts kk tpos) (.Call (.Name "enumerate" p) [e] [] pos) (iEnumT X.K ta) := by
  refine ⟨fun pins s σ H R I h => ?_⟩
  refine Call_ (ld_blt I hg hm boot_enumerate (PyProof.Rows.callWith_type1 (thn (ha.run pos pins s σ H _ I h) fun us s1 ⟨vs, H1, I1, r1, q1⟩ => ?_) hs rfl))
  obtain ⟨a, xs, ex, hq, q⟩ := q1
  subst ex
  cases r1 with
  | cons r rr =>
    cases rr
    cases r
    obtain ⟨its, rv, p', hz⟩ := I1.tuple hq
    have hal : a < s1.heap.objs.size := by obtain ⟨_, q, _⟩ := p'; exact Heap.lt_size q
    refine call_enum_tuple p' fun h' he hit hsz hk => wpAny_pyIter_enum he ?_
    have I2 : Inv X pins σ H1 { s1 with heap := h' } := I1.kept (t' := s1.toks) hk
    refine ⟨s1.heap.objs.size + 1, [s1.heap.objs.size + 1, s1.heap.objs.size], _, _, H1, rfl, I2, turn_enumT a (s1.heap.objs.size + 1) s1.heap.objs.size (Nat.ne_of_lt (Nat.lt_succ_of_lt hal)) (Nat.ne_of_lt hal), ⟨⟨.none, he⟩, hit, Nat.succ_ne_self _⟩, fun b hb => ?_, q⟩
    have e' : b = s1.heap.objs.size + 1 ∨ b = s1.heap.objs.size := by simpa using hb
    have hle : s1.heap.objs.size ≤ b := by
      rcases e' with z | z
      · rw [z]; exact Nat.le_add_right _ _
      · rw [z]; exact Nat.le_refl _
    exact I1.fpOk hle (I1.hok.fresh hle)
section
variable {X : Cx} {ct : Nat → Addr} {Γ : Gm} {μ μ1 : Mu} {xs : List D} {d : D} {e : Expr} {p pos : Pos}
theorem walkD_enumT {K : PySem.W.Frag} {ad : Addr} {vs : List V} {F1 : Hp} {A1 : List Addr} (s : SqT K F1 ad vs) (r : Reps K ct A1 F1 vs xs) : WalkD K ct (IteT K ad) (enumD xs) F1 A1 where
  goes := fun i H F hi e sb => by
    rw [enumD_len, ← r.len] at hi
    exact ⟨vs, vs[i], sqT_sub sb (e.t s), by simp [hi]⟩
  stops := fun H F e sb => ⟨vs, sqT_sub sb (e.t s), by rw [enumD_len, r.len]; exact Nat.le_refl _⟩
  yields := fun i H F A μ v H' d hd e p m y => by
    obtain ⟨T, x, rfl, hT, rfl, hx⟩ := y
    obtain ⟨y, hy, rfl⟩ := enumD_get hd
    obtain ⟨w, hw, rw'⟩ := r.get hy
    have := hx vs (sqT_sub m.sub (e.t s))
    rw [hw] at this
    cases this
    exact ⟨_, m.le_grow hT _, m.grow hT _, .tup (SqT.of upd_same) (.cons (.int _) (.cons (rw'.mono (e.trans (m.le_grow hT _)) p) .nil))⟩
theorem di_enumT {tpos : Pos} {elts : List Expr} {kk : Nat} (hm : X.mg "enumerate" = none) (h : DA X ct Γ μ [e] [.tup xs] μ1) (hg : Gl X "enumerate" := by rfl) (hs : starEach [e] X.env = [(false, eval e X.env)] := by rfl) :
    DI X ct (.Tuple elts kk tpos) (.Call (.Name "enumerate" p) [e] [] pos) Γ μ (enumD xs) μ1 :=
  PI.imp (pi_enumT hg hm (PA.bd h) hs) fun σ H R ⟨F, A, r, q⟩ => ⟨F, A, r, fun v H' F' A' e p r' rr bd => by
    obtain ⟨w, rfl, h⟩ := reps1 rr
    cases h with
    | tup s rs => exact ⟨_, _, rfl, sqT_sub r'.m.sub s, q _ H' F' A' e p r' (walkD_enumT s rs) (by rw [enumD_len, ← rs.len]; exact bd _ _ (.inr (sqT_sub r'.m.sub s)))⟩⟩
/-- enumerate of any sequence -/
theorem di_enum {tpos : Pos} {elts : List Expr} {kk : Nat} (hm : X.mg "enumerate" = none) (h : DE X ct Γ μ e d μ1) (hd : isSeq d = some xs) (hg : Gl X "enumerate" := by rfl) (hs : starEach [e] X.env = [(false, eval e X.env)] := by rfl) :
    DI X ct (.Tuple elts kk tpos) (.Call (.Name "enumerate" p) [e] [] pos) Γ μ (enumD xs) μ1 := by
  have ha : DA X ct Γ μ [e] [d] μ1 := da_cons h da_nil hs
  cases d <;> simp [isSeq] at hd
  case tup l => subst hd; exact di_enumT hm ha hg hs
  case lst l => subst hd; exact di_enumL hm ha (.inl rfl) hg hs
  case scr l => subst hd; exact di_enumL hm ha (.inr rfl) hg hs
end
end DL

namespace DL
open PySem PySem.Spec PyProof.Rows L2
/-! ### sorting, plain -/
def insI (x : Int) : List Int → List Int
  | [] => [x]
  | y :: l => if x ≤ y then x :: y :: l else y :: insI x l
def sortI : List Int → List Int
  | [] => []
  | x :: l => insI x (sortI l)
theorem insI_perm (x : Int) : ∀ l, (insI x l).Perm (x :: l)
  | [] => .refl _
  | y :: l => by
    unfold insI
    split
    · exact .refl _
    · exact ((insI_perm x l).cons y).trans (.swap x y l)
theorem sortI_perm : ∀ l, (sortI l).Perm l
  | [] => .refl _
  | x :: l => (insI_perm x (sortI l)).trans ((sortI_perm l).cons x)
theorem insI_sorted (x : Int) : ∀ l : List Int, l.Pairwise (· ≤ ·) → (insI x l).Pairwise (· ≤ ·)
  | [], _ => by unfold insI; simp
  | y :: l, h => by
    unfold insI
    rw [List.pairwise_cons] at h
    split
    · rename_i hxy
      rw [List.pairwise_cons]
      refine ⟨fun z hz => ?_, by rw [List.pairwise_cons]; exact h⟩
      rcases List.mem_cons.mp hz with rfl | hz
      · exact hxy
      · exact Int.le_trans hxy (h.1 z hz)
    · rename_i hxy
      rw [List.pairwise_cons]
      refine ⟨fun z hz => ?_, insI_sorted x l h.2⟩
      rcases List.mem_cons.mp ((insI_perm x l).mem_iff.mp hz) with rfl | hz
      · omega
      · exact h.1 z hz
theorem sortI_sorted : ∀ l : List Int, (sortI l).Pairwise (· ≤ ·)
  | [] => .nil
  | x :: l => insI_sorted x _ (sortI_sorted l)
theorem sorted_eq : ∀ {l m : List Int}, l.Perm m → l.Pairwise (· ≤ ·) → m.Pairwise (· ≤ ·) → l = m
  | [], m, p, _, _ => by rw [p.nil_eq]
  | x :: l, [], p, _, _ => by have := p.length_eq; simp at this
  | x :: l, y :: m, p, hl, hm => by
    rw [List.pairwise_cons] at hl hm
    have h1 : x ≤ y := by
      rcases List.mem_cons.mp (p.mem_iff.mpr (List.mem_cons_self (a := y) (l := m))) with e | e
      · omega
      · exact hl.1 y e
    have h2 : y ≤ x := by
      rcases List.mem_cons.mp (p.mem_iff.mp (List.mem_cons_self (a := x) (l := l))) with e | e
      · omega
      · exact hm.1 x e
    have e : x = y := by omega
    subst e
    rw [sorted_eq p.cons_inv hl.2 hm.2]
theorem sortI_eq {l m : List Int} (p : m.Perm l) (h : m.Pairwise (· ≤ ·)) : m = sortI l := sorted_eq (p.trans (sortI_perm l).symm) h (sortI_sorted l)

section
variable {X : Cx} {ct : Nat → Addr} {Γ Γ1 Γ2 : Gm} {μ μ1 μ2 μ3 : Mu} {d da db dc : D} {ds xs l m : List D} {e a b c o tg elt iter : Expr} {es tgs : List Expr} {st : Stmt} {rest sa sb body : List Stmt} {pos p tp apos : Pos} {x f : Str} {k k' : Bool} {P P' : P4}
/-! ### more built-ins -/
inductive SeqM (μ : Mu) : D → List D → Prop
  | seq {d : D} {l : List D} (h : isSeq d = some l) : SeqM μ d l
  | cell {j : Nat} {l : List D} (h : μ[j]? = some (.lst l)) : SeqM μ (.ptr j) l
theorem SeqM.get {K : PySem.W.Frag} {H F : Hp} {A : List Addr} {v : V} (h : SeqM μ d l) (m : Rl0 K ct μ H F A) (r : Rep K ct A F v d) : ∃ a vs, v = .ref a ∧ (SqL K H a vs ∨ SqT K H a vs) ∧ Reps K ct A F vs l := by
  cases h with
  | seq e => obtain ⟨a, vs, rfl, s, rr⟩ := rep_seq r e; exact ⟨a, vs, rfl, s.imp (sqL_sub m.sub) (sqT_sub m.sub), rr⟩
  | cell e => cases r with
    | ptr s => obtain ⟨_, vs, hv, rr⟩ := m.ok _ _ _ s e; exact ⟨_, vs, rfl, .inl (SqL.of hv), rr⟩
theorem SeqM.list {K : PySem.W.Frag} {H F : Hp} {A : List Addr} {v : V} (h : SeqM μ d l) (nt : ∀ z, d ≠ .tup z) (m : Rl0 K ct μ H F A) (r : Rep K ct A F v d) : ∃ a vs, v = .ref a ∧ SqL K H a vs ∧ Reps K ct A F vs l := by
  cases h with
  | seq e =>
    cases r <;> simp [isSeq] at e
    case tup => exact absurd rfl (nt _)
    case lst s rr => subst e; exact ⟨_, _, rfl, SqL.of (m.sub _ _ s), rr⟩
    case scr s rr => subst e; exact ⟨_, _, rfl, sqL_sub m.sub s, rr⟩
  | cell e => cases r with
    | ptr s => obtain ⟨_, vs, hv, rr⟩ := m.ok _ _ _ s e; exact ⟨_, vs, rfl, SqL.of hv, rr⟩
theorem c1_tuple (hl : SeqM μ d l) : C1 X ct (.type "tuple") μ [d] (.tup l) := c1_of call_tuple_of fun xs H F A Q m r k => by
  obtain ⟨v, rfl, h⟩ := reps1 r
  by_cases nt : ∃ z, d = .tup z
  · obtain ⟨z, rfl⟩ := nt
    cases hl with
    | seq e =>
      cases e
      cases h with
      | tup s rr => exact ⟨_, _, rfl, .inr ⟨sqT_sub m.sub s, k _ H F (.refl _) m (.tup s rr)⟩⟩
  · obtain ⟨a, vs, rfl, s, rr⟩ := hl.list (fun z e => nt ⟨z, e⟩) m h
    exact ⟨a, vs, rfl, .inl ⟨s, new_tup m rr k⟩⟩
theorem c1_list (hl : SeqM μ d l) : C1 X ct (.type "list") μ [d] (.lst l) := c1_of call_list_of fun xs H F A Q m r k => by
  obtain ⟨v, rfl, h⟩ := reps1 r
  obtain ⟨a, vs, rfl, s, rr⟩ := hl.get m h
  exact ⟨a, vs, rfl, s, new_lst m rr k⟩
/-- the same, the new list a place of the store -/
theorem de_listM (hm : X.mg "list" = none) (ha : DE X ct Γ μ e d μ1) (hl : SeqM μ1 d l) (hg : Gl X "list" := by rfl) (he : starEach [e] X.env = (false, eval e X.env) :: starEach [] X.env := by rfl) : DE X ct Γ μ (.Call (.Name "list" p) [e] [] pos) (.ptr μ1.length) (μ1 ++ [.lst l]) :=
  PE.imp (pe_callTy call_list_of hg hm boot_list (da_cons ha da_nil he) (by decide) (by decide) he rfl) fun σ H Q ⟨F, A, r, q⟩ => ⟨F, A, r, fun vs H1 F1 A1 e1 p1 r1 h1 => by
    obtain ⟨v, rfl, h⟩ := reps1 h1
    obtain ⟨a, vs, rfl, s, rr⟩ := hl.get r1.m h
    exact ⟨a, vs, rfl, s, fun p hp => new_cell (c := .lst l) r1 hp ⟨r1.m.sub.free hp, vs, upd_same, rr.mono (.refl _) (List.prefix_append _ _)⟩ fun v H' F' A' e' p' r' h' => q v H' F' A' (e1.trans e') (p1.trans p') r' h'⟩⟩
/-- dict(d): a copy, a place of the store -/
theorem call_dict_copy : CallR X (.type "dict") (fun xs H Q => ∃ a kvs, xs = [.ref a] ∧ Rd H a (.dK kvs) ∧ ∀ p, H p = none → Q (.ref p) (upd H p (.dK kvs))) := by
  intro pins s σ H xs us Q I r ⟨a, kvs, ex, h, q⟩
  subst ex
  cases r with
  | cons r1 r2 =>
    cases r2
    cases r1
    exact d_copyOf I h fun p s' hp I' => ⟨.ref p, _, I', rfl, q p hp⟩
theorem de_dictM {kds : List (Key × D)} (hm : X.mg "dict" = none) (ha : DE X ct Γ μ e (.dic kds) μ1) (hg : Gl X "dict" := by rfl) (he : starEach [e] X.env = (false, eval e X.env) :: starEach [] X.env := by rfl) : DE X ct Γ μ (.Call (.Name "dict" p) [e] [] pos) (.ptr μ1.length) (μ1 ++ [.dic kds]) :=
  PE.imp (pe_callTy call_dict_copy hg hm boot_dict (da_cons ha da_nil he) (by decide) (by decide) he rfl) fun σ H Q ⟨F, A, r, q⟩ => ⟨F, A, r, fun vs H1 F1 A1 e1 p1 r1 h1 => by
    obtain ⟨v, rfl, h⟩ := reps1 h1
    cases h with
    | dic s k1 k2 =>
      exact ⟨_, _, rfl, r1.m.sub.r.rd _ _ rfl s, fun p hp => new_cell (c := .dic kds) r1 hp ⟨r1.m.sub.free hp, _, upd_same, k1, k2.mono (.refl _) (List.prefix_append _ _)⟩ fun v H' F' A' e' p' r' h' => q v H' F' A' (e1.trans e') (p1.trans p') r' h'⟩⟩
theorem c1_sortI {ns : List Int} (hl : SeqM μ d (ns.map .int)) (nt : ∀ z, d ≠ .tup z) : C1 X ct (.builtin "sorted") μ [d] (.lst ((sortI ns).map .int)) := c1_of cr_sortedI fun xs H F A Q m r k => by
  obtain ⟨v, rfl, h⟩ := reps1 r
  obtain ⟨a, vs, rfl, s, rr⟩ := hl.list nt m h
  rw [rr.of_ints] at s
  refine ⟨a, ns, rfl, s, fun ns' p hp hs hn => ?_⟩
  rw [sortI_eq hp hs]
  exact new_lst m (.ints _) k p hn
theorem c1_str {s : Str} : C1 X ct (.type "str") μ [.str s] (.str s) := c1_of SkE.call_str_str fun xs H F A Q m r k => by
  obtain ⟨v, rfl, h⟩ := reps1 r
  cases h
  exact ⟨_, rfl, k _ H F (.refl _) m (.str _)⟩
theorem c1_any {bs : List Bool} (hc : X.calm = true) (hl : SeqM μ d (bs.map .bl)) (nt : ∀ z, d ≠ .tup z) : C1 X ct (.builtin "any") μ [d] (.bl (bs.any id)) := c1_of (cr_any hc) fun xs H F A Q m r k => by
  obtain ⟨v, rfl, h⟩ := reps1 r
  obtain ⟨a, vs, rfl, s, rr⟩ := hl.list nt m h
  rw [rr.of_bls] at s
  exact ⟨a, bs, rfl, s, k _ H F (.refl _) m (.bl _)⟩
theorem c1_all {bs : List Bool} (hc : X.calm = true) (hl : SeqM μ d (bs.map .bl)) (nt : ∀ z, d ≠ .tup z) : C1 X ct (.builtin "all") μ [d] (.bl (bs.all id)) := c1_of (cr_all hc) fun xs H F A Q m r k => by
  obtain ⟨v, rfl, h⟩ := reps1 r
  obtain ⟨a, vs, rfl, s, rr⟩ := hl.list nt m h
  rw [rr.of_bls] at s
  exact ⟨a, bs, rfl, s, k _ H F (.refl _) m (.bl _)⟩
/-! ### isinstance -/
def tyName : D → Option String
  | .non => some "NoneType"
  | .bl _ => some "bool"
  | .int _ => some "int"
  | .str _ => some "str"
  | .tup _ => some "tuple"
  | .lst _ => some "list"
  | .scr _ => some "list"
  | _ => none
theorem rep_ty {K : PySem.W.Frag} {H F : Hp} {A : List Addr} {v : V} {T : String} (m : Rl0 K ct μ H F A) (h : Rep K ct A F v d) (e : tyName d = some T) : TyX K H v (.type T) := by
  cases h <;> simp [tyName] at e <;> subst e
  case non => exact .base .non
  case bl => exact .base (.bl _)
  case int => exact .base (.int _)
  case str => exact .base (.str _)
  case tup s r =>
    rcases sqT_sub m.sub s with (s | ⟨o, s⟩) | ⟨o, its, n, s, hc, _⟩
    · exact .base (.tup s)
    · exact .fTuple s
    · exact .kTuple s hc
  case lst s r => exact .base (.lst (m.sub _ _ s))
  case scr s r =>
    rcases sqL_sub m.sub s with (s | ⟨o, s⟩) | ⟨o, its, n, s, hc, _⟩
    · exact .base (.lst s)
    · exact .base (.frz s)
    · exact .kList s hc
theorem c1_isi {T U : String} (e : tyName d = some T) (h : kitB T U = some k) : C1 X ct (.builtin "isinstance") μ [d, .raw (.ty U)] (.bl k) := c1_of call_isi fun xs H F A Q m r q => by
  obtain ⟨v, w, rfl, h1, h2⟩ := reps2 r
  cases h2
  exact ⟨v, .ty U, _, _, k, rfl, .ty U, rep_ty m h1 e, kit_ty h, q _ H F (.refl _) m (.bl _)⟩
theorem de_isi2 {T U V' : String} {k1 k2 : Bool} {x1 : Str} {x2 : Str} {q1 q2 q3 : Pos} {kk : Nat} (hm : X.mg "isinstance" = none) (e : tyName d = some T) (h1 : kitB T U = some k1) (h2 : kitB T V' = some k2) (he : DE X ct Γ μ a d μ1)
    (hb : PE X b (tC (.ty U))) (hc : PE X c (tC (.ty V'))) (hg : Gl X "isinstance" := by rfl) (hs1 : starEach [a, .Tuple [b, c] kk q1] X.env = (false, eval a X.env) :: starEach [.Tuple [b, c] kk q1] X.env := by rfl)
    (hs2 : starEach [.Tuple [b, c] kk q1] X.env = (false, eval (.Tuple [b, c] kk q1) X.env) :: starEach [] X.env := by rfl) (hs3 : starEach [b, c] X.env = (false, eval b X.env) :: starEach [c] X.env := by rfl) (hs4 : starEach [c] X.env = (false, eval c X.env) :: starEach [] X.env := by rfl)
    (hpl : (backTo pos (starEach [.Tuple [b, c] kk q1] X.env)).any (·.1) = false := by rfl) : DE X ct Γ μ (.Call (.Name "isinstance" p) [a, .Tuple [b, c] kk q1] [] pos) (.bl (k1 || k2)) μ1 := by
  refine PE.imp (pe_callB call_isiT hg hm boot_isinstance (pa_cons he (pa_cons (pe_tup (pa_cons hb (pa_cons hc pa_nil hs4) hs3)) pa_nil hs2) hs1) (by decide) (by decide) hs1 hpl) fun σ H Q ⟨F, A, r, q⟩ => ⟨F, A, r, fun v H1 F1 A1 e1 p1 r1 h1' => ⟨by show 2 ≤ sizeLine; decide, fun pp hp => ?_⟩⟩
  have g := r1.m.grow hp (.tup [.ty U, .ty V'])
  have le := r1.m.le_grow hp (.tup [.ty U, .ty V'])
  exact ⟨v, pp, _, _, _, k1 || k2, rfl, upd_same, .cons (.ty U) (.cons (.ty V') .nil), rep_ty g (h1'.mono le pr) e, kitAny_cons (kit_ty h1) (fun z => kitAny_cons (b := k2) (r := k1 || k2) (kit_ty h2) (fun z2 => by rw [z, z2]; exact kitAny_nil) (fun z2 => by rw [z2]; simp)) (fun z => by rw [z]; rfl), q _ _ _ A1 (e1.trans le) p1 ⟨g, r1.s.mono le pr⟩ (.bl _)⟩
/-! ### methods of built-in types -/
/-- what must be seen of o.m(e) in the text -/
structure Bm (X : Cx) (o : Expr) (m : Str) (apos : Pos) (e : Expr) (cpos : Pos) : Prop where
  base : attributeBase o m X.env (eval o X.env) = eval o X.env
  few : ((backTo cpos (starEach [e] X.env)).all (fun x => !x.1) && (backToKw cpos (keywordEach [] X.env)).all (fun x => x.1.isSome)
    && decide (([e] : List Expr).length + ([] : List Keyword).length + (if ([] : List Keyword).isEmpty then 0 else 1) < 30)) = true
  line : (apos.endLine == cpos.line) = true
  hs : starEach [e] X.env = (false, eval e X.env) :: starEach [] X.env
  trees : backTo cpos (starEach [e] X.env) = [(false, eval e X.env)]
  pl : (backTo cpos (starEach [] X.env)).any (·.1) = false
theorem Bm.m1 {mm : Str} (b : Bm X o mm apos e pos) : M1 X o mm apos e pos := ⟨b.base, b.few, b.line, b.trees⟩
theorem nt_lst {l : List D} : ∀ z, D.lst l ≠ .tup z := fun z h => by cases h
theorem nt_ptr {j : Nat} : ∀ z, D.ptr j ≠ .tup z := fun z h => by cases h
theorem nt_scr {l : List D} : ∀ z, D.scr l ≠ .tup z := fun z h => by cases h
theorem de_append {j : Nat} (ho : DE X ct Γ μ o (.ptr j) μ1) (he : DE X ct Γ μ1 e d μ2) (hm1 : ∃ l0, μ1[j]? = some (.lst l0)) (hm : μ2[j]? = some (.lst l)) (hz : l.length < sizeLine)
    (bm : Bm X o "append" apos e pos := by exact ⟨rfl, rfl, rfl, rfl, rfl, rfl⟩) : DE X ct Γ μ (.Call (.Attribute o "append" apos) [e] [] pos) .non (μ2.set j (.lst (l ++ [d]))) := by
  refine PE.imp (pe_bm PySem.F.plainAttrs_list PySem.F.slot_list_append PySem.F.type_list_append mt_append ho (da_cons he da_nil bm.hs) bm.base bm.few bm.line bm.hs bm.pl) fun σ H Q ⟨F, A, r, q⟩ => ⟨F, A, r, fun v H1 F1 A1 e1 p1 r1 h1 => ?_⟩
  cases h1 with
  | ptr s =>
    obtain ⟨l0, hm0⟩ := hm1
    obtain ⟨_, vs0, hv0, _⟩ := r1.m.ok _ _ _ s hm0
    refine ⟨.inl ⟨rfl, _, SqL.of hv0⟩, F1, A1, r1, fun ws H2 F2 A2 e2 p2 r2 h2 => ?_⟩
    obtain ⟨w, rfl, h3⟩ := reps1 h2
    have s2 := pre_get p2 s
    obtain ⟨fn, vs, hv, rr⟩ := r2.m.ok _ _ _ s2 hm
    refine ⟨_, vs, w, rfl, rfl, hv, by rw [rr.len]; exact hz, q _ _ F2 A2 (e1.trans e2) (p1.trans p2) ⟨r2.m.write s2 ‹_› (by simp) fn (c := .lst (l ++ [d])) ⟨fn, _, upd_same, rr.snoc h3⟩, r2.s⟩ .non⟩
theorem de_extend {j : Nat} (ho : DE X ct Γ μ o (.ptr j) μ1) (he : DE X ct Γ μ1 e (.lst m) μ2) (hm1 : ∃ l0, μ1[j]? = some (.lst l0)) (hm : μ2[j]? = some (.lst l)) (hz : l.length + m.length ≤ sizeLine)
    (bm : Bm X o "extend" apos e pos := by exact ⟨rfl, rfl, rfl, rfl, rfl, rfl⟩) : DE X ct Γ μ (.Call (.Attribute o "extend" apos) [e] [] pos) .non (μ2.set j (.lst (l ++ m))) := by
  refine PE.imp (pe_bm PySem.F.plainAttrs_list PySem.F.slot_list_extend PySem.F.type_list_extend mt_extend ho (da_cons he da_nil bm.hs) bm.base bm.few bm.line bm.hs bm.pl) fun σ H Q ⟨F, A, r, q⟩ => ⟨F, A, r, fun v H1 F1 A1 e1 p1 r1 h1 => ?_⟩
  cases h1 with
  | ptr s =>
    obtain ⟨l0, hm0⟩ := hm1
    obtain ⟨_, vs0, hv0, _⟩ := r1.m.ok _ _ _ s hm0
    refine ⟨.inl ⟨rfl, _, SqL.of hv0⟩, F1, A1, r1, fun ws H2 F2 A2 e2 p2 r2 h2 => ?_⟩
    obtain ⟨w, rfl, h3⟩ := reps1 h2
    have s2 := pre_get p2 s
    obtain ⟨fn, vs, hv, rr⟩ := r2.m.ok _ _ _ s2 hm
    cases h3 with
    | lst s3 rr3 =>
      refine ⟨_, _, vs, _, rfl, rfl, hv, r2.m.sub _ _ s3, by rw [rr.len, rr3.len]; exact hz, q _ _ F2 A2 (e1.trans e2) (p1.trans p2) ⟨r2.m.write s2 ‹_› (by simp) fn (c := .lst (l ++ m)) ⟨fn, _, upd_same, rr.app rr3⟩, r2.s⟩ .non⟩
theorem de_count {ns : List Int} {i : Int} (ho : DE X ct Γ μ o d μ1) (hl : SeqM μ1 d (ns.map .int)) (nt : ∀ z, d ≠ .tup z) (he : DE X ct Γ μ1 e (.int i) μ2) (hl2 : SeqM μ2 d (ns.map .int))
    (bm : Bm X o "count" apos e pos := by exact ⟨rfl, rfl, rfl, rfl, rfl, rfl⟩) : DE X ct Γ μ (.Call (.Attribute o "count" apos) [e] [] pos) (.int (ns.count i : Nat)) μ2 := by
  refine PE.imp (pe_bm PySem.F.plainAttrs_list PySem.F.slot_list_count PySem.F.type_list_count mt_lcount ho (da_cons he da_nil bm.hs) bm.base bm.few bm.line bm.hs bm.pl) fun σ H Q ⟨F, A, r, q⟩ => ⟨F, A, r, fun v H1 F1 A1 e1 p1 r1 h1 => ?_⟩
  obtain ⟨a, vs, rfl, s, rr⟩ := hl.list nt r1.m h1
  refine ⟨.inl ⟨rfl, _, s⟩, F1, A1, r1, fun ws H2 F2 A2 e2 p2 r2 h2 => ?_⟩
  obtain ⟨w, rfl, h3⟩ := reps1 h2
  cases h3
  obtain ⟨a', vs', ea, s', rr'⟩ := hl2.list nt r2.m (h1.mono e2 p2)
  cases ea
  rw [rr'.of_ints] at s'
  exact ⟨_, ns, i, rfl, rfl, s', q _ H2 F2 A2 (e1.trans e2) (p1.trans p2) r2 (.int _)⟩
/-- a datum as a key -/
inductive KeyD : D → Key → Prop
  | int {i : Int} : KeyD (.int i) (.inl i)
  | str {i : Str} : KeyD (.str i) (.inr i)
theorem KeyD.rep {K : PySem.W.Frag} {A : List Addr} {F : Hp} {v : V} {key : Key} (h : KeyD d key) (r : Rep K ct A F v d) : v = kV key := by cases h <;> cases r <;> rfl
theorem is_dict {K : PySem.W.Frag} {H F : Hp} {A : List Addr} {v : V} (h : ∃ kds, da = .dic kds ∨ ∃ j, da = .ptr j ∧ μ[j]? = some (.dic kds)) (m : Rl0 K ct μ H F A) (r : Rep K ct A F v da) : ∃ a, v = .ref a ∧ IsD H a := by
  obtain ⟨kds, rfl | ⟨j, rfl, hm⟩⟩ := h
  · cases r with
    | dic s k1 k2 => exact ⟨_, rfl, .inl ⟨_, m.sub.r.rd _ _ rfl s⟩⟩
  · cases r with
    | ptr s => obtain ⟨_, kvs, hv, _, _⟩ := m.ok _ _ _ s hm; exact ⟨_, rfl, .inl ⟨_, .inl hv⟩⟩
/-- d.get(k), d.get(k, x) -/
inductive GetD (μ : Mu) : D → D → Option D → Prop
  | dicI {l : List (Key × D)} {i : Int} : GetD μ (.dic l) (.int i) (dget l (.inl i))
  | dicS {l : List (Key × D)} {i : Str} : GetD μ (.dic l) (.str i) (dget l (.inr i))
  | cdI {j : Nat} {l : List (Key × D)} {i : Int} (hm : μ[j]? = some (.dic l)) : GetD μ (.ptr j) (.int i) (dget l (.inl i))
  | cdS {j : Nat} {l : List (Key × D)} {i : Str} (hm : μ[j]? = some (.dic l)) : GetD μ (.ptr j) (.str i) (dget l (.inr i))
theorem kd_opt {K : PySem.W.Frag} {A : List Addr} {F : Hp} {kvs : List (Key × V)} {kds : List (Key × D)} (h : KD K ct A F kvs kds) (k : Key) (dd : D) (vd : V) (hd : Rep K ct A F vd dd) : Rep K ct A F ((valV kvs k).getD vd) ((dget kds k).getD dd) := by
  cases q : dget kds k with
  | none => rw [h.get_none q]; exact hd
  | some d => obtain ⟨v, e, r⟩ := h.get_some q; rw [e]; exact r
theorem GetD.get {K : PySem.W.Frag} {H F : Hp} {A : List Addr} {x y : V} {od : Option D} (h : GetD μ da db od) (m : Rl0 K ct μ H F A) (rx : Rep K ct A F x da) (ry : Rep K ct A F y db) :
    ∃ a ov, x = .ref a ∧ IsD H a ∧ DGet H a y ov ∧ ∀ dd vd, Rep K ct A F vd dd → Rep K ct A F (ov.getD vd) (od.getD dd) := by
  cases h with
  | dicI => cases rx with
    | dic s r1 r2 => cases ry with
      | int => exact ⟨_, _, rfl, .inl ⟨_, m.sub.r.rd _ _ rfl s⟩, .inl ⟨_, .inl _, m.sub.r.rd _ _ rfl s, rfl, rfl⟩, fun dd vd hd => kd_opt ⟨r1, r2⟩ _ dd vd hd⟩
  | dicS => cases rx with
    | dic s r1 r2 => cases ry with
      | str => exact ⟨_, _, rfl, .inl ⟨_, m.sub.r.rd _ _ rfl s⟩, .inl ⟨_, .inr _, m.sub.r.rd _ _ rfl s, rfl, rfl⟩, fun dd vd hd => kd_opt ⟨r1, r2⟩ _ dd vd hd⟩
  | cdI hm => cases rx with
    | ptr s => cases ry with
      | int => obtain ⟨_, kvs, hv, r1, r2⟩ := m.ok _ _ _ s hm; exact ⟨_, _, rfl, .inl ⟨_, .inl hv⟩, .inl ⟨_, .inl _, .inl hv, rfl, rfl⟩, fun dd vd hd => kd_opt ⟨r1, r2⟩ _ dd vd hd⟩
  | cdS hm => cases rx with
    | ptr s => cases ry with
      | str => obtain ⟨_, kvs, hv, r1, r2⟩ := m.ok _ _ _ s hm; exact ⟨_, _, rfl, .inl ⟨_, .inl hv⟩, .inl ⟨_, .inr _, .inl hv, rfl, rfl⟩, fun dd vd hd => kd_opt ⟨r1, r2⟩ _ dd vd hd⟩
theorem de_get1 {od : Option D} (hu : X.A.units + 1 < cLine) (ho : DE X ct Γ μ o da μ1) (he : DE X ct Γ μ1 e db μ2) (hk : ∃ key, KeyD db key) (h1 : ∃ kds, da = .dic kds ∨ ∃ j, da = .ptr j ∧ μ1[j]? = some (.dic kds)) (h : GetD μ2 da db od)
    (bm : Bm X o "get" apos e pos := by exact ⟨rfl, rfl, rfl, rfl, rfl, rfl⟩) : DE X ct Γ μ (.Call (.Attribute o "get" apos) [e] [] pos) (od.getD .non) μ2 := by
  refine PE.imp (pe_dget1 hu ho he bm.m1) fun σ H Q ⟨F, A, r, q⟩ => ⟨F, A, r, fun v H1 F1 A1 e1 p1 r1 hv => ?_⟩
  obtain ⟨a, rfl, hd⟩ := is_dict h1 r1.m hv
  refine ⟨a, rfl, hd, F1, A1, r1, fun w H2 F2 A2 e2 p2 r2 hw => ?_⟩
  obtain ⟨a', ov, ea, _, g, k⟩ := h.get r2.m (hv.mono e2 p2) hw
  cases ea
  exact ⟨ov, g, q _ H2 F2 A2 (e1.trans e2) (p1.trans p2) r2 (k _ _ .non)⟩
theorem de_get2 {od : Option D} {f : Expr} (hu : X.A.units + 1 < cLine) (ho : DE X ct Γ μ o da μ1) (he : DE X ct Γ μ1 e db μ2) (hf : DE X ct Γ μ2 f dc μ3) (h1 : ∃ kds, da = .dic kds ∨ ∃ j, da = .ptr j ∧ μ1[j]? = some (.dic kds)) (h : GetD μ3 da db od)
    (bm : M2 X o "get" apos e f pos := by exact ⟨rfl, rfl, rfl, rfl⟩) : DE X ct Γ μ (.Call (.Attribute o "get" apos) [e, f] [] pos) (od.getD dc) μ3 := by
  refine PE.imp (pe_dget2 hu ho he hf bm) fun σ H Q ⟨F, A, r, q⟩ => ⟨F, A, r, fun v H1 F1 A1 e1 p1 r1 hv => ?_⟩
  obtain ⟨a, rfl, hd⟩ := is_dict h1 r1.m hv
  refine ⟨a, rfl, hd, F1, A1, r1, fun w H2 F2 A2 e2 p2 r2 hw => ⟨F2, A2, r2, fun z H3 F3 A3 e3 p3 r3 hz => ?_⟩⟩
  obtain ⟨a', ov, ea, _, g, k⟩ := h.get r3.m (hv.mono (e2.trans e3) (p2.trans p3)) (hw.mono e3 p3)
  cases ea
  exact ⟨ov, g, q _ H3 F3 A3 (e1.trans (e2.trans e3)) (p1.trans (p2.trans p3)) r3 (k _ _ hz)⟩
/-- d.pop(k), d a place of the store -/
theorem de_dpop {j : Nat} {key : Key} {kds kds0 : List (Key × D)} (ho : DE X ct Γ μ o (.ptr j) μ1) (he : DE X ct Γ μ1 e db μ2) (hk : KeyD db key) (h1 : μ1[j]? = some (.dic kds0)) (h2 : μ2[j]? = some (.dic kds)) (hg : dget kds key = some d)
    (bm : Bm X o "pop" apos e pos := by exact ⟨rfl, rfl, rfl, rfl, rfl, rfl⟩) : DE X ct Γ μ (.Call (.Attribute o "pop" apos) [e] [] pos) d (μ2.set j (.dic (ddrop kds key))) := by
  refine PE.imp (pe_dpop1 ho he bm.m1) fun σ H Q ⟨F, A, r, q⟩ => ⟨F, A, r, fun v H1 F1 A1 e1 p1 r1 hv => ?_⟩
  obtain ⟨a, rfl, hd⟩ := is_dict ⟨kds0, .inr ⟨j, rfl, h1⟩⟩ r1.m hv
  refine ⟨a, rfl, hd, F1, A1, r1, fun w H2 F2 A2 e2 p2 r2 hw => ?_⟩
  cases hv with
  | ptr s =>
    have s2 := pre_get p2 s
    obtain ⟨fn, kvs, hvs, k1, k2⟩ := r2.m.ok _ _ _ s2 h2
    have kd : KD X.K ct A2 F2 kvs kds := ⟨k1, k2⟩
    obtain ⟨y, ey, ry⟩ := kd.get_some hg
    have kp := kd.drop key
    exact ⟨kvs, key, y, hvs, hk.rep hw, ey, q _ _ F2 A2 (e1.trans e2) (p1.trans p2) ⟨r2.m.write s2 ‹_› (by simp) fn (c := .dic (ddrop kds key)) ⟨fn, _, upd_same, kp.1, kp.2⟩, r2.s⟩ ry⟩
/-! ### slices of lists -/
def cutD (l : List D) (lo hi : Option Int) : List D := (l.drop (HT.sIx l.length 0 lo)).take (HT.sIx l.length l.length hi - HT.sIx l.length 0 lo)
/-- a part of a slice -/
def tO (K : PySem.W.Frag) (ct : Nat → Addr) (Γ : Gm) (μ : Mu) (i : Option Int) (μ' : Mu) : TO := fun σ H Q => ∃ F A, Rl K ct Γ μ σ H F A ∧ ∀ H' F' A', Le F F' → A <+: A' → Rl K ct Γ μ' σ H' F' A' → Q i H'
abbrev DO (X : Cx) (ct : Nat → Addr) (Γ : Gm) (μ : Mu) (e : Option Expr) (i : Option Int) (μ' : Mu) : Prop := PO X e (tO X.K ct Γ μ i μ')
theorem PO.imp {eo : Option Expr} {t t' : TO} (h : PO X eo t) (k : ∀ σ H Q, t' σ H Q → t σ H Q) : PO X eo t' := ⟨fun pins s σ H Q I q => h.run pins s σ H Q I (k σ H Q q)⟩
theorem do_none : DO X ct Γ μ none none μ := PO.imp po_none fun σ H Q ⟨F, A, r, q⟩ => q H F A (.refl _) pr r
theorem do_some {i : Int} (h : DE X ct Γ μ e (.int i) μ1) : DO X ct Γ μ (some e) (some i) μ1 := PO.imp (po_some h) fun σ H Q ⟨F, A, r, q⟩ => ⟨F, A, r, fun v H' F' A' e' p' r' h' => ⟨i, rep_int h', q H' F' A' e' p' r'⟩⟩
theorem de_sliceL {lo hi : Option Expr} {il ih : Option Int} {p2 : Pos} (he : DE X ct Γ μ e d μ1) (hd : d = .lst l ∨ d = .scr l) (hl : DO X ct Γ μ1 lo il μ2) (hh : DO X ct Γ μ2 hi ih μ3) : DE X ct Γ μ (.Subscript e (.Slice lo hi none p2) pos) (.lst (cutD l il ih)) μ3 := by
  refine PE.imp (pe_slice sl_list he hl hh) fun σ H Q ⟨F, A, r, q⟩ => ⟨F, A, r, fun v H1 F1 A1 e1 p1 r1 h1 => ⟨F1, A1, r1, fun H2 F2 A2 e2 p2 r2 => ⟨F2, A2, r2, fun H3 F3 A3 e3 p3 r3 => ?_⟩⟩⟩
  have h3 := h1.mono (e2.trans e3) (p2.trans p3)
  have hs : SeqM μ3 d l := by rcases hd with rfl | rfl <;> exact .seq rfl
  obtain ⟨a, vs, rfl, s, rr⟩ := hs.list (by rcases hd with rfl | rfl <;> intro z h <;> cases h) r3.m h3
  refine ⟨a, vs, rfl, s, new_lst r3.m (ds := cutD l il ih) ?_ fun v H' F' e' m' h' => q v H' F' A3 (e1.trans (e2.trans (e3.trans e'))) (p1.trans (p2.trans p3)) ⟨m', r3.s.mono e' pr⟩ h'⟩
  unfold cutV cutD
  rw [rr.len]
  exact (rr.drop _).take _
/-! ### stores -/
theorem ds_put {j : Nat} {tpos : Pos} {i : Int} (he : DE X ct Γ μ e d μ1) (ho : DE X ct Γ μ1 o (.ptr j) μ2) (hi : DE X ct Γ μ2 a (.int i) μ3) (hm : μ3[j]? = some (.lst l)) {n : Nat} (hn : ixN l.length i = some n) (hr : DSs X ct rest Γ (μ3.set j (.lst (l.set n d))) P)
    (ha : ∀ v, assign (.Subscript o a tpos) X.env v = (do
      let ov ← holding [v] (eval o X.env)
      let iv ← holding [v, ov] (eval a X.env)
      standAt tpos
      holding [v, ov, iv] (setItem ov iv v)
      release [v, ov, iv] []) := by intro _; rfl)
    (hs : swapsWithSole [.Subscript o a tpos] e pos.line X.env = pure false := by rfl) (hw : swappedStores [.Subscript o a tpos] e X.env = pure none := by rfl)
    (h1 : (assignEach [.Subscript o a tpos] X.env).map (·.2) = [assign (.Subscript o a tpos) X.env] := by rfl) : DSs X ct (.Assign [.Subscript o a tpos] e pos :: rest) Γ μ P := by
  refine ds_cons (PS.imp (ps_asg he (pg_sub ho hi set_list ha) hs hw h1) fun D σ H ⟨F, A, r, q1, q2, q3, q4⟩ => ⟨F, A, r, fun v H1 F1 A1 e1 p1 r1 hv => ⟨F1, A1, r1, fun w H2 F2 A2 e2 p2 r2 hw => ⟨F2, A2, r2, fun u H3 F3 A3 e3 p3 r3 hu => ?_⟩⟩⟩)
  cases hw with
  | ptr s =>
    cases hu
    have s3 := pre_get p3 s
    obtain ⟨fn, vs, hvs, rr⟩ := r3.m.ok _ _ _ s3 hm
    refine ⟨_, vs, i, n, rfl, rfl, hvs, by rw [rr.len]; exact hn, q1 _ _ _ _ F3 A3 (e1.trans (e2.trans e3)) (p1.trans (p2.trans p3)) ⟨r3.m.write s3 ‹_› (by simp) fn (c := .lst (l.set n d)) ⟨fn, _, upd_same, Reps.set (hv.mono (e2.trans e3) (p2.trans p3)) n rr⟩, r3.s⟩ hr⟩
theorem ds_dput {j : Nat} {tpos : Pos} {key : Key} {kds : List (Key × D)} (hu : X.A.units + 1 < cLine) (he : DE X ct Γ μ e d μ1) (ho : DE X ct Γ μ1 o (.ptr j) μ2) (hi : DE X ct Γ μ2 a da μ3) (hk : KeyD da key) (hm : μ3[j]? = some (.dic kds)) (hz : kds.length < sizeLine) (hr : DSs X ct rest Γ (μ3.set j (.dic (dput kds key d))) P)
    (hs : swapsWith e (some (.Subscript o a tpos)) pos.line X.env = pure false := by rfl) : DSs X ct (.Assign [.Subscript o a tpos] e pos :: rest) Γ μ P := by
  refine ds_cons (PS.imp (ps_dput hu ho hi he hs) fun D σ H ⟨F, A, r, q1, q2, q3, q4⟩ => ⟨F, A, r, fun v H1 F1 A1 e1 p1 r1 hv => ⟨F1, A1, r1, fun w H2 F2 A2 e2 p2 r2 hw => ⟨F2, A2, r2, fun u H3 F3 A3 e3 p3 r3 hu => ?_⟩⟩⟩)
  cases hw with
  | ptr s =>
    have s3 := pre_get p3 s
    obtain ⟨fn, kvs, hvs, k1, k2⟩ := r3.m.ok _ _ _ s3 hm
    have kd : KD X.K ct A3 F3 kvs kds := ⟨k1, k2⟩
    have kp := kd.put key (hv.mono (e2.trans e3) (p2.trans p3))
    have eu := hk.rep hu
    subst eu
    refine ⟨_, _, rfl, DPut.k hvs (by rw [kd.len]; exact hz), q1 _ _ _ _ F3 A3 (e1.trans (e2.trans e3)) (p1.trans (p2.trans p3)) ⟨r3.m.write s3 ‹_› (by simp) fn (c := .dic (dput kds key d)) ⟨fn, _, upd_same, kp.1, kp.2⟩, r3.s⟩ hr⟩
/-- o.f = v, o a place of the store -/
theorem fs_put {K : PySem.W.Frag} {A : List Addr} {F : Hp} {v : V} (hv : Rep K ct A F v d) : ∀ {vfs : List (Str × V)} {fs : List (Str × D)}, vfs.map (·.1) = fs.map (·.1) → Reps K ct A F (vfs.map (·.2)) (fs.map (·.2)) → (putF f v vfs).map (·.1) = (putD f d fs).map (·.1) ∧ Reps K ct A F ((putF f v vfs).map (·.2)) ((putD f d fs).map (·.2))
  | [], [], _, _ => ⟨rfl, .cons hv .nil⟩
  | [], _ :: _, h, _ => by simp at h
  | _ :: _, [], h, _ => by simp at h
  | (g, w) :: vfs, (g', w') :: fs, h, r => by
    simp only [List.map_cons, List.cons.injEq] at h
    simp only [List.map_cons] at r
    obtain ⟨rfl, h2⟩ := h
    cases r with
    | cons r1 r2 =>
      unfold putF putD
      by_cases e : g = f
      · rw [if_pos e, if_pos e]
        exact ⟨by simp only [List.map_cons, h2], .cons hv r2⟩
      · rw [if_neg e, if_neg e]
        obtain ⟨i1, i2⟩ := fs_put hv h2 r2
        exact ⟨by simp only [List.map_cons, i1], .cons r1 i2⟩
theorem ds_fld {j n : Nat} {fs : List (Str × D)} {tpos : Pos} (hf : FldOk X.K ct n f) (he : DE X ct Γ μ e d μ1) (ho : DE X ct Γ μ1 o (.ptr j) μ2) (hm : μ2[j]? = some (.ins n fs)) (hz : fs.length < 1000) (hr : DSs X ct rest Γ (μ2.set j (.ins n (putD f d fs))) P)
    (hs : swapsWith e (some (.Attribute o f tpos)) pos.line X.env = pure false := by rfl) : DSs X ct (.Assign [.Attribute o f tpos] e pos :: rest) Γ μ P := by
  refine ds_cons (PS.imp (ps_fld ho he hs) fun D σ H ⟨F, A, r, q1, q2, q3, q4⟩ => ⟨F, A, r, fun v H1 F1 A1 e1 p1 r1 hv => ⟨F1, A1, r1, fun w H2 F2 A2 e2 p2 r2 hw => ?_⟩⟩)
  cases hw with
  | ptr s =>
    obtain ⟨fn, dx, vfs, hvs, k1, k2⟩ := r2.m.ok _ _ _ s hm
    obtain ⟨i1, i2⟩ := fs_put (f := f) (hv.mono e2 p2) k1 k2
    have hl : vfs.length = fs.length := by have := congrArg List.length k1; simpa using this
    exact ⟨_, _, _, vfs, rfl, hvs, hf.cl, hf.na, by omega, q1 _ _ _ _ F2 A2 (e1.trans e2) (p1.trans p2) ⟨r2.m.write s ‹_› (by simp) fn (c := .ins n (putD f d fs)) ⟨fn, dx, _, upd_same, i1, i2⟩, r2.s⟩ hr⟩
theorem ds_aug {op : Operator} {i : Nat} {u v z : Int} (g : Int → Int → Int) (hN : X.N.Nodup) (hΓ : Γ[i]? = some (some (.int u))) (ho : PIp X op (ipI g)) (he : DE X ct Γ μ e (.int v) μ1) (hr : DSs X ct rest (Γ.set i (some (.int (g u v)))) μ1 P) (hi : X.N[i]? = some x := by rfl) (hx : Loc X.env.scope x := by first | exact Or.inl rfl | exact Or.inr rfl) (hf : X.fn x = true ∨ X.env.scope.names.lookup x = some .local := by first | exact .inl rfl | exact .inr rfl) :
    DSs X ct (.AugAssign (.Name x p) op e pos :: rest) Γ μ P :=
  ds_cons (PS.imp (ps_aug hN hi hx he ho hf) fun D σ H ⟨F, A, r, q1, q2, q3, q4⟩ => by
    obtain ⟨w, hw, rep⟩ := r.s.get hΓ
    cases rep
    exact ⟨_, hw, F, A, r, fun y H1 F1 A1 e1 p1 r1 h1 => by
      cases h1
      exact ⟨u, v, rfl, rfl, q1 _ _ _ _ F1 A1 e1 p1 ⟨r1.m, r1.s.set (.int _) i⟩ hr⟩⟩)
end
end DL

namespace DL
open PySem PySem.Spec PyProof.Rows L2
section
variable {X : Cx} {ct : Nat → Addr} {Γ Γ1 Γ2 : Gm} {μ μ1 μ2 μ3 : Mu} {d da db dc : D} {ds xs l m : List D} {e a b c o tg elt iter : Expr} {es tgs : List Expr} {st : Stmt} {rest sa sb body : List Stmt} {pos p tp apos : Pos} {x f : Str} {k k' : Bool} {P P' : P4} {kds : List (Key × D)}
/-! ### a walk over a dict's keys: it is locked meanwhile -/
def keyDat : Key → D
  | .inl i => .int i
  | .inr s => .str s
theorem rep_key {K : PySem.W.Frag} {A : List Addr} {F : Hp} (k : Key) : Rep K ct A F (kV k) (keyDat k) := by cases k with
  | inl i => exact .int i
  | inr s => exact .str s
/-- an expression that gives a dict which stands already -/
structure DPath (X : Cx) (ct : Nat → Addr) (e : Expr) (Γ : Gm) (μ : Mu) (kds : List (Key × D)) : Prop where
  ex : ∃ t : TE, PE X e t ∧ ∀ σ H F A, Rl X.K ct Γ μ σ H F A → ∃ ad kvs, Rd F ad (.dK kvs) ∧ KD X.K ct A F kvs kds ∧ ∀ F' H' Q, LeR F F' → Sub F' H' → Q (.ref ad) H' → t σ H' Q
theorem dp_name (i : Nat) (hΓ : Γ[i]? = some (some (.dic kds)) := by rfl) (hN : X.N[i]? = some x := by rfl) (hv : Vis X.env.scope x := by first | exact Or.inl rfl | exact Or.inr (Or.inl rfl) | exact Or.inr (Or.inr rfl)) (hd : (x == ("__debug__" : Str)) = false := by decide)
    (hcd : (x == ("__classdict__" : Str)) = false := by decide) : DPath X ct (.Name x pos) Γ μ kds :=
  ⟨_, pe_var hN hv hd hcd, fun σ H F A r => by
    obtain ⟨v, hv, rep⟩ := r.s.get hΓ
    cases rep with
    | dic s k1 k2 => exact ⟨_, _, s, ⟨k1, k2⟩, fun F' H' Q _ _ q => ⟨_, hv, q⟩⟩⟩
theorem dp_ix {j : Int} {kk : Nat} {q1 q2 : Pos} (i : Nat) (h : atI l j = some (.dic kds)) (hΓ : Γ[i]? = some (some (.tup l)) := by rfl) (hN : X.N[i]? = some x := by rfl) (hv : Vis X.env.scope x := by first | exact Or.inl rfl | exact Or.inr (Or.inl rfl) | exact Or.inr (Or.inr rfl)) (hd : (x == ("__debug__" : Str)) = false := by decide)
    (hcd : (x == ("__classdict__" : Str)) = false := by decide) : DPath X ct (.Subscript (.Name x q1) (.Constant (.int j) kk q2) pos) Γ μ kds :=
  ⟨_, pe_ix ix_tup (pe_var hN hv hd hcd) pe_int (fun _ _ => rfl), fun σ H F A r => by
    obtain ⟨v, hv, rep⟩ := r.s.get hΓ
    cases rep with
    | tup s rr =>
      obtain ⟨w, hw, rw'⟩ := reps_at rr h
      cases rw' with
      | dic s2 k1 k2 => exact ⟨_, _, s2, ⟨k1, k2⟩, fun F' H' Q le sb q => ⟨_, hv, _, _, _, _, rfl, rfl, sqT_sub sb (le.t s), hw, q⟩⟩⟩
theorem walkD_keys {K : PySem.W.Frag} {ad : Addr} {od : Obj} {kvs : List (Key × V)} {F1 : Hp} {A1 : List Addr} (s : F1 ad = some (.frz od (.dK kvs))) (h : KD K ct A1 F1 kvs kds) : WalkD K ct (Itk ad od kvs) (kds.map fun kv => keyDat kv.1) F1 A1 where
  goes := fun i H F hi e sb => ⟨sb _ _ (e _ _ s), by rw [h.len]; simpa using hi⟩
  stops := fun H F e sb => ⟨sb _ _ (e _ _ s), by rw [h.len]; simp⟩
  yields := fun i H F A μ v H' d hd e p m y => by
    obtain ⟨rfl, k, w, hk, rfl⟩ := y
    have e1 : (kvs.map (·.1))[i]? = some k := by rw [List.getElem?_map, hk]; rfl
    rw [h.1, List.getElem?_map, Option.map_eq_some_iff] at e1
    obtain ⟨q, hq, rfl⟩ := e1
    rw [List.getElem?_map, hq] at hd
    cases hd
    exact ⟨F, .refl _, m, rep_key _⟩
theorem PS.or {t t' : TS} (h : PS X st t) (h' : PS X st t') : PS X st (fun D σ H => t D σ H ∨ t' D σ H) := ⟨fun pins s σ H D I q => q.elim (h.run pins s σ H D I) (h'.run pins s σ H D I)⟩
theorem PE.or {t t' : TE} (h : PE X e t) (h' : PE X e t') : PE X e (fun σ H Q => t σ H Q ∨ t' σ H Q) := ⟨fun pins s σ H Q I q => q.elim (h.run pins s σ H Q I) (h'.run pins s σ H Q I)⟩
/-- a frozen object gets or loses its lock -/
theorem Rl0.swap {K : PySem.W.Frag} {H F : Hp} {A : List Addr} {ad : Addr} {o1 o2 : HO} (r : Rl0 K ct μ H F A) (h : F ad = some o1) (le : LeR F (upd F ad o2)) (hm : unmark o2 = o2) : Rl0 K ct μ (upd H ad o2) (upd F ad o2) A where
  sub := fun a o e => by
    by_cases ha : a = ad
    · subst ha; rw [upd_same] at e ⊢; cases e; rw [hm]
    · rw [upd_ne ha] at e ⊢; exact r.sub a o e
  len := r.len
  nd := r.nd
  there := fun a ha => by
    by_cases e : a = ad
    · subst e; exact ⟨_, upd_same⟩
    · rw [upd_ne e]; exact r.there a ha
  ok := fun k a c ha hc => by
    have q := r.ok k a c ha hc
    by_cases ne : a = ad
    · subst ne
      cases c with
      | dead => trivial
      | lst l => have := q.1; rw [h] at this; cases this
      | dic l => have := q.1; rw [h] at this; cases this
      | ins n l => have := q.1; rw [h] at this; cases this
    · exact q.monoR le pr (fun f => by rw [upd_ne ne]; exact f) fun o ho _ => by rw [upd_ne ne]; exact ho
/-- the lock's end -/
theorem unlocked {K : PySem.W.Frag} {F H' F' : Hp} {A' : List Addr} {ad : Addr} {od : Obj} {kvs : List (Key × V)} (hF : F ad = some (.dK kvs)) (e : Le (upd F ad (.frz od (.dK kvs))) F') (r : Rl0 K ct μ H' F' A') :
    H' ad = some (.frz od (.dK kvs)) ∧ Le F (upd F' ad (.dK kvs)) ∧ LeR F' (upd F' ad (.dK kvs)) ∧ Rl0 K ct μ (upd H' ad (.dK kvs)) (upd F' ad (.dK kvs)) A' := by
  have h := e _ _ upd_same
  refine ⟨r.sub _ _ h, fun a o ho => ?_, .unlock h, r.swap h (.unlock h) rfl⟩
  by_cases ha : a = ad
  · subst ha; rw [upd_same]; rw [hF] at ho; exact ho
  · rw [upd_ne ha]; exact e a o (by rw [upd_ne ha]; exact ho)
theorem ds_forK (hp : PassesOwn (model X.prog X.w) X.A X.env X.xe) (hc : X.calm = true) (hz : kds.length ≤ sizeLine) (hi : DPath X ct iter Γ μ kds) (I : Nat → Gm → Mu → Prop) (h0 : ∃ Γ0, GLe Γ0 Γ ∧ I 0 Γ0 μ)
    (hs : ∀ i d Γ' μ', (kds.map fun kv => keyDat kv.1)[i]? = some d → I i Γ' μ' → ∃ l, DG X ct tg d l ∧ DSs X ct body (setG Γ' l) μ' { nx := fun Γ μ => ∃ Γ0, GLe Γ0 Γ ∧ I (i + 1) Γ0 μ, ct := fun Γ μ => ∃ Γ0, GLe Γ0 Γ ∧ I (i + 1) Γ0 μ, bk := fun Γ μ => DSs X ct rest Γ μ P, rt := P.rt })
    (hd : ∀ Γ' μ', I kds.length Γ' μ' → DSs X ct rest Γ' μ' P) (hfs : ∀ x, foldedSetIterable iter X.env x = pure x := by intro _; rfl) : DSs X ct (.For tg iter body [] pos :: rest) Γ μ P := by
  obtain ⟨t, ht, hp'⟩ := hi.ex
  have hlen : (kds.map fun kv => keyDat kv.1).length = kds.length := by simp
  refine ds_cons (PS.imp (PS.or (ps_for hp hc (pi_keys ht) pg_any pss_any hfs) (ps_lock (ps_for hp hc (pi_keys ht) pg_any pss_any hfs))) fun D σ H ⟨F, A, r, q1, q2, q3, q4⟩ => ?_)
  obtain ⟨ad, kvs, hrd, kd, hpath⟩ := hp' σ H F A r
  rcases hrd with hF | ⟨od, hF⟩
  · -- it is locked now
    have hH : H ad = some (.dK kvs) := r.m.sub _ _ hF
    refine .inr ⟨ad, .dK kvs, hH, trivial, fun od => ?_⟩
    have lk : LeR F (upd F ad (.frz od (.dK kvs))) := .lock hF ⟨_, rfl⟩
    have r1 : Rl X.K ct Γ μ σ (upd H ad (.frz od (.dK kvs))) (upd F ad (.frz od (.dK kvs))) A := ⟨r.m.swap hF lk rfl, r.s.monoR lk pr⟩
    refine tFor_D (P := { P with nx := fun Γ μ => DSs X ct rest Γ μ P }) (F := upd F ad (.frz od (.dK kvs))) (A := A) (μ1 := μ) (xs := kds.map fun kv => keyDat kv.1) (fun R kk => hpath _ _ _ lk r1.m.sub ⟨ad, od, rfl, .inl ⟨kvs, upd_same, kk _ _ _ A (.refl _) pr r1 (walkD_keys upd_same ⟨kd.1, kd.2.monoR lk pr⟩) (by rw [hlen]; exact hz)⟩⟩) I h0 (fun i d Γ' μ' hx hI _ => hs i d Γ' μ' hx hI) (fun Γ' μ' hI => hd Γ' μ' (by rw [hlen] at hI; exact hI)) ?_ ?_
    · intro Γ' μ' σ' H' F' A' e p r' h
      obtain ⟨u1, u2, u3, u4⟩ := unlocked hF e r'.m
      exact ⟨u1, q1 Γ' μ' σ' _ _ A' u2 p ⟨u4, r'.s.monoR u3 pr⟩ h⟩
    · intro d μ' v H' F' A' e p r' rr h
      obtain ⟨u1, u2, u3, u4⟩ := unlocked hF e r'
      exact ⟨u1, q2 d μ' v _ _ A' u2 p u4 (rr.monoR u3 pr) h⟩
  · refine .inl (tFor_D (P := { P with nx := fun Γ μ => DSs X ct rest Γ μ P }) (F := F) (A := A) (μ1 := μ) (xs := kds.map fun kv => keyDat kv.1) (fun R kk => hpath _ _ _ (Le.refl F).r r.m.sub ⟨ad, od, rfl, .inl ⟨kvs, r.m.sub _ _ hF, kk _ H F A (.refl _) pr r (walkD_keys hF kd) (by rw [hlen]; exact hz)⟩⟩) I h0 (fun i d Γ' μ' hx hI _ => hs i d Γ' μ' hx hI) (fun Γ' μ' hI => hd Γ' μ' (by rw [hlen] at hI; exact hI)) q1 q2)
/-- [elt for tg in d if ..], elements that change nothing -/
theorem de_lcK {ifs : List Expr} {scope : Scope} (own : List (Str × Nat)) (pd : Key → Bool) (g : Key → D) (hc : X.calm = true) (hN : X.N.Nodup) (hz : kds.length ≤ sizeLine) (hi : DPath X ct iter Γ μ kds) (ok : BlkOk X.N X.env.scope scope own)
    (hs : ∀ kv ∈ kds, ∃ l, (∀ p ∈ l, p.1 ∈ own.map (·.2)) ∧ (∀ s H C cl fp, DG (Bk X scope s H C cl fp) ct tg (keyDat kv.1) l) ∧ (∀ s H C cl fp, DTs (Bk X scope s H C cl fp) ct ifs (setG (wipeG Γ (own.map (·.2))) l) μ (pd kv.1) μ) ∧
      (pd kv.1 = true → ∀ s H C cl fp, DE (Bk X scope s H C cl fp) ct (setG (wipeG Γ (own.map (·.2))) l) μ elt (g kv.1) μ)) (hfs : ∀ x, foldedSetIterable iter X.env x = pure x := by intro _; rfl) : DE X ct Γ μ (.ListComp elt [⟨tg, iter, ifs, 0⟩] scope pos) (.lst (((kds.map (·.1)).filter pd).map g)) μ := by
  obtain ⟨t, ht, hp'⟩ := hi.ex
  have hlen : (kds.map fun kv => keyDat kv.1).length = kds.length := by simp
  have h0 := pe_lc (elt := elt) (tg := tg) (ifs := ifs) (scope := scope) (pos := pos) (g := fun v σ H Q => ∃ t, (∀ s H C cl fp, PG (Bk X scope s H C cl fp) tg t) ∧ t v σ H Q) (tt := fun σ H Q => ∃ t, (∀ s H C cl fp, PTs (Bk X scope s H C cl fp) ifs t) ∧ t σ H Q) (te := fun σ H Q => ∃ t, (∀ s H C cl fp, PE (Bk X scope s H C cl fp) elt t) ∧ t σ H Q) hc hN (pi_keys (tg := tg) ht) ok
    (fun s H C cl fp => ⟨fun pins s' σ H' v u Q I r ⟨t, h, q⟩ => (h s H C cl fp).run pins s' σ H' v u Q I r q⟩) (fun s H C cl fp => ⟨fun pins s' σ H' Q I ⟨t, h, q⟩ => (h s H C cl fp).run pins s' σ H' Q I q⟩) (fun s H C cl fp => ⟨fun pins s' σ H' Q I ⟨t, h, q⟩ => (h s H C cl fp).run pins s' σ H' Q I q⟩) hfs
  have turn : ∀ i d acc μ', (kds.map fun kv => keyDat kv.1)[i]? = some d → (acc = (((kds.map (·.1)).take i).filter pd).map g ∧ μ' = μ) → ∃ l k μ2, (∀ p ∈ l, p.1 ∈ own.map (·.2)) ∧ (∀ v σ H Q, tG X.K ct d l v σ H Q → ∃ t, (∀ s H C cl fp, PG (Bk X scope s H C cl fp) tg t) ∧ t v σ H Q) ∧ (∀ σ H Q, tT X.K ct (setG (wipeG Γ (own.map (·.2))) l) μ' k μ2 σ H Q → ∃ t, (∀ s H C cl fp, PTs (Bk X scope s H C cl fp) ifs t) ∧ t σ H Q) ∧
      (k = true → ∃ y μ3, (∀ σ H Q, tD X.K ct (setG (wipeG Γ (own.map (·.2))) l) μ2 y μ3 σ H Q → ∃ t, (∀ s H C cl fp, PE (Bk X scope s H C cl fp) elt t) ∧ t σ H Q) ∧ (acc ++ [y] = (((kds.map (·.1)).take (i + 1)).filter pd).map g ∧ μ3 = μ)) ∧ (k = false → (acc = (((kds.map (·.1)).take (i + 1)).filter pd).map g ∧ μ2 = μ)) := by
    rintro i d acc μ' hx ⟨rfl, rfl⟩
    rw [List.getElem?_map, Option.map_eq_some_iff] at hx
    obtain ⟨kv, hkv, rfl⟩ := hx
    obtain ⟨l, h1, h2, h3, h4⟩ := hs kv (List.mem_of_getElem? hkv)
    have hk1 : (kds.map (·.1))[i]? = some kv.1 := by rw [List.getElem?_map, hkv]; rfl
    have et : (kds.map (·.1)).take (i + 1) = (kds.map (·.1)).take i ++ [kv.1] := by
      obtain ⟨hi, e⟩ := List.getElem?_eq_some_iff.mp hk1
      rw [List.take_succ_eq_append_getElem hi, e]
    refine ⟨l, pd kv.1, _, h1, fun v σ H Q q => ⟨_, h2, q⟩, fun σ H Q q => ⟨_, h3, q⟩, fun hk => ⟨g kv.1, _, fun σ H Q q => ⟨_, h4 hk, q⟩, ?_, rfl⟩, fun hk => ⟨?_, rfl⟩⟩
    · rw [et, List.filter_append, List.filter_cons, hk]; simp
    · rw [et, List.filter_append, List.filter_cons, hk]; simp
  have hle : ∀ (i : Nat) (acc : List D) (μ' : Mu), (acc = (((kds.map (·.1)).take i).filter pd).map g ∧ μ' = μ) → acc.length ≤ i := by
    rintro i acc μ' ⟨rfl, _⟩
    rw [List.length_map]
    exact Nat.le_trans (List.length_filter_le _ _) (by rw [List.length_take]; omega)
  have hend : ∀ (acc : List D) (μ' : Mu), (acc = (((kds.map (·.1)).take (kds.map fun kv => keyDat kv.1).length).filter pd).map g ∧ μ' = μ) → acc = ((kds.map (·.1)).filter pd).map g ∧ μ' = μ := by
    rintro acc μ' ⟨rfl, e⟩
    refine ⟨?_, e⟩
    rw [show (kds.map fun kv => keyDat kv.1).length = (kds.map (·.1)).length by simp, List.take_length]
  refine PE.imp (PE.or h0 (pe_lock h0)) fun σ H Q ⟨F, A, r, q⟩ => ?_
  obtain ⟨ad, kvs, hrd, kd, hpath⟩ := hp' σ H F A r
  rcases hrd with hF | ⟨od, hF⟩
  · have hH : H ad = some (.dK kvs) := r.m.sub _ _ hF
    refine .inr ⟨ad, .dK kvs, hH, trivial, fun od => ?_⟩
    have lk : LeR F (upd F ad (.frz od (.dK kvs))) := .lock hF ⟨_, rfl⟩
    have r1 : Rl X.K ct Γ μ σ (upd H ad (.frz od (.dK kvs))) (upd F ad (.frz od (.dK kvs))) A := ⟨r.m.swap hF lk rfl, r.s.monoR lk pr⟩
    refine tLc_D (μ1 := μ) (xs := kds.map fun kv => keyDat kv.1) (fun i acc μ' => acc = (((kds.map (·.1)).take i).filter pd).map g ∧ μ' = μ) ⟨rfl, rfl⟩ turn hle hend (F := upd F ad (.frz od (.dK kvs))) (A := A) (fun R kk => hpath _ _ _ lk r1.m.sub ⟨ad, od, rfl, .inl ⟨kvs, upd_same, kk _ _ _ A (.refl _) pr r1 (walkD_keys upd_same ⟨kd.1, kd.2.monoR lk pr⟩) (by rw [hlen]; exact hz)⟩⟩) ?_
    intro v H' F' A' e p r' rr
    obtain ⟨u1, u2, u3, u4⟩ := unlocked hF e r'.m
    exact ⟨u1, q v _ _ A' u2 p ⟨u4, r'.s.monoR u3 pr⟩ (rr.monoR u3 pr)⟩
  · exact .inl (tLc_D (μ1 := μ) (xs := kds.map fun kv => keyDat kv.1) (fun i acc μ' => acc = (((kds.map (·.1)).take i).filter pd).map g ∧ μ' = μ) ⟨rfl, rfl⟩ turn hle hend (F := F) (A := A) (fun R kk => hpath _ _ _ (Le.refl F).r r.m.sub ⟨ad, od, rfl, .inl ⟨kvs, r.m.sub _ _ hF, kk _ H F A (.refl _) pr r (walkD_keys hF kd) (by rw [hlen]; exact hz)⟩⟩) q)
end
end DL

namespace DL
open PySem PySem.Spec PyProof.Rows L2
/-! ### the head's facts: He's list, and one more Bool -/
def obsX (fa : List He.Fa) (fn : List He.DefD) (xb : PySem.W.Frag → Bool) (K : PySem.W.Frag) : He.AlD := ((fa.all fun f => f.ok K) && ((fn.all fun d => d.ok K) && xb K), fn.map fun d => He.fnW K d.at_)
def SaysX (fa : List He.Fa) (fn : List He.DefD) (xb : PySem.W.Frag → Bool) (K : PySem.W.Frag) : Prop := obsX fa fn xb K = He.valD fn
def obsXG (n : Nat) (fa : List He.Fa) (fn : List He.DefD) (xb : PySem.W.Frag → Bool) (g : Addr → Option Obj) : He.AlD := obsX fa fn xb (He.frG g (He.asD g n))
def hookX (n : Nat) (fa : List He.Fa) (fn : List He.DefD) (xb : PySem.W.Frag → Bool) : PySem.W.Hook where
  α := He.AlD
  obs := fun s => obsXG n fa fn xb s.heap.get?
  val := fun _ => He.valD fn
  says := fun _ h => ∃ K : PySem.W.Frag, K.In h ∧ SaysX fa fn xb K
  of := fun _ _ e => ⟨_, He.frG_in, e⟩
  keeps := fun _ _ _ ⟨K, hK, c⟩ k => ⟨K, PySem.W.Frag.In.keeps hK k, c⟩
theorem obsXG_eq {n : Nat} {fa : List He.Fa} {fn : List He.DefD} {xb : PySem.W.Frag → Bool} {g : Addr → Option Obj} {s : Shared} (h : ∀ a, g a = s.heap.get? a) : obsXG n fa fn xb g = (hookX n fa fn xb).obs s := by
  have e : g = s.heap.get? := funext h
  rw [e] <;> rfl
section
variable {fa : List He.Fa} {fn : List He.DefD} {xb : PySem.W.Frag → Bool} {K : PySem.W.Frag}
theorem SaysX.fact (c : SaysX fa fn xb K) (i : Nat) {f : He.Fa} (h : fa[i]? = some f := by rfl) : f.ok K = true := by
  have c1 := (He.ba (show ((fa.all fun f => f.ok K) && ((fn.all fun d => d.ok K) && xb K)) = true from congrArg (fun z : He.AlD => z.1) c)).1
  exact List.all_eq_true.mp c1 f (List.mem_of_getElem? h)
theorem SaysX.x (c : SaysX fa fn xb K) : xb K = true := (He.ba (He.ba (show ((fa.all fun f => f.ok K) && ((fn.all fun d => d.ok K) && xb K)) = true from congrArg (fun z : He.AlD => z.1) c)).2).2
theorem SaysX.def_ (c : SaysX fa fn xb K) (i : Nat) {d : He.DefD} (h : fn[i]? = some d := by rfl) : ∃ fd, FunD K d.name d.qual d.params d.body d.scope (d.dvs K) (d.kws K) (He.fAd K d.at_) fd := by
  have c2 := (He.ba (He.ba (show ((fa.all fun f => f.ok K) && ((fn.all fun d => d.ok K) && xb K)) = true from congrArg (fun z : He.AlD => z.1) c)).2).1
  have e : fn.map (fun d => He.fnW K d.at_) = fn.map He.DefD.val := congrArg (fun z : He.AlD => z.2) c
  have e2 : (fn.map fun d => He.fnW K d.at_)[i]? = (fn.map He.DefD.val)[i]? := by rw [e]
  rw [List.getElem?_map, List.getElem?_map, h] at e2
  exact He.DefD.funD (Option.some.inj e2) (List.all_eq_true.mp c2 d (List.mem_of_getElem? h))
end
theorem glc_tup {K : PySem.W.Frag} {ct : Nat → Addr} {mg : Str → Option Value} {x : Str} {dvs : List He.Dv} {ds : List D} (hm : mg x = some (.ref (He.ga K x))) (h : He.tupB K x dvs = true) (r : ∀ {A F}, Reps K ct A F (dvs.map (He.Dv.v K)) ds) : GlC K ct mg x (.tup ds) :=
  ⟨_, .ref (He.ga K x), hm, rfl, fun A F => .tup (He.tupB_ok h F) r⟩
/-! ### a def of the text keeps its promise -/
section
variable {P : Program} {w : World} {K : PySem.W.Frag} {mg : Str → Option Value} {base : Heap} {ct : Nat → Addr}
theorem fn_okF {x qual : Str} {params : Arguments} {body : List Stmt} {scope : Scope} {dvs : List V} {f : Addr} {fd : FuncData} {N ps : List Str} {k : Nat} {R : Rf} (F : FunD K x qual params body scope dvs [] f fd) (S : FnScope N ps scope) (hl : ∀ ds μ o μ', R ds μ o μ' → ds.length = ps.length)
    (hbody : ∀ (cdv : Value) (A : Around) (outer : List Env) (s : Shared) (H : Hp) (E : XK) (ds : List D) (μ : Mu) (o : Out) (μ' : Mu), Room k (A.deeper (envOfC qual scope s.heap.objs.size f cdv)) → R ds μ o μ' →
      ∃ d, o = .val d ∧ DSs (cxOf CX0 P w K mg base N qual scope f cdv A outer s H E).nox ct body (ds.map some ++ List.replicate (N.length - ds.length) none) μ
        { nx := fun _ μ2 => Ended μ.length d μ' .non μ2, rt := fun d2 μ2 => Ended μ.length d μ' d2 μ2 }) : FnOk P w K mg base CX0 (k + 1) f fd ps (spD K ct R) := by
  refine F.ok S (fun vs H Q E ⟨F, A, μ, ds, o, μ', r, rs, h, _⟩ => by rw [rs.len]; exact hl _ _ _ _ h) fun cdv A outer s H vs Q E hr ⟨F, A', μ, ds, o, μ', r, rs, h, q⟩ => ?_
  obtain ⟨d, rfl, hb⟩ := hbody cdv A outer s H E ds μ o μ' hr h
  refine ⟨_, PSs.nox hb, F, A', ⟨r, ?_⟩, fun Γ2 μ2 σ2 H2 F2 A2 e2 p2 r2 z => ended_go q e2 p2 r2.m .non r.len z, fun d2 μ2 v H2 F2 A2 e2 p2 r2 h2 z => ended_go q e2 p2 r2 h2 r.len z, fun _ _ _ _ _ _ _ _ _ z => z.elim, fun _ _ _ _ _ _ _ _ _ z => z.elim⟩
  unfold L2.start
  rw [rs.len]
  exact Slots.start _ rs
/-- how arguments bind, no defaults -/
abbrev BindN (x qual : Str) (params : Arguments) (body : List Stmt) (scope : Scope) (ps : List Str) : Prop :=
  ∀ (kV doc pm : Value) (an : Option Addr) (cdv ct : Value) (us : List Value), us.length = ps.length → bindArgs (PySem.W.fnOf x qual params body scope .none kV doc pm an cdv ct) ⟨us, []⟩ = pure (ps.zip us)
theorem Fn.of {x : Str} {params : Arguments} {body : List Stmt} {scope : Scope} {N ps : List Str} {k : Nat} {R : Rf} (F : ∃ fd, FunD K x x params body scope [] [] (He.fAd K (x, none)) fd) (hm : mg x = some (.ref (He.ga K x))) (S : FnScope N ps scope) (hb : BindN x x params body scope ps)
    (hl : ∀ ds μ o μ', R ds μ o μ' → ds.length = ps.length)
    (hbody : ∀ (f : Addr) (cdv : Value) (A : Around) (outer : List Env) (s : Shared) (H : Hp) (E : XK) (ds : List D) (μ : Mu) (o : Out) (μ' : Mu), Room k (A.deeper (envOfC x scope s.heap.objs.size f cdv)) → R ds μ o μ' →
      ∃ d, o = .val d ∧ DSs (cxOf CX0 P w K mg base N x scope f cdv A outer s H E).nox ct body (ds.map some ++ List.replicate (N.length - ds.length) none) μ
        { nx := fun _ μ2 => Ended μ.length d μ' .non μ2, rt := fun d2 μ2 => Ended μ.length d μ' d2 μ2 }) : Fn P w K mg base ct x (k + 1) R := by
  obtain ⟨fd, F⟩ := F
  refine ⟨CX0, _, fd, ps, [], [], [], ?_, hm, F.kp, F.bindsN hb, .nil, fun _ _ => .nil, fun X _ _ => pass0⟩
  refine FnOk.imp (fn_okF F S hl (hbody _)) fun vs H Q E ⟨F, A, μ, ds, o, μ', r, rs, ⟨ds', e, h⟩, q⟩ => ?_
  rw [List.append_nil] at e
  subst e
  exact ⟨F, A, μ, ds, o, μ', r, rs, h, q⟩
theorem Me.of {n : Nat} {c m : Str} {qual : Str} {params : Arguments} {body : List Stmt} {scope : Scope} {N ps : List Str} {k : Nat} {R : Rf} (F : ∃ fd, FunD K m qual params body scope [] [] (He.fAd K (c, some m)) fd) (hc : ct n = He.ga K c) (cl : Cls K (He.ga K c)) (hm : Meth K (He.ga K c) m (He.ma K (He.ga K c) m)) (S : FnScope N ps scope) (hb : BindN m qual params body scope ps)
    (hl : ∀ ds μ o μ', R ds μ o μ' → ds.length = ps.length)
    (hbody : ∀ (f : Addr) (cdv : Value) (A : Around) (outer : List Env) (s : Shared) (H : Hp) (E : XK) (ds : List D) (μ : Mu) (o : Out) (μ' : Mu), Room k (A.deeper (envOfC qual scope s.heap.objs.size f cdv)) → R ds μ o μ' →
      ∃ d, o = .val d ∧ DSs (cxOf CX0 P w K mg base N qual scope f cdv A outer s H E).nox ct body (ds.map some ++ List.replicate (N.length - ds.length) none) μ
        { nx := fun _ μ2 => Ended μ.length d μ' .non μ2, rt := fun d2 μ2 => Ended μ.length d μ' d2 μ2 }) : Me P w K mg base ct n m (k + 1) R := by
  obtain ⟨fd, F⟩ := F
  exact ⟨hc ▸ cl, CX0, _, fd, ps, fn_okF F S hl (hbody _), hc ▸ hm, F.bindsN hb, fun X _ _ => pass0⟩
/-- a class's __init__ -/
theorem Mkr.of {n : Nat} {c : Str} {qual : Str} {params : Arguments} {body : List Stmt} {scope : Scope} {N ps : List Str} {k : Nat} {I : List D → Mu → List (Str × D) → Mu → Prop} {dvs : List V} (j : Nat) {dds : List D} (F : ∃ fd, FunD K "__init__" qual params body scope dvs [] (He.fAd K (c, some "__init__")) fd) (hc : ct n = He.ga K c) (hM : Mk K (He.ga K c) (He.ma K (He.ga K c) "__init__")) (hm : mg c = some (.ref (He.ga K c))) (S : FnScope N ps scope)
    (hb : ∀ fd, FunD K "__init__" qual params body scope dvs [] (He.fAd K (c, some "__init__")) fd → ∃ ds, Vals (dvs.drop j) ds ∧ Binds K fd ps ds) (hd : ∀ A F, Reps K ct A F (dvs.drop j) dds)
    (hl : ∀ as μ fs μ', I as μ fs μ' → as.length + dds.length + 1 = ps.length)
    (hbody : ∀ (f : Addr) (cdv : Value) (A : Around) (outer : List Env) (s : Shared) (H : Hp) (E : XK) (as : List D) (μ0 : Mu) (fs : List (Str × D)) (μ1 : Mu), Room k (A.deeper (envOfC qual scope s.heap.objs.size f cdv)) → I as μ0 fs μ1 →
      DSs (cxOf CX0 P w K mg base N qual scope f cdv A outer s H E).nox ct body ((.ptr μ0.length :: (as ++ dds)).map some ++ List.replicate (N.length - (as.length + dds.length + 1)) none) (μ0 ++ [.ins n []])
        { nx := fun _ μ2 => μ2 = μ0 ++ [.ins n fs] ++ μ1 }) : Mkr P w K mg base ct n c (k + 1) I := by
  obtain ⟨fd, F⟩ := F
  obtain ⟨dus, hv, hbd⟩ := hb fd F
  refine ⟨CX0, _, fd, ps, dvs.drop j, dus, dds, fn_okF F S (fun ds μ o μ' ⟨as, fs, μ0, μ1, e1, e2, h, e3, e4⟩ => ?_) fun cdv A outer s H E ds μ o μ' hr ⟨as, fs, μ0, μ1, e1, e2, h, e3, e4⟩ => ?_, hc ▸ hM, hc ▸ hm, hbd, hv, hd, fun X _ _ => pass0⟩
  · subst e2
    have := hl _ _ _ _ h
    simp only [List.length_cons, List.length_append]
    omega
  · subst e1 e2 e3 e4
    refine ⟨.non, rfl, ?_⟩
    have b := hbody _ cdv A outer s H E as μ0 fs μ1 hr h
    have el : (D.ptr μ0.length :: (as ++ dds)).length = as.length + dds.length + 1 := by simp
    rw [el]
    exact ds_imp b (fun Γ μ e => ⟨rfl, .inl e⟩) (fun _ _ z => z.elim) (fun _ _ z => z.elim) (fun _ _ z => z.elim)
end
end DL

namespace DL
open PySem PySem.Spec PyProof.Rows L2
section
variable {X : Cx} {ct : Nat → Addr} {Γ Γ1 Γ2 : Gm} {μ μ1 μ2 μ3 : Mu} {d da db dc : D} {ds xs l m : List D} {e a b c o tg elt iter : Expr} {es tgs : List Expr} {st : Stmt} {rest sa sb body : List Stmt} {pos p tp apos p1 : Pos} {x f : Str} {k k' : Bool} {P P' : P4}
/-! ### short words for calls of built-ins -/
theorem boot_bool' : bootBuiltins "bool" = some (.type "bool") := by decide +kernel
theorem boot_tuple' : bootBuiltins "tuple" = some (.type "tuple") := by decide +kernel
theorem boot_abs' : bootBuiltins "abs" = some (.builtin "abs") := by decide +kernel
theorem boot_max' : bootBuiltins "max" = some (.builtin "max") := by decide +kernel
theorem boot_min' : bootBuiltins "min" = some (.builtin "min") := by decide +kernel
theorem boot_sorted' : bootBuiltins "sorted" = some (.builtin "sorted") := by decide +kernel
theorem boot_any' : bootBuiltins "any" = some (.builtin "any") := by decide +kernel
theorem boot_all' : bootBuiltins "all" = some (.builtin "all") := by decide +kernel
theorem boot_repr' : bootBuiltins "repr" = some (.builtin "repr") := by decide +kernel
theorem de_tyint (hm : X.mg "int" = none) (hg : Gl X "int" := by rfl) : DE X ct Γ μ (.Name "int" p) (.raw (.ty "int")) μ := de_bltn hm boot_int rfl hg
theorem de_tybool (hm : X.mg "bool" = none) (hg : Gl X "bool" := by rfl) : DE X ct Γ μ (.Name "bool" p) (.raw (.ty "bool")) μ := de_bltn hm boot_bool' rfl hg
theorem de_tystr (hm : X.mg "str" = none) (hg : Gl X "str" := by rfl) : DE X ct Γ μ (.Name "str" p) (.raw (.ty "str")) μ := de_bltn hm boot_str rfl hg
theorem de_tytup (hm : X.mg "tuple" = none) (hg : Gl X "tuple" := by rfl) : DE X ct Γ μ (.Name "tuple" p) (.raw (.ty "tuple")) μ := de_bltn hm boot_tuple' rfl hg
theorem pe_tylist (hm : X.mg "list" = none) (hg : Gl X "list" := by rfl) : PE X (.Name "list" p) (tC (.ty "list")) := pe_bltn hg hm boot_list rfl (by decide) (by decide)
theorem pe_tytup (hm : X.mg "tuple" = none) (hg : Gl X "tuple" := by rfl) : PE X (.Name "tuple" p) (tC (.ty "tuple")) := pe_bltn hg hm boot_tuple' rfl (by decide) (by decide)
section
variable (hst : starEach [a] X.env = (false, eval a X.env) :: starEach [] X.env) (hpl : (backTo pos (starEach [] X.env)).any (·.1) = false)
theorem de_isi {T U : String} (hm : X.mg "isinstance" = none) (e : tyName d = some T) (h : kitB T U = some k) (he : DE X ct Γ μ a d μ1) (hb : DE X ct Γ μ1 b (.raw (.ty U)) μ1) (hg : Gl X "isinstance" := by rfl)
    (hs1 : starEach [a, b] X.env = (false, eval a X.env) :: starEach [b] X.env := by rfl) (hs2 : starEach [b] X.env = (false, eval b X.env) :: starEach [] X.env := by rfl) (hpl : (backTo pos (starEach [b] X.env)).any (·.1) = false := by rfl) :
    DE X ct Γ μ (.Call (.Name "isinstance" p) [a, b] [] pos) (.bl k) μ1 := de_callB (c1_isi e h) hm boot_isinstance (da_cons he (da_cons hb da_nil hs2) hs1) hg (by decide) (by decide) hs1 hpl
theorem de_len {n : Nat} (hm : X.mg "len" = none) (h : LenD μ1 d n) (he : DE X ct Γ μ a d μ1) (hg : Gl X "len" := by rfl) (hs1 : starEach [a] X.env = (false, eval a X.env) :: starEach [] X.env := by rfl) (hpl : (backTo pos (starEach [] X.env)).any (·.1) = false := by rfl) :
    DE X ct Γ μ (.Call (.Name "len" p) [a] [] pos) (.int n) μ1 := de_callB (c1_len h) hm boot_len (da_cons he da_nil hs1) hg (by decide) (by decide) hs1 hpl
theorem de_lenD {j : Nat} {kds : List (Key × D)} (hm : X.mg "len" = none) (he : DE X ct Γ μ a (.ptr j) μ1) (h : μ1[j]? = some (.dic kds)) (hg : Gl X "len" := by rfl) (hs1 : starEach [a] X.env = (false, eval a X.env) :: starEach [] X.env := by rfl) (hpl : (backTo pos (starEach [] X.env)).any (·.1) = false := by rfl) :
    DE X ct Γ μ (.Call (.Name "len" p) [a] [] pos) (.int kds.length) μ1 := de_callB (c1_lenD h) hm boot_len (da_cons he da_nil hs1) hg (by decide) (by decide) hs1 hpl
theorem de_abs {i : Int} (hm : X.mg "abs" = none) (he : DE X ct Γ μ a (.int i) μ1) (hg : Gl X "abs" := by rfl) (hs1 : starEach [a] X.env = (false, eval a X.env) :: starEach [] X.env := by rfl) (hpl : (backTo pos (starEach [] X.env)).any (·.1) = false := by rfl) :
    DE X ct Γ μ (.Call (.Name "abs" p) [a] [] pos) (.int (if i < 0 then -i else i)) μ1 := de_callB c1_abs hm boot_abs' (da_cons he da_nil hs1) hg (by decide) (by decide) hs1 hpl
theorem de_intc {i : Int} (hm : X.mg "int" = none) (he : DE X ct Γ μ a (.int i) μ1) (hg : Gl X "int" := by rfl) (hs1 : starEach [a] X.env = (false, eval a X.env) :: starEach [] X.env := by rfl) (hpl : (backTo pos (starEach [] X.env)).any (·.1) = false := by rfl) :
    DE X ct Γ μ (.Call (.Name "int" p) [a] [] pos) (.int i) μ1 := de_callT c1_int hm boot_int (da_cons he da_nil hs1) hg (by decide) (by decide) hs1 hpl
theorem de_strc {s : Str} (hm : X.mg "str" = none) (he : DE X ct Γ μ a (.str s) μ1) (hg : Gl X "str" := by rfl) (hs1 : starEach [a] X.env = (false, eval a X.env) :: starEach [] X.env := by rfl) (hpl : (backTo pos (starEach [] X.env)).any (·.1) = false := by rfl) :
    DE X ct Γ μ (.Call (.Name "str" p) [a] [] pos) (.str s) μ1 := de_callT c1_str hm boot_str (da_cons he da_nil hs1) hg (by decide) (by decide) hs1 hpl
theorem de_tuple (hm : X.mg "tuple" = none) (h : SeqM μ1 d l) (he : DE X ct Γ μ a d μ1) (hg : Gl X "tuple" := by rfl) (hs1 : starEach [a] X.env = (false, eval a X.env) :: starEach [] X.env := by rfl) (hpl : (backTo pos (starEach [] X.env)).any (·.1) = false := by rfl) :
    DE X ct Γ μ (.Call (.Name "tuple" p) [a] [] pos) (.tup l) μ1 := de_callT (c1_tuple h) hm boot_tuple' (da_cons he da_nil hs1) hg (by decide) (by decide) hs1 hpl
theorem de_list (hm : X.mg "list" = none) (h : SeqM μ1 d l) (he : DE X ct Γ μ a d μ1) (hg : Gl X "list" := by rfl) (hs1 : starEach [a] X.env = (false, eval a X.env) :: starEach [] X.env := by rfl) (hpl : (backTo pos (starEach [] X.env)).any (·.1) = false := by rfl) :
    DE X ct Γ μ (.Call (.Name "list" p) [a] [] pos) (.lst l) μ1 := de_callT (c1_list h) hm boot_list (da_cons he da_nil hs1) hg (by decide) (by decide) hs1 hpl
theorem de_sortI {ns : List Int} (hm : X.mg "sorted" = none) (h : SeqM μ1 d (ns.map .int)) (nt : ∀ z, d ≠ .tup z) (he : DE X ct Γ μ a d μ1) (hg : Gl X "sorted" := by rfl) (hs1 : starEach [a] X.env = (false, eval a X.env) :: starEach [] X.env := by rfl) (hpl : (backTo pos (starEach [] X.env)).any (·.1) = false := by rfl) :
    DE X ct Γ μ (.Call (.Name "sorted" p) [a] [] pos) (.lst ((sortI ns).map .int)) μ1 := de_callB (c1_sortI h nt) hm boot_sorted' (da_cons he da_nil hs1) hg (by decide) (by decide) hs1 hpl
theorem de_max {i j : Int} (hc : X.calm = true) (hm : X.mg "max" = none) (he : DE X ct Γ μ a (.int i) μ1) (hb : DE X ct Γ μ1 b (.int j) μ2) (hg : Gl X "max" := by rfl) (hs1 : starEach [a, b] X.env = (false, eval a X.env) :: starEach [b] X.env := by rfl) (hs2 : starEach [b] X.env = (false, eval b X.env) :: starEach [] X.env := by rfl) (hpl : (backTo pos (starEach [b] X.env)).any (·.1) = false := by rfl) :
    DE X ct Γ μ (.Call (.Name "max" p) [a, b] [] pos) (.int (max i j)) μ2 := de_callB (c1_max hc) hm boot_max' (da_cons he (da_cons hb da_nil hs2) hs1) hg (by decide) (by decide) hs1 hpl
theorem de_min {i j : Int} (hc : X.calm = true) (hm : X.mg "min" = none) (he : DE X ct Γ μ a (.int i) μ1) (hb : DE X ct Γ μ1 b (.int j) μ2) (hg : Gl X "min" := by rfl) (hs1 : starEach [a, b] X.env = (false, eval a X.env) :: starEach [b] X.env := by rfl) (hs2 : starEach [b] X.env = (false, eval b X.env) :: starEach [] X.env := by rfl) (hpl : (backTo pos (starEach [b] X.env)).any (·.1) = false := by rfl) :
    DE X ct Γ μ (.Call (.Name "min" p) [a, b] [] pos) (.int (min i j)) μ2 := de_callB (c1_min hc) hm boot_min' (da_cons he (da_cons hb da_nil hs2) hs1) hg (by decide) (by decide) hs1 hpl
end
/-! ### fields, `in`, whatever the kind -/
inductive FldD (K : PySem.W.Frag) (ct : Nat → Addr) (μ : Mu) : D → Str → D → Prop
  | ins {n : Nat} {fs : List (Str × D)} {f : Str} {d : D} (h : FldOk K ct n f) (l : fs.lookup f = some d) : FldD K ct μ (.ins n fs) f d
  | cell {j n : Nat} {fs : List (Str × D)} {f : Str} {d : D} (h : FldOk K ct n f) (hm : μ[j]? = some (.ins n fs)) (l : fs.lookup f = some d) : FldD K ct μ (.ptr j) f d
theorem de_attr (h : FldD X.K ct μ1 da f d) (he : DE X ct Γ μ e da μ1) (hb : attributeBase e f X.env (eval e X.env) = eval e X.env := by rfl) : DE X ct Γ μ (.Attribute e f pos) d μ1 := by
  cases h with
  | ins h l => exact de_fld h he l hb
  | cell h hm l => exact de_fldM h he hm l hb
inductive InD (μ : Mu) : D → D → Bool → Prop
  | seq {da db : D} {l : List D} (hl : isSeq db = some l) (fa : flatD da = true) (fl : l.all flatD = true) : InD μ da db (l.any fun y => eqF y da)
  | dic {da db : D} {k : Bool} (h : DicD μ da db k) : InD μ da db k
theorem de_in (h : InD μ2 da db k) (hu : X.A.units + 1 < cLine) (ha : DE X ct Γ μ a da μ1) (hb : DE X ct Γ μ1 b db μ2) (hm : behindInMarks .In b = false := by first | rfl | with_unfolding_all rfl) : DE X ct Γ μ (.Compare a [.In] [b] pos) (.bl k) μ2 := by
  cases h with
  | seq h1 h2 h3 => exact de_cmp (o2_in h1 h2 h3) ha hb hm
  | dic h => exact de_din h hu ha hb hm
theorem de_nin (h : InD μ2 da db k) (hu : X.A.units + 1 < cLine) (ha : DE X ct Γ μ a da μ1) (hb : DE X ct Γ μ1 b db μ2) (hm : behindInMarks .NotIn b = false := by first | rfl | with_unfolding_all rfl) : DE X ct Γ μ (.Compare a [.NotIn] [b] pos) (.bl (!k)) μ2 := by
  cases h with
  | seq h1 h2 h3 => exact de_cmp (o2_nin h1 h2 h3) ha hb hm
  | dic h => exact de_dnin h hu ha hb hm
theorem dt_in (h : InD μ2 da db k) (hu : X.A.units + 1 < cLine) (ha : DE X ct Γ μ a da μ1) (hb : DE X ct Γ μ1 b db μ2) (hm : behindInMarks .In b = false := by first | rfl | with_unfolding_all rfl) : DT X ct Γ μ (.Compare a [.In] [b] pos) k μ2 := by
  cases h with
  | seq h1 h2 h3 => exact dt_cmp (o2_in h1 h2 h3) ha hb hm
  | dic h => exact dt_din h hu ha hb hm
theorem dt_nin (h : InD μ2 da db k) (hu : X.A.units + 1 < cLine) (ha : DE X ct Γ μ a da μ1) (hb : DE X ct Γ μ1 b db μ2) (hm : behindInMarks .NotIn b = false := by first | rfl | with_unfolding_all rfl) : DT X ct Γ μ (.Compare a [.NotIn] [b] pos) (!k) μ2 := by
  cases h with
  | seq h1 h2 h3 => exact dt_cmp (o2_nin h1 h2 h3) ha hb hm
  | dic h => exact dt_dnin h hu ha hb hm
/-- ints in a list of ints -/
theorem any_int (i : Int) (ns : List Int) : ((ns.map D.int).any fun y => eqF y (.int i)) = decide (i ∈ ns) := by
  rw [Bool.eq_iff_iff]
  simp only [List.any_map, List.any_eq_true, decide_eq_true_eq, Function.comp]
  constructor
  · rintro ⟨x, hx, e⟩
    have e' : (x == i) = true := e
    rw [beq_iff_eq] at e'
    exact e' ▸ hx
  · intro h
    exact ⟨i, h, by show (i == i) = true; simp⟩
theorem InD.ints {i : Int} {ns : List Int} (hl : isSeq db = some (ns.map D.int)) : InD μ (.int i) db (decide (i ∈ ns)) := by
  rw [← any_int]
  exact .seq hl rfl (by rw [List.all_map]; exact List.all_eq_true.mpr fun _ _ => rfl)
theorem kit_bounds {n : Nat} (h : n ≤ 1000000) : n ≤ sizeLine := by rw [sizeLine_eq]; omega
/-! ### a class's instance made and frozen at once -/
theorem de_make {kk n : Nat} {I : List D → Mu → List (Str × D) → Mu → Prop} {fs : List (Str × D)} (G : Mkr X.prog X.w X.K X.mg X.base ct n x kk I) (hr : Room (kk + 1) X.A) (ha : DA X ct Γ μ (e :: es) ds μ1) (h : I ds μ1 fs []) (sc : Scoped μ1) (so : okFs μ1.length fs = true) (hΓ : ∀ d' ∈ Γ, ∀ d'', d' = some d'' → okD μ1.length d'' = true) (hl : μ.length ≤ μ1.length) (hg : Gl X x := by rfl)
    (hdb : (x == ("__debug__" : Str)) = false := by decide) (he : starEach (e :: es) X.env = (false, eval e X.env) :: starEach es X.env := by rfl) (hpl : (backTo pos (starEach es X.env)).any (·.1) = false := by rfl) : DE X ct Γ μ (.Call (.Name x p) (e :: es) [] pos) (.ins n fs) μ1 := by
  have g := de_makeM (pos := pos) (p := p) G hr ha h hg hdb he hpl
  rw [List.append_nil] at g
  exact de_fz g rfl sc so hΓ hl
end
end DL

/-! # A call is shown only the places it is given -/
namespace DL
open PySem PySem.Spec PyProof.Rows L2
mutual
def renD (ρ : Nat → Nat) : D → D
  | .ptr k => .ptr (ρ k)
  | .tup l => .tup (renDs ρ l)
  | .lst l => .lst (renDs ρ l)
  | .scr l => .scr (renDs ρ l)
  | .dic l => .dic (renKs ρ l)
  | .ins n l => .ins n (renFs ρ l)
  | .non => .non
  | .bl b => .bl b
  | .int i => .int i
  | .str s => .str s
  | .raw v => .raw v
def renDs (ρ : Nat → Nat) : List D → List D
  | [] => []
  | d :: l => renD ρ d :: renDs ρ l
def renKs (ρ : Nat → Nat) : List (Key × D) → List (Key × D)
  | [] => []
  | (k, d) :: l => (k, renD ρ d) :: renKs ρ l
def renFs (ρ : Nat → Nat) : List (Str × D) → List (Str × D)
  | [] => []
  | (k, d) :: l => (k, renD ρ d) :: renFs ρ l
end
def renC (ρ : Nat → Nat) : Cell → Cell
  | .dead => .dead
  | .lst l => .lst (renDs ρ l)
  | .dic l => .dic (renKs ρ l)
  | .ins n l => .ins n (renFs ρ l)
theorem renKs_k (ρ : Nat → Nat) : ∀ l : List (Key × D), (renKs ρ l).map (·.1) = l.map (·.1)
  | [] => by simp [renKs]
  | (_, _) :: l => by simp [renKs, renKs_k ρ l]
theorem renKs_v (ρ : Nat → Nat) : ∀ l : List (Key × D), (renKs ρ l).map (·.2) = renDs ρ (l.map (·.2))
  | [] => by simp [renKs, renDs]
  | (_, _) :: l => by simp [renKs, renDs, renKs_v ρ l]
theorem renFs_k (ρ : Nat → Nat) : ∀ l : List (Str × D), (renFs ρ l).map (·.1) = l.map (·.1)
  | [] => by simp [renFs]
  | (_, _) :: l => by simp [renFs, renFs_k ρ l]
theorem renFs_v (ρ : Nat → Nat) : ∀ l : List (Str × D), (renFs ρ l).map (·.2) = renDs ρ (l.map (·.2))
  | [] => by simp [renFs, renDs]
  | (_, _) :: l => by simp [renFs, renDs, renFs_v ρ l]
theorem okKs_v (n : Nat) : ∀ l : List (Key × D), okDs n (l.map (·.2)) = okKs n l
  | [] => by simp [okKs, okDs]
  | (_, _) :: l => by simp [okKs, okDs, okKs_v n l]
theorem okFs_v (n : Nat) : ∀ l : List (Str × D), okDs n (l.map (·.2)) = okFs n l
  | [] => by simp [okFs, okDs]
  | (_, _) :: l => by simp [okFs, okDs, okFs_v n l]
mutual
theorem ren0 (ρ : Nat → Nat) : ∀ d : D, okD 0 d = true → renD ρ d = d
  | .ptr k, e => by simp [okD] at e
  | .tup l, e => by simp only [okD] at e; simp only [renD, ren0s ρ l e]
  | .lst l, e => by simp only [okD] at e; simp only [renD, ren0s ρ l e]
  | .scr l, e => by simp only [okD] at e; simp only [renD, ren0s ρ l e]
  | .dic l, e => by simp only [okD] at e; simp only [renD, ren0k ρ l e]
  | .ins _ l, e => by simp only [okD] at e; simp only [renD, ren0f ρ l e]
  | .non, _ => by simp only [renD]
  | .bl _, _ => by simp only [renD]
  | .int _, _ => by simp only [renD]
  | .str _, _ => by simp only [renD]
  | .raw _, _ => by simp only [renD]
theorem ren0s (ρ : Nat → Nat) : ∀ d : List D, okDs 0 d = true → renDs ρ d = d
  | [], _ => by simp only [renDs]
  | d :: l, e => by
    simp only [okDs, Bool.and_eq_true] at e
    simp only [renDs, ren0 ρ d e.1, ren0s ρ l e.2]
theorem ren0k (ρ : Nat → Nat) : ∀ d : List (Key × D), okKs 0 d = true → renKs ρ d = d
  | [], _ => by simp only [renKs]
  | (_, d) :: l, e => by
    simp only [okKs, Bool.and_eq_true] at e
    simp only [renKs, ren0 ρ d e.1, ren0k ρ l e.2]
theorem ren0f (ρ : Nat → Nat) : ∀ d : List (Str × D), okFs 0 d = true → renFs ρ d = d
  | [], _ => by simp only [renFs]
  | (_, d) :: l, e => by
    simp only [okFs, Bool.and_eq_true] at e
    simp only [renFs, ren0 ρ d e.1, ren0f ρ l e.2]
end
theorem ren0c (ρ : Nat → Nat) (c : Cell) (e : okC 0 c = true) : renC ρ c = c := by
  cases c with
  | dead => rfl
  | lst l => show Cell.lst _ = _; rw [ren0s ρ l e]
  | dic l => show Cell.dic _ = _; rw [ren0k ρ l e]
  | ins n l => show Cell.ins n _ = _; rw [ren0f ρ l e]
section
variable {K : PySem.W.Frag} {ct : Nat → Addr} {A A2 : List Addr} {F F2 : Hp} {ρ : Nat → Nat} {n : Nat}
mutual
theorem Rep.ren (h : ∀ (k : Nat) (a : Addr), A[k]? = some a → A2[ρ k]? = some a) (e : LeR F F2) : ∀ {v : V} {d : D}, Rep K ct A F v d → Rep K ct A2 F2 v (renD ρ d)
  | _, _, .non => by simp only [renD]; exact .non
  | _, _, .bl b => by simp only [renD]; exact .bl b
  | _, _, .int i => by simp only [renD]; exact .int i
  | _, _, .str s => by simp only [renD]; exact .str s
  | _, _, .raw v => by simp only [renD]; exact .raw v
  | _, _, .tup h' r => by simp only [renD]; exact .tup (e.t h') (Reps.ren h e r)
  | _, _, .lst h' r => by simp only [renD]; exact .lst (e.lst _ _ h') (Reps.ren h e r)
  | _, _, .scr h' r => by simp only [renD]; exact .scr (e.l h') (Reps.ren h e r)
  | _, _, .dic h' k r => by simp only [renD]; exact .dic (e.rd _ _ rfl h') (by rw [renKs_k]; exact k) (by rw [renKs_v]; exact Reps.ren h e r)
  | _, _, .ins h' k r => by simp only [renD]; exact .ins (e.ins _ _ _ _ h') (by rw [renFs_k]; exact k) (by rw [renFs_v]; exact Reps.ren h e r)
  | _, _, .ptr h' => by simp only [renD]; exact .ptr (h _ _ h')
theorem Reps.ren (h : ∀ (k : Nat) (a : Addr), A[k]? = some a → A2[ρ k]? = some a) (e : LeR F F2) : ∀ {vs : List V} {ds : List D}, Reps K ct A F vs ds → Reps K ct A2 F2 vs (renDs ρ ds)
  | _, _, .nil => by simp only [renDs]; exact .nil
  | _, _, .cons a r => by simp only [renDs]; exact .cons (Rep.ren h e a) (Reps.ren h e r)
end
mutual
theorem Rep.unren (h : ∀ (k : Nat) (a : Addr), k < n → A[ρ k]? = some a → A2[k]? = some a) (e : LeR F F2) : ∀ {d : D} {v : V}, okD n d = true → Rep K ct A F v (renD ρ d) → Rep K ct A2 F2 v d
  | .non, v, _, r => by simp only [renD] at r; cases r; exact .non
  | .bl b, v, _, r => by simp only [renD] at r; cases r; exact .bl b
  | .int b, v, _, r => by simp only [renD] at r; cases r; exact .int b
  | .str b, v, _, r => by simp only [renD] at r; cases r; exact .str b
  | .raw b, v, _, r => by simp only [renD] at r; cases r; exact .raw _
  | .tup l, v, o, r => by simp only [renD] at r; simp only [okD] at o; cases r with | tup h' r => exact .tup (e.t h') (Reps.unren h e o r)
  | .lst l, v, o, r => by simp only [renD] at r; simp only [okD] at o; cases r with | lst h' r => exact .lst (e.lst _ _ h') (Reps.unren h e o r)
  | .scr l, v, o, r => by simp only [renD] at r; simp only [okD] at o; cases r with | scr h' r => exact .scr (e.l h') (Reps.unren h e o r)
  | .dic l, v, o, r => by
    simp only [renD] at r; simp only [okD] at o
    cases r with
    | dic h' k r => rw [renKs_k] at k; exact .dic (e.rd _ _ rfl h') k (Reps.unrenK h e o r)
  | .ins m l, v, o, r => by
    simp only [renD] at r; simp only [okD] at o
    cases r with
    | ins h' k r => rw [renFs_k] at k; exact .ins (e.ins _ _ _ _ h') k (Reps.unrenF h e o r)
  | .ptr k, v, o, r => by
    simp only [renD] at r
    simp only [okD, decide_eq_true_eq] at o
    cases r with
    | ptr h' => exact .ptr (h _ _ o h')
theorem Reps.unren (h : ∀ (k : Nat) (a : Addr), k < n → A[ρ k]? = some a → A2[k]? = some a) (e : LeR F F2) : ∀ {ds : List D} {vs : List V}, okDs n ds = true → Reps K ct A F vs (renDs ρ ds) → Reps K ct A2 F2 vs ds
  | [], vs, _, r => by simp only [renDs] at r; cases r; exact .nil
  | d :: ds, vs, o, r => by
    simp only [renDs] at r; simp only [okDs, Bool.and_eq_true] at o
    cases r with
    | cons a b => exact .cons (Rep.unren h e o.1 a) (Reps.unren h e o.2 b)
theorem Reps.unrenK (h : ∀ (k : Nat) (a : Addr), k < n → A[ρ k]? = some a → A2[k]? = some a) (e : LeR F F2) : ∀ {ds : List (Key × D)} {vs : List V}, okKs n ds = true → Reps K ct A F vs ((renKs ρ ds).map (·.2)) → Reps K ct A2 F2 vs (ds.map (·.2))
  | [], vs, _, r => by simp only [renKs, List.map_nil] at r; cases r; exact .nil
  | (_, d) :: ds, vs, o, r => by
    simp only [renKs, List.map_cons] at r; simp only [okKs, Bool.and_eq_true] at o
    cases r with
    | cons a b => exact .cons (Rep.unren h e o.1 a) (Reps.unrenK h e o.2 b)
theorem Reps.unrenF (h : ∀ (k : Nat) (a : Addr), k < n → A[ρ k]? = some a → A2[k]? = some a) (e : LeR F F2) : ∀ {ds : List (Str × D)} {vs : List V}, okFs n ds = true → Reps K ct A F vs ((renFs ρ ds).map (·.2)) → Reps K ct A2 F2 vs (ds.map (·.2))
  | [], vs, _, r => by simp only [renFs, List.map_nil] at r; cases r; exact .nil
  | (_, d) :: ds, vs, o, r => by
    simp only [renFs, List.map_cons] at r; simp only [okFs, Bool.and_eq_true] at o
    cases r with
    | cons a b => exact .cons (Rep.unren h e o.1 a) (Reps.unrenF h e o.2 b)
end
end
/-- where a callee's place lies in the caller's store -/
def ro (n : Nat) (sel : List Nat) (k : Nat) : Nat := match sel[k]? with
  | some i => i
  | none => n + (k - sel.length)
structure Sel (μ : Mu) (sel : List Nat) (μc : Mu) : Prop where
  len : sel.length = μc.length
  nd : sel.Nodup
  at_ : ∀ (p : Nat) (c : Cell), μc[p]? = some c → ∃ i, sel[p]? = some i ∧ μ[i]? = some (renC (ro μ.length sel) c)
  ok : ∀ c ∈ μc, c ≠ .dead ∧ okC sel.length c = true
structure Mrg (μ : Mu) (sel : List Nat) (μc' μ2 : Mu) : Prop where
  len : μ2.length = μ.length + (μc'.length - sel.length)
  old : ∀ i, i < μ.length → i ∉ sel → μ2[i]? = μ[i]?
  new : ∀ (k : Nat) (c : Cell), μc'[k]? = some c → μ2[ro μ.length sel k]? = some (renC (ro μ.length sel) c)
section
variable {K : PySem.W.Frag} {ct : Nat → Addr} {A : List Addr} {H F : Hp} {μ μc : Mu} {sel : List Nat}
open Classical in
/-- all else is marked -/
noncomputable def mk (F H : Hp) (A Ac : List Addr) : Hp := fun a => if a ∈ A ∧ a ∉ Ac ∧ F a = none then (H a).map mark else F a
open Classical in
noncomputable def unmk (F F' : Hp) (A Ac : List Addr) : Hp := fun a => if a ∈ A ∧ a ∉ Ac ∧ F a = none then none else F' a
theorem mk_le {Ac : List Addr} : Le F (mk F H A Ac) := fun a o e => by
  unfold mk
  rw [if_neg (by rintro ⟨_, _, z⟩; rw [e] at z; cases z)]
  exact e
theorem okC_ren (h : ∀ (k : Nat) (a : Addr) , True) : True := trivial
theorem CellOk.unren {Ac : List Addr} {Fc : Hp} {a : Addr} {c : Cell} {ρ : Nat → Nat} {n : Nat} (h : ∀ (k : Nat) (a : Addr), k < n → A[ρ k]? = some a → Ac[k]? = some a) (e : LeR F Fc) (hf : F a = none → Fc a = none) (o : okC n c = true) (r : CellOk K ct A F H a (renC ρ c)) : CellOk K ct Ac Fc H a c := by
  cases c with
  | dead => trivial
  | lst l => obtain ⟨f, vs, h1, h2⟩ := r; exact ⟨hf f, vs, h1, h2.unren h e o⟩
  | dic l => obtain ⟨f, vs, h1, h2, h3⟩ := r; rw [renKs_k] at h2; exact ⟨hf f, vs, h1, h2, h3.unrenK h e o⟩
  | ins m l => obtain ⟨f, dx, vs, h1, h2, h3⟩ := r; rw [renFs_k] at h2; exact ⟨hf f, dx, vs, h1, h2, h3.unrenF h e o⟩
theorem CellOk.ren {A2 : List Addr} {F2 : Hp} {a : Addr} {c : Cell} {ρ : Nat → Nat} (h : ∀ (k : Nat) (a : Addr), A[k]? = some a → A2[ρ k]? = some a) (e : LeR F F2) (hf : F a = none → F2 a = none) (r : CellOk K ct A F H a c) : CellOk K ct A2 F2 H a (renC ρ c) := by
  cases c with
  | dead => trivial
  | lst l => obtain ⟨f, vs, h1, h2⟩ := r; exact ⟨hf f, vs, h1, h2.ren h e⟩
  | dic l => obtain ⟨f, vs, h1, h2, h3⟩ := r; exact ⟨hf f, vs, h1, by rw [renKs_k]; exact h2, by rw [renKs_v]; exact h3.ren h e⟩
  | ins m l => obtain ⟨f, dx, vs, h1, h2, h3⟩ := r; exact ⟨hf f, dx, vs, h1, by rw [renFs_k]; exact h2, by rw [renFs_v]; exact h3.ren h e⟩
theorem renC_dead {ρ : Nat → Nat} {c : Cell} (h : renC ρ c = .dead) : c = .dead := by cases c <;> first | rfl | cases h
/-- what the callee is shown -/
theorem frame (r : Rl0 K ct μ H F A) (S : Sel μ sel μc) : ∃ (Fc : Hp) (Ac : List Addr), Rl0 K ct μc H Fc Ac ∧
    (∀ vs ds, okDs sel.length ds = true → Reps K ct A F vs (renDs (ro μ.length sel) ds) → Reps K ct Ac Fc vs ds) ∧
    ∀ (μc' : Mu) (H' F' : Hp) (A' : List Addr) (μ2 : Mu), Le Fc F' → Ac <+: A' → Rl0 K ct μc' H' F' A' → Mrg μ sel μc' μ2 →
      ∃ (F2 : Hp) (A2 : List Addr), Le F F2 ∧ A <+: A2 ∧ Rl0 K ct μ2 H' F2 A2 ∧ (∀ (k : Nat) (a : Addr), A'[k]? = some a → A2[ro μ.length sel k]? = some a) ∧ LeR F' F2 := by
  have lenA := r.len
  -- the places
  let Ac : List Addr := sel.map fun i => A.getD i default
  have acl : Ac.length = μc.length := by simp [Ac, S.len]
  have selp : ∀ (p i : Nat), sel[p]? = some i → ∃ c, μc[p]? = some c ∧ i < μ.length ∧ μ[i]? = some (renC (ro μ.length sel) c) := fun p i hp => by
    have hlt : p < μc.length := by rw [← S.len]; exact (List.getElem?_eq_some_iff.mp hp).1
    obtain ⟨i', h1, h2⟩ := S.at_ p _ (List.getElem?_eq_getElem hlt)
    rw [hp] at h1; cases h1
    exact ⟨_, List.getElem?_eq_getElem hlt, (List.getElem?_eq_some_iff.mp h2).1, h2⟩
  have acg : ∀ (p i : Nat), sel[p]? = some i → ∃ a, A[i]? = some a ∧ Ac[p]? = some a := fun p i hp => by
    obtain ⟨c, _, hi, _⟩ := selp p i hp
    have hi' : i < A.length := by rw [lenA]; exact hi
    refine ⟨A[i], List.getElem?_eq_getElem hi', ?_⟩
    show (sel.map _)[p]? = _
    rw [List.getElem?_map, hp]
    simp [List.getD, List.getElem?_eq_getElem hi']
  have acI : ∀ (p : Nat) (a : Addr), Ac[p]? = some a → ∃ i c, sel[p]? = some i ∧ A[i]? = some a ∧ μc[p]? = some c ∧ μ[i]? = some (renC (ro μ.length sel) c) := fun p a hp => by
    have hlt : p < sel.length := by rw [S.len, ← acl]; exact (List.getElem?_eq_some_iff.mp hp).1
    obtain ⟨a', h1, h2⟩ := acg p _ (List.getElem?_eq_getElem hlt)
    rw [hp] at h2; cases h2
    obtain ⟨c, h3, _, h4⟩ := selp p _ (List.getElem?_eq_getElem hlt)
    exact ⟨_, c, List.getElem?_eq_getElem hlt, h1, h3, h4⟩
  have live : ∀ (p : Nat) (c : Cell), μc[p]? = some c → renC (ro μ.length sel) c ≠ .dead := fun p c hp z => (S.ok c (List.mem_of_getElem? hp)).1 (renC_dead z)
  have acF : ∀ a ∈ Ac, F a = none := fun a ha => by
    obtain ⟨p, hp⟩ := List.getElem?_of_mem ha
    obtain ⟨i, c, h1, h2, h3, h4⟩ := acI p a hp
    exact (r.ok i a _ h2 h4).fr (live p c h3)
  have acA : ∀ a ∈ Ac, a ∈ A := fun a ha => by
    obtain ⟨p, hp⟩ := List.getElem?_of_mem ha
    obtain ⟨i, c, h1, h2, h3, h4⟩ := acI p a hp
    exact List.mem_of_getElem? h2
  let Fc : Hp := mk F H A Ac
  have le1 : Le F Fc := mk_le
  have fcn : ∀ a ∈ Ac, Fc a = none := fun a ha => by
    show mk F H A Ac a = none
    unfold mk
    rw [if_neg (by rintro ⟨_, z, _⟩; exact z ha)]
    exact acF a ha
  have rho : ∀ (k : Nat) (a : Addr), k < sel.length → A[ro μ.length sel k]? = some a → Ac[k]? = some a := fun k a hk h => by
    unfold ro at h
    rw [List.getElem?_eq_getElem hk] at h
    obtain ⟨a', h1, h2⟩ := acg k _ (List.getElem?_eq_getElem hk)
    simp only at h
    rw [h1] at h; cases h
    exact h2
  have rc : Rl0 K ct μc H Fc Ac := by
    refine ⟨fun a o e => ?_, acl, fun i j a c c' hi hj h1 h2 l1 l2 => ?_, fun a ha => r.there a (acA a ha), fun k a c ha hc => ?_⟩
    · change mk F H A Ac a = some o at e
      unfold mk at e
      by_cases hq : a ∈ A ∧ a ∉ Ac ∧ F a = none
      · rw [if_pos hq] at e
        cases q : H a with
        | none => rw [q] at e; cases e
        | some u => rw [q] at e; cases e; rfl
      · rw [if_neg hq] at e
        exact r.sub a o e
    · obtain ⟨i', ci, x1, x2, x3, x4⟩ := acI i a hi
      obtain ⟨j', cj, y1, y2, y3, y4⟩ := acI j a hj
      have e := r.nd i' j' a _ _ x2 y2 x4 y4 (live i ci x3) (live j cj y3)
      subst e
      have hi2 : i < sel.length := (List.getElem?_eq_some_iff.mp x1).1
      exact (List.getElem?_inj hi2 S.nd).mp (x1.trans y1.symm)
    · obtain ⟨i, c', x1, x2, x3, x4⟩ := acI k a ha
      rw [hc] at x3; cases x3
      exact (r.ok i a _ x2 x4).unren rho le1.r (fun _ => fcn a (List.mem_of_getElem? ha)) (S.ok c (List.mem_of_getElem? hc)).2
  refine ⟨Fc, Ac, rc, fun vs ds o h => h.unren rho le1.r o, fun μc' H' F' A' μ2 le p r' M => ?_⟩
  obtain ⟨T, rfl⟩ := p
  let F2 : Hp := unmk F F' A Ac
  have lenT : μc'.length = sel.length + T.length := by rw [← r'.len, List.length_append, acl, S.len]
  have len2 : μ2.length = μ.length + T.length := by rw [M.len, lenT]; omega
  have mkd : ∀ a, a ∈ A → a ∉ Ac → F a = none → ∃ u, H a = some u ∧ F' a = some (mark u) ∧ H' a = some u := fun a h1 h2 h3 => by
    obtain ⟨u, hu⟩ := r.there a h1
    have e : Fc a = some (mark u) := by
      show mk F H A Ac a = _
      unfold mk
      rw [if_pos ⟨h1, h2, h3⟩, hu]; rfl
    exact ⟨u, hu, le _ _ e, r'.sub _ _ (le _ _ e)⟩
  have f2le : ∀ a o, F2 a = some o → F' a = some o := fun a o e => by
    change unmk F F' A Ac a = some o at e
    unfold unmk at e
    by_cases hq : a ∈ A ∧ a ∉ Ac ∧ F a = none
    · rw [if_pos hq] at e; cases e
    · rw [if_neg hq] at e; exact e
  have f2of : ∀ a, ¬ (a ∈ A ∧ a ∉ Ac ∧ F a = none) → F2 a = F' a := fun a hq => by
    show unmk F F' A Ac a = _
    unfold unmk
    rw [if_neg hq]
  have f2no : ∀ a, (a ∈ A ∧ a ∉ Ac ∧ F a = none) → F2 a = none := fun a hq => by
    show unmk F F' A Ac a = _
    unfold unmk
    rw [if_pos hq]
  have le2 : Le F F2 := fun a o e => by
    rw [f2of a (by rintro ⟨_, _, z⟩; rw [e] at z; cases z)]
    exact le _ _ (le1 _ _ e)
  have ler : LeR F' F2 := by
    have key : ∀ a u, F' a = some u → (∀ w, u ≠ mark w) → F2 a = some u := fun a u e nm => by
      rw [f2of a (fun ⟨z1, z2, z3⟩ => by obtain ⟨w, _, e', _⟩ := mkd a z1 z2 z3; rw [e] at e'; cases e'; exact nm w rfl)]
      exact e
    refine ⟨fun a u du h => ?_, fun a C dx fs h => key a _ h (by intro w z; cases z), fun a xs h => key a _ h (by intro w z; cases z)⟩
    rcases h with h | ⟨o, h⟩
    · exact .inl (key a u h (by intro w z; subst z; cases du))
    · refine .inr ⟨o, key a _ h (fun w z => ?_)⟩
      unfold mark at z
      cases z
      cases du
  have pA : A <+: A ++ T := List.prefix_append _ _
  have rho2 : ∀ (k : Nat) (a : Addr), (Ac ++ T)[k]? = some a → (A ++ T)[ro μ.length sel k]? = some a := fun k a h => by
    by_cases hk : k < sel.length
    · rw [List.getElem?_append_left (by rw [acl, ← S.len]; exact hk)] at h
      obtain ⟨i, c, x1, x2, x3, x4⟩ := acI k a h
      unfold ro
      rw [x1]
      exact pre_get pA x2
    · rw [List.getElem?_append_right (by rw [acl, ← S.len]; omega)] at h
      have e0 : sel[k]? = none := List.getElem?_eq_none (by omega)
      unfold ro
      rw [e0]
      show (A ++ T)[μ.length + (k - sel.length)]? = some a
      rw [List.getElem?_append_right (by rw [lenA]; omega), lenA]
      rw [acl, ← S.len] at h
      rw [show μ.length + (k - sel.length) - μ.length = k - sel.length by omega]
      exact h
  -- where a place of the caller comes from
  have src : ∀ (i : Nat) (a : Addr) (c : Cell), (A ++ T)[i]? = some a → μ2[i]? = some c →
      (i < μ.length ∧ i ∉ sel ∧ A[i]? = some a ∧ μ[i]? = some c) ∨ ∃ k c', i = ro μ.length sel k ∧ (Ac ++ T)[k]? = some a ∧ μc'[k]? = some c' ∧ c = renC (ro μ.length sel) c' := fun i a c ha hc => by
    by_cases hi : i < μ.length
    · have ha' : A[i]? = some a := by rw [List.getElem?_append_left (by rw [lenA]; exact hi)] at ha; exact ha
      by_cases hs : i ∈ sel
      · obtain ⟨p, hp⟩ := List.getElem?_of_mem hs
        obtain ⟨a', x1, x2⟩ := acg p i hp
        rw [ha'] at x1; cases x1
        have hpl : p < μc'.length := by rw [lenT]; have := (List.getElem?_eq_some_iff.mp hp).1; omega
        have er : ro μ.length sel p = i := by unfold ro; rw [hp]
        have m := M.new p _ (List.getElem?_eq_getElem hpl)
        rw [er, hc] at m
        exact .inr ⟨p, _, er.symm, by rw [List.getElem?_append_left (List.getElem?_eq_some_iff.mp x2).1]; exact x2, List.getElem?_eq_getElem hpl, Option.some.inj m⟩
      · rw [M.old i hi hs] at hc
        exact .inl ⟨hi, hs, ha', hc⟩
    · have hlt : i < μ.length + T.length := by rw [← len2]; exact (List.getElem?_eq_some_iff.mp hc).1
      have hk : sel.length + (i - μ.length) < μc'.length := by rw [lenT]; omega
      have er : ro μ.length sel (sel.length + (i - μ.length)) = i := by
        unfold ro
        rw [List.getElem?_eq_none (by omega)]
        simp only
        omega
      have m := M.new _ _ (List.getElem?_eq_getElem hk)
      rw [er, hc] at m
      refine .inr ⟨_, _, er.symm, ?_, List.getElem?_eq_getElem hk, Option.some.inj m⟩
      rw [List.getElem?_append_right (by rw [lenA]; omega), lenA] at ha
      rw [List.getElem?_append_right (by rw [acl, ← S.len]; omega), acl, ← S.len, show sel.length + (i - μ.length) - sel.length = i - μ.length by omega]
      exact ha
  have noF : ∀ (k : Nat) (a : Addr) (c : Cell), (Ac ++ T)[k]? = some a → μc'[k]? = some c → c ≠ .dead → F' a = none := fun k a c h1 h2 h3 => (r'.ok k a c h1 h2).fr h3
  -- a caller's own live place is no place of the callee
  have apart : ∀ (i k : Nat) (a : Addr) (c c' : Cell), i ∉ sel → A[i]? = some a → μ[i]? = some c → c ≠ .dead → (Ac ++ T)[k]? = some a → μc'[k]? = some c' → c' ≠ .dead → False := fun i k a c c' hi h1 h2 h3 h4 h5 h6 => by
    have nf := noF k a c' h4 h5 h6
    have fa := (r.ok i a c h1 h2).fr h3
    by_cases hac : a ∈ Ac
    · obtain ⟨p, hp⟩ := List.getElem?_of_mem hac
      obtain ⟨i', cc, x1, x2, x3, x4⟩ := acI p a hp
      have := r.nd i i' a _ _ h1 x2 h2 x4 h3 (live p cc x3)
      subst this
      exact hi (List.mem_of_getElem? x1)
    · obtain ⟨u, _, e, _⟩ := mkd a (List.mem_of_getElem? h1) hac fa
      rw [nf] at e; cases e
  refine ⟨F2, A ++ T, le2, pA, ⟨fun a o e => r'.sub a o (f2le a o e), by rw [List.length_append, lenA, len2], fun i j a c c' hi hj h1 h2 l1 l2 => ?_, fun a ha => ?_, fun i a c ha hc => ?_⟩, rho2, ler⟩
  · rcases src i a c hi h1 with ⟨x1, x2, x3, x4⟩ | ⟨k, ck, x1, x2, x3, x4⟩ <;> rcases src j a c' hj h2 with ⟨y1, y2, y3, y4⟩ | ⟨m, cm, y1, y2, y3, y4⟩
    · exact r.nd i j a c c' x3 y3 x4 y4 l1 l2
    · exact (apart i m a c cm x2 x3 x4 l1 y2 y3 (fun z => l2 (by rw [y4, z]; rfl))).elim
    · exact (apart j k a c' ck y2 y3 y4 l2 x2 x3 (fun z => l1 (by rw [x4, z]; rfl))).elim
    · have := r'.nd k m a ck cm x2 y2 x3 y3 (fun z => l1 (by rw [x4, z]; rfl)) (fun z => l2 (by rw [y4, z]; rfl))
      rw [x1, y1, this]
  · rcases List.mem_append.mp ha with ha | ha
    · by_cases hac : a ∈ Ac
      · exact r'.there a (List.mem_append_left _ hac)
      · cases q : F a with
        | none => obtain ⟨u, _, _, h⟩ := mkd a ha hac q; exact ⟨u, h⟩
        | some o => exact ⟨_, r'.sub _ _ (le _ _ (le1 _ _ q))⟩
    · exact r'.there a (List.mem_append_right _ ha)
  · rcases src i a c ha hc with ⟨x1, x2, x3, x4⟩ | ⟨k, ck, x1, x2, x3, x4⟩
    · by_cases hd : c = .dead
      · subst hd; trivial
      have ok := r.ok i a c x3 x4
      have fa := ok.fr hd
      have hac : a ∉ Ac := fun z => by
        obtain ⟨p, hp⟩ := List.getElem?_of_mem z
        obtain ⟨i', cc, z1, z2, z3, z4⟩ := acI p a hp
        have := r.nd i i' a _ _ x3 z2 x4 z4 hd (live p cc z3)
        subst this
        exact x2 (List.mem_of_getElem? z1)
      have mem := List.mem_of_getElem? x3
      obtain ⟨u, e1, _, e3⟩ := mkd a mem hac fa
      refine ok.mono le2 pA (fun _ => f2no a ⟨mem, hac, fa⟩) fun o h _ => ?_
      rw [e1] at h; cases h
      exact e3
    · subst x4
      refine (r'.ok k a ck x2 x3).ren rho2 ler fun z => ?_
      cases q : F2 a with
      | none => rfl
      | some o => rw [f2le a o q] at z; cases z
/-- a promise about few places is one about many -/
inductive Fr (R : Rf) : Rf
  | mk {ds : List D} {μ : Mu} {sel : List Nat} {μc μc' μ2 : Mu} {dsc : List D} {d : D} : Sel μ sel μc → ds = renDs (ro μ.length sel) dsc → okDs sel.length dsc = true → R dsc μc (.val d) μc' → Mrg μ sel μc' μ2 → Fr R ds μ (.val (renD (ro μ.length sel) d)) μ2
theorem spD_fr {R : Rf} {vs : List V} {H : Hp} {Q : VK} {E : XK} (h : spD K ct (Fr R) vs H Q E) : spD K ct R vs H Q E := by
  obtain ⟨F, A, μ, ds, o, μ', r, rs, h, q⟩ := h
  cases h with
  | mk S e o h M =>
    subst e
    obtain ⟨Fc, Ac, rc, ar, k⟩ := frame r S
    refine ⟨Fc, Ac, _, _, _, _, rc, ar _ _ o rs, h, fun v H' F' A' le p r' hv => ?_⟩
    obtain ⟨F2, A2, l1, p1, r2, rn, le2⟩ := k _ H' F' A' _ le p r' M
    exact q v H' F2 A2 l1 p1 r2 (hv.ren rn le2)
end
end DL
namespace DL
open PySem PySem.Spec PyProof.Rows L2
mutual
theorem Rep.okn {K : PySem.W.Frag} {ct : Nat → Addr} {A : List Addr} {F : Hp} : ∀ {v : V} {d : D}, Rep K ct A F v d → okD A.length d = true
  | _, _, .non => by simp only [okD]
  | _, _, .bl b => by simp only [okD]
  | _, _, .int i => by simp only [okD]
  | _, _, .str s => by simp only [okD]
  | _, _, .raw v => by simp only [okD]
  | _, _, .tup h' r => by simp only [okD]; exact Reps.okn r
  | _, _, .lst h' r => by simp only [okD]; exact Reps.okn r
  | _, _, .scr h' r => by simp only [okD]; exact Reps.okn r
  | _, _, .dic h' k r => by simp only [okD]; rw [← okKs_v]; exact Reps.okn r
  | _, _, .ins h' k r => by simp only [okD]; rw [← okFs_v]; exact Reps.okn r
  | _, _, .ptr h' => by simp only [okD, decide_eq_true_eq]; exact (List.getElem?_eq_some_iff.mp h').1
theorem Reps.okn {K : PySem.W.Frag} {ct : Nat → Addr} {A : List Addr} {F : Hp} : ∀ {vs : List V} {ds : List D}, Reps K ct A F vs ds → okDs A.length ds = true
  | _, _, .nil => by simp only [okDs]
  | _, _, .cons h r => by simp only [okDs, Rep.okn h, Reps.okn r, Bool.and_self]
end
theorem renDs_app (ρ : Nat → Nat) : ∀ a b : List D, renDs ρ (a ++ b) = renDs ρ a ++ renDs ρ b
  | [], b => by simp [renDs]
  | d :: a, b => by simp [renDs, renDs_app ρ a b]
theorem okDs_app (n : Nat) : ∀ a b : List D, okDs n (a ++ b) = (okDs n a && okDs n b)
  | [], b => by simp [okDs]
  | d :: a, b => by simp [okDs, okDs_app n a b, Bool.and_assoc]
section
variable {P : Program} {w : World} {K : PySem.W.Frag} {mg : Str → Option Value} {base : Heap} {ct : Nat → Addr} {x : Str} {k : Nat} {R : Rf}
theorem Fn.fr (G : Fn P w K mg base ct x k R) : Fn P w K mg base ct x k (Fr R) := by
  obtain ⟨CX, f, fd, ps, dvs, dus, dds, F, hm, hk, hb, hv, hd, hx⟩ := G.ex
  have od : okDs 0 dds = true := (hd [] fun _ => none).okn
  refine ⟨CX, f, fd, ps, dvs, dus, dds, F.imp fun vs H Q E ⟨F, A, μ, ds, o, μ', r, rs, h, q⟩ => spD_fr ⟨F, A, μ, ds, o, μ', r, rs, ?_, q⟩, hm, hk, hb, hv, hd, hx⟩
  obtain ⟨ds', rfl, h⟩ := h
  cases h with
  | mk S e o h M => exact .mk S (dsc := _ ++ dds) (by rw [renDs_app, ren0s _ _ od, e]) (by rw [okDs_app, o, okDs_mono (Nat.zero_le _) _ od]; rfl) ⟨_, rfl, h⟩ M
theorem Me.fr {n : Nat} {m : Str} (G : Me P w K mg base ct n m k R) : Me P w K mg base ct n m k (Fr R) := by
  obtain ⟨CX, f, fd, ps, F, hm, hb, hx⟩ := G.ex
  exact ⟨G.cl, CX, f, fd, ps, F.imp fun vs H Q E h => spD_fr h, hm, hb, hx⟩
theorem Fn.imp {R' : Rf} (G : Fn P w K mg base ct x k R) (h : ∀ ds μ o μ', R' ds μ o μ' → R ds μ o μ') : Fn P w K mg base ct x k R' := by
  obtain ⟨CX, f, fd, ps, dvs, dus, dds, F, hm, hk, hb, hv, hd, hx⟩ := G.ex
  exact ⟨CX, f, fd, ps, dvs, dus, dds, F.imp fun vs H Q E ⟨F, A, μ, ds, o, μ', r, rs, ⟨ds', e, z⟩, q⟩ => ⟨F, A, μ, ds, o, μ', r, rs, ⟨ds', e, h _ _ _ _ z⟩, q⟩, hm, hk, hb, hv, hd, hx⟩
end
/-! ### the common shapes -/
theorem sel0 {μ : Mu} : Sel μ [] [] := ⟨rfl, List.nodup_nil, fun p c h => by simp at h, fun c h => by simp at h⟩
theorem mrg0 {μ : Mu} : Mrg μ [] [] μ := ⟨by simp, fun _ _ _ => rfl, fun k c h => by simp at h⟩
theorem mrgN {μ μn : Mu} : Mrg μ [] μn (μ ++ μn.map (renC fun k => μ.length + k)) := by
  have e : ro μ.length [] = fun k => μ.length + k := by funext k; simp [ro]
  refine ⟨by simp, fun i hi _ => List.getElem?_append_left hi, fun k c h => ?_⟩
  rw [e, List.getElem?_append_right (by simp)]
  simp [h]
theorem sel1 {μ : Mu} {k : Nat} {c : Cell} (h : μ[k]? = some c) (l : c ≠ .dead) (o : okC 0 c = true) : Sel μ [k] [c] := by
  refine ⟨rfl, by simp, fun p c' hp => ?_, fun c' hc => ?_⟩
  · cases p with
    | zero => simp at hp; subst hp; exact ⟨k, rfl, by rw [ren0c _ _ o]; exact h⟩
    | succ p => simp at hp
  · simp at hc; subst hc; exact ⟨l, okC_mono (Nat.zero_le _) _ o⟩
theorem mrg1 {μ : Mu} {k : Nat} {c : Cell} (h : k < μ.length) (o : okC 0 c = true) : Mrg μ [k] [c] (μ.set k c) := by
  refine ⟨by simp, fun i hi hs => List.getElem?_set_ne (fun z => hs (by simp [z])), fun j c' hj => ?_⟩
  cases j with
  | zero => simp at hj; subst hj; rw [ren0c _ _ o]; exact List.getElem?_set_self h
  | succ p => simp at hj
theorem mrg1N {μ : Mu} {k : Nat} {c : Cell} {μn : Mu} (h : k < μ.length) (o : okC 0 c = true) (on : ∀ c ∈ μn, okC 0 c = true) : Mrg μ [k] (c :: μn) (μ.set k c ++ μn) := by
  refine ⟨by simp, fun i hi hs => ?_, fun j c' hj => ?_⟩
  · rw [List.getElem?_append_left (by simpa using hi)]
    exact List.getElem?_set_ne (fun z => hs (by simp [z]))
  · cases j with
    | zero =>
      simp at hj; subst hj
      rw [ren0c _ _ o, show ro μ.length [k] 0 = k from rfl, List.getElem?_append_left (by simpa using h)]
      exact List.getElem?_set_self h
    | succ p =>
      have hm : c' ∈ μn := List.mem_of_getElem? (by simpa using hj)
      rw [ren0c _ _ (on c' hm), show ro μ.length [k] (p + 1) = μ.length + p from rfl, List.getElem?_append_right (by simp)]
      simpa using hj
section
variable {ds : List D} {μ : Mu} {d : D} {R : Rf}
/-- a pure call -/
theorem Fr.p (o : okDs 0 ds = true) (od : okD 0 d = true) (h : R ds [] (.val d) []) : Fr R ds μ (.val d) μ := by
  have := Fr.mk (R := R) (μ := μ) (ds := ds) (dsc := ds) sel0 (by rw [ren0s _ _ o]) o h mrg0
  rw [ren0 _ _ od] at this
  exact this
/-- a new thing comes back -/
theorem Fr.n {c : Cell} (o : okDs 0 ds = true) (oc : okC 0 c = true) (h : R ds [] (.val (.ptr 0)) [c]) : Fr R ds μ (.val (.ptr μ.length)) (μ ++ [c]) := by
  have := Fr.mk (R := R) (μ := μ) (ds := ds) (dsc := ds) sel0 (by rw [ren0s _ _ o]) o h mrgN
  simp only [List.map_cons, List.map_nil, ren0c _ _ oc, renD] at this
  exact this
/-- one place is shown -/
theorem Fr.one {k : Nat} {c c' : Cell} (dsc : List D) (hk : μ[k]? = some c) (l : c ≠ .dead) (oc : okC 0 c = true) (e : renDs (ro μ.length [k]) dsc = ds) (o : okDs 1 dsc = true) (od : okD 0 d = true) (oc' : okC 0 c' = true) (h : R dsc [c] (.val d) [c']) : Fr R ds μ (.val d) (μ.set k c') := by
  have := Fr.mk (R := R) (μ := μ) (ds := ds) (dsc := dsc) (sel1 hk l oc) e.symm o h (mrg1 (List.getElem?_eq_some_iff.mp hk).1 oc')
  rw [ren0 _ _ od] at this
  exact this
end
end DL

/-! # Pure defs, and the rules in the order in which data become known -/
namespace DL
open PySem PySem.Spec PyProof.Rows L2
/-- a def from pure data to pure data -/
abbrev PuR {α : Type} (enc : α → List D) (pre : α → Prop) (out : α → D) : Rf := fun ds μ o μ' => ∃ a, ds = enc a ∧ pre a ∧ o = .val (out a) ∧ μ = [] ∧ μ' = []
structure PFn (P : Program) (w : World) (K : PySem.W.Frag) (mg : Str → Option Value) (base : Heap) (ct : Nat → Addr) (x : Str) (k : Nat) {α : Type} (enc : α → List D) (pre : α → Prop) (out : α → D) : Prop where
  fn : Fn P w K mg base ct x k (PuR enc pre out)
  ok : ∀ a, pre a → okDs 0 (enc a) = true ∧ okD 0 (out a) = true
structure PMe (P : Program) (w : World) (K : PySem.W.Frag) (mg : Str → Option Value) (base : Heap) (ct : Nat → Addr) (n : Nat) (m : Str) (k : Nat) {α : Type} (enc : α → List D) (pre : α → Prop) (out : α → D) : Prop where
  fn : Me P w K mg base ct n m k (PuR enc pre out)
  ok : ∀ a, pre a → okDs 0 (enc a) = true ∧ okD 0 (out a) = true
/-- a def on one thing (the first argument) and pure data: the thing changes -/
abbrev BoR {α β : Type} (cell : β → Cell) (enc : α → List D) (pre : α → β → Prop) (out : α → β → D) (nxt : α → β → β) : Rf := fun ds μ o μ' => ∃ a b, ds = .ptr 0 :: enc a ∧ pre a b ∧ o = .val (out a b) ∧ μ = [cell b] ∧ μ' = [cell (nxt a b)]
structure BFn (P : Program) (w : World) (K : PySem.W.Frag) (mg : Str → Option Value) (base : Heap) (ct : Nat → Addr) (x : Str) (k : Nat) {α β : Type} (cell : β → Cell) (enc : α → List D) (pre : α → β → Prop) (out : α → β → D) (nxt : α → β → β) : Prop where
  fn : Fn P w K mg base ct x k (BoR cell enc pre out nxt)
  ok : ∀ a b, pre a b → okDs 0 (enc a) = true ∧ okD 0 (out a b) = true
  okc : ∀ b, okC 0 (cell b) = true ∧ cell b ≠ .dead
theorem scoped_of {K : PySem.W.Frag} {ct : Nat → Addr} {μ : Mu} {H F : Hp} {A : List Addr} (r : Rl0 K ct μ H F A) : Scoped μ := fun c hc => by
  obtain ⟨k, hk⟩ := List.getElem?_of_mem hc
  have hlt : k < A.length := by rw [r.len]; exact (List.getElem?_eq_some_iff.mp hk).1
  have h := r.ok k _ c (List.getElem?_eq_getElem hlt) hk
  rw [← r.len]
  cases c with
  | dead => rfl
  | lst l => obtain ⟨_, vs, _, h⟩ := h; exact h.okn
  | dic l => obtain ⟨_, vs, _, _, h⟩ := h; have := h.okn; rw [okKs_v] at this; exact this
  | ins n l => obtain ⟨_, dx, vs, _, _, h⟩ := h; have := h.okn; rw [okFs_v] at this; exact this
theorem Slots.okn {K : PySem.W.Frag} {ct : Nat → Addr} {F : Hp} {A : List Addr} : ∀ {Γ : Gm} {σ : L2.St}, Slots K ct A F Γ σ → ∀ d' ∈ Γ, ∀ d'', d' = some d'' → okD A.length d'' = true
  | _, _, .nil, _, h, _, _ => by cases h
  | _, _, .any r, d', h, d'', e => by
    rcases List.mem_cons.mp h with h | h
    · subst h; cases e
    · exact Slots.okn r d' h d'' e
  | _, _, .cons q r, d', h, d'', e => by
    rcases List.mem_cons.mp h with h | h
    · subst h; cases e; exact q.okn
    · exact Slots.okn r d' h d'' e
/-- a class whose instances are made of pure data and not changed again -/
structure PMk (P : Program) (w : World) (K : PySem.W.Frag) (mg : Str → Option Value) (base : Heap) (ct : Nat → Addr) (n : Nat) (x : Str) (k : Nat) {α : Type} (enc : α → List D) (pre : α → Prop) (out : α → List (Str × D)) : Prop where
  fn : Mkr P w K mg base ct n x k (fun as μ0 fs μ1 => ∃ a, as = enc a ∧ pre a ∧ fs = out a ∧ μ0 = [] ∧ μ1 = [])
  ok : ∀ a, pre a → okDs 0 (enc a) = true ∧ okFs 0 (out a) = true
section
variable {X : Cx} {ct : Nat → Addr} {Γ Γ1 Γ2 : Gm} {μ μ1 μ2 μ3 : Mu} {d da db dc : D} {ds : List D} {e a b c o : Expr} {es : List Expr} {st : Stmt} {rest sa sb : List Stmt} {pos p tp apos : Pos} {x f m : Str} {k k' : Bool} {P P' : P4}
theorem q_op {op : Operator} (ha : DE X ct Γ μ a da μ1) (hb : DE X ct Γ μ1 b db μ2) (o : O2 X ct (binaryOp op) μ2 da db d) : DE X ct Γ μ (.BinOp a op b pos) d μ2 := de_op o ha hb
theorem q_cmp {op : CmpOp} (ha : DE X ct Γ μ a da μ1) (hb : DE X ct Γ μ1 b db μ2) (o : O2 X ct (compareOp op) μ2 da db d) (hm : behindInMarks op b = false := by first | exact nomark _ | rfl | with_unfolding_all rfl) : DE X ct Γ μ (.Compare a [op] [b] pos) d μ2 := de_cmp o ha hb hm
theorem qt_cmp {op : CmpOp} (ha : DE X ct Γ μ a da μ1) (hb : DE X ct Γ μ1 b db μ2) (o : O2 X ct (compareOp op) μ2 da db (.bl k)) (hm : behindInMarks op b = false := by first | exact nomark _ | rfl | with_unfolding_all rfl) : DT X ct Γ μ (.Compare a [op] [b] pos) k μ2 := dt_cmp o ha hb hm
theorem q_in (ha : DE X ct Γ μ a da μ1) (hb : DE X ct Γ μ1 b db μ2) (h : InD μ2 da db k) (hu : X.A.units + 1 < cLine := by exact hu_of ‹Room _ _›) (hm : behindInMarks .In b = false := by first | rfl | with_unfolding_all rfl) : DE X ct Γ μ (.Compare a [.In] [b] pos) (.bl k) μ2 := de_in h hu ha hb hm
theorem q_nin (ha : DE X ct Γ μ a da μ1) (hb : DE X ct Γ μ1 b db μ2) (h : InD μ2 da db k) (hu : X.A.units + 1 < cLine := by exact hu_of ‹Room _ _›) (hm : behindInMarks .NotIn b = false := by first | rfl | with_unfolding_all rfl) : DE X ct Γ μ (.Compare a [.NotIn] [b] pos) (.bl (!k)) μ2 := de_nin h hu ha hb hm
theorem qt_in (ha : DE X ct Γ μ a da μ1) (hb : DE X ct Γ μ1 b db μ2) (h : InD μ2 da db k) (hu : X.A.units + 1 < cLine := by exact hu_of ‹Room _ _›) (hm : behindInMarks .In b = false := by first | rfl | with_unfolding_all rfl) : DT X ct Γ μ (.Compare a [.In] [b] pos) k μ2 := dt_in h hu ha hb hm
theorem qt_nin (ha : DE X ct Γ μ a da μ1) (hb : DE X ct Γ μ1 b db μ2) (h : InD μ2 da db k) (hu : X.A.units + 1 < cLine := by exact hu_of ‹Room _ _›) (hm : behindInMarks .NotIn b = false := by first | rfl | with_unfolding_all rfl) : DT X ct Γ μ (.Compare a [.NotIn] [b] pos) (!k) μ2 := dt_nin h hu ha hb hm
theorem q_ix (ha : DE X ct Γ μ a da μ1) (hb : DE X ct Γ μ1 b db μ2) (h : IxD μ2 da db d) (hu : X.A.units + 1 < cLine := by exact hu_of ‹Room _ _›) (hs : PlainIx b := by intro _ _; rfl) (hs' : NoSl b := by intro _ _; rfl) : DE X ct Γ μ (.Subscript a b pos) d μ2 := de_ix h hu ha hb hs hs'
theorem q_attr (he : DE X ct Γ μ e da μ1) (h : FldD X.K ct μ1 da f d) (hb : attributeBase e f X.env (eval e X.env) = eval e X.env := by rfl) : DE X ct Γ μ (.Attribute e f pos) d μ1 := de_attr h he hb
theorem q_len {n : Nat} (hm : X.mg "len" = none) (he : DE X ct Γ μ a d μ1) (h : LenD μ1 d n) (hg : Gl X "len" := by rfl) (hs1 : starEach [a] X.env = (false, eval a X.env) :: starEach [] X.env := by rfl) : DE X ct Γ μ (.Call (.Name "len" p) [a] [] pos) (.int n) μ1 := de_len hm h he hg hs1
theorem q_tuple {l : List D} (hm : X.mg "tuple" = none) (he : DE X ct Γ μ a d μ1) (h : SeqM μ1 d l) (hg : Gl X "tuple" := by rfl) (hs1 : starEach [a] X.env = (false, eval a X.env) :: starEach [] X.env := by rfl) : DE X ct Γ μ (.Call (.Name "tuple" p) [a] [] pos) (.tup l) μ1 := de_tuple hm h he hg hs1
theorem q_list {l : List D} (hm : X.mg "list" = none) (he : DE X ct Γ μ a d μ1) (h : SeqM μ1 d l) (hg : Gl X "list" := by rfl) (hs1 : starEach [a] X.env = (false, eval a X.env) :: starEach [] X.env := by rfl) : DE X ct Γ μ (.Call (.Name "list" p) [a] [] pos) (.lst l) μ1 := de_list hm h he hg hs1
theorem q_call {kk : Nat} {α : Type} {enc : α → List D} {pre : α → Prop} {out : α → D} (G : PFn X.prog X.w X.K X.mg X.base ct x kk enc pre out) (ha : DA X ct Γ μ (e :: es) ds μ1) (z : α) (h : ds = enc z) (hp : pre z) (hr : Room kk X.A := by first | exact ‹Room _ _› | exact Room.mono ‹Room _ _› (by decide)) (hg : Gl X x := by rfl)
    (hdb : (x == ("__debug__" : Str)) = false := by decide) (he : starEach (e :: es) X.env = (false, eval e X.env) :: starEach es X.env := by rfl) (hpl : (backTo pos (starEach es X.env)).any (·.1) = false := by rfl) : DE X ct Γ μ (.Call (.Name x p) (e :: es) [] pos) (out z) μ1 := by
  subst h
  exact de_call G.fn.fr hr ha (Fr.p (G.ok z hp).1 (G.ok z hp).2 ⟨z, rfl, hp, rfl, rfl, rfl⟩) hg hdb he hpl
theorem q_call0 {kk : Nat} {α : Type} {enc : α → List D} {pre : α → Prop} {out : α → D} (G : PFn X.prog X.w X.K X.mg X.base ct x kk enc pre out) (z : α) (h : [] = enc z) (hp : pre z) (hr : Room kk X.A := by first | exact ‹Room _ _› | exact Room.mono ‹Room _ _› (by decide)) (hg : Gl X x := by rfl)
    (hdb : (x == ("__debug__" : Str)) = false := by decide) : DE X ct Γ μ (.Call (.Name x p) [] [] pos) (out z) μ :=
  de_call0 G.fn.fr hr (Fr.p (ds := []) rfl (G.ok z hp).2 ⟨z, h, hp, rfl, rfl, rfl⟩) hg hdb
theorem q_meth {kk n : Nat} {α : Type} {enc : α → List D} {pre : α → Prop} {out : α → D} {fs : List (Str × D)} {pl : Sem Bool} (G : PMe X.prog X.w X.K X.mg X.base ct n m kk enc pre out) (ho : DE X ct Γ μ o (.ins n fs) μ1) (ha : DA X ct Γ μ1 (e :: es) ds μ2) (z : α) (h : .ins n fs :: ds = enc z) (hp : pre z) (hl : fs.lookup m = none := by rfl) (hr : Room kk X.A := by first | exact ‹Room _ _› | exact Room.mono ‹Room _ _› (by decide))
    (hst : starEach (e :: es) X.env = (false, eval e X.env) :: starEach es X.env := by rfl) (hpl : (backTo pos (starEach es X.env)).any (·.1) = false := by rfl)
    (ht : eval (.Call (.Attribute o m apos) (e :: es) [] pos) X.env = (do
      let ov ← eval o X.env
      standAt apos.atName
      let (f, first) ← holding [ov] (getMethod ov m pl)
      callWith pos f first (backTo pos (starEach (e :: es) X.env)) (backToKw pos (keywordEach [] X.env))) := by rfl) : DE X ct Γ μ (.Call (.Attribute o m apos) (e :: es) [] pos) (out z) μ2 :=
  de_meth G.fn.fr hr ho .ins hl ha (Fr.p (by rw [h]; exact (G.ok z hp).1) (G.ok z hp).2 ⟨z, h, hp, rfl, rfl, rfl⟩) hst hpl ht
theorem q_meth0 {kk n : Nat} {α : Type} {enc : α → List D} {pre : α → Prop} {out : α → D} {fs : List (Str × D)} {pl : Sem Bool} (G : PMe X.prog X.w X.K X.mg X.base ct n m kk enc pre out) (ho : DE X ct Γ μ o (.ins n fs) μ1) (z : α) (h : [.ins n fs] = enc z) (hp : pre z) (hl : fs.lookup m = none := by rfl) (hr : Room kk X.A := by first | exact ‹Room _ _› | exact Room.mono ‹Room _ _› (by decide))
    (ht : eval (.Call (.Attribute o m apos) [] [] pos) X.env = (do
      let ov ← eval o X.env
      standAt apos.atName
      let (f, first) ← holding [ov] (getMethod ov m pl)
      callWith pos f first (backTo pos (starEach [] X.env)) (backToKw pos (keywordEach [] X.env))) := by rfl) : DE X ct Γ μ (.Call (.Attribute o m apos) [] [] pos) (out z) μ1 :=
  de_meth0 G.fn.fr hr ho .ins hl (Fr.p (by rw [h]; exact (G.ok z hp).1) (G.ok z hp).2 ⟨z, h, hp, rfl, rfl, rfl⟩) ht
/-- a def that changes one thing -/
theorem q_box {kk : Nat} {α β : Type} {cell : β → Cell} {enc : α → List D} {pre : α → β → Prop} {out : α → β → D} {nxt : α → β → β} (G : BFn X.prog X.w X.K X.mg X.base ct x kk cell enc pre out nxt) {j : Nat} (ha : DA X ct Γ μ (e :: es) (.ptr j :: ds) μ1) (z : α) (y : β) (h : ds = enc z) (hm : μ1[j]? = some (cell y)) (hp : pre z y) (hr : Room kk X.A := by first | exact ‹Room _ _› | exact Room.mono ‹Room _ _› (by decide)) (hg : Gl X x := by rfl)
    (hdb : (x == ("__debug__" : Str)) = false := by decide) (he : starEach (e :: es) X.env = (false, eval e X.env) :: starEach es X.env := by rfl) (hpl : (backTo pos (starEach es X.env)).any (·.1) = false := by rfl) : DE X ct Γ μ (.Call (.Name x p) (e :: es) [] pos) (out z y) (μ1.set j (cell (nxt z y))) := by
  subst h
  have o := G.ok z y hp
  exact de_call G.fn.fr hr ha (Fr.one (.ptr 0 :: enc z) hm (G.okc y).2 (G.okc y).1 (by simp only [renDs, renD, ren0s _ _ o.1]; rfl) (by simp only [okDs, okD, okDs_mono (Nat.zero_le 1) _ o.1]; rfl) o.2 (G.okc _).1 ⟨z, y, rfl, hp, rfl, rfl, rfl⟩) hg hdb he hpl
/-- a new frozen instance -/
theorem q_make {kk n : Nat} {α : Type} {enc : α → List D} {pre : α → Prop} {out : α → List (Str × D)} (G : PMk X.prog X.w X.K X.mg X.base ct n x kk enc pre out) (ha : DA X ct Γ μ (e :: es) ds μ1) (z : α) (h : ds = enc z) (hp : pre z) (hr : Room (kk + 1) X.A := by first | exact ‹Room _ _› | exact Room.mono ‹Room _ _› (by decide)) (hg : Gl X x := by rfl)
    (hdb : (x == ("__debug__" : Str)) = false := by decide) (he : starEach (e :: es) X.env = (false, eval e X.env) :: starEach es X.env := by rfl) (hpl : (backTo pos (starEach es X.env)).any (·.1) = false := by rfl) : DE X ct Γ μ (.Call (.Name x p) (e :: es) [] pos) (.ins n (out z)) μ1 := by
  subst h
  obtain ⟨o1, o2⟩ := G.ok z hp
  obtain ⟨CX, f, fd, ps, dvs, dus, dds, F, hM, hm, hb, hv, hd, hx⟩ := G.fn.ex
  have od : okDs 0 dds = true := (hd [] fun _ => none).okn
  refine PE.imp (pe_make hM F hr hg hm hb hv (hx X rfl rfl) ha hdb he hpl) fun σ H Q ⟨F, A, r, q⟩ => ?_
  refine ⟨F, A, r, fun vs H1 F1 A1 e1 p1 r1 h1 y dx ny nd ne => ?_⟩
  have ny2 : upd H1 dx (.own y) y = none := by rw [upd_ne (Ne.symm ne)]; exact ny
  have g1 := r1.m.grow nd (.own y)
  have le1 : Le F1 (upd F1 dx (.own y)) := r1.m.le_grow nd _
  have g2 := g1.push (o := .ins (ct n) dx []) (c := .ins n []) ny2 ⟨g1.sub.free ny2, dx, [], upd_same, rfl, .nil⟩
  have len1 := r1.m.len
  have py : (A1 ++ [y])[μ1.length]? = some y := by rw [← len1, List.getElem?_append_right (Nat.le_refl _), Nat.sub_self]; rfl
  refine spD_fr ⟨_, _, μ1 ++ [.ins n []], .ptr μ1.length :: (enc z ++ dds), .val .non, μ1 ++ [.ins n (out z)], g2, .cons (.ptr py) ((h1.mono le1 (List.prefix_append _ _)).app (hd _ _)), ?_, fun v H2 F2 A2 e2 p2 r2 h2 => ⟨by cases h2; rfl, ?_⟩⟩
  · have hg1 : (μ1 ++ [Cell.ins n []])[μ1.length]? = some (.ins n []) := by rw [List.getElem?_append_right (Nat.le_refl _), Nat.sub_self]; rfl
    have := Fr.one (R := fun ds μ o μ' => ∃ as fs μ0 μ1, μ = μ0 ++ [.ins n []] ∧ ds = .ptr μ0.length :: (as ++ dds) ∧ (∃ a, as = enc a ∧ pre a ∧ fs = out a ∧ μ0 = [] ∧ μ1 = []) ∧ o = .val .non ∧ μ' = μ0 ++ [.ins n fs] ++ μ1) (μ := μ1 ++ [.ins n []]) (d := .non) (k := μ1.length) (c := .ins n []) (c' := .ins n (out z)) (.ptr 0 :: (enc z ++ dds)) hg1 (by simp) rfl rfl (by simp only [okDs, okD, okDs_app, okDs_mono (Nat.zero_le 1) _ o1, okDs_mono (Nat.zero_le 1) _ od]; rfl) rfl o2 ⟨enc z, out z, [], [], rfl, rfl, ⟨z, rfl, hp, rfl, rfl, rfl⟩, rfl, rfl⟩
    simp only [renDs, renD, renDs_app, ren0s _ _ o1, ren0s _ _ od] at this
    rw [List.set_append_right _ _ (Nat.le_refl _), Nat.sub_self] at this
    exact this
  · have py2 := pre_get p2 py
    obtain ⟨u, hu, hf, hmm, hl', rep⟩ := freeze_rep r2 py2 (List.getElem?_concat_length ..) (rfl : frozen (.ins n (out z)) = some (.ins n (out z)))
    obtain ⟨le, r3⟩ := freeze r2 py2 hu hf hmm (List.getElem?_concat_length ..) hl'
    rw [List.set_append_right _ _ (Nat.le_refl _), Nat.sub_self] at r3
    have sc := scoped_of r1.m
    have r4 := Rl0.cut r3 sc
    have pA : A1 <+: A2 := (List.prefix_append _ _).trans p2
    refine q _ H2 _ _ (e1.trans (le1.trans (e2.trans le))) (pre_take (p1.trans pA) (by rw [← len1]; exact p1.length_le)) ⟨r4, ?_⟩ (rep.cut (by simp only [okD]; exact okFs_mono (Nat.zero_le _) _ o2))
    have s1 := (r1.s.mono (le1.trans (e2.trans le)) pA).cut (n := μ1.length) fun d' hd' d'' e' => by rw [← len1]; exact r1.s.okn d' hd' d'' e'
    exact s1
end
/-! ### a pure def keeps its promise -/
section
variable {P : Program} {w : World} {K : PySem.W.Frag} {mg : Str → Option Value} {base : Heap} {ct : Nat → Addr}
theorem PFn.of {α : Type} {enc : α → List D} {pre : α → Prop} {out : α → D} {x : Str} {params : Arguments} {body : List Stmt} {scope : Scope} {N ps : List Str} {k : Nat} (F : ∃ fd, FunD K x x params body scope [] [] (He.fAd K (x, none)) fd) (hm : mg x = some (.ref (He.ga K x))) (S : FnScope N ps scope) (hb : BindN x x params body scope ps)
    (hl : ∀ a, (enc a).length = ps.length) (ok : ∀ a, pre a → okDs 0 (enc a) = true ∧ okD 0 (out a) = true)
    (hbody : ∀ (f : Addr) (cdv : Value) (A : Around) (outer : List Env) (s : Shared) (H : Hp) (E : XK) (a : α), Room k (A.deeper (envOfC x scope s.heap.objs.size f cdv)) → pre a →
      DSs (cxOf CX0 P w K mg base N x scope f cdv A outer s H E).nox ct body ((enc a).map some ++ List.replicate (N.length - ps.length) none) []
        { nx := fun _ _ => D.non = out a, rt := fun d2 _ => d2 = out a }) : PFn P w K mg base ct x (k + 1) enc pre out := by
  refine ⟨Fn.of F hm S hb (fun ds μ o μ' ⟨a, e, _⟩ => by subst e; exact hl a) fun f cdv A outer s H E ds μ o μ' hr ⟨a, e1, hp, e2, e3, e4⟩ => ?_, ok⟩
  subst e1 e2 e3 e4
  refine ⟨_, rfl, ?_⟩
  have b := hbody f cdv A outer s H E a hr hp
  rw [hl a]
  refine ds_imp b (fun _ μ h => ⟨h, .inr ⟨Nat.le_refl _, (ok a hp).2, .nil, μ, rfl⟩⟩) (fun d μ h => ⟨h, .inr ⟨Nat.le_refl _, (ok a hp).2, .nil, μ, rfl⟩⟩) (fun _ _ z => z) (fun _ _ z => z)
theorem PMe.of {α : Type} {enc : α → List D} {pre : α → Prop} {out : α → D} {n : Nat} {c m : Str} {qual : Str} {params : Arguments} {body : List Stmt} {scope : Scope} {N ps : List Str} {k : Nat} (F : ∃ fd, FunD K m qual params body scope [] [] (He.fAd K (c, some m)) fd) (hc : ct n = He.ga K c) (cl : Cls K (He.ga K c)) (hm : Meth K (He.ga K c) m (He.ma K (He.ga K c) m)) (S : FnScope N ps scope) (hb : BindN m qual params body scope ps)
    (hl : ∀ a, (enc a).length = ps.length) (ok : ∀ a, pre a → okDs 0 (enc a) = true ∧ okD 0 (out a) = true)
    (hbody : ∀ (f : Addr) (cdv : Value) (A : Around) (outer : List Env) (s : Shared) (H : Hp) (E : XK) (a : α), Room k (A.deeper (envOfC qual scope s.heap.objs.size f cdv)) → pre a →
      DSs (cxOf CX0 P w K mg base N qual scope f cdv A outer s H E).nox ct body ((enc a).map some ++ List.replicate (N.length - ps.length) none) []
        { nx := fun _ _ => D.non = out a, rt := fun d2 _ => d2 = out a }) : PMe P w K mg base ct n m (k + 1) enc pre out := by
  refine ⟨Me.of F hc cl hm S hb (fun ds μ o μ' ⟨a, e, _⟩ => by subst e; exact hl a) fun f cdv A outer s H E ds μ o μ' hr ⟨a, e1, hp, e2, e3, e4⟩ => ?_, ok⟩
  subst e1 e2 e3 e4
  refine ⟨_, rfl, ?_⟩
  have b := hbody f cdv A outer s H E a hr hp
  rw [hl a]
  refine ds_imp b (fun _ μ h => ⟨h, .inr ⟨Nat.le_refl _, (ok a hp).2, .nil, μ, rfl⟩⟩) (fun d μ h => ⟨h, .inr ⟨Nat.le_refl _, (ok a hp).2, .nil, μ, rfl⟩⟩) (fun _ _ z => z) (fun _ _ z => z)
theorem BFn.of {α β : Type} {cell : β → Cell} {enc : α → List D} {pre : α → β → Prop} {out : α → β → D} {nxt : α → β → β} {x : Str} {params : Arguments} {body : List Stmt} {scope : Scope} {N ps : List Str} {k : Nat} (F : ∃ fd, FunD K x x params body scope [] [] (He.fAd K (x, none)) fd) (hm : mg x = some (.ref (He.ga K x))) (S : FnScope N ps scope) (hb : BindN x x params body scope ps)
    (hl : ∀ a, (enc a).length + 1 = ps.length) (ok : ∀ a b, pre a b → okDs 0 (enc a) = true ∧ okD 0 (out a b) = true) (okc : ∀ b, okC 0 (cell b) = true ∧ cell b ≠ .dead)
    (hbody : ∀ (f : Addr) (cdv : Value) (A : Around) (outer : List Env) (s : Shared) (H : Hp) (E : XK) (a : α) (b : β), Room k (A.deeper (envOfC x scope s.heap.objs.size f cdv)) → pre a b →
      DSs (cxOf CX0 P w K mg base N x scope f cdv A outer s H E).nox ct body ((.ptr 0 :: enc a).map some ++ List.replicate (N.length - ps.length) none) [cell b]
        { nx := fun _ μ => D.non = out a b ∧ ∃ ex, μ = cell (nxt a b) :: ex, rt := fun d2 μ => d2 = out a b ∧ ∃ ex, μ = cell (nxt a b) :: ex }) : BFn P w K mg base ct x (k + 1) cell enc pre out nxt := by
  have sc : ∀ b, Scoped [cell b] := fun b c hc => by
    rw [List.mem_singleton] at hc
    subst hc
    exact okC_mono (Nat.zero_le _) _ (okc b).1
  refine ⟨Fn.of F hm S hb (fun ds μ o μ' ⟨a, b, e, _⟩ => by subst e; exact hl a) fun f cdv A outer s H E ds μ o μ' hr ⟨a, b, e1, hp, e2, e3, e4⟩ => ?_, ok, okc⟩
  subst e1 e2 e3 e4
  refine ⟨_, rfl, ?_⟩
  have bd := hbody f cdv A outer s H E a b hr hp
  rw [show (D.ptr 0 :: enc a).length = ps.length from hl a]
  refine ds_imp bd (fun _ μ ⟨h, ex, e⟩ => ⟨h, .inr ⟨Nat.le_refl _, okD_mono (Nat.zero_le _) _ (ok a b hp).2, sc _, ex, e⟩⟩) (fun d μ ⟨h, ex, e⟩ => ⟨h, .inr ⟨Nat.le_refl _, okD_mono (Nat.zero_le _) _ (ok a b hp).2, sc _, ex, e⟩⟩) (fun _ _ z => z) (fun _ _ z => z)
end
end DL
namespace DL
open PySem PySem.Spec PyProof.Rows L2
theorem sz_small {n : Nat} (h : n ≤ 1000) : n ≤ sizeLine := Nat.le_trans h (by decide)
theorem hu64 {A : Around} {k : Nat} (h : Room k A) : A.units + 64 < cLine := h.units
end DL

namespace DL
open PySem PySem.Spec PyProof.Rows L2
section
variable {X : Cx} {ct : Nat → Addr} {Γ Γ1 Γ2 : Gm} {μ μ1 μ2 μ3 : Mu} {d da db dc : D} {ds : List D} {e a b c o : Expr} {es : List Expr} {pos p : Pos} {x f m : Str} {k k' : Bool}
theorem q_ifI {i j : Int} (hc : DT X ct Γ μ c k μ1) (ha : k = true → DE X ct Γ μ1 a (.int i) μ2) (hb : k = false → DE X ct Γ μ1 b (.int j) μ2) : DE X ct Γ μ (.IfExp c a b pos) (.int (bif k then i else j)) μ2 := by
  refine de_if' hc ?_ ?_ <;> intro h <;> subst h
  · exact ha rfl
  · exact hb rfl
theorem q_ifL {i j : List D} (hc : DT X ct Γ μ c k μ1) (ha : k = true → DE X ct Γ μ1 a (.lst i) μ2) (hb : k = false → DE X ct Γ μ1 b (.lst j) μ2) : DE X ct Γ μ (.IfExp c a b pos) (.lst (bif k then i else j)) μ2 := by
  refine de_if' hc ?_ ?_ <;> intro h <;> subst h
  · exact ha rfl
  · exact hb rfl
theorem q_ifB {i j : Bool} (hc : DT X ct Γ μ c k μ1) (ha : k = true → DE X ct Γ μ1 a (.bl i) μ2) (hb : k = false → DE X ct Γ μ1 b (.bl j) μ2) : DE X ct Γ μ (.IfExp c a b pos) (.bl (bif k then i else j)) μ2 := by
  refine de_if' hc ?_ ?_ <;> intro h <;> subst h
  · exact ha rfl
  · exact hb rfl
theorem q_ifS {i j : Str} (hc : DT X ct Γ μ c k μ1) (ha : k = true → DE X ct Γ μ1 a (.str i) μ2) (hb : k = false → DE X ct Γ μ1 b (.str j) μ2) : DE X ct Γ μ (.IfExp c a b pos) (.str (bif k then i else j)) μ2 := by
  refine de_if' hc ?_ ?_ <;> intro h <;> subst h
  · exact ha rfl
  · exact hb rfl
end
end DL

namespace DL
open PySem PySem.Spec PyProof.Rows L2
theorem upto_map (lo : Int) (n : Nat) : upto lo n = (List.range n).map (fun i => D.int (lo + (i : Nat))) := by
  apply List.ext_getElem?
  intro i
  by_cases h : i < n
  · have : i < (upto lo n).length := by rw [upto_len]; exact h
    obtain ⟨_, e⟩ := upto_get (List.getElem?_eq_getElem this)
    rw [List.getElem?_eq_getElem this, e]
    simp [h]
  · rw [List.getElem?_eq_none (by rw [upto_len]; omega), List.getElem?_eq_none (by simp; omega)]
theorem di_rangeM {X : Cx} {ct : Nat → Addr} {Γ : Gm} {μ μ1 : Mu} {a tg : Expr} {p tpos : Pos} {n : Int} (hm : X.mg "range" = none) (ha : DE X ct Γ μ a (.int n) μ1) (h1 : 0 ≤ n) (h2 : n ≤ 16777216) (hg : Gl X "range" := by rfl) (hs1 : starEach [a] X.env = [(false, eval a X.env)] := by rfl) : DI X ct tg (.Call (.Name "range" tpos) [a] [] p) Γ μ ((List.range n.toNat).map (fun i => D.int (i : Nat))) μ1 := by
  have h := di_range1 (tg := tg) (p := tpos) (pos := p) hm (da_cons ha da_nil hs1) (by omega) h2 hg hs1
  rw [upto_map] at h
  simpa using h
end DL

namespace DL
open PySem PySem.Spec PyProof.Rows L2
section
variable {X : Cx} {ct : Nat → Addr} {Γ Γ1 Γ2 : Gm} {μ μ1 μ2 μ3 : Mu} {d da db dc : D} {ds : List D} {e a b c o tg iter elt : Expr} {es : List Expr} {pos p : Pos} {x f m : Str} {k k' : Bool}
theorem q_isi {T U : String} (hm : X.mg "isinstance" = none) (he : DE X ct Γ μ a d μ1) (hb : DE X ct Γ μ1 b (.raw (.ty U)) μ1) (e : tyName d = some T) (h : kitB T U = some k) (hg : Gl X "isinstance" := by rfl)
    (hs1 : starEach [a, b] X.env = (false, eval a X.env) :: starEach [b] X.env := by rfl) (hs2 : starEach [b] X.env = (false, eval b X.env) :: starEach [] X.env := by rfl) (hpl : (backTo pos (starEach [b] X.env)).any (·.1) = false := by rfl) :
    DE X ct Γ μ (.Call (.Name "isinstance" p) [a, b] [] pos) (.bl k) μ1 := de_isi hm e h he hb hg hs1 hs2 hpl
/-- a comprehension without a condition -/
theorem de_lcU {α : Type} {scope : Scope} (own : List (Str × Nat)) (as : List α) (enc : α → D) (g : α → D) (hc : X.calm = true) (hN : X.N.Nodup) (hi : DI X ct tg iter Γ μ (as.map enc) μ1) (ok : BlkOk X.N X.env.scope scope own)
    (hs : ∀ z ∈ as, ∃ l, (∀ p ∈ l, p.1 ∈ own.map (·.2)) ∧ (∀ s H C cl fp, DG (Bk X scope s H C cl fp) ct tg (enc z) l) ∧
      (∀ s H C cl fp, DE (Bk X scope s H C cl fp) ct (setG (wipeG Γ (own.map (·.2))) l) μ1 elt (g z) μ1)) (hfs : ∀ x, foldedSetIterable iter X.env x = pure x := by intro _; rfl) : DE X ct Γ μ (.ListComp elt [⟨tg, iter, [], 0⟩] scope pos) (.lst (as.map g)) μ1 := by
  have h := de_lcP (pos := pos) (ifs := []) own as enc (fun _ => true) g hc hN hi ok (fun z hz => by
    obtain ⟨l, h1, h2, h3⟩ := hs z hz
    exact ⟨l, h1, h2, fun s H C cl fp => dts_nil, fun _ => h3⟩) hfs
  rw [List.filter_eq_self.mpr fun _ _ => rfl] at h
  exact h
end
end DL

namespace DL
open PySem PySem.Spec PyProof.Rows L2
theorem kit_t {T U : String} (h : kitB T U = some true) : kitB T U = some true := h
theorem kit_f {T U : String} (h : kitB T U = some false) : kitB T U = some false := h
end DL

namespace DL
open PySem PySem.Spec PyProof.Rows L2
/-- a def from pure data to a new thing -/
structure NFn (P : Program) (w : World) (K : PySem.W.Frag) (mg : Str → Option Value) (base : Heap) (ct : Nat → Addr) (x : Str) (k : Nat) {α : Type} (enc : α → List D) (pre : α → Prop) (cell : α → Cell) : Prop where
  fn : Fn P w K mg base ct x k (fun ds μ o μ' => ∃ a, ds = enc a ∧ pre a ∧ o = .val (.ptr 0) ∧ μ = [] ∧ μ' = [cell a])
  ok : ∀ a, pre a → okDs 0 (enc a) = true ∧ okC 0 (cell a) = true
section
variable {X : Cx} {ct : Nat → Addr} {Γ Γ1 Γ2 : Gm} {μ μ1 μ2 μ3 : Mu} {d da db dc : D} {ds : List D} {e a b c o tg iter : Expr} {es : List Expr} {body rest : List Stmt} {pos p : Pos} {x f m : Str} {k k' : Bool} {P : P4}
theorem q_new {kk : Nat} {α : Type} {enc : α → List D} {pre : α → Prop} {cell : α → Cell} (G : NFn X.prog X.w X.K X.mg X.base ct x kk enc pre cell) (ha : DA X ct Γ μ (e :: es) ds μ1) (z : α) (h : ds = enc z) (hp : pre z) (hr : Room kk X.A := by first | exact ‹Room _ _› | exact Room.mono ‹Room _ _› (by decide)) (hg : Gl X x := by rfl)
    (hdb : (x == ("__debug__" : Str)) = false := by decide) (he : starEach (e :: es) X.env = (false, eval e X.env) :: starEach es X.env := by rfl) (hpl : (backTo pos (starEach es X.env)).any (·.1) = false := by rfl) : DE X ct Γ μ (.Call (.Name x p) (e :: es) [] pos) (.ptr μ1.length) (μ1 ++ [cell z]) := by
  subst h
  exact de_call G.fn.fr hr ha (Fr.n (G.ok z hp).1 (G.ok z hp).2 ⟨z, rfl, hp, rfl, rfl, rfl⟩) hg hdb he hpl
/-- a loop over a list, its state s: J tells of what is left and the state -/
theorem ds_forJ {α S : Type} (enc : α → D) (as : List α) (Gf : S → Gm) (Mf : S → Mu) (J : List α → S → Prop) (hi : DI X ct tg iter Γ μ (as.map enc) μ1) (h0 : ∃ s0, GLe (Gf s0) Γ ∧ μ1 = Mf s0 ∧ J as s0)
    (hs : ∀ a r s, J (a :: r) s → ∃ l, DG X ct tg (enc a) l ∧ DSs X ct body (setG (Gf s) l) (Mf s) { nx := fun Γ μ => ∃ s', GLe (Gf s') Γ ∧ μ = Mf s' ∧ J r s', ct := fun Γ μ => ∃ s', GLe (Gf s') Γ ∧ μ = Mf s' ∧ J r s', bk := fun Γ μ => DSs X ct rest Γ μ P, rt := P.rt })
    (hd : ∀ s, J [] s → DSs X ct rest (Gf s) (Mf s) P) (hc : X.calm = true := by rfl) (hp : PassesOwn (model X.prog X.w) X.A X.env X.xe := by exact PassesOwn.never) (hfs : ∀ x, foldedSetIterable iter X.env x = pure x := by intro _; rfl) : DSs X ct (.For tg iter body [] pos :: rest) Γ μ P := by
  refine ds_for hp hc hi (fun i Γ' μ' => ∃ s, Γ' = Gf s ∧ μ' = Mf s ∧ J (as.drop i) s) ?_ (fun i d Γ' μ' hx hI hz => ?_) (fun Γ' μ' hI => ?_) hfs
  · obtain ⟨s0, g, rfl, j⟩ := h0
    exact ⟨_, g, s0, rfl, rfl, j⟩
  · obtain ⟨s, rfl, rfl, j⟩ := hI
    rw [List.getElem?_map, Option.map_eq_some_iff] at hx
    obtain ⟨z, hz, rfl⟩ := hx
    obtain ⟨hlt, e⟩ := List.getElem?_eq_some_iff.mp hz
    rw [List.drop_eq_getElem_cons hlt, e] at j
    obtain ⟨l, g, b⟩ := hs z _ s j
    exact ⟨l, g, ds_imp b (fun Γ μ ⟨s', h1, h2, h3⟩ => ⟨_, h1, s', rfl, h2, h3⟩) (fun _ _ h => h) (fun _ _ h => h) (fun Γ μ ⟨s', h1, h2, h3⟩ => ⟨_, h1, s', rfl, h2, h3⟩)⟩
  · obtain ⟨s, rfl, rfl, j⟩ := hI
    rw [List.length_map, List.drop_length] at j
    exact hd s j
end
section
variable {P : Program} {w : World} {K : PySem.W.Frag} {mg : Str → Option Value} {base : Heap} {ct : Nat → Addr}
theorem NFn.of {α : Type} {enc : α → List D} {pre : α → Prop} {cell : α → Cell} {x : Str} {params : Arguments} {body : List Stmt} {scope : Scope} {N ps : List Str} {k : Nat} (F : ∃ fd, FunD K x x params body scope [] [] (He.fAd K (x, none)) fd) (hm : mg x = some (.ref (He.ga K x))) (S : FnScope N ps scope) (hb : BindN x x params body scope ps)
    (hl : ∀ a, (enc a).length = ps.length) (ok : ∀ a, pre a → okDs 0 (enc a) = true ∧ okC 0 (cell a) = true)
    (hbody : ∀ (f : Addr) (cdv : Value) (A : Around) (outer : List Env) (s : Shared) (H : Hp) (E : XK) (a : α), Room k (A.deeper (envOfC x scope s.heap.objs.size f cdv)) → pre a →
      DSs (cxOf CX0 P w K mg base N x scope f cdv A outer s H E).nox ct body ((enc a).map some ++ List.replicate (N.length - ps.length) none) []
        { rt := fun d2 μ => d2 = .ptr 0 ∧ μ = [cell a] }) : NFn P w K mg base ct x (k + 1) enc pre cell := by
  refine ⟨Fn.of F hm S hb (fun ds μ o μ' ⟨a, e, _⟩ => by subst e; exact hl a) fun f cdv A outer s H E ds μ o μ' hr ⟨a, e1, hp, e2, e3, e4⟩ => ?_, ok⟩
  subst e1 e2 e3 e4
  refine ⟨_, rfl, ?_⟩
  have b := hbody f cdv A outer s H E a hr hp
  rw [hl a]
  exact ds_imp b (fun _ _ z => z.elim) (fun d μ ⟨h, e⟩ => ⟨h, .inl e⟩) (fun _ _ z => z) (fun _ _ z => z)
theorem PMk.of {α : Type} {enc : α → List D} {pre : α → Prop} {out : α → List (Str × D)} {n : Nat} {c : Str} {qual : Str} {params : Arguments} {body : List Stmt} {scope : Scope} {N ps : List Str} {k : Nat} {dvs : List V} (j : Nat) {dds : List D} (F : ∃ fd, FunD K "__init__" qual params body scope dvs [] (He.fAd K (c, some "__init__")) fd) (hc : ct n = He.ga K c) (hM : Mk K (He.ga K c) (He.ma K (He.ga K c) "__init__")) (hm : mg c = some (.ref (He.ga K c))) (S : FnScope N ps scope)
    (hb : ∀ fd, FunD K "__init__" qual params body scope dvs [] (He.fAd K (c, some "__init__")) fd → ∃ ds, Vals (dvs.drop j) ds ∧ Binds K fd ps ds) (hd : ∀ A F, Reps K ct A F (dvs.drop j) dds)
    (hl : ∀ a, (enc a).length + dds.length + 1 = ps.length) (ok : ∀ a, pre a → okDs 0 (enc a) = true ∧ okFs 0 (out a) = true)
    (hbody : ∀ (f : Addr) (cdv : Value) (A : Around) (outer : List Env) (s : Shared) (H : Hp) (E : XK) (a : α), Room k (A.deeper (envOfC qual scope s.heap.objs.size f cdv)) → pre a →
      DSs (cxOf CX0 P w K mg base N qual scope f cdv A outer s H E).nox ct body ((.ptr 0 :: (enc a ++ dds)).map some ++ List.replicate (N.length - ps.length) none) [.ins n []]
        { nx := fun _ μ2 => μ2 = [.ins n (out a)] }) : PMk P w K mg base ct n c (k + 1) enc pre out := by
  refine ⟨Mkr.of j F hc hM hm S hb hd (fun as μ fs μ' ⟨a, e, _⟩ => by subst e; exact hl a) fun f cdv A outer s H E as μ0 fs μ1 hr ⟨a, e1, hp, e2, e3, e4⟩ => ?_, ok⟩
  subst e1 e2 e3 e4
  have b := hbody f cdv A outer s H E a hr hp
  rw [hl a]
  exact b
end
end DL

/-! # Texts sorted; targets that change the store -/
namespace DL
open PySem PySem.Spec PyProof.Rows L2
def leS (a b : Str) : Bool := !ltCps b.cps.toList a.cps.toList
theorem leS_iff {a b : Str} : leS a b = true ↔ a.cps.toList ≤ b.cps.toList := by
  unfold leS
  rw [ltCps_eq]
  simp
theorem str_ext {a b : Str} (h : a.cps.toList = b.cps.toList) : a = b := by
  cases a; cases b
  simp only [Str.mk.injEq]
  exact Array.toList_inj.mp h
theorem leS_total (a b : Str) : leS a b = true ∨ leS b a = true := by
  rw [leS_iff, leS_iff]; exact Std.Total.total _ _
theorem leS_trans {a b c : Str} (h : leS a b = true) (h' : leS b c = true) : leS a c = true := by
  rw [leS_iff] at *; exact List.le_trans h h'
theorem leS_anti {a b : Str} (h : leS a b = true) (h' : leS b a = true) : a = b := by
  rw [leS_iff] at *; exact str_ext (List.le_antisymm h h')
def insS (x : Str) : List Str → List Str
  | [] => [x]
  | y :: l => bif leS x y then x :: y :: l else y :: insS x l
def sortS : List Str → List Str
  | [] => []
  | x :: l => insS x (sortS l)
theorem insS_perm (x : Str) : ∀ l, (insS x l).Perm (x :: l)
  | [] => .refl _
  | y :: l => by
    unfold insS
    cases leS x y
    · exact ((insS_perm x l).cons y).trans (.swap x y l)
    · exact .refl _
theorem sortS_perm : ∀ l, (sortS l).Perm l
  | [] => .refl _
  | x :: l => (insS_perm x (sortS l)).trans ((sortS_perm l).cons x)
theorem insS_sorted (x : Str) : ∀ l : List Str, l.Pairwise (fun a b => leS a b = true) → (insS x l).Pairwise (fun a b => leS a b = true)
  | [], _ => by unfold insS; simp
  | y :: l, h => by
    unfold insS
    rw [List.pairwise_cons] at h
    cases hxy : leS x y
    · show (y :: insS x l).Pairwise _
      rw [List.pairwise_cons]
      refine ⟨fun z hz => ?_, insS_sorted x l h.2⟩
      rcases List.mem_cons.mp ((insS_perm x l).mem_iff.mp hz) with rfl | hz
      · rcases leS_total y z with e | e
        · exact e
        · rw [e] at hxy; cases hxy
      · exact h.1 z hz
    · show (x :: y :: l).Pairwise _
      rw [List.pairwise_cons]
      refine ⟨fun z hz => ?_, by rw [List.pairwise_cons]; exact h⟩
      rcases List.mem_cons.mp hz with rfl | hz
      · exact hxy
      · exact leS_trans hxy (h.1 z hz)
theorem sortS_sorted : ∀ l : List Str, (sortS l).Pairwise (fun a b => leS a b = true)
  | [] => .nil
  | x :: l => insS_sorted x _ (sortS_sorted l)
theorem rising_pw : ∀ (p : Str) (l : List Str), risingS p l = true → (p :: l).Pairwise (fun a b => leS a b = true)
  | p, [], _ => by simp
  | p, x :: r, h => by
    have h' : (!ltCps x.cps.toList p.cps.toList && risingS x r) = true := h
    rw [Bool.and_eq_true] at h'
    have ih := rising_pw x r h'.2
    rw [List.pairwise_cons]
    refine ⟨fun z hz => ?_, ih⟩
    rcases List.mem_cons.mp hz with rfl | hz
    · exact h'.1
    · exact leS_trans (b := x) h'.1 ((List.pairwise_cons.mp ih).1 z hz)
theorem sortedS_pw {l : List Str} (h : sortedS l = true) : l.Pairwise (fun a b => leS a b = true) := by
  cases l with
  | nil => exact .nil
  | cons x r => exact rising_pw x r h
theorem sortS_eq {l m : List Str} (p : m.Perm l) (h : sortedS m = true) : m = sortS l :=
  List.Perm.eq_of_pairwise (fun a b _ _ h1 h2 => leS_anti h1 h2) (sortedS_pw h) (sortS_sorted l) (p.trans (sortS_perm l).symm)
section
variable {X : Cx} {ct : Nat → Addr} {Γ Γ1 Γ2 Γ3 : Gm} {μ μ1 μ2 μ3 μ4 : Mu} {d da db dc d1 d2 : D} {ds l : List D} {e a b c o o2 a2 tg iter : Expr} {es tgs : List Expr} {body rest : List Stmt} {pos p pt : Pos} {x f m : Str} {k k' : Bool} {P : P4}
theorem c1_sortS {ns : List Str} (hl : SeqM μ d (ns.map .str)) (nt : ∀ z, d ≠ .tup z) (hz : ns.length < 64) : C1 X ct (.builtin "sorted") μ [d] (.lst ((sortS ns).map .str)) := c1_of cr_sortedS fun xs H F A Q m r k => by
  obtain ⟨v, rfl, h⟩ := reps1 r
  obtain ⟨a, vs, rfl, s, rr⟩ := hl.list nt m h
  rw [rr.of_strs] at s
  refine ⟨a, ns, rfl, s, hz, fun ns' p hp hs hn => ?_⟩
  rw [sortS_eq hp hs]
  exact new_lst m (.strs _) k p hn
theorem q_sortS {ns : List Str} (hm : X.mg "sorted" = none) (he : DE X ct Γ μ a d μ1) (h : SeqM μ1 d (ns.map .str)) (nt : ∀ z, d ≠ .tup z) (hz : ns.length < 64) (hg : Gl X "sorted" := by rfl) (hs1 : starEach [a] X.env = (false, eval a X.env) :: starEach [] X.env := by rfl) (hpl : (backTo pos (starEach [] X.env)).any (·.1) = false := by rfl) :
    DE X ct Γ μ (.Call (.Name "sorted" p) [a] [] pos) (.lst ((sortS ns).map .str)) μ1 := de_callB (c1_sortS h nt hz) hm boot_sorted (da_cons he da_nil hs1) hg (by decide) (by decide) hs1 hpl
/-- three names at once -/
theorem ds_par3 (i j n : Nat) {y z : Str} {px py pz : Pos} {kt k2 pt2} (hc : X.calm = true) (hN : X.N.Nodup) (ha : DA X ct Γ μ [a, b, c] [da, db, dc] μ1) (hr : DSs X ct rest (((Γ.set i (some da)).set j (some db)).set n (some dc)) μ1 P) (hi : X.N[i]? = some x := by rfl) (hj : X.N[j]? = some y := by rfl) (hn : X.N[n]? = some z := by rfl) (hij : i ≠ j := by decide) (hin : i ≠ n := by decide) (hjn : j ≠ n := by decide)
    (hx : X.env.scope.names.lookup x = some .local := by rfl) (hy : X.env.scope.names.lookup y = some .local := by rfl) (hz : X.env.scope.names.lookup z = some .local := by rfl)
    (hw : swappedStores [.Tuple [.Name x px, .Name y py, .Name z pz] kt pt] (.Tuple [a, b, c] k2 pt2) X.env = pure (some [x, y, z]) := by rfl)
    (hs : swapsWithSole [.Tuple [.Name x px, .Name y py, .Name z pz] kt pt] (.Tuple [a, b, c] k2 pt2) pos.line X.env = pure false := by rfl) : DSs X ct (.Assign [.Tuple [.Name x px, .Name y py, .Name z pz] kt pt] (.Tuple [a, b, c] k2 pt2) pos :: rest) Γ μ P :=
  ds_cons (PS.imp (ps_par3 hc hN hi hj hn hij hin hjn hx hy hz ha hw hs) fun D σ H ⟨F, A, r, q1, q2, q3, q4⟩ => ⟨F, A, r, fun vs H' F' A' e p r' rr => by
    cases rr with
    | cons h1 t => cases t with
      | cons h2 t => cases t with
        | cons h3 t => cases t with
          | nil => exact ⟨_, _, _, rfl, q1 _ μ1 _ H' F' A' e p ⟨r'.m, ((r'.s.set h1 i).set h2 j).set h3 n⟩ hr⟩⟩)
/-! targets over the store -/
abbrev GM (X : Cx) (ct : Nat → Addr) (tg : Expr) (d : D) (Γ : Gm) (μ : Mu) (Γ' : Gm) (μ' : Mu) : Prop :=
  PG X tg fun v σ H Q => ∃ F A, Rl X.K ct Γ μ σ H F A ∧ Rep X.K ct A F v d ∧ ∀ σ' H' F' A', Le F F' → A <+: A' → Rl X.K ct Γ' μ' σ' H' F' A' → Q σ' H'
abbrev GMs (X : Cx) (ct : Nat → Addr) (tgs : List Expr) (ds : List D) (Γ : Gm) (μ : Mu) (Γ' : Gm) (μ' : Mu) : Prop :=
  PGs X tgs fun vs σ H Q => ∃ F A, Rl X.K ct Γ μ σ H F A ∧ Reps X.K ct A F vs ds ∧ ∀ σ' H' F' A', Le F F' → A <+: A' → Rl X.K ct Γ' μ' σ' H' F' A' → Q σ' H'
theorem PG.imp' {e : Expr} {t t' : TG} (h : PG X e t) (k : ∀ v σ H Q, t' v σ H Q → t v σ H Q) : PG X e t' := ⟨fun pins s σ H v u Q I rv q => h.run pins s σ H v u Q I rv (k _ _ _ _ q)⟩
theorem PGs.imp' {e : List Expr} {t t' : TGs} (h : PGs X e t) (k : ∀ v σ H Q, t' v σ H Q → t v σ H Q) : PGs X e t' := ⟨fun pins s σ H v u Q I rv q => h.run pins s σ H v u Q I rv (k _ _ _ _ q)⟩
theorem gm_name (i : Nat) (hN : X.N.Nodup) (hi : X.N[i]? = some x := by rfl) (hx : Loc X.env.scope x := by first | exact Or.inl rfl | exact Or.inr rfl) (hf : X.fn x = true ∨ X.env.scope.names.lookup x = some .local := by first | exact .inl rfl | exact .inr rfl) : GM X ct (.Name x pos) d Γ μ (Γ.set i (some d)) μ :=
  PG.imp' (pg_name hN hi hx hf) fun v σ H Q ⟨F, A, r, rv, q⟩ => q _ H F A (.refl _) pr ⟨r.m, r.s.set rv i⟩
theorem gm_put {j : Nat} {i : Int} (ho : DE X ct Γ μ o (.ptr j) μ1) (hi : DE X ct Γ μ1 a (.int i) μ2) (hm : μ2[j]? = some (.lst l)) {n : Nat} (hn : ixN l.length i = some n)
    (ha : ∀ v, assign (.Subscript o a pos) X.env v = (do
      let ov ← holding [v] (eval o X.env)
      let iv ← holding [v, ov] (eval a X.env)
      standAt pos
      holding [v, ov, iv] (setItem ov iv v)
      release [v, ov, iv] []) := by intro _; rfl) : GM X ct (.Subscript o a pos) d Γ μ Γ (μ2.set j (.lst (l.set n d))) :=
  PG.imp' (pg_sub ho hi set_list ha) fun v σ H Q ⟨F, A, r, hv, q⟩ => ⟨F, A, r, fun w H2 F2 A2 e2 p2 r2 hw => ⟨F2, A2, r2, fun u H3 F3 A3 e3 p3 r3 hu => by
    cases hw with
    | ptr s =>
      cases hu
      have s3 := pre_get p3 s
      obtain ⟨fn, vs, hvs, rr⟩ := r3.m.ok _ _ _ s3 hm
      exact ⟨_, vs, i, n, rfl, rfl, hvs, by rw [rr.len]; exact hn, q _ _ F3 A3 (e2.trans e3) (p2.trans p3) ⟨r3.m.write s3 hm (by simp) fn (c := .lst (l.set n d)) ⟨fn, _, upd_same, Reps.set (hv.mono (e2.trans e3) (p2.trans p3)) n rr⟩, r3.s⟩⟩⟩⟩
theorem gm_dput {j : Nat} {key : Key} {kds : List (Key × D)} (hu : X.A.units + 1 < cLine) (ho : DE X ct Γ μ o (.ptr j) μ1) (hi : DE X ct Γ μ1 a da μ2) (hk : KeyD da key) (hm : μ2[j]? = some (.dic kds)) (hz : kds.length < sizeLine)
    (ha : ∀ v, assign (.Subscript o a pos) X.env v = (do
      let ov ← holding [v] (eval o X.env)
      let iv ← holding [v, ov] (eval a X.env)
      standAt pos
      holding [v, ov, iv] (setItem ov iv v)
      release [v, ov, iv] []) := by intro _; rfl) : GM X ct (.Subscript o a pos) d Γ μ Γ (μ2.set j (.dic (dput kds key d))) :=
  PG.imp' (pg_sub ho hi (set_dict hu) ha) fun v σ H Q ⟨F, A, r, hv, q⟩ => ⟨F, A, r, fun w H2 F2 A2 e2 p2 r2 hw => ⟨F2, A2, r2, fun u H3 F3 A3 e3 p3 r3 hu => by
    cases hw with
    | ptr s =>
      have s3 := pre_get p3 s
      obtain ⟨fn, kvs, hvs, k1, k2⟩ := r3.m.ok _ _ _ s3 hm
      have kd : KD X.K ct A3 F3 kvs kds := ⟨k1, k2⟩
      have kp := kd.put key (hv.mono (e2.trans e3) (p2.trans p3))
      have eu := hk.rep hu
      subst eu
      exact ⟨_, _, rfl, DPut.k hvs (by rw [kd.len]; exact hz), q _ _ F3 A3 (e2.trans e3) (p2.trans p3) ⟨r3.m.write s3 hm (by simp) fn (c := .dic (dput kds key d)) ⟨fn, _, upd_same, kp.1, kp.2⟩, r3.s⟩⟩⟩⟩
theorem gm_nil : GMs X ct [] [] Γ μ Γ μ := PGs.imp' pgs_nil fun vs σ H Q ⟨F, A, r, rv, q⟩ => by cases rv; exact ⟨rfl, q _ H F A (.refl _) pr r⟩
theorem gm_cons (h1 : GM X ct e d Γ μ Γ1 μ1) (h2 : GMs X ct es ds Γ1 μ1 Γ2 μ2) (hs : (assignEach (e :: es) X.env).map (·.2) = assign e X.env :: (assignEach es X.env).map (·.2) := by rfl) : GMs X ct (e :: es) (d :: ds) Γ μ Γ2 μ2 :=
  PGs.imp' (pgs_cons h1 h2 hs) fun vs σ H Q ⟨F, A, r, rv, q⟩ => by
    cases rv with
    | cons a b => exact ⟨_, _, rfl, F, A, r, a, fun σ' H' F' A' e p r' => ⟨F', A', r', b.mono e p, fun σ2 H2 F2 A2 e2 p2 r2 => q _ _ _ _ (e.trans e2) (p.trans p2) r2⟩⟩
theorem gm_tup {kk n : Nat} (hc : X.calm = true) (h : GMs X ct es ds Γ μ Γ1 μ1) (hz : ds.length = n := by rfl) (hn : (assignEach es X.env).length = n := by rfl) (hst : (assignEach es X.env).findIdx? (·.1) = none := by rfl) : GM X ct (.Tuple es kk pos) (.tup ds) Γ μ Γ1 μ1 :=
  PG.imp' (pg_tup hc h hn hst) fun v σ H Q ⟨F, A, r, rep, q⟩ => by
    cases rep with
    | tup h1 h2 => exact ⟨_, _, rfl, sqT_sub r.m.sub h1, by rw [h2.len]; exact hz, F, A, r, h2, q⟩
theorem ds_asgM (he : DE X ct Γ μ e d μ1) (hg : GM X ct tg d Γ μ1 Γ2 μ2) (hr : DSs X ct rest Γ2 μ2 P) (hs : swapsWithSole [tg] e pos.line X.env = pure false := by rfl) (hw : swappedStores [tg] e X.env = pure none := by rfl)
    (h1 : (assignEach [tg] X.env).map (·.2) = [assign tg X.env] := by rfl) : DSs X ct (.Assign [tg] e pos :: rest) Γ μ P :=
  ds_cons (PS.imp (ps_asg he hg hs hw h1) fun D σ H ⟨F, A, r, q1, q2, q3, q4⟩ => ⟨F, A, r, fun v H' F' A' e p r' rr => ⟨F', A', r', rr, fun σ2 H2 F2 A2 e2 p2 r2 => q1 _ μ2 _ H2 F2 A2 (e.trans e2) (p.trans p2) r2 hr⟩⟩)
end
end DL

/-! # name = [..] on one line -/
namespace DL
open PySem PySem.Spec PyProof.Rows L2
section
variable {X : Cx} {ct : Nat → Addr} {Γ Γ1 Γ2 : Gm} {μ μ1 μ2 μ3 : Mu} {d da db dc : D} {ds xs : List D} {e a b c o tg iter elt : Expr} {es : List Expr} {body rest : List Stmt} {pos p spos py : Pos} {x f m : Str} {k k' : Bool} {P : P4} {kds : List (Key × D)}
theorem ds_setLc {ifs : List Expr} {scope : Scope} {res : List D} (n : Nat) (own : List (Str × Nat)) (hc : X.calm = true) (hN : X.N.Nodup) (hi : DI X ct tg iter Γ μ xs μ1) (ok : BlkOk X.N X.env.scope scope own) (I : Nat → List D → Mu → Prop) (h0 : I 0 [] μ1)
    (hs : ∀ i d acc μ', xs[i]? = some d → I i acc μ' → ∃ l k μ2, (∀ p ∈ l, p.1 ∈ own.map (·.2)) ∧ (∀ s H C cl fp, DG (Bk X scope s H C cl fp) ct tg d l) ∧ (∀ s H C cl fp, DTs (Bk X scope s H C cl fp) ct ifs (setG (wipeG Γ (own.map (·.2))) l) μ' k μ2) ∧
      (k = true → ∃ y μ3, (∀ s H C cl fp, DE (Bk X scope s H C cl fp) ct (setG (wipeG Γ (own.map (·.2))) l) μ2 elt y μ3) ∧ I (i + 1) (acc ++ [y]) μ3) ∧ (k = false → I (i + 1) acc μ2))
    (hl : ∀ i acc μ', I i acc μ' → acc.length ≤ i) (hd : ∀ acc μ', I xs.length acc μ' → acc = res ∧ μ' = μ2) (hr : DSs X ct rest (Γ.set n (some (.lst res))) μ2 P)
    (hy : X.N[n]? = some x) (hyl : X.env.scope.names.lookup x = some .local) (hsw : swapsWith (.ListComp elt [⟨tg, iter, ifs, 0⟩] scope pos) (some (.Name x py)) spos.line X.env = pure true) (hfs : ∀ x, foldedSetIterable iter X.env x = pure x) :
    DSs X ct (.Assign [.Name x py] (.ListComp elt [⟨tg, iter, ifs, 0⟩] scope pos) spos :: rest) Γ μ P := by
  refine ds_cons (PS.imp (ps_setLc (g := fun v σ H Q => ∃ t, (∀ s H C cl fp, PG (Bk X scope s H C cl fp) tg t) ∧ t v σ H Q) (tt := fun σ H Q => ∃ t, (∀ s H C cl fp, PTs (Bk X scope s H C cl fp) ifs t) ∧ t σ H Q) (te := fun σ H Q => ∃ t, (∀ s H C cl fp, PE (Bk X scope s H C cl fp) elt t) ∧ t σ H Q) hc hN hy hyl hsw hi ok
    (fun s H C cl fp => ⟨fun pins s' σ H' v u Q I r ⟨t, h, q⟩ => (h s H C cl fp).run pins s' σ H' v u Q I r q⟩) (fun s H C cl fp => ⟨fun pins s' σ H' Q I ⟨t, h, q⟩ => (h s H C cl fp).run pins s' σ H' Q I q⟩) (fun s H C cl fp => ⟨fun pins s' σ H' Q I ⟨t, h, q⟩ => (h s H C cl fp).run pins s' σ H' Q I q⟩) hfs) fun D σ H ⟨F, A, r, q1, q2, q3, q4⟩ => ?_)
  refine tLc_D (res := res) (μ2 := μ2) I h0 (fun i d acc μ' hx hI => ?_) hl hd (fun R k => ⟨F, A, r, k⟩) (fun v H' F' A' e p r' rr => q1 _ μ2 _ H' F' A' e p ⟨r'.m, r'.s.set rr n⟩ hr)
  obtain ⟨l, k, μ3, h1, h2, h3, h4, h5⟩ := hs i d acc μ' hx hI
  refine ⟨l, k, μ3, h1, fun v σ H Q q => ⟨_, h2, q⟩, fun σ H Q q => ⟨_, h3, q⟩, fun hk => ?_, h5⟩
  obtain ⟨y, μ4, h6, h7⟩ := h4 hk
  exact ⟨y, μ4, fun σ H Q q => ⟨_, h6, q⟩, h7⟩
theorem ds_setLcP {α : Type} {ifs : List Expr} {scope : Scope} (n : Nat) (own : List (Str × Nat)) (as : List α) (enc : α → D) (pd : α → Bool) (g : α → D) (hN : X.N.Nodup) (hi : DI X ct tg iter Γ μ (as.map enc) μ1) (ok : BlkOk X.N X.env.scope scope own)
    (hs : ∀ z ∈ as, ∃ l, (∀ p ∈ l, p.1 ∈ own.map (·.2)) ∧ (∀ s H C cl fp, DG (Bk X scope s H C cl fp) ct tg (enc z) l) ∧ (∀ s H C cl fp, DTs (Bk X scope s H C cl fp) ct ifs (setG (wipeG Γ (own.map (·.2))) l) μ1 (pd z) μ1) ∧
      (pd z = true → ∀ s H C cl fp, DE (Bk X scope s H C cl fp) ct (setG (wipeG Γ (own.map (·.2))) l) μ1 elt (g z) μ1)) (hr : DSs X ct rest (Γ.set n (some (.lst ((as.filter pd).map g)))) μ1 P) (hc : X.calm = true := by rfl) (hy : X.N[n]? = some x := by rfl) (hyl : X.env.scope.names.lookup x = some .local := by rfl) (hsw : swapsWith (.ListComp elt [⟨tg, iter, ifs, 0⟩] scope pos) (some (.Name x py)) spos.line X.env = pure true := by rfl) (hfs : ∀ x, foldedSetIterable iter X.env x = pure x := by intro _; rfl) :
    DSs X ct (.Assign [.Name x py] (.ListComp elt [⟨tg, iter, ifs, 0⟩] scope pos) spos :: rest) Γ μ P := by
  refine ds_setLc n own hc hN hi ok (fun i acc μ' => acc = ((as.take i).filter pd).map g ∧ μ' = μ1) ⟨rfl, rfl⟩ (fun i d acc μ' hx ⟨e1, e2⟩ => ?_) (fun i acc μ' ⟨e1, e2⟩ => ?_) (fun acc μ' ⟨e1, e2⟩ => ?_) hr hy hyl hsw hfs
  · subst e1; subst e2
    rw [List.getElem?_map, Option.map_eq_some_iff] at hx
    obtain ⟨z, hz, rfl⟩ := hx
    obtain ⟨l, h1, h2, h3, h4⟩ := hs z (List.mem_of_getElem? hz)
    have et : as.take (i + 1) = as.take i ++ [z] := by
      obtain ⟨hi, e⟩ := List.getElem?_eq_some_iff.mp hz
      rw [List.take_succ_eq_append_getElem hi, e]
    refine ⟨l, pd z, _, h1, h2, h3, fun hk => ⟨g z, _, h4 hk, ?_, rfl⟩, fun hk => ⟨?_, rfl⟩⟩
    · rw [et, List.filter_append, List.filter_cons, hk]; simp
    · rw [et, List.filter_append, List.filter_cons, hk]; simp
  · subst e1
    rw [List.length_map]
    exact Nat.le_trans (List.length_filter_le _ _) (by rw [List.length_take]; omega)
  · rw [List.length_map, List.take_length] at e1
    exact ⟨e1, e2⟩
theorem ds_setLcU {α : Type} {scope : Scope} (n : Nat) (own : List (Str × Nat)) (as : List α) (enc : α → D) (g : α → D) (hN : X.N.Nodup) (hi : DI X ct tg iter Γ μ (as.map enc) μ1) (ok : BlkOk X.N X.env.scope scope own)
    (hs : ∀ z ∈ as, ∃ l, (∀ p ∈ l, p.1 ∈ own.map (·.2)) ∧ (∀ s H C cl fp, DG (Bk X scope s H C cl fp) ct tg (enc z) l) ∧ (∀ s H C cl fp, DE (Bk X scope s H C cl fp) ct (setG (wipeG Γ (own.map (·.2))) l) μ1 elt (g z) μ1)) (hr : DSs X ct rest (Γ.set n (some (.lst (as.map g)))) μ1 P) (hc : X.calm = true := by rfl) (hy : X.N[n]? = some x := by rfl) (hyl : X.env.scope.names.lookup x = some .local := by rfl) (hsw : swapsWith (.ListComp elt [⟨tg, iter, [], 0⟩] scope pos) (some (.Name x py)) spos.line X.env = pure true := by rfl) (hfs : ∀ x, foldedSetIterable iter X.env x = pure x := by intro _; rfl) :
    DSs X ct (.Assign [.Name x py] (.ListComp elt [⟨tg, iter, [], 0⟩] scope pos) spos :: rest) Γ μ P := by
  refine ds_setLcP (ifs := []) n own as enc (fun _ => true) g hN hi ok (fun z hz => ?_) ?_ hc hy hyl hsw hfs
  · obtain ⟨l, h1, h2, h3⟩ := hs z hz
    exact ⟨l, h1, h2, fun s H C cl fp => dts_nil, fun _ => h3⟩
  · rw [List.filter_eq_self.mpr fun _ _ => rfl]
    exact hr
theorem ds_setLcK {ifs : List Expr} {scope : Scope} (n : Nat) (own : List (Str × Nat)) (pd : Key → Bool) (g : Key → D) (hN : X.N.Nodup) (hz : kds.length ≤ sizeLine) (hi : DPath X ct iter Γ μ kds) (ok : BlkOk X.N X.env.scope scope own)
    (hs : ∀ kv ∈ kds, ∃ l, (∀ p ∈ l, p.1 ∈ own.map (·.2)) ∧ (∀ s H C cl fp, DG (Bk X scope s H C cl fp) ct tg (keyDat kv.1) l) ∧ (∀ s H C cl fp, DTs (Bk X scope s H C cl fp) ct ifs (setG (wipeG Γ (own.map (·.2))) l) μ (pd kv.1) μ) ∧
      (pd kv.1 = true → ∀ s H C cl fp, DE (Bk X scope s H C cl fp) ct (setG (wipeG Γ (own.map (·.2))) l) μ elt (g kv.1) μ)) (hr : DSs X ct rest (Γ.set n (some (.lst (((kds.map (·.1)).filter pd).map g)))) μ P) (hc : X.calm = true := by rfl) (hy : X.N[n]? = some x := by rfl) (hyl : X.env.scope.names.lookup x = some .local := by rfl) (hsw : swapsWith (.ListComp elt [⟨tg, iter, ifs, 0⟩] scope pos) (some (.Name x py)) spos.line X.env = pure true := by rfl) (hfs : ∀ x, foldedSetIterable iter X.env x = pure x := by intro _; rfl) :
    DSs X ct (.Assign [.Name x py] (.ListComp elt [⟨tg, iter, ifs, 0⟩] scope pos) spos :: rest) Γ μ P := by
  obtain ⟨t, ht, hp'⟩ := hi.ex
  have hlen : (kds.map fun kv => keyDat kv.1).length = kds.length := by simp
  have h0 := ps_setLc (elt := elt) (tg := tg) (ifs := ifs) (scope := scope) (pos := pos) (py := py) (spos := spos) (g := fun v σ H Q => ∃ t, (∀ s H C cl fp, PG (Bk X scope s H C cl fp) tg t) ∧ t v σ H Q) (tt := fun σ H Q => ∃ t, (∀ s H C cl fp, PTs (Bk X scope s H C cl fp) ifs t) ∧ t σ H Q) (te := fun σ H Q => ∃ t, (∀ s H C cl fp, PE (Bk X scope s H C cl fp) elt t) ∧ t σ H Q) hc hN hy hyl hsw (pi_keys (tg := tg) ht) ok
    (fun s H C cl fp => ⟨fun pins s' σ H' v u Q I r ⟨t, h, q⟩ => (h s H C cl fp).run pins s' σ H' v u Q I r q⟩) (fun s H C cl fp => ⟨fun pins s' σ H' Q I ⟨t, h, q⟩ => (h s H C cl fp).run pins s' σ H' Q I q⟩) (fun s H C cl fp => ⟨fun pins s' σ H' Q I ⟨t, h, q⟩ => (h s H C cl fp).run pins s' σ H' Q I q⟩) hfs
  have turn : ∀ i d acc μ', (kds.map fun kv => keyDat kv.1)[i]? = some d → (acc = (((kds.map (·.1)).take i).filter pd).map g ∧ μ' = μ) → ∃ l k μ2, (∀ p ∈ l, p.1 ∈ own.map (·.2)) ∧ (∀ v σ H Q, tG X.K ct d l v σ H Q → ∃ t, (∀ s H C cl fp, PG (Bk X scope s H C cl fp) tg t) ∧ t v σ H Q) ∧ (∀ σ H Q, tT X.K ct (setG (wipeG Γ (own.map (·.2))) l) μ' k μ2 σ H Q → ∃ t, (∀ s H C cl fp, PTs (Bk X scope s H C cl fp) ifs t) ∧ t σ H Q) ∧
      (k = true → ∃ y μ3, (∀ σ H Q, tD X.K ct (setG (wipeG Γ (own.map (·.2))) l) μ2 y μ3 σ H Q → ∃ t, (∀ s H C cl fp, PE (Bk X scope s H C cl fp) elt t) ∧ t σ H Q) ∧ (acc ++ [y] = (((kds.map (·.1)).take (i + 1)).filter pd).map g ∧ μ3 = μ)) ∧ (k = false → (acc = (((kds.map (·.1)).take (i + 1)).filter pd).map g ∧ μ2 = μ)) := by
    rintro i d acc μ' hx ⟨rfl, rfl⟩
    rw [List.getElem?_map, Option.map_eq_some_iff] at hx
    obtain ⟨kv, hkv, rfl⟩ := hx
    obtain ⟨l, h1, h2, h3, h4⟩ := hs kv (List.mem_of_getElem? hkv)
    have hk1 : (kds.map (·.1))[i]? = some kv.1 := by rw [List.getElem?_map, hkv]; rfl
    have et : (kds.map (·.1)).take (i + 1) = (kds.map (·.1)).take i ++ [kv.1] := by
      obtain ⟨hi, e⟩ := List.getElem?_eq_some_iff.mp hk1
      rw [List.take_succ_eq_append_getElem hi, e]
    refine ⟨l, pd kv.1, _, h1, fun v σ H Q q => ⟨_, h2, q⟩, fun σ H Q q => ⟨_, h3, q⟩, fun hk => ⟨g kv.1, _, fun σ H Q q => ⟨_, h4 hk, q⟩, ?_, rfl⟩, fun hk => ⟨?_, rfl⟩⟩
    · rw [et, List.filter_append, List.filter_cons, hk]; simp
    · rw [et, List.filter_append, List.filter_cons, hk]; simp
  have hle : ∀ (i : Nat) (acc : List D) (μ' : Mu), (acc = (((kds.map (·.1)).take i).filter pd).map g ∧ μ' = μ) → acc.length ≤ i := by
    rintro i acc μ' ⟨rfl, _⟩
    rw [List.length_map]
    exact Nat.le_trans (List.length_filter_le _ _) (by rw [List.length_take]; omega)
  have hend : ∀ (acc : List D) (μ' : Mu), (acc = (((kds.map (·.1)).take (kds.map fun kv => keyDat kv.1).length).filter pd).map g ∧ μ' = μ) → acc = ((kds.map (·.1)).filter pd).map g ∧ μ' = μ := by
    rintro acc μ' ⟨rfl, e⟩
    refine ⟨?_, e⟩
    rw [show (kds.map fun kv => keyDat kv.1).length = (kds.map (·.1)).length by simp, List.take_length]
  refine ds_cons (PS.imp (PS.or h0 (ps_lock h0)) fun D σ H ⟨F, A, r, q1, q2, q3, q4⟩ => ?_)
  obtain ⟨ad, kvs, hrd, kd, hpath⟩ := hp' σ H F A r
  rcases hrd with hF | ⟨od, hF⟩
  · have hH : H ad = some (.dK kvs) := r.m.sub _ _ hF
    refine .inr ⟨ad, .dK kvs, hH, trivial, fun od => ?_⟩
    have lk : LeR F (upd F ad (.frz od (.dK kvs))) := .lock hF ⟨_, rfl⟩
    have r1 : Rl X.K ct Γ μ σ (upd H ad (.frz od (.dK kvs))) (upd F ad (.frz od (.dK kvs))) A := ⟨r.m.swap hF lk rfl, r.s.monoR lk pr⟩
    refine tLc_D (μ1 := μ) (xs := kds.map fun kv => keyDat kv.1) (fun i acc μ' => acc = (((kds.map (·.1)).take i).filter pd).map g ∧ μ' = μ) ⟨rfl, rfl⟩ turn hle hend (F := upd F ad (.frz od (.dK kvs))) (A := A) (fun R kk => hpath _ _ _ lk r1.m.sub ⟨ad, od, rfl, .inl ⟨kvs, upd_same, kk _ _ _ A (.refl _) pr r1 (walkD_keys upd_same ⟨kd.1, kd.2.monoR lk pr⟩) (by rw [hlen]; exact hz)⟩⟩) ?_
    intro v H' F' A' e p r' rr
    obtain ⟨u1, u2, u3, u4⟩ := unlocked hF e r'.m
    exact ⟨u1, q1 _ μ _ _ _ A' u2 p ⟨u4, (r'.s.monoR u3 pr).set (rr.monoR u3 pr) n⟩ hr⟩
  · exact .inl (tLc_D (μ1 := μ) (xs := kds.map fun kv => keyDat kv.1) (fun i acc μ' => acc = (((kds.map (·.1)).take i).filter pd).map g ∧ μ' = μ) ⟨rfl, rfl⟩ turn hle hend (F := F) (A := A) (fun R kk => hpath _ _ _ (Le.refl F).r r.m.sub ⟨ad, od, rfl, .inl ⟨kvs, r.m.sub _ _ hF, kk _ H F A (.refl _) pr r (walkD_keys hF kd) (by rw [hlen]; exact hz)⟩⟩) (fun v H' F' A' e p r' rr => q1 _ μ _ H' F' A' e p ⟨r'.m, r'.s.set rr n⟩ hr))
end
end DL

/-! # Walks over a list of the store, which stays as it is meanwhile -/
namespace DL
open PySem PySem.Spec PyProof.Rows L2
def rem (F : Hp) (a : Addr) : Hp := fun b => if b = a then none else F b
theorem rem_same {F : Hp} {a : Addr} : rem F a a = none := by unfold rem; rw [if_pos rfl]
theorem rem_ne {F : Hp} {a b : Addr} (h : b ≠ a) : rem F a b = F b := by unfold rem; rw [if_neg h]
theorem LeR.rem {F : Hp} {d : Addr} {u : HO} (h : F d = some (mark u)) : LeR F (DL.rem F d) := by
  refine ⟨fun a w dw r => ?_, fun a C dx fs e => ?_, fun a xs e => ?_⟩
  · by_cases ha : a = d
    · subst ha
      rcases r with r | ⟨o, r⟩
      · rw [h] at r; cases r; cases dw
      · rw [h] at r; cases r; cases dw
    · exact r.elim (fun r => .inl (by rw [rem_ne ha]; exact r)) fun ⟨o, r⟩ => .inr ⟨o, by rw [rem_ne ha]; exact r⟩
  · rw [rem_ne (ne_of e h (by intro z; cases z))]; exact e
  · rw [rem_ne (ne_of e h (by intro z; cases z))]; exact e
section
variable {K : PySem.W.Frag} {ct : Nat → Addr} {μ : Mu} {H F : Hp} {A : List Addr} {j : Nat} {l : List D}
theorem mark_cell (r : Rl0 K ct μ H F A) (hm : μ[j]? = some (.lst l)) : ∃ a vs, A[j]? = some a ∧ H a = some (.lst vs) ∧ F a = none ∧ Reps K ct A (upd F a (mark (.lst vs))) vs l ∧ Rl0 K ct (μ.set j .dead) H (upd F a (mark (.lst vs))) A := by
  have hj : j < A.length := by rw [r.len]; exact (List.getElem?_eq_some_iff.mp hm).1
  have ha : A[j]? = some A[j] := List.getElem?_eq_getElem hj
  obtain ⟨f, vs, h1, h2⟩ := r.ok j _ _ ha hm
  have le : Le F (upd F A[j] (mark (.lst vs))) := .new f
  refine ⟨_, vs, ha, h1, f, h2.mono le pr, ⟨fun b o e => ?_, by simp [r.len], fun i i' b c c' hi hi' q1 q2 l1 l2 => ?_, r.there, fun i b c hb hc => ?_⟩⟩
  · by_cases h : b = A[j]
    · rw [h] at e ⊢; rw [upd_same] at e; cases e; exact h1
    · rw [upd_ne h] at e; exact r.sub b o e
  · have key : ∀ (n : Nat) (c' : Cell), (μ.set j .dead)[n]? = some c' → c' ≠ .dead → μ[n]? = some c' := fun n c' hn hl => by
      by_cases e : n = j
      · subst e
        rw [List.getElem?_set_self (List.getElem?_eq_some_iff.mp hm).1] at hn
        cases hn; exact absurd rfl hl
      · rw [List.getElem?_set_ne (Ne.symm e)] at hn; exact hn
    exact r.nd i i' b c c' hi hi' (key i c q1 l1) (key i' c' q2 l2) l1 l2
  · by_cases h : i = j
    · subst h
      rw [List.getElem?_set_self (List.getElem?_eq_some_iff.mp hm).1] at hc
      cases hc; trivial
    · rw [List.getElem?_set_ne (Ne.symm h)] at hc
      by_cases hd : c = .dead
      · subst hd; trivial
      have ne : b ≠ A[j] := fun e => h (r.nd i j b c _ hb (by rw [e]; exact ha) hc hm hd (by simp))
      exact (r.ok i b c hb hc).mono le pr (fun f => by rw [upd_ne ne]; exact f) fun o h _ => h
theorem unmark_cell {F0 : Hp} {a : Addr} {vs : List V} {A0 : List Addr} (r : Rl0 K ct (μ.set j .dead) H F A) (hm : μ[j]? = some (.lst l)) (ha : A0[j]? = some a) (p : A0 <+: A) (f0 : F0 a = none) (e : Le (upd F0 a (mark (.lst vs))) F) (rs : Reps K ct A F vs l) :
    Le F0 (rem F a) ∧ LeR F (rem F a) ∧ Rl0 K ct μ H (rem F a) A := by
  have fa : F a = some (mark (.lst vs)) := e _ _ upd_same
  have le : LeR F (rem F a) := .rem fa
  have ha' := pre_get p ha
  refine ⟨fun b o h => ?_, le, ⟨fun b o h => ?_, by have := r.len; simpa using this, fun i i' b c c' hi hi' q1 q2 l1 l2 => ?_, r.there, fun i b c hb hc => ?_⟩⟩
  · have ne : b ≠ a := fun z => by subst z; rw [f0] at h; cases h
    rw [rem_ne ne]; exact e _ _ (by rw [upd_ne ne]; exact h)
  · by_cases ne : b = a
    · subst ne; rw [rem_same] at h; cases h
    · rw [rem_ne ne] at h; exact r.sub b o h
  · have key : ∀ (n : Nat) (c' : Cell), n ≠ j → μ[n]? = some c' → (μ.set j .dead)[n]? = some c' := fun n c' hn h => by rw [List.getElem?_set_ne (Ne.symm hn)]; exact h
    have no : ∀ (n : Nat) (c' : Cell), n ≠ j → A[n]? = some a → μ[n]? = some c' → c' ≠ .dead → False := fun n c' hn h1 h2 h3 => by
      have := (r.ok n a c' h1 (key n c' hn h2)).fr h3
      rw [fa] at this; cases this
    by_cases h1 : i = j
    · by_cases h2 : i' = j
      · rw [h1, h2]
      · subst h1
        rw [ha'] at hi; cases hi
        exact (no i' c' h2 hi' q2 l2).elim
    · by_cases h2 : i' = j
      · subst h2
        rw [ha'] at hi'; cases hi'
        exact (no i c h1 hi q1 l1).elim
      · exact r.nd i i' b c c' hi hi' (key i c h1 q1) (key i' c' h2 q2) l1 l2
  · by_cases h : i = j
    · subst h
      rw [ha'] at hb; cases hb
      rw [hm] at hc; cases hc
      exact ⟨rem_same, vs, r.sub _ _ fa, rs.monoR le pr⟩
    · by_cases hd : c = .dead
      · subst hd; trivial
      have hc' : (μ.set j .dead)[i]? = some c := by rw [List.getElem?_set_ne (Ne.symm h)]; exact hc
      have ok := r.ok i b c hb hc'
      exact ok.monoR le pr (fun f => by
        by_cases ne : b = a
        · subst ne; exact rem_same
        · rw [rem_ne ne]; exact f) fun o h _ => h
theorem walkD_listM {ad : Addr} {vs : List V} {F1 : Hp} {A1 : List Addr} {xs : List D} (s : F1 ad = some (mark (.lst vs))) (r : Reps K ct A1 F1 vs xs) : WalkD K ct (Itl K ad) xs F1 A1 where
  goes := fun i H F hi e sb => ⟨vs, vs[i]'(by rw [r.len]; exact hi), SqL.of (sb _ _ (e _ _ s)), by simp [r.len, hi]⟩
  stops := fun H F e sb => ⟨vs, SqL.of (sb _ _ (e _ _ s)), Nat.le_of_eq r.len⟩
  yields := fun i H F A μ v H' d hd e p m y => by
    obtain ⟨rfl, y⟩ := y
    obtain ⟨w, hw, rw'⟩ := r.get hd
    have := y vs (SqL.of (m.sub _ _ (e _ _ s)))
    rw [hw] at this
    cases this
    exact ⟨F, .refl _, m, rw'.mono e p⟩
theorem walkD_enumM {ad : Addr} {vs : List V} {F1 : Hp} {A1 : List Addr} {xs : List D} (s : F1 ad = some (mark (.lst vs))) (r : Reps K ct A1 F1 vs xs) : WalkD K ct (Ite K ad) (enumD xs) F1 A1 where
  goes := fun i H F hi e sb => by
    rw [enumD_len, ← r.len] at hi
    exact ⟨vs, vs[i], SqL.of (sb _ _ (e _ _ s)), by simp [hi]⟩
  stops := fun H F e sb => ⟨vs, SqL.of (sb _ _ (e _ _ s)), by rw [enumD_len, r.len]; exact Nat.le_refl _⟩
  yields := fun i H F A μ v H' d hd e p m y => by
    obtain ⟨T, x, rfl, hT, rfl, hx⟩ := y
    obtain ⟨y, hy, rfl⟩ := enumD_get hd
    obtain ⟨w, hw, rw'⟩ := r.get hy
    have := hx vs (SqL.of (m.sub _ _ (e _ _ s)))
    rw [hw] at this
    cases this
    have le := m.le_grow hT (.tup [V.int (i : Nat), x])
    exact ⟨upd F T (.tup [V.int (i : Nat), x]), le, m.grow hT _, .tup (SqT.of upd_same) (.cons (.int _) (.cons (rw'.mono (e.trans le) p) .nil))⟩
end
def tIm (K : PySem.W.Frag) (ct : Nat → Addr) (Γ : Gm) (μ : Mu) (j : Nat) (l xs : List D) : TI := fun σ H R => ∃ F A a vs, A[j]? = some a ∧ F a = some (mark (.lst vs)) ∧ Reps K ct A F vs l ∧ Rl K ct Γ μ σ H F A ∧ ∀ J H1 F1 A1, Le F F1 → A <+: A1 → Rl K ct Γ μ σ H1 F1 A1 → WalkD K ct J xs F1 A1 → xs.length ≤ sizeLine → R J H1
abbrev DIm (X : Cx) (ct : Nat → Addr) (tg iter : Expr) (Γ : Gm) (μ : Mu) (j : Nat) (l xs : List D) : Prop := PI X tg iter (tIm X.K ct Γ μ j l xs)
section
variable {X : Cx} {ct : Nat → Addr} {Γ Γ1 Γ2 : Gm} {μ μ1 μ2 μ3 : Mu} {d da db dc : D} {ds xs l : List D} {e a b c o tg iter elt : Expr} {es : List Expr} {body rest : List Stmt} {pos p spos py : Pos} {x f m : Str} {k k' : Bool} {P : P4} {j : Nat}
theorem di_seqM (h : DE X ct Γ μ e (.ptr j) μ) : DIm X ct tg e Γ μ j l l :=
  PI.imp (pi_list (PE.bd h)) fun σ H R ⟨F, A, a, vs, ha, hf, rs, r, q⟩ => ⟨F, A, r, fun v H' F' A' e' p' r' rr bd => by
    cases rr with
    | ptr s =>
      have s' := pre_get p' ha
      rw [s] at s'
      cases s'
      have hH := r'.m.sub _ _ (e' _ _ hf)
      exact ⟨_, rfl, ⟨_, SqL.of hH⟩, q _ H' F' A' e' p' r' (walkD_listM (e' _ _ hf) (rs.mono e' p')) (by rw [← rs.len]; exact bd _ _ (.inl (SqL.of hH)))⟩⟩
theorem di_enumM {tpos : Pos} {elts : List Expr} {kk : Nat} (hm : X.mg "enumerate" = none) (h : DE X ct Γ μ e (.ptr j) μ) (hg : Gl X "enumerate" := by rfl) (hs : starEach [e] X.env = [(false, eval e X.env)] := by rfl) :
    DIm X ct (.Tuple elts kk tpos) (.Call (.Name "enumerate" p) [e] [] pos) Γ μ j l (enumD l) :=
  PI.imp (pi_enum hg hm (PA.bd (da_cons h da_nil hs)) hs) fun σ H R ⟨F, A, a, vs, ha, hf, rs, r, q⟩ => ⟨F, A, r, fun v H' F' A' e' p' r' rr bd => by
    obtain ⟨w, rfl, h2⟩ := reps1 rr
    cases h2 with
    | ptr s =>
      have s' := pre_get p' ha
      rw [s] at s'
      cases s'
      have hH := r'.m.sub _ _ (e' _ _ hf)
      exact ⟨_, _, rfl, SqL.of hH, q _ H' F' A' e' p' r' (walkD_enumM (e' _ _ hf) (rs.mono e' p')) (by rw [enumD_len, ← rs.len]; exact bd _ _ (.inl (SqL.of hH)))⟩⟩
theorem lcM_sem {α : Type} {ifs : List Expr} {scope : Scope} {own : List (Str × Nat)} {as : List α} {enc : α → D} {pd : α → Bool} {gg : α → D} (hm : μ[j]? = some (.lst l))
    (hs : ∀ z ∈ as, ∃ l', (∀ p ∈ l', p.1 ∈ own.map (·.2)) ∧ (∀ s H C cl fp, DG (Bk X scope s H C cl fp) ct tg (enc z) l') ∧ (∀ s H C cl fp, DTs (Bk X scope s H C cl fp) ct ifs (setG (wipeG Γ (own.map (·.2))) l') (μ.set j .dead) (pd z) (μ.set j .dead)) ∧
      (pd z = true → ∀ s H C cl fp, DE (Bk X scope s H C cl fp) ct (setG (wipeG Γ (own.map (·.2))) l') (μ.set j .dead) elt (gg z) (μ.set j .dead))) {σ : L2.St} {H F : Hp} {A : List Addr} {Q : VK} (r : Rl X.K ct Γ μ σ H F A)
    (q : ∀ v H' F' A', Le F F' → A <+: A' → Rl X.K ct Γ μ σ H' F' A' → Rep X.K ct A' F' v (.lst ((as.filter pd).map gg)) → Q v H') :
    tLc (tIm X.K ct Γ (μ.set j .dead) j l (as.map enc)) (fun v σ H Q => ∃ t, (∀ s H C cl fp, PG (Bk X scope s H C cl fp) tg t) ∧ t v σ H Q) (fun σ H Q => ∃ t, (∀ s H C cl fp, PTs (Bk X scope s H C cl fp) ifs t) ∧ t σ H Q) (fun σ H Q => ∃ t, (∀ s H C cl fp, PE (Bk X scope s H C cl fp) elt t) ∧ t σ H Q) (own.map (·.2)) σ H Q := by
  obtain ⟨a, vs, ha, hH, hf, rs, rm⟩ := mark_cell r.m hm
  have le0 : Le F (upd F a (mark (.lst vs))) := .new hf
  refine tLc_D (F := upd F a (mark (.lst vs))) (A := A) (μ1 := μ.set j .dead) (μ2 := μ.set j .dead) (xs := as.map enc) (res := (as.filter pd).map gg) (fun i acc μ' => acc = ((as.take i).filter pd).map gg ∧ μ' = μ.set j .dead) ⟨rfl, rfl⟩ (fun i d acc μ' hx ⟨e1, e2⟩ => ?_) (fun i acc μ' ⟨e1, e2⟩ => ?_) (fun acc μ' ⟨e1, e2⟩ => ?_)
    (fun R kk => ⟨_, A, a, vs, ha, upd_same, rs, ⟨rm, r.s.mono le0 pr⟩, kk⟩) (fun v H' F' A' e' p' r' rr => ?_)
  · subst e1; subst e2
    rw [List.getElem?_map, Option.map_eq_some_iff] at hx
    obtain ⟨z, hz, rfl⟩ := hx
    obtain ⟨l, h1, h2, h3, h4⟩ := hs z (List.mem_of_getElem? hz)
    have et : as.take (i + 1) = as.take i ++ [z] := by
      obtain ⟨hi, e⟩ := List.getElem?_eq_some_iff.mp hz
      rw [List.take_succ_eq_append_getElem hi, e]
    refine ⟨l, pd z, _, h1, fun v σ H Q q => ⟨_, h2, q⟩, fun σ H Q q => ⟨_, h3, q⟩, fun hk => ⟨gg z, _, fun σ H Q q => ⟨_, h4 hk, q⟩, ?_, rfl⟩, fun hk => ⟨?_, rfl⟩⟩
    · rw [et, List.filter_append, List.filter_cons, hk]; simp
    · rw [et, List.filter_append, List.filter_cons, hk]; simp
  · subst e1
    rw [List.length_map]
    exact Nat.le_trans (List.length_filter_le _ _) (by rw [List.length_take]; omega)
  · rw [List.length_map, List.take_length] at e1
    exact ⟨e1, e2⟩
  · obtain ⟨u1, u2, u3⟩ := unmark_cell r'.m hm ha p' hf e' (rs.mono e' p')
    exact q v H' _ A' u1 p' ⟨u3, r'.s.monoR u2 pr⟩ (rr.monoR u2 pr)
theorem ds_setLcM {α : Type} {ifs : List Expr} {scope : Scope} (n : Nat) (own : List (Str × Nat)) (as : List α) (enc : α → D) (pd : α → Bool) (gg : α → D) (hN : X.N.Nodup) (hm : μ[j]? = some (.lst l)) (hi : DIm X ct tg iter Γ (μ.set j .dead) j l (as.map enc)) (ok : BlkOk X.N X.env.scope scope own)
    (hs : ∀ z ∈ as, ∃ l', (∀ p ∈ l', p.1 ∈ own.map (·.2)) ∧ (∀ s H C cl fp, DG (Bk X scope s H C cl fp) ct tg (enc z) l') ∧ (∀ s H C cl fp, DTs (Bk X scope s H C cl fp) ct ifs (setG (wipeG Γ (own.map (·.2))) l') (μ.set j .dead) (pd z) (μ.set j .dead)) ∧
      (pd z = true → ∀ s H C cl fp, DE (Bk X scope s H C cl fp) ct (setG (wipeG Γ (own.map (·.2))) l') (μ.set j .dead) elt (gg z) (μ.set j .dead))) (hr : DSs X ct rest (Γ.set n (some (.lst ((as.filter pd).map gg)))) μ P) (hc : X.calm = true := by rfl) (hy : X.N[n]? = some x := by rfl) (hyl : X.env.scope.names.lookup x = some .local := by rfl) (hsw : swapsWith (.ListComp elt [⟨tg, iter, ifs, 0⟩] scope pos) (some (.Name x py)) spos.line X.env = pure true := by rfl) (hfs : ∀ x, foldedSetIterable iter X.env x = pure x := by intro _; rfl) :
    DSs X ct (.Assign [.Name x py] (.ListComp elt [⟨tg, iter, ifs, 0⟩] scope pos) spos :: rest) Γ μ P := by
  refine ds_cons (PS.imp (ps_setLc (g := fun v σ H Q => ∃ t, (∀ s H C cl fp, PG (Bk X scope s H C cl fp) tg t) ∧ t v σ H Q) (tt := fun σ H Q => ∃ t, (∀ s H C cl fp, PTs (Bk X scope s H C cl fp) ifs t) ∧ t σ H Q) (te := fun σ H Q => ∃ t, (∀ s H C cl fp, PE (Bk X scope s H C cl fp) elt t) ∧ t σ H Q) hc hN hy hyl hsw hi ok
    (fun s H C cl fp => ⟨fun pins s' σ H' v u Q I r ⟨t, h, q⟩ => (h s H C cl fp).run pins s' σ H' v u Q I r q⟩) (fun s H C cl fp => ⟨fun pins s' σ H' Q I ⟨t, h, q⟩ => (h s H C cl fp).run pins s' σ H' Q I q⟩) (fun s H C cl fp => ⟨fun pins s' σ H' Q I ⟨t, h, q⟩ => (h s H C cl fp).run pins s' σ H' Q I q⟩) hfs) fun D σ H ⟨F, A, r, q1, q2, q3, q4⟩ => ?_)
  exact lcM_sem hm hs r fun v H' F' A' e p r' rr => q1 _ μ _ H' F' A' e p ⟨r'.m, r'.s.set rr n⟩ hr
theorem de_lcM {α : Type} {ifs : List Expr} {scope : Scope} (own : List (Str × Nat)) (as : List α) (enc : α → D) (pd : α → Bool) (gg : α → D) (hN : X.N.Nodup) (hm : μ[j]? = some (.lst l)) (hi : DIm X ct tg iter Γ (μ.set j .dead) j l (as.map enc)) (ok : BlkOk X.N X.env.scope scope own)
    (hs : ∀ z ∈ as, ∃ l', (∀ p ∈ l', p.1 ∈ own.map (·.2)) ∧ (∀ s H C cl fp, DG (Bk X scope s H C cl fp) ct tg (enc z) l') ∧ (∀ s H C cl fp, DTs (Bk X scope s H C cl fp) ct ifs (setG (wipeG Γ (own.map (·.2))) l') (μ.set j .dead) (pd z) (μ.set j .dead)) ∧
      (pd z = true → ∀ s H C cl fp, DE (Bk X scope s H C cl fp) ct (setG (wipeG Γ (own.map (·.2))) l') (μ.set j .dead) elt (gg z) (μ.set j .dead))) (hc : X.calm = true := by rfl) (hfs : ∀ x, foldedSetIterable iter X.env x = pure x := by intro _; rfl) :
    DE X ct Γ μ (.ListComp elt [⟨tg, iter, ifs, 0⟩] scope pos) (.lst ((as.filter pd).map gg)) μ := by
  refine PE.imp (pe_lc (g := fun v σ H Q => ∃ t, (∀ s H C cl fp, PG (Bk X scope s H C cl fp) tg t) ∧ t v σ H Q) (tt := fun σ H Q => ∃ t, (∀ s H C cl fp, PTs (Bk X scope s H C cl fp) ifs t) ∧ t σ H Q) (te := fun σ H Q => ∃ t, (∀ s H C cl fp, PE (Bk X scope s H C cl fp) elt t) ∧ t σ H Q) hc hN hi ok
    (fun s H C cl fp => ⟨fun pins s' σ H' v u Q I r ⟨t, h, q⟩ => (h s H C cl fp).run pins s' σ H' v u Q I r q⟩) (fun s H C cl fp => ⟨fun pins s' σ H' Q I ⟨t, h, q⟩ => (h s H C cl fp).run pins s' σ H' Q I q⟩) (fun s H C cl fp => ⟨fun pins s' σ H' Q I ⟨t, h, q⟩ => (h s H C cl fp).run pins s' σ H' Q I q⟩) hfs) fun σ H Q ⟨F, A, r, q⟩ => ?_
  exact lcM_sem hm hs r q
end
end DL

/-! # A dict written out -/
namespace DL
open PySem PySem.Spec PyProof.Rows L2
def mergeD (kds more : List (Key × D)) : List (Key × D) := more.foldl (fun acc kv => dput acc kv.1 kv.2) kds
theorem KD.merge {K : PySem.W.Frag} {ct : Nat → Addr} {A : List Addr} {F : Hp} : ∀ {more : List (Key × V)} {ms : List (Key × D)} {kvs : List (Key × V)} {kds : List (Key × D)}, KD K ct A F more ms → KD K ct A F kvs kds → KD K ct A F (mergeK kvs more) (mergeD kds ms)
  | [], [], _, _, _, h => h
  | [], _ :: _, _, _, h, _ => by have := h.len; simp at this
  | _ :: _, [], _, _, h, _ => by have := h.len; simp at this
  | p :: more, q :: ms, kvs, kds, h, h' => by
    obtain ⟨e, r, t⟩ := h.cons_inv
    show KD K ct A F (mergeK (putK kvs p.1 p.2) more) (mergeD (dput kds q.1 q.2) ms)
    rw [← e]
    exact KD.merge t (h'.put p.1 r)
section
variable {X : Cx} {ct : Nat → Addr} {Γ : Gm} {μ : Mu} {d da db : D} {e a b : Expr} {pos p : Pos}
/-- pairs written out, which change nothing -/
structure DPs (X : Cx) (ct : Nat → Addr) (pos : Pos) (keys : List (Option Expr)) (values : List Expr) (Γ : Gm) (μ : Mu) (kds : List (Key × D)) : Prop where
  ex : ∃ trs, PPs X pos keys values trs ∧ ∀ (σ : L2.St) (H F : Hp) (A : List Addr) (k : List (V × V) → Hp → Prop), Rl X.K ct Γ μ σ H F A →
    (∀ (kvs : List (Key × V)) (H' F' : Hp) (A' : List Addr), Le F F' → A <+: A' → Rl X.K ct Γ μ σ H' F' A' → KD X.K ct A' F' kvs kds → k (kvs.map fun kv => (kV kv.1, kv.2)) H') → tPairs trs σ H k
theorem dps_nil : DPs X ct pos [] [] Γ μ [] := ⟨[], pps_nil, fun σ H F A k r q => q [] H F A (.refl _) pr r .nil⟩
theorem dps_cons {ks : List (Option Expr)} {vs : List Expr} {key : Key} {kds : List (Key × D)} (hk : DE X ct Γ μ a da μ) (hv : DE X ct Γ μ b db μ) (kd : KeyD da key) (h : DPs X ct pos ks vs Γ μ kds) : DPs X ct pos (some a :: ks) (b :: vs) Γ μ ((key, db) :: kds) := by
  obtain ⟨trs, h1, h2⟩ := h.ex
  refine ⟨_, pps_cons hk hv h1, fun σ H F A k r q => ?_⟩
  exact ⟨F, A, r, fun v1 H1 F1 A1 e1 p1 r1 q1 => ⟨F1, A1, r1, fun v2 H2 F2 A2 e2 p2 r2 q2 => h2 σ H2 F2 A2 _ r2 fun kvs H3 F3 A3 e3 p3 r3 q3 => by
    have ek := kd.rep q1
    subst ek
    exact q ((key, v2) :: kvs) H3 F3 A3 (e1.trans (e2.trans e3)) (p1.trans (p2.trans p3)) r3 (.cons rfl (q2.mono e3 p3) q3)⟩⟩
theorem de_disp {keys : List (Option Expr)} {values : List Expr} {kds : List (Key × D)} (h : DPs X ct pos keys values Γ μ kds) (hall : keys.all (·.isSome) = true := by rfl) (hl : keys.length = values.length := by rfl) (h0 : keys ≠ [] := by intro z; cases z)
    (h15 : keys.length ≤ 15 := by decide) (h15' : kds.length ≤ 15 := by exact Nat.le_of_ble_eq_true rfl) : DE X ct Γ μ (.Dict keys values pos) (.dic (mergeD [] kds)) μ := by
  obtain ⟨trs, h1, h2⟩ := h.ex
  refine PE.imp (pe_disp h1 hall hl h0 h15) fun σ H Q ⟨F, A, r, q⟩ p hp => ?_
  -- the new dict is marked while the pairs are made
  have fp := r.m.sub.free hp
  have le0 : Le F (upd F p (mark (.dK []))) := .new fp
  have r1 : Rl X.K ct Γ μ σ (upd H p (.dK [])) (upd F p (mark (.dK []))) A := by
    refine ⟨⟨fun a o h => ?_, r.m.len, r.m.nd, fun a ha => ?_, fun k a c ha hc => ?_⟩, r.s.mono le0 pr⟩
    · by_cases ha : a = p
      · subst ha; rw [upd_same] at h ⊢; cases h; rfl
      · rw [upd_ne ha] at h ⊢; exact r.m.sub a o h
    · obtain ⟨o, ho⟩ := r.m.there a ha
      exact ⟨o, by rw [upd_ne (ne_of_none ho hp)]; exact ho⟩
    · obtain ⟨o, ho⟩ := r.m.there a (List.mem_of_getElem? ha)
      have ne := ne_of_none ho hp
      exact (r.m.ok k a c ha hc).mono le0 pr (fun f => by rw [upd_ne ne]; exact f) fun o ho _ => by rw [upd_ne ne]; exact ho
  refine h2 σ _ _ A _ r1 fun kvs H' F' A' e' p' r' kd => ?_
  have fp' := e' _ _ upd_same
  refine ⟨r'.m.sub _ _ fp', kvs, rfl, by rw [kd.len]; exact h15', ?_⟩
  have le : LeR F' (upd F' p (.dK (mergeK [] kvs))) := .remark fp'
  have le1 : Le F (upd F' p (.dK (mergeK [] kvs))) := fun a o h => by
    have ne := ne_of_none h fp
    rw [upd_ne ne]; exact e' _ _ (by rw [upd_ne ne]; exact h)
  refine q _ _ (upd F' p (.dK (mergeK [] kvs))) A' le1 p' ⟨⟨fun a o h => ?_, r'.m.len, r'.m.nd, fun a ha => ?_, fun k a c ha hc => ?_⟩, r'.s.monoR le pr⟩ ?_
  · by_cases ha : a = p
    · subst ha; rw [upd_same] at h ⊢; cases h; rfl
    · rw [upd_ne ha] at h ⊢; exact r'.m.sub a o h
  · by_cases z : a = p
    · subst z; exact ⟨_, upd_same⟩
    · rw [upd_ne z]; exact r'.m.there a ha
  · by_cases hd : c = .dead
    · subst hd; trivial
    have ne := r'.m.ne ha hc hd fp'
    exact (r'.m.ok k a c ha hc).monoR le pr (fun f => by rw [upd_ne ne]; exact f) fun o ho _ => by rw [upd_ne ne]; exact ho
  · have kd2 : KD X.K ct A' (upd F' p (.dK (mergeK [] kvs))) (mergeK [] kvs) (mergeD [] kds) := KD.merge ⟨kd.1, kd.2.monoR le pr⟩ .nil
    exact .dic (.inl upd_same) kd2.1 kd2.2
end
end DL

/-! # The law's own state, plain -/
namespace Lw
open PySem PySem.Spec PyProof.Rows L2 DL
/-! ### pairs by a whole number -/
def aget {β : Type} (l : List (Int × β)) (u : Int) : Option β := (l.find? fun p => decide (p.1 = u)).map (·.2)
def aput {β : Type} (l : List (Int × β)) (u : Int) (v : β) : List (Int × β) := if (l.any fun p => decide (p.1 = u)) = true then l.map (fun p => if p.1 = u then (p.1, v) else p) else l ++ [(u, v)]
def adel {β : Type} (l : List (Int × β)) (u : Int) : List (Int × β) := l.filter fun p => decide (p.1 ≠ u)
def kvD {β : Type} (f : β → D) (l : List (Int × β)) : List (Key × D) := l.map fun p => (.inl p.1, f p.2)
theorem inl_eq (a b : Int) : decide ((Sum.inl a : Key) = Sum.inl b) = decide (a = b) := by simp
theorem dget_kv {β : Type} (f : β → D) (u : Int) : ∀ l : List (Int × β), dget (kvD f l) (.inl u) = (aget l u).map f
  | [] => rfl
  | p :: l => by
    have ih := dget_kv f u l
    unfold dget aget kvD at *
    simp only [List.map_cons, List.find?_cons, inl_eq]
    cases h : decide (p.1 = u) with
    | true => rfl
    | false => exact ih
theorem dput_kv {β : Type} (f : β → D) (u : Int) (v : β) (l : List (Int × β)) : dput (kvD f l) (.inl u) (f v) = kvD f (aput l u v) := by
  unfold dput aput kvD
  simp only [List.any_map, Function.comp_def, inl_eq]
  split
  · simp only [List.map_map]
    apply List.map_congr_left
    intro p _
    simp only [Function.comp_def]
    by_cases h : p.1 = u
    · simp [h]
    · simp [h]
  · simp
theorem ddrop_kv {β : Type} (f : β → D) (u : Int) : ∀ l : List (Int × β), ddrop (kvD f l) (.inl u) = kvD f (adel l u)
  | [] => rfl
  | p :: l => by
    have ih := ddrop_kv f u l
    unfold ddrop adel kvD at *
    by_cases h : p.1 = u
    · simp [List.filter_cons, h]; simpa using ih
    · simp [List.filter_cons, h]; simpa using ih
theorem kvD_len {β : Type} (f : β → D) (l : List (Int × β)) : (kvD f l).length = l.length := by simp [kvD]
theorem kvD_keys {β : Type} (f : β → D) (l : List (Int × β)) : (kvD f l).map (·.1) = (l.map (·.1)).map Sum.inl := by simp [kvD]
theorem ok_kv {β : Type} (n : Nat) (f : β → D) (h : ∀ b, okD n (f b) = true) (l : List (Int × β)) : okKs n (kvD f l) = true := by
  rw [okKs_all]; simp [kvD, h]
theorem ok_map {α : Type} (n : Nat) (f : α → D) (h : ∀ b, okD n (f b) = true) (l : List α) : okDs n (l.map f) = true := by
  rw [okDs_all]; simp [h]
theorem aput_len {β : Type} (l : List (Int × β)) (u : Int) (v : β) : (aput l u v).length ≤ l.length + 1 := by
  unfold aput; split <;> simp
theorem adel_len {β : Type} (l : List (Int × β)) (u : Int) : (adel l u).length ≤ l.length := List.length_filter_le _ _
theorem enumD_map {α : Type} (f : α → D) (l : List α) : enumD (l.map f) = l.zipIdx.map fun p => D.tup [.int (p.2 : Nat), f p.1] := by
  apply List.ext_getElem?
  intro i
  unfold enumD
  rw [List.getElem?_map, List.getElem?_map, List.getElem?_zipIdx]
  by_cases h : i < l.length
  · simp [h]
  · rw [List.getElem?_eq_none (by simp; omega), List.getElem?_eq_none (by omega : l.length ≤ i)]; rfl
/-! ### events -/
inductive Ev where
  | pass
  | act (w : Str) (u : Int)
deriving DecidableEq
def Ev.D : Ev → D
  | .pass => .tup [.str "pass"]
  | .act w u => .tup [.str w, .int u]
def Ev.isPass : Ev → Bool
  | .pass => true
  | .act _ _ => false
theorem ok_ev (n : Nat) (e : Ev) : okD n e.D = true := by cases e <;> rfl
/-! ### the state -/
structure LS where
  us : List (Int × (Int × Int))
  kp : List (Option (Int × Int))
  ct : List Int
def prD (p : Int × Int) : D := .tup [.int p.1, .int p.2]
def kpD : Option (Int × Int) → D
  | none => .non
  | some p => prD p
def LS.D (s : LS) : D := .tup [.dic (kvD prD s.us), .lst (s.kp.map kpD), .lst (s.ct.map .int)]
theorem ok_pr (n : Nat) (p : Int × Int) : okD n (prD p) = true := rfl
theorem ok_kp (n : Nat) (p : Option (Int × Int)) : okD n (kpD p) = true := by cases p <;> rfl
theorem ok_ls (n : Nat) (s : LS) : okD n s.D = true := by
  unfold LS.D
  simp only [okD, okDs, ok_kv n prD (ok_pr n), ok_map n kpD (ok_kp n), ok_map n D.int (fun _ => rfl)]
  rfl
structure LS.Sz (s : LS) (n : Nat) : Prop where
  us : s.us.length ≤ n
  kp : s.kp.length ≤ n
  ct : s.ct.length ≤ n
def lbegun (n : Int) : LS := ⟨[], List.replicate n.toNat none, []⟩
def isKept (u : Int) : Option (Int × Int) → Bool
  | none => false
  | some p => decide (p.1 = u)
def kseats (kp : List (Option (Int × Int))) (u : Int) : List Int := (kp.zipIdx.filter fun p => isKept u p.1).map fun p => ((p.2 : Nat) : Int)
def kseat (kp : List (Option (Int × Int))) (u : Int) : Option Int := (kseats kp u).head?
def frees (kp : List (Option (Int × Int))) : List Int := (kp.zipIdx.filter fun p => p.1.isNone).map fun p => ((p.2 : Nat) : Int)
def oiD : Option Int → D
  | none => .non
  | some i => .int i
/-- the rule's numbers -/
structure RL where
  s : Int
  l : Int
  b : Int
  g : Int
  t : Int
def RL.gv (r : RL) : D := .tup [.int r.s, .int r.l, .int r.b, .int r.g, .int r.t]
def lateU (r : RL) (s : LS) (u : Int) : Bool := match aget s.us u with
  | some q => decide (r.g + r.t ≤ q.2) || (!decide (u ∈ s.ct) && decide (r.b + r.t ≤ q.2))
  | none => false
def lcan (r : RL) (s : LS) : Ev → Bool
  | .pass => (s.us.map (·.1)).all fun u => !lateU r s u
  | .act w u =>
    bif decide (w = "cut") || decide (w = "join") then decide (u ∈ s.ct) == decide (w = "join")
    else bif decide (w = "borrow") then (!(aget s.us u).isSome && !decide (u ∈ s.ct))
    else bif (!(aget s.us u).isSome || ((decide (w = "word") || decide (w = "back")) && decide (u ∈ s.ct))) then false
    else (!decide (w = "stop") || decide (r.g ≤ ((aget s.us u).getD (0, 0)).2))
def older (us : List (Int × (Int × Int))) (acc : List (Int × (Int × Int))) (u : Int) : List (Int × (Int × Int)) := match aget us u with
  | some q => aput acc u (q.1, q.2 + 1)
  | none => acc
def keptOn (r : RL) : Option (Int × Int) → Option (Int × Int)
  | none => none
  | some p => if p.2 + 1 = r.l then none else some (p.1, p.2 + 1)
def lostOf (r : RL) : Option (Int × Int) → List Int
  | none => []
  | some p => if p.2 + 1 = r.l then [p.1] else []
def lmoment (r : RL) (s : LS) : LS × List Int := (⟨(s.us.map (·.1)).foldl (older s.us) [], s.kp.map (keptOn r), s.ct⟩, s.kp.flatMap (lostOf r))
def lfaults (r : RL) (s : LS) (met : List Str) : List Str :=
  let seats := (s.us.map (·.1)).map fun u => ((aget s.us u).getD (0, 0)).1
  sortS (met ++ (bif decide (r.s < seats.length) then (["over"] : List Str) else []) ++ (bif (seats.filter fun q => decide (1 < ((seats.count q : Nat) : Int))).isEmpty then [] else (["twice"] : List Str)))
def lbehind (r : RL) (s : LS) : Ev → LS × List Str
  | .pass =>
    let m := lmoment r s
    let bad := m.2.filter fun u => (aget m.1.us u).isSome && !decide (u ∈ m.1.ct)
    (m.1, lfaults r m.1 (bif bad.isEmpty then [] else (["taken"] : List Str)))
  | .act w u =>
    let seat := kseat s.kp u
    let free := frees s.kp
    bif decide (w = "borrow") && (seat.isNone && free.isEmpty) then (s, lfaults r s (bif decide ((s.us.length : Int) < r.s) then (["waits"] : List Str) else []))
    else bif decide (w = "borrow") || (decide (w = "word") && seat.isSome) then
      let q := seat.getD (free.headD 0)
      let s' : LS := ⟨aput s.us u (q, 0), s.kp.set q.toNat (some (u, 0)), s.ct⟩
      (s', lfaults r s' [])
    else bif decide (w = "cut") then (⟨s.us, s.kp, s.ct ++ [u]⟩, lfaults r ⟨s.us, s.kp, s.ct ++ [u]⟩ [])
    else bif decide (w = "join") then (⟨s.us, s.kp, s.ct.filter fun o => !decide (o = u)⟩, lfaults r ⟨s.us, s.kp, s.ct.filter fun o => !decide (o = u)⟩ [])
    else
      let s' : LS := ⟨adel s.us u, bif decide (w = "back") && seat.isSome then s.kp.set (seat.getD 0).toNat none else s.kp, s.ct⟩
      (s', lfaults r s' [])
theorem kseats_lt {kp : List (Option (Int × Int))} {u i : Int} (h : i ∈ kseats kp u) : 0 ≤ i ∧ i.toNat < kp.length := by
  unfold kseats at h
  rw [List.mem_map] at h
  obtain ⟨p, hp, rfl⟩ := h
  have := (List.mem_filter.mp hp).1
  rw [List.mem_zipIdx_iff_getElem?] at this
  have := (List.getElem?_eq_some_iff.mp this).1
  exact ⟨by omega, by omega⟩
theorem frees_lt {kp : List (Option (Int × Int))} {i : Int} (h : i ∈ frees kp) : 0 ≤ i ∧ i.toNat < kp.length := by
  unfold frees at h
  rw [List.mem_map] at h
  obtain ⟨p, hp, rfl⟩ := h
  have := (List.mem_filter.mp hp).1
  rw [List.mem_zipIdx_iff_getElem?] at this
  have := (List.getElem?_eq_some_iff.mp this).1
  exact ⟨by omega, by omega⟩
theorem aget_mem {β : Type} {l : List (Int × β)} {u : Int} (h : u ∈ l.map (·.1)) : ∃ v, aget l u = some v := by
  unfold aget
  cases q : l.find? fun p => decide (p.1 = u) with
  | some p => exact ⟨_, rfl⟩
  | none =>
    rw [List.find?_eq_none] at q
    rw [List.mem_map] at h
    obtain ⟨p, hp, e⟩ := h
    exact absurd e (by simpa using q p hp)
/-! ### the box of draws -/
def boxC (b : Int × Int) : Cell := .lst [.int b.1, .int b.2]
def BoxOk (b : Int × Int) : Prop := 0 ≤ b.1 ∧ 0 ≤ b.2 ∧ b.2 ≤ 2147483647
def tk1 (b : Int × Int) : Int := (b.2 * 48271 + 40031) % 2147483647
def tk (l : Int) (b : Int × Int) : Int := bif decide (0 < b.1) then b.1 % l else (tk1 b / 64) % l
def tkN (l : Int) (b : Int × Int) : Int × Int := bif decide (0 < b.1) then (b.1 / l, b.2) else (b.1, tk1 b)
theorem tk_lt {l : Int} {b : Int × Int} (h : 0 < l) : 0 ≤ tk l b ∧ tk l b < l := by
  unfold tk
  cases decide (0 < b.1)
  · exact ⟨Int.emod_nonneg _ (by omega), Int.emod_lt_of_pos _ h⟩
  · exact ⟨Int.emod_nonneg _ (by omega), Int.emod_lt_of_pos _ h⟩
theorem tkN_ok {l : Int} {b : Int × Int} (h : 0 < l) (hb : BoxOk b) : BoxOk (tkN l b) := by
  unfold tkN
  cases q : decide (0 < b.1)
  · refine ⟨hb.1, ?_, ?_⟩
    · exact Int.emod_nonneg _ (by decide)
    · have := Int.emod_lt_of_pos (b.2 * 48271 + 40031) (by decide : (0 : Int) < 2147483647)
      show tk1 b ≤ _
      unfold tk1; omega
  · exact ⟨Int.ediv_nonneg hb.1 (by omega), hb.2.1, hb.2.2⟩
def seed1 (k : Int) (s one : Int) : Int := (s * 16807 + (if one < 0 then -one else one) % 2147483629 + k) % 2147483647
def cellOf (sc : List Int) (k : Nat) : Int := match sc[k]? with
  | some x => if x < 0 then -x else x
  | none => 0
def seedOf (sc : List Int) (k : Nat) (own : Int) : Int := (sc.take 40).foldl (seed1 k) (100279 * own + 7741 * k + 37)
def boxOf (sc : List Int) (k : Nat) (own : Int) : Int × Int := (bif decide (10 ^ 18 ≤ cellOf sc k) then cellOf sc k else 0, seedOf sc k own + 1)
theorem seed_fold (k : Int) : ∀ (l : List Int) (s : Int), (0 ≤ s ∧ s < 2147483647) → 0 ≤ l.foldl (seed1 k) s ∧ l.foldl (seed1 k) s < 2147483647
  | [], s, h => h
  | x :: l, s, _ => seed_fold k l _ ⟨Int.emod_nonneg _ (by decide), Int.emod_lt_of_pos _ (by decide)⟩
theorem boxOf_ok {sc : List Int} {k : Nat} {own : Int} (hk : k ≤ 100) (ho : 0 ≤ own) (ho2 : own ≤ 1000) : BoxOk (boxOf sc k own) := by
  have h := seed_fold k (sc.take 40) (100279 * own + 7741 * k + 37) ⟨by omega, by omega⟩
  have h' : 0 ≤ seedOf sc k own ∧ seedOf sc k own < 2147483647 := h
  refine ⟨?_, ?_, ?_⟩
  · show 0 ≤ bif decide (10 ^ 18 ≤ cellOf sc k) then cellOf sc k else 0
    cases q : decide (10 ^ 18 ≤ cellOf sc k)
    · exact Int.le_refl _
    · have := of_decide_eq_true q
      show 0 ≤ cellOf sc k
      omega
  · show 0 ≤ seedOf sc k own + 1; omega
  · show seedOf sc k own + 1 ≤ _; omega
end Lw

/-! # Rules of use in the law's text -/
namespace DL
open PySem PySem.Spec PyProof.Rows L2
theorem toPys_ints : ∀ l : List Int, toPys (l.map D.int) = some (l.map PyData.int)
  | [] => by simp [toPys]
  | i :: l => by simp [toPys, toPy, toPys_ints l]
theorem canLay_ints : ∀ l : List Int, PyData.canLayAll0 (l.map PyData.int) = true
  | [] => by simp [PyData.canLayAll0]
  | i :: l => by simp [PyData.canLayAll0, PyData.canLay0, canLay_ints l]
theorem depth_ints : ∀ l : List Int, PyData.depthAll (l.map PyData.int) = 0
  | [] => by simp [PyData.depthAll]
  | i :: l => by simp [PyData.depthAll, PyData.depth, depth_ints l]
theorem shaped_ints (l : List Int) : SeqAt.shaped (.list (l.map PyData.int)) = true := by
  unfold SeqAt.shaped
  simp [PyData.canLay0, PyData.depth, canLay_ints, depth_ints]
section
variable {X : Cx} {ct : Nat → Addr} {Γ Γ1 Γ2 Γ3 : Gm} {μ μ1 μ2 μ3 μ4 : Mu} {d da db dc d1 d2 : D} {ds l : List D} {e a b c o o2 a2 tg iter : Expr} {es tgs : List Expr} {body rest : List Stmt} {pos p pt : Pos} {x f m : Str} {k k' : Bool} {P : P4}
theorem o2_eqNil {l : List Int} (hu : X.A.units + 64 < cLine) : O2 X ct (compareOp .Eq) μ (.lst (l.map .int)) (.lst []) (.bl l.isEmpty) := by
  have h := o2_eqD (X := X) (ct := ct) (μ := μ) (da := .lst (l.map .int)) (db := .lst []) hu (by simp only [toPy, toPys_ints]; rfl) (by simp only [toPy, toPys]; rfl) (shaped_ints l) (shaped_ints [])
  rw [List.map_nil, show PyData.eqv (.list (l.map PyData.int)) (.list []) = l.isEmpty by cases l <;> simp [PyData.eqv, PyData.eqvAll]] at h
  exact h
theorem o2_neNil {l : List Int} (hu : X.A.units + 64 < cLine) : O2 X ct (compareOp .NotEq) μ (.lst (l.map .int)) (.lst []) (.bl (!l.isEmpty)) := by
  have h := o2_neD (X := X) (ct := ct) (μ := μ) (da := .lst (l.map .int)) (db := .lst []) hu (by simp only [toPy, toPys_ints]; rfl) (by simp only [toPy, toPys]; rfl) (shaped_ints l) (shaped_ints [])
  rw [List.map_nil, show PyData.eqv (.list (l.map PyData.int)) (.list []) = l.isEmpty by cases l <;> simp [PyData.eqv, PyData.eqvAll]] at h
  exact h
/-- a loop over a frozen dict's keys -/
theorem ds_forKJ {S : Type} {kds : List (Key × D)} (as : List Int) (hk : kds.map (·.1) = as.map Sum.inl) (hz : kds.length ≤ sizeLine) (Gf : S → Gm) (Mf : S → Mu) (J : List Int → S → Prop) (hi : DPath X ct iter Γ μ kds) (h0 : ∃ s0, GLe (Gf s0) Γ ∧ μ = Mf s0 ∧ J as s0)
    (hs : ∀ a r s, J (a :: r) s → ∃ l, DG X ct tg (.int a) l ∧ DSs X ct body (setG (Gf s) l) (Mf s) { nx := fun Γ μ => ∃ s', GLe (Gf s') Γ ∧ μ = Mf s' ∧ J r s', ct := fun Γ μ => ∃ s', GLe (Gf s') Γ ∧ μ = Mf s' ∧ J r s', bk := fun Γ μ => DSs X ct rest Γ μ P, rt := P.rt })
    (hd : ∀ s, J [] s → DSs X ct rest (Gf s) (Mf s) P) (hc : X.calm = true := by rfl) (hp : PassesOwn (model X.prog X.w) X.A X.env X.xe := by exact PassesOwn.never) (hfs : ∀ x, foldedSetIterable iter X.env x = pure x := by intro _; rfl) : DSs X ct (.For tg iter body [] pos :: rest) Γ μ P := by
  have hl : kds.length = as.length := by have := congrArg List.length hk; simpa using this
  have hk2 : (kds.map fun kv => keyDat kv.1) = as.map D.int := by
    rw [show (kds.map fun kv => keyDat kv.1) = (kds.map (·.1)).map keyDat by simp, hk]; simp [keyDat]
  refine ds_forK hp hc hz hi (fun i Γ' μ' => ∃ s, Γ' = Gf s ∧ μ' = Mf s ∧ J (as.drop i) s) ?_ (fun i d Γ' μ' hx hI => ?_) (fun Γ' μ' hI => ?_) hfs
  · obtain ⟨s0, g, rfl, j⟩ := h0
    exact ⟨_, g, s0, rfl, rfl, j⟩
  · obtain ⟨s, rfl, rfl, j⟩ := hI
    rw [hk2, List.getElem?_map, Option.map_eq_some_iff] at hx
    obtain ⟨z, hz, rfl⟩ := hx
    obtain ⟨hlt, e⟩ := List.getElem?_eq_some_iff.mp hz
    rw [List.drop_eq_getElem_cons hlt, e] at j
    obtain ⟨l, g, b⟩ := hs z _ s j
    exact ⟨l, g, ds_imp b (fun Γ μ ⟨s', h1, h2, h3⟩ => ⟨_, h1, s', rfl, h2, h3⟩) (fun _ _ h => h) (fun _ _ h => h) (fun Γ μ ⟨s', h1, h2, h3⟩ => ⟨_, h1, s', rfl, h2, h3⟩)⟩
  · obtain ⟨s, rfl, rfl, j⟩ := hI
    rw [hl, List.drop_length] at j
    exact hd s j
end
theorem InD.w2 {μ : Mu} {w a b : Str} : InD μ (.str w) (.tup [.str a, .str b]) (decide (w = a) || decide (w = b)) := by
  have h : InD μ (.str w) (.tup [.str a, .str b]) ([D.str a, D.str b].any fun y => eqF y (.str w)) := .seq rfl rfl rfl
  have e : ([D.str a, D.str b].any fun y => eqF y (.str w)) = (decide (w = a) || decide (w = b)) := by
    have q : ∀ x : Str, eqF (.str x) (.str w) = decide (w = x) := fun x => by
      show (x == w) = _
      by_cases hx : w = x
      · subst hx; simp
      · have : ¬ x = w := fun z => hx z.symm
        simp [hx, this]
    simp only [List.any_cons, List.any_nil, q, Bool.or_false]
  rw [e] at h
  exact h
theorem dts_oneE {X : Cx} {ct : Nat → Addr} {Γ : Gm} {μ μ1 : Mu} {c : Expr} {k k' : Bool} (h : DT X ct Γ μ c k μ1) (q : k = k' := by rfl) : DTs X ct [c] Γ μ k' μ1 := q ▸ dts_one h
theorem atI_lt {α : Type} {l : List α} {i : Int} (h0 : 0 ≤ i) (h : i.toNat < l.length) : atI l i = some l[i.toNat] := by
  have := atI_nat (xs := l) (j := i.toNat) (List.getElem?_eq_getElem h)
  rwa [Int.toNat_of_nonneg h0] at this
theorem ixN_lt {n : Nat} {i : Int} (h0 : 0 ≤ i) (h : i.toNat < n) : ixN n i = some i.toNat := by
  unfold ixN
  rw [if_pos h0, if_pos (by omega)]
end DL
namespace Lw
open PySem PySem.Spec PyProof.Rows L2 DL
def evWords : List Str := ["borrow", "word", "cut", "back", "crash", "stop", "join"]
def Ev.Ok : Ev → Prop
  | .pass => True
  | .act w _ => w ∈ evWords
theorem o2_evPass {X : Cx} {ct : Nat → Addr} {μ : Mu} {e : Ev} (hu : X.A.units + 64 < cLine) (ok : e.Ok) : O2 X ct (compareOp .Eq) μ e.D (.tup [.str "pass"]) (.bl e.isPass) := by
  cases e with
  | pass => exact o2_eqD (pa := .tuple [.str "pass"]) (pb := .tuple [.str "pass"]) hu rfl rfl (by decide +kernel) (by decide +kernel)
  | act w u =>
    have h := o2_eqD (X := X) (ct := ct) (μ := μ) (da := .tup [.str w, .int u]) (db := .tup [.str "pass"]) hu rfl rfl (by
      unfold SeqAt.shaped
      simp only [PyData.canLay0, PyData.canLayAll0, PyData.depth, PyData.depthAll]
      have : ∀ w ∈ evWords, PyData.strOk w = true := by decide +kernel
      rw [this w ok]; rfl) (by decide +kernel)
    rw [show PyData.eqv (.tuple [.str w, .int u]) (.tuple [.str "pass"]) = false by simp [PyData.eqv, PyData.eqvAll]] at h
    exact h
end Lw

/-! # Deeds, plain -/
namespace Lw
open PySem PySem.Spec PyProof.Rows L2 DL
theorem older_len (us : List (Int × (Int × Int))) : ∀ (l : List Int) (acc : List (Int × (Int × Int))), (l.foldl (older us) acc).length ≤ acc.length + l.length
  | [], acc => by simp
  | u :: l, acc => by
    have ih := older_len us l (older us acc u)
    have : (older us acc u).length ≤ acc.length + 1 := by
      unfold older
      split
      · exact aput_len _ _ _
      · omega
    simp only [List.foldl_cons, List.length_cons]
    omega
theorem sz_moment {r : RL} {s : LS} {n : Nat} (h : s.Sz n) : (lmoment r s).1.Sz n := by
  refine ⟨?_, by simpa [lmoment] using h.kp, h.ct⟩
  have := older_len s.us (s.us.map (·.1)) []
  have hu := h.us
  show ((s.us.map (·.1)).foldl (older s.us) []).length ≤ n
  simp at this
  omega
theorem LS.Sz.mono {s : LS} {n m : Nat} (h : s.Sz n) (l : n ≤ m) : s.Sz m := ⟨Nat.le_trans h.us l, Nat.le_trans h.kp l, Nat.le_trans h.ct l⟩
theorem sz_behind {r : RL} {s : LS} {n : Nat} (h : s.Sz n) (e : Ev) : (lbehind r s e).1.Sz (n + 1) := by
  cases e with
  | pass => exact (sz_moment h).mono (Nat.le_succ n)
  | act w u =>
    have h' := h.mono (Nat.le_succ n)
    have h1 := h.us
    have h2 := h.ct
    have hp := h'.kp
    simp only [lbehind]
    cases (decide (w = "borrow") && ((kseat s.kp u).isNone && (frees s.kp).isEmpty)) with
    | true => exact h'
    | false =>
      cases (decide (w = "borrow") || decide (w = "word") && (kseat s.kp u).isSome) with
      | true => exact ⟨Nat.le_trans (aput_len _ _ _) (by omega), by simpa using hp, h'.ct⟩
      | false =>
        cases decide (w = "cut") with
        | true => exact ⟨h'.us, hp, by simp; omega⟩
        | false =>
          cases decide (w = "join") with
          | true => exact ⟨h'.us, hp, Nat.le_trans (List.length_filter_le _ _) h'.ct⟩
          | false =>
            refine ⟨Nat.le_trans (adel_len _ _) h'.us, ?_, h'.ct⟩
            show (bif _ then _ else _ : List (Option (Int × Int))).length ≤ n + 1
            cases (decide (w = "back") && (kseat s.kp u).isSome) with
            | true => simpa using hp
            | false => exact hp
def Ev.word : Ev → Str
  | .pass => "pass"
  | .act w _ => w
/-- deeds: a write is an act, too -/
def Ev.OkD (e : Ev) : Prop := e.Ok ∨ ∃ u, e = .act "write" u
def isWrite : Ev → Bool
  | .pass => false
  | .act w _ => decide (w = "write")
def lposs (r : RL) : LS → List Ev → Bool
  | _, [] => true
  | s, e :: es => match e with
    | .act w u => if w = "write" then (if (aget s.us u).isSome = true then lposs r s es else false) else (if lcan r s e = true then lposs r (lbehind r s e).1 es else false)
    | .pass => if lcan r s e = true then lposs r (lbehind r s e).1 es else false
def seatOf (s : LS) (u : Int) : Option Int := (aget s.us u).map (·.1)
def leastF (form : Str) (told newest : Option Int) : Option Int := bif decide (form = "open") then none else bif decide (form = "highest") then told else newest
def ltakes (form : Str) (told newest : Option Int) (ticket : Int) : Bool := match leastF form told newest with
  | none => true
  | some l => decide (l ≤ ticket)
structure Row where
  at_ : Nat
  u : Int
  seat : Int
  tk : Int
  ok : Bool
def Row.D (x : Row) : D := .tup [.int (x.at_ : Nat), .int x.u, .int x.seat, .int x.tk, .bl x.ok]
structure WS where
  s : LS
  tk : List (Int × Int)
  many : Int
  found : List Row
  told : List (Option Int)
  newest : List (Option Int)
  taken : List (Option Int)
def wbegun (r : RL) : WS := ⟨lbegun r.s, [], 0, [], List.replicate r.s.toNat none, List.replicate r.s.toNat none, List.replicate r.s.toNat none⟩
def ogt (t : Int) : Option Int → Bool
  | none => true
  | some x => decide (x < t)
def wwrite (form : Str) (x : WS) (i : Nat) (u : Int) : WS :=
  let seat := ((aget x.s.us u).getD (0, 0)).1
  let ticket := (aget x.tk u).getD 0
  let ok := ltakes form (x.told.getD seat.toNat none) (x.newest.getD seat.toNat none) ticket
  ⟨x.s, x.tk, x.many, x.found ++ [⟨i, u, seat, ticket, ok⟩], x.told.set seat.toNat (bif ogt ticket (x.told.getD seat.toNat none) then some ticket else x.told.getD seat.toNat none), x.newest, x.taken.set seat.toNat (bif ok then some ticket else x.taken.getD seat.toNat none)⟩
def wled (r : RL) (x : WS) (e : Ev) : WS :=
  let s' := (lbehind r x.s e).1
  match e with
  | .pass => ⟨s', x.tk, x.many, x.found, x.told, x.newest, x.taken⟩
  | .act w u => match aget s'.us u with
    | some q => bif decide (w = "borrow") then ⟨s', aput x.tk u x.many, x.many + 1, x.found, x.told, x.newest.set q.1.toNat (some x.many), x.taken⟩ else ⟨s', x.tk, x.many, x.found, x.told, x.newest, x.taken⟩
    | none => ⟨s', x.tk, x.many, x.found, x.told, x.newest, x.taken⟩
def wstep (r : RL) (form : Str) (x : WS) (i : Nat) : Ev → WS
  | .pass => wled r x .pass
  | .act w u => if w = "write" then wwrite form x i u else wled r x (.act w u)
def wsteps (r : RL) (form : Str) : Nat → WS → List Ev → WS
  | _, x, [] => x
  | i, x, e :: es => wsteps r form (i + 1) (wstep r form x i e) es
/-- what the writing needs -/
def seatIn (x : WS) (q : Int) : Prop := 0 ≤ q ∧ q.toNat < x.told.length ∧ q.toNat < x.newest.length ∧ q.toNat < x.taken.length
def wok1 (r : RL) (x : WS) : Ev → Prop
  | .pass => lcan r x.s .pass = true
  | .act w u => if w = "write" then (∃ q, aget x.s.us u = some q ∧ seatIn x q.1) ∧ ∃ t, aget x.tk u = some t
    else w ∈ evWords ∧ lcan r x.s (.act w u) = true ∧ (w = "borrow" → ∀ q, aget (lbehind r x.s (.act w u)).1.us u = some q → seatIn x q.1)
def wok (r : RL) (form : Str) : Nat → WS → List Ev → Prop
  | _, _, [] => True
  | i, x, e :: es => wok1 r x e ∧ wok r form (i + 1) (wstep r form x i e) es
/-! ### what is met -/
structure MS where
  s : LS
  many : Int
  found : List (Str × Int)
  out : List (Int × Int)
  best : List (Int × Int)
def mbegun (r : RL) : MS := ⟨lbegun r.s, 0, [], [], []⟩
def sget (l : List (Str × Int)) (k : Str) : Option Int := (l.find? fun p => decide (p.1 = k)).map (·.2)
def sput (l : List (Str × Int)) (k : Str) (v : Int) : List (Str × Int) := if (l.any fun p => decide (p.1 = k)) = true then l.map (fun p => if p.1 = k then (p.1, v) else p) else l ++ [(k, v)]
def skD (l : List (Str × Int)) : List (Key × D) := l.map fun p => (.inr p.1, .int p.2)
def mkeep (l : List (Str × Int)) (k : Str) (i : Int) : List (Str × Int) := sput l k ((sget l k).getD i)
def mwrite (row : Row) (x : MS) (i : Nat) : MS :=
  let f1 := bif row.ok && decide (row.tk < (aget x.out row.seat).getD 0) then mkeep x.found "late" i else x.found
  let f2 := bif row.ok && decide (row.tk < (aget x.best row.seat).getD 0) then mkeep f1 "back" i else f1
  ⟨x.s, x.many, f2, x.out, aput x.best row.seat (bif row.ok then max ((aget x.best row.seat).getD 0) row.tk else (aget x.best row.seat).getD 0)⟩
def mled (r : RL) (x : MS) (e : Ev) : MS :=
  let s' := (lbehind r x.s e).1
  match e with
  | .pass => ⟨s', x.many, x.found, x.out, x.best⟩
  | .act w u => match aget s'.us u with
    | some q => bif decide (w = "borrow") then ⟨s', x.many + 1, x.found, aput x.out q.1 x.many, x.best⟩ else ⟨s', x.many, x.found, x.out, x.best⟩
    | none => ⟨s', x.many, x.found, x.out, x.best⟩
def rowAt (rows : List Row) (i : Nat) : Row := (rows.filter fun x => decide (x.at_ = i)).headD ⟨0, 0, 0, 0, false⟩
def mstep (r : RL) (rows : List Row) (x : MS) (i : Nat) : Ev → MS
  | .pass => mled r x .pass
  | .act w u => if w = "write" then mwrite (rowAt rows i) x i else mled r x (.act w u)
def msteps (r : RL) (rows : List Row) : Nat → MS → List Ev → MS
  | _, x, [] => x
  | i, x, e :: es => msteps r rows (i + 1) (mstep r rows x i e) es
def mok1 (r : RL) (rows : List Row) (x : MS) (i : Nat) : Ev → Prop
  | .pass => lcan r x.s .pass = true
  | .act w u => if w = "write" then (rows.filter fun x => decide (x.at_ = i)) ≠ [] ∧ ((rowAt rows i).ok = true → (aget x.out (rowAt rows i).seat).isSome = true)
    else w ∈ evWords ∧ lcan r x.s (.act w u) = true
def mok (r : RL) (rows : List Row) : Nat → MS → List Ev → Prop
  | _, _, [] => True
  | i, x, e :: es => mok1 r rows x i e ∧ mok r rows (i + 1) (mstep r rows x i e) es
end Lw

/-! ## The text by places, and what the head tells of it (printed by gen.py) -/
namespace Lw
open PySem PySem.Spec PyProof.Rows L2 DL
def topS (i : Nat) : Stmt := PySem.Challenge.pw_lapseseats_k78_told_rows_of_deeds.main.body.getD i (.Pass ⟨0, 0, 0, 0⟩)
abbrev s_is_integer : Stmt := topS 8
abbrev n_is_integer : List Str := ["value"]
theorem sc_is_integer : FnScope n_is_integer ["value"] (defScope s_is_integer) := ⟨rfl, rfl, rfl, by decide +kernel, rfl, by decide +kernel, by decide +kernel⟩
abbrev s_is_from : Stmt := topS 9
abbrev n_is_from : List Str := ["value", "least"]
theorem sc_is_from : FnScope n_is_from ["value", "least"] (defScope s_is_from) := ⟨rfl, rfl, rfl, by decide +kernel, rfl, by decide +kernel, by decide +kernel⟩
abbrev s_number_in : Stmt := topS 10
abbrev n_number_in : List Str := ["word", "most_digits", "sign"]
theorem sc_number_in : FnScope n_number_in ["word", "most_digits"] (defScope s_number_in) := ⟨rfl, rfl, rfl, by decide +kernel, rfl, by decide +kernel, by decide +kernel⟩
abbrev s_reach : Stmt := topS 12
abbrev n_reach : List Str := ["rule"]
theorem sc_reach : FnScope n_reach ["rule"] (defScope s_reach) := ⟨rfl, rfl, rfl, by decide +kernel, rfl, by decide +kernel, by decide +kernel⟩
abbrev s_calm_reach : Stmt := topS 13
abbrev n_calm_reach : List Str := ["rule"]
theorem sc_calm_reach : FnScope n_calm_reach ["rule"] (defScope s_calm_reach) := ⟨rfl, rfl, rfl, by decide +kernel, rfl, by decide +kernel, by decide +kernel⟩
abbrev s_alone_events : Stmt := topS 14
abbrev n_alone_events : List Str := ["rule", "cuts", "moment"]
theorem sc_alone_events : FnScope n_alone_events ["rule"] (defScope s_alone_events) := ⟨rfl, rfl, rfl, by decide +kernel, rfl, by decide +kernel, by decide +kernel⟩
abbrev s_can_meet : Stmt := topS 17
abbrev n_can_meet : List Str := ["rule", "users", "form", "fault"]
theorem sc_can_meet : FnScope n_can_meet ["rule", "users", "form", "fault"] (defScope s_can_meet) := ⟨rfl, rfl, rfl, by decide +kernel, rfl, by decide +kernel, by decide +kernel⟩
abbrev s_need_fault : Stmt := topS 18
abbrev n_need_fault : List Str := ["fault"]
theorem sc_need_fault : FnScope n_need_fault ["fault"] (defScope s_need_fault) := ⟨rfl, rfl, rfl, by decide +kernel, rfl, by decide +kernel, by decide +kernel⟩
abbrev s_store_faults : Stmt := topS 19
abbrev n_store_faults : List Str := ["rule", "users", "form", "fault"]
theorem sc_store_faults : FnScope n_store_faults ["rule", "users", "form"] (defScope s_store_faults) := ⟨rfl, rfl, rfl, by decide +kernel, rfl, by decide +kernel, by decide +kernel⟩
abbrev s_least_deeds : Stmt := topS 20
abbrev n_least_deeds : List Str := ["rule", "users", "form", "fault", "cuts"]
theorem sc_least_deeds : FnScope n_least_deeds ["rule", "users", "form", "fault"] (defScope s_least_deeds) := ⟨rfl, rfl, rfl, by decide +kernel, rfl, by decide +kernel, by decide +kernel⟩
abbrev s_store_deeds : Stmt := topS 21
abbrev n_store_deeds : List Str := ["rule", "users", "form", "fault", "newer"]
theorem sc_store_deeds : FnScope n_store_deeds ["rule", "users", "form", "fault"] (defScope s_store_deeds) := ⟨rfl, rfl, rfl, by decide +kernel, rfl, by decide +kernel, by decide +kernel⟩
abbrev s_least_for : Stmt := topS 25
abbrev n_least_for : List Str := ["word"]
theorem sc_least_for : FnScope n_least_for ["word"] (defScope s_least_for) := ⟨rfl, rfl, rfl, by decide +kernel, rfl, by decide +kernel, by decide +kernel⟩
abbrev s_Ruledd_initdd : Stmt := inClass (topS 26) 0
abbrev n_Ruledd_initdd : List Str := ["self", "seats", "lapse", "beat", "grace", "late", "given", "at", "word"]
theorem sc_Ruledd_initdd : FnScope n_Ruledd_initdd ["self", "seats", "lapse", "beat", "grace", "late"] (defScope s_Ruledd_initdd) := ⟨rfl, rfl, rfl, by decide +kernel, rfl, by decide +kernel, by decide +kernel⟩
abbrev s_Rule_numbers : Stmt := inClass (topS 26) 1
abbrev n_Rule_numbers : List Str := ["self"]
theorem sc_Rule_numbers : FnScope n_Rule_numbers ["self"] (defScope s_Rule_numbers) := ⟨rfl, rfl, rfl, by decide +kernel, rfl, by decide +kernel, by decide +kernel⟩
abbrev s_Rule_but : Stmt := inClass (topS 26) 2
abbrev n_Rule_but : List Str := ["self", "word", "number"]
theorem sc_Rule_but : FnScope n_Rule_but ["self", "word", "number"] (defScope s_Rule_but) := ⟨rfl, rfl, rfl, by decide +kernel, rfl, by decide +kernel, by decide +kernel⟩
abbrev s_Ruledd_eqdd : Stmt := inClass (topS 26) 4
abbrev n_Ruledd_eqdd : List Str := ["self", "other"]
theorem sc_Ruledd_eqdd : FnScope n_Ruledd_eqdd ["self", "other"] (defScope s_Ruledd_eqdd) := ⟨rfl, rfl, rfl, by decide +kernel, rfl, by decide +kernel, by decide +kernel⟩
abbrev s_Ruledd_strdd : Stmt := inClass (topS 26) 5
abbrev n_Ruledd_strdd : List Str := ["self", "head"]
theorem sc_Ruledd_strdd : FnScope n_Ruledd_strdd ["self"] (defScope s_Ruledd_strdd) := ⟨rfl, rfl, rfl, by decide +kernel, rfl, by decide +kernel, by decide +kernel⟩
abbrev s__law_box : Stmt := topS 28
abbrev n__law_box : List Str := ["script", "k", "own", "cell", "seed", "one"]
theorem sc__law_box : FnScope n__law_box ["script", "k", "own"] (defScope s__law_box) := ⟨rfl, rfl, rfl, by decide +kernel, rfl, by decide +kernel, by decide +kernel⟩
abbrev s__law_take : Stmt := topS 29
abbrev n__law_take : List Str := ["box", "limit", "digit"]
theorem sc__law_take : FnScope n__law_take ["box", "limit"] (defScope s__law_take) := ⟨rfl, rfl, rfl, by decide +kernel, rfl, by decide +kernel, by decide +kernel⟩
abbrev s__law_pick : Stmt := topS 30
abbrev n__law_pick : List Str := ["box", "some"]
theorem sc__law_pick : FnScope n__law_pick ["box", "some"] (defScope s__law_pick) := ⟨rfl, rfl, rfl, by decide +kernel, rfl, by decide +kernel, by decide +kernel⟩
abbrev s__law_ruled : Stmt := topS 31
abbrev n__law_ruled : List Str := ["given"]
theorem sc__law_ruled : FnScope n__law_ruled ["given"] (defScope s__law_ruled) := ⟨rfl, rfl, rfl, by decide +kernel, rfl, by decide +kernel, by decide +kernel⟩
abbrev s__law_begun : Stmt := topS 32
abbrev n__law_begun : List Str := ["given"]
theorem sc__law_begun : FnScope n__law_begun ["given"] (defScope s__law_begun) := ⟨rfl, rfl, rfl, by decide +kernel, rfl, by decide +kernel, by decide +kernel⟩
abbrev s__law_kept_seat : Stmt := topS 33
abbrev n__law_kept_seat : List Str := ["state", "user", "found", "seat", "pair"]
theorem sc__law_kept_seat : FnScope n__law_kept_seat ["state", "user"] (defScope s__law_kept_seat) := ⟨rfl, rfl, rfl, by decide +kernel, rfl, by decide +kernel, by decide +kernel⟩
abbrev s__law_can : Stmt := topS 34
abbrev n__law_can : List Str := ["given", "state", "event", "using", "kept", "cut", "user", "age", "word"]
theorem sc__law_can : FnScope n__law_can ["given", "state", "event"] (defScope s__law_can) := ⟨rfl, rfl, rfl, by decide +kernel, rfl, by decide +kernel, by decide +kernel⟩
abbrev s__law_moment : Stmt := topS 35
abbrev n__law_moment : List Str := ["given", "state", "using", "kept", "lost", "user", "pair", "is_lost"]
theorem sc__law_moment : FnScope n__law_moment ["given", "state"] (defScope s__law_moment) := ⟨rfl, rfl, rfl, by decide +kernel, rfl, by decide +kernel, by decide +kernel⟩
abbrev s__law_behind : Stmt := topS 36
abbrev n__law_behind : List Str := ["given", "state", "event", "later", "lost", "bad", "user", "word", "using", "kept", "cut", "seat", "met", "free", "at", "pair", "one"]
theorem sc__law_behind : FnScope n__law_behind ["given", "state", "event"] (defScope s__law_behind) := ⟨rfl, rfl, rfl, by decide +kernel, rfl, by decide +kernel, by decide +kernel⟩
abbrev s__law_faults : Stmt := topS 37
abbrev n__law_faults : List Str := ["given", "state", "met", "seats", "user", "found", "twice", "seat", "one"]
theorem sc__law_faults : FnScope n__law_faults ["given", "state", "met"] (defScope s__law_faults) := ⟨rfl, rfl, rfl, by decide +kernel, rfl, by decide +kernel, by decide +kernel⟩
abbrev s__law_seat_of : Stmt := topS 38
abbrev n__law_seat_of : List Str := ["state", "user"]
theorem sc__law_seat_of : FnScope n__law_seat_of ["state", "user"] (defScope s__law_seat_of) := ⟨rfl, rfl, rfl, by decide +kernel, rfl, by decide +kernel, by decide +kernel⟩
abbrev s__law_takes : Stmt := topS 39
abbrev n__law_takes : List Str := ["form", "told", "newest", "ticket", "least"]
theorem sc__law_takes : FnScope n__law_takes ["form", "told", "newest", "ticket"] (defScope s__law_takes) := ⟨rfl, rfl, rfl, by decide +kernel, rfl, by decide +kernel, by decide +kernel⟩
abbrev s__law_written : Stmt := topS 40
abbrev n__law_written : List Str := ["given", "form", "deeds", "state", "tickets", "many", "found", "told", "newest", "taken", "at", "deed", "seat", "ticket", "is_taken"]
theorem sc__law_written : FnScope n__law_written ["given", "form", "deeds"] (defScope s__law_written) := ⟨rfl, rfl, rfl, by decide +kernel, rfl, by decide +kernel, by decide +kernel⟩
abbrev s__law_met : Stmt := topS 41
abbrev n__law_met : List Str := ["given", "form", "deeds", "rows", "found", "given_out", "best", "state", "many", "at", "deed", "row", "one"]
theorem sc__law_met : FnScope n__law_met ["given", "form", "deeds"] (defScope s__law_met) := ⟨rfl, rfl, rfl, by decide +kernel, rfl, by decide +kernel, by decide +kernel⟩
abbrev s__law_are_possible : Stmt := topS 42
abbrev n__law_are_possible : List Str := ["given", "deeds", "state", "deed"]
theorem sc__law_are_possible : FnScope n__law_are_possible ["given", "deeds"] (defScope s__law_are_possible) := ⟨rfl, rfl, rfl, by decide +kernel, rfl, by decide +kernel, by decide +kernel⟩
abbrev s_law : Stmt := topS 43
abbrev n_law : List Str := ["script", "k", "box", "turn", "some", "number", "given", "users", "form", "rule", "fault", "deeds", "least", "high", "deed"]
theorem sc_law : FnScope n_law ["script"] (defScope s_law) := ⟨rfl, rfl, rfl, by decide +kernel, rfl, by decide +kernel, by decide +kernel⟩
def fa : List He.Fa := [.glo "is_integer", .glo "is_from", .glo "number_in", .glo "reach", .glo "calm_reach", .glo "alone_events", .glo "can_meet", .glo "need_fault", .glo "store_faults", .glo "least_deeds", .glo "store_deeds", .glo "least_for", .glo "_law_box", .glo "_law_take", .glo "_law_pick", .glo "_law_ruled", .glo "_law_begun", .glo "_law_kept_seat", .glo "_law_can", .glo "_law_moment", .glo "_law_behind", .glo "_law_faults", .glo "_law_seat_of", .glo "_law_takes", .glo "_law_written", .glo "_law_met", .glo "_law_are_possible", .glo "law", .glo "SeatError", .glo "InvalidRule", .glo "InvalidText", .glo "InvalidFault", .glo "Rule", .cls "Rule", .mkr "Rule", .meth "Rule" "numbers", .meth "Rule" "but", .noat "Rule" "seats", .noat "Rule" "lapse", .noat "Rule" "beat", .noat "Rule" "grace", .noat "Rule" "late", .free "abs", .free "all", .free "bool", .free "dict", .free "enumerate", .free "int", .free "isinstance", .free "len", .free "list", .free "max", .free "min", .free "range", .free "sorted", .free "str", .free "tuple", .glo "PASS", .glo "FAULTS", .glo "WORDS", .int "DIGITS" 7]
def fn : List He.DefD := [⟨("is_integer", none), "is_integer", "is_integer", defArgs s_is_integer, defBody s_is_integer, defScope s_is_integer, [], []⟩,
  ⟨("is_from", none), "is_from", "is_from", defArgs s_is_from, defBody s_is_from, defScope s_is_from, [], []⟩,
  ⟨("number_in", none), "number_in", "number_in", defArgs s_number_in, defBody s_number_in, defScope s_number_in, [], []⟩,
  ⟨("reach", none), "reach", "reach", defArgs s_reach, defBody s_reach, defScope s_reach, [], []⟩,
  ⟨("calm_reach", none), "calm_reach", "calm_reach", defArgs s_calm_reach, defBody s_calm_reach, defScope s_calm_reach, [], []⟩,
  ⟨("alone_events", none), "alone_events", "alone_events", defArgs s_alone_events, defBody s_alone_events, defScope s_alone_events, [], []⟩,
  ⟨("can_meet", none), "can_meet", "can_meet", defArgs s_can_meet, defBody s_can_meet, defScope s_can_meet, [], []⟩,
  ⟨("need_fault", none), "need_fault", "need_fault", defArgs s_need_fault, defBody s_need_fault, defScope s_need_fault, [], []⟩,
  ⟨("store_faults", none), "store_faults", "store_faults", defArgs s_store_faults, defBody s_store_faults, defScope s_store_faults, [], []⟩,
  ⟨("least_deeds", none), "least_deeds", "least_deeds", defArgs s_least_deeds, defBody s_least_deeds, defScope s_least_deeds, [], []⟩,
  ⟨("store_deeds", none), "store_deeds", "store_deeds", defArgs s_store_deeds, defBody s_store_deeds, defScope s_store_deeds, [], []⟩,
  ⟨("least_for", none), "least_for", "least_for", defArgs s_least_for, defBody s_least_for, defScope s_least_for, [], []⟩,
  ⟨("Rule", some "__init__"), "__init__", "Rule.__init__", defArgs s_Ruledd_initdd, defBody s_Ruledd_initdd, defScope s_Ruledd_initdd, [.int 0], []⟩,
  ⟨("Rule", some "numbers"), "numbers", "Rule.numbers", defArgs s_Rule_numbers, defBody s_Rule_numbers, defScope s_Rule_numbers, [], []⟩,
  ⟨("Rule", some "but"), "but", "Rule.but", defArgs s_Rule_but, defBody s_Rule_but, defScope s_Rule_but, [], []⟩,
  ⟨("Rule", some "__eq__"), "__eq__", "Rule.__eq__", defArgs s_Ruledd_eqdd, defBody s_Ruledd_eqdd, defScope s_Ruledd_eqdd, [], []⟩,
  ⟨("Rule", some "__str__"), "__str__", "Rule.__str__", defArgs s_Ruledd_strdd, defBody s_Ruledd_strdd, defScope s_Ruledd_strdd, [], []⟩,
  ⟨("_law_box", none), "_law_box", "_law_box", defArgs s__law_box, defBody s__law_box, defScope s__law_box, [], []⟩,
  ⟨("_law_take", none), "_law_take", "_law_take", defArgs s__law_take, defBody s__law_take, defScope s__law_take, [], []⟩,
  ⟨("_law_pick", none), "_law_pick", "_law_pick", defArgs s__law_pick, defBody s__law_pick, defScope s__law_pick, [], []⟩,
  ⟨("_law_ruled", none), "_law_ruled", "_law_ruled", defArgs s__law_ruled, defBody s__law_ruled, defScope s__law_ruled, [], []⟩,
  ⟨("_law_begun", none), "_law_begun", "_law_begun", defArgs s__law_begun, defBody s__law_begun, defScope s__law_begun, [], []⟩,
  ⟨("_law_kept_seat", none), "_law_kept_seat", "_law_kept_seat", defArgs s__law_kept_seat, defBody s__law_kept_seat, defScope s__law_kept_seat, [], []⟩,
  ⟨("_law_can", none), "_law_can", "_law_can", defArgs s__law_can, defBody s__law_can, defScope s__law_can, [], []⟩,
  ⟨("_law_moment", none), "_law_moment", "_law_moment", defArgs s__law_moment, defBody s__law_moment, defScope s__law_moment, [], []⟩,
  ⟨("_law_behind", none), "_law_behind", "_law_behind", defArgs s__law_behind, defBody s__law_behind, defScope s__law_behind, [], []⟩,
  ⟨("_law_faults", none), "_law_faults", "_law_faults", defArgs s__law_faults, defBody s__law_faults, defScope s__law_faults, [], []⟩,
  ⟨("_law_seat_of", none), "_law_seat_of", "_law_seat_of", defArgs s__law_seat_of, defBody s__law_seat_of, defScope s__law_seat_of, [], []⟩,
  ⟨("_law_takes", none), "_law_takes", "_law_takes", defArgs s__law_takes, defBody s__law_takes, defScope s__law_takes, [], []⟩,
  ⟨("_law_written", none), "_law_written", "_law_written", defArgs s__law_written, defBody s__law_written, defScope s__law_written, [], []⟩,
  ⟨("_law_met", none), "_law_met", "_law_met", defArgs s__law_met, defBody s__law_met, defScope s__law_met, [], []⟩,
  ⟨("_law_are_possible", none), "_law_are_possible", "_law_are_possible", defArgs s__law_are_possible, defBody s__law_are_possible, defScope s__law_are_possible, [], []⟩,
  ⟨("law", none), "law", "law", defArgs s_law, defBody s_law, defScope s_law, [], []⟩]
def xbl (K : PySem.W.Frag) : List Bool := [He.tupB K "PASS" [.str "pass"], He.tupB K "FAULTS" [.str "back", .str "late"], He.tupB K "WORDS" [.str "seats", .str "lapse", .str "beat", .str "grace", .str "late"]]
def xb (K : PySem.W.Frag) : Bool := (xbl K).all id
def ct (K : PySem.W.Frag) : Nat → Addr
  | 0 => He.ga K "Rule"
  | 1 => He.ga K "Stand"
  | 2 => He.ga K "Store"
  | 3 => He.ga K "Day"
  | 4 => He.ga K "Played"
  | 5 => He.ga K "Live"
  | 6 => He.ga K "Desk"
  | 7 => He.ga K "Trial"
  | 8 => He.ga K "SeatError"
  | 9 => He.ga K "InvalidRule"
  | 10 => He.ga K "InvalidDay"
  | 11 => He.ga K "InvalidText"
  | 12 => He.ga K "InvalidFault"
  | 13 => He.ga K "InvalidLog"
  | 14 => He.ga K "InvalidCommand"
  | 15 => He.ga K "Refused"
  | _ => 0
structure Tx (K : PySem.W.Frag) (mg : Str → Option Value) : Prop where
  ex : ∃ h : Heap, K.In h ∧ h.Ns mainGlobals mg ∧ SaysX fa fn xb K
section
variable {K : PySem.W.Frag} {mg : Str → Option Value}
theorem Tx.def_ (T : Tx K mg) (i : Nat) {d : He.DefD} (h : fn[i]? = some d := by rfl) : ∃ fd, FunD K d.name d.qual d.params d.body d.scope (d.dvs K) (d.kws K) (He.fAd K d.at_) fd := let ⟨_, _, _, c⟩ := T.ex; c.def_ i h
theorem Tx.glo (T : Tx K mg) (i : Nat) {x : Str} (h : fa[i]? = some (.glo x) := by rfl) : mg x = some (.ref (He.ga K x)) := let ⟨_, X, G, c⟩ := T.ex; He.glo_ok X G (c.fact i h)
theorem Tx.free (T : Tx K mg) (i : Nat) {x : Str} (h : fa[i]? = some (.free x) := by rfl) : mg x = none := let ⟨_, X, G, c⟩ := T.ex; He.free_ok X G (c.fact i h)
theorem Tx.cls (T : Tx K mg) (i : Nat) {x : Str} (h : fa[i]? = some (.cls x) := by rfl) : Cls K (He.ga K x) := let ⟨_, _, _, c⟩ := T.ex; He.cls_ok (c.fact i h)
theorem Tx.mkr (T : Tx K mg) (i : Nat) {x : Str} (h : fa[i]? = some (.mkr x) := by rfl) : Mk K (He.ga K x) (He.ma K (He.ga K x) "__init__") := let ⟨_, _, _, c⟩ := T.ex; He.mkr_ok (c.fact i h)
theorem Tx.meth (T : Tx K mg) (i : Nat) {x m : Str} (h : fa[i]? = some (.meth x m) := by rfl) : Meth K (He.ga K x) m (He.ma K (He.ga K x) m) := let ⟨_, _, _, c⟩ := T.ex; He.meth_ok (c.fact i h)
theorem Tx.noat (T : Tx K mg) (i : Nat) {x f : Str} (h : fa[i]? = some (.noat x f) := by rfl) : NoAttr K (He.ga K x) f := let ⟨_, _, _, c⟩ := T.ex; He.noat_ok (c.fact i h)
theorem Tx.xb (T : Tx K mg) (i : Nat) {b : Bool} (h : (xbl K)[i]? = some b := by rfl) : b = true := let ⟨_, _, _, c⟩ := T.ex; List.all_eq_true.mp (show (xbl K).all id = true from c.x) b (List.mem_of_getElem? h)
theorem Tx.intC (T : Tx K mg) (i : Nat) {x : Str} {z : Int} (h : fa[i]? = some (.int x z) := by rfl) : GlC K (ct K) mg x (.int z) := let ⟨_, X, G, c⟩ := T.ex; let ⟨t, e⟩ := He.int_ok X G (c.fact i h); ⟨_, .int z, e, ⟨t, rfl⟩, fun _ _ => .int z⟩
theorem Tx.strC (T : Tx K mg) (i : Nat) {x z : Str} (h : fa[i]? = some (.str x z) := by rfl) : GlC K (ct K) mg x (.str z) := let ⟨_, X, G, c⟩ := T.ex; let ⟨t, e⟩ := He.str_ok X G (c.fact i h); ⟨_, .str z, e, ⟨t, rfl⟩, fun _ _ => .str z⟩
theorem d_is_integer (T : Tx K mg) : ∃ fd, FunD K "is_integer" "is_integer" (defArgs s_is_integer) (defBody s_is_integer) (defScope s_is_integer) [] [] (He.fAd K ("is_integer", none)) fd := T.def_ 0
theorem m_is_integer (T : Tx K mg) : mg "is_integer" = some (.ref (He.ga K "is_integer")) := T.glo 0
theorem d_is_from (T : Tx K mg) : ∃ fd, FunD K "is_from" "is_from" (defArgs s_is_from) (defBody s_is_from) (defScope s_is_from) [] [] (He.fAd K ("is_from", none)) fd := T.def_ 1
theorem m_is_from (T : Tx K mg) : mg "is_from" = some (.ref (He.ga K "is_from")) := T.glo 1
theorem d_number_in (T : Tx K mg) : ∃ fd, FunD K "number_in" "number_in" (defArgs s_number_in) (defBody s_number_in) (defScope s_number_in) [] [] (He.fAd K ("number_in", none)) fd := T.def_ 2
theorem m_number_in (T : Tx K mg) : mg "number_in" = some (.ref (He.ga K "number_in")) := T.glo 2
theorem d_reach (T : Tx K mg) : ∃ fd, FunD K "reach" "reach" (defArgs s_reach) (defBody s_reach) (defScope s_reach) [] [] (He.fAd K ("reach", none)) fd := T.def_ 3
theorem m_reach (T : Tx K mg) : mg "reach" = some (.ref (He.ga K "reach")) := T.glo 3
theorem d_calm_reach (T : Tx K mg) : ∃ fd, FunD K "calm_reach" "calm_reach" (defArgs s_calm_reach) (defBody s_calm_reach) (defScope s_calm_reach) [] [] (He.fAd K ("calm_reach", none)) fd := T.def_ 4
theorem m_calm_reach (T : Tx K mg) : mg "calm_reach" = some (.ref (He.ga K "calm_reach")) := T.glo 4
theorem d_alone_events (T : Tx K mg) : ∃ fd, FunD K "alone_events" "alone_events" (defArgs s_alone_events) (defBody s_alone_events) (defScope s_alone_events) [] [] (He.fAd K ("alone_events", none)) fd := T.def_ 5
theorem m_alone_events (T : Tx K mg) : mg "alone_events" = some (.ref (He.ga K "alone_events")) := T.glo 5
theorem d_can_meet (T : Tx K mg) : ∃ fd, FunD K "can_meet" "can_meet" (defArgs s_can_meet) (defBody s_can_meet) (defScope s_can_meet) [] [] (He.fAd K ("can_meet", none)) fd := T.def_ 6
theorem m_can_meet (T : Tx K mg) : mg "can_meet" = some (.ref (He.ga K "can_meet")) := T.glo 6
theorem d_need_fault (T : Tx K mg) : ∃ fd, FunD K "need_fault" "need_fault" (defArgs s_need_fault) (defBody s_need_fault) (defScope s_need_fault) [] [] (He.fAd K ("need_fault", none)) fd := T.def_ 7
theorem m_need_fault (T : Tx K mg) : mg "need_fault" = some (.ref (He.ga K "need_fault")) := T.glo 7
theorem d_store_faults (T : Tx K mg) : ∃ fd, FunD K "store_faults" "store_faults" (defArgs s_store_faults) (defBody s_store_faults) (defScope s_store_faults) [] [] (He.fAd K ("store_faults", none)) fd := T.def_ 8
theorem m_store_faults (T : Tx K mg) : mg "store_faults" = some (.ref (He.ga K "store_faults")) := T.glo 8
theorem d_least_deeds (T : Tx K mg) : ∃ fd, FunD K "least_deeds" "least_deeds" (defArgs s_least_deeds) (defBody s_least_deeds) (defScope s_least_deeds) [] [] (He.fAd K ("least_deeds", none)) fd := T.def_ 9
theorem m_least_deeds (T : Tx K mg) : mg "least_deeds" = some (.ref (He.ga K "least_deeds")) := T.glo 9
theorem d_store_deeds (T : Tx K mg) : ∃ fd, FunD K "store_deeds" "store_deeds" (defArgs s_store_deeds) (defBody s_store_deeds) (defScope s_store_deeds) [] [] (He.fAd K ("store_deeds", none)) fd := T.def_ 10
theorem m_store_deeds (T : Tx K mg) : mg "store_deeds" = some (.ref (He.ga K "store_deeds")) := T.glo 10
theorem d_least_for (T : Tx K mg) : ∃ fd, FunD K "least_for" "least_for" (defArgs s_least_for) (defBody s_least_for) (defScope s_least_for) [] [] (He.fAd K ("least_for", none)) fd := T.def_ 11
theorem m_least_for (T : Tx K mg) : mg "least_for" = some (.ref (He.ga K "least_for")) := T.glo 11
theorem d_Ruledd_initdd (T : Tx K mg) : ∃ fd, FunD K "__init__" "Rule.__init__" (defArgs s_Ruledd_initdd) (defBody s_Ruledd_initdd) (defScope s_Ruledd_initdd) [.int 0] [] (He.fAd K ("Rule", some "__init__")) fd := T.def_ 12
theorem d_Rule_numbers (T : Tx K mg) : ∃ fd, FunD K "numbers" "Rule.numbers" (defArgs s_Rule_numbers) (defBody s_Rule_numbers) (defScope s_Rule_numbers) [] [] (He.fAd K ("Rule", some "numbers")) fd := T.def_ 13
theorem d_Rule_but (T : Tx K mg) : ∃ fd, FunD K "but" "Rule.but" (defArgs s_Rule_but) (defBody s_Rule_but) (defScope s_Rule_but) [] [] (He.fAd K ("Rule", some "but")) fd := T.def_ 14
theorem d_Ruledd_eqdd (T : Tx K mg) : ∃ fd, FunD K "__eq__" "Rule.__eq__" (defArgs s_Ruledd_eqdd) (defBody s_Ruledd_eqdd) (defScope s_Ruledd_eqdd) [] [] (He.fAd K ("Rule", some "__eq__")) fd := T.def_ 15
theorem d_Ruledd_strdd (T : Tx K mg) : ∃ fd, FunD K "__str__" "Rule.__str__" (defArgs s_Ruledd_strdd) (defBody s_Ruledd_strdd) (defScope s_Ruledd_strdd) [] [] (He.fAd K ("Rule", some "__str__")) fd := T.def_ 16
theorem d__law_box (T : Tx K mg) : ∃ fd, FunD K "_law_box" "_law_box" (defArgs s__law_box) (defBody s__law_box) (defScope s__law_box) [] [] (He.fAd K ("_law_box", none)) fd := T.def_ 17
theorem m__law_box (T : Tx K mg) : mg "_law_box" = some (.ref (He.ga K "_law_box")) := T.glo 12
theorem d__law_take (T : Tx K mg) : ∃ fd, FunD K "_law_take" "_law_take" (defArgs s__law_take) (defBody s__law_take) (defScope s__law_take) [] [] (He.fAd K ("_law_take", none)) fd := T.def_ 18
theorem m__law_take (T : Tx K mg) : mg "_law_take" = some (.ref (He.ga K "_law_take")) := T.glo 13
theorem d__law_pick (T : Tx K mg) : ∃ fd, FunD K "_law_pick" "_law_pick" (defArgs s__law_pick) (defBody s__law_pick) (defScope s__law_pick) [] [] (He.fAd K ("_law_pick", none)) fd := T.def_ 19
theorem m__law_pick (T : Tx K mg) : mg "_law_pick" = some (.ref (He.ga K "_law_pick")) := T.glo 14
theorem d__law_ruled (T : Tx K mg) : ∃ fd, FunD K "_law_ruled" "_law_ruled" (defArgs s__law_ruled) (defBody s__law_ruled) (defScope s__law_ruled) [] [] (He.fAd K ("_law_ruled", none)) fd := T.def_ 20
theorem m__law_ruled (T : Tx K mg) : mg "_law_ruled" = some (.ref (He.ga K "_law_ruled")) := T.glo 15
theorem d__law_begun (T : Tx K mg) : ∃ fd, FunD K "_law_begun" "_law_begun" (defArgs s__law_begun) (defBody s__law_begun) (defScope s__law_begun) [] [] (He.fAd K ("_law_begun", none)) fd := T.def_ 21
theorem m__law_begun (T : Tx K mg) : mg "_law_begun" = some (.ref (He.ga K "_law_begun")) := T.glo 16
theorem d__law_kept_seat (T : Tx K mg) : ∃ fd, FunD K "_law_kept_seat" "_law_kept_seat" (defArgs s__law_kept_seat) (defBody s__law_kept_seat) (defScope s__law_kept_seat) [] [] (He.fAd K ("_law_kept_seat", none)) fd := T.def_ 22
theorem m__law_kept_seat (T : Tx K mg) : mg "_law_kept_seat" = some (.ref (He.ga K "_law_kept_seat")) := T.glo 17
theorem d__law_can (T : Tx K mg) : ∃ fd, FunD K "_law_can" "_law_can" (defArgs s__law_can) (defBody s__law_can) (defScope s__law_can) [] [] (He.fAd K ("_law_can", none)) fd := T.def_ 23
theorem m__law_can (T : Tx K mg) : mg "_law_can" = some (.ref (He.ga K "_law_can")) := T.glo 18
theorem d__law_moment (T : Tx K mg) : ∃ fd, FunD K "_law_moment" "_law_moment" (defArgs s__law_moment) (defBody s__law_moment) (defScope s__law_moment) [] [] (He.fAd K ("_law_moment", none)) fd := T.def_ 24
theorem m__law_moment (T : Tx K mg) : mg "_law_moment" = some (.ref (He.ga K "_law_moment")) := T.glo 19
theorem d__law_behind (T : Tx K mg) : ∃ fd, FunD K "_law_behind" "_law_behind" (defArgs s__law_behind) (defBody s__law_behind) (defScope s__law_behind) [] [] (He.fAd K ("_law_behind", none)) fd := T.def_ 25
theorem m__law_behind (T : Tx K mg) : mg "_law_behind" = some (.ref (He.ga K "_law_behind")) := T.glo 20
theorem d__law_faults (T : Tx K mg) : ∃ fd, FunD K "_law_faults" "_law_faults" (defArgs s__law_faults) (defBody s__law_faults) (defScope s__law_faults) [] [] (He.fAd K ("_law_faults", none)) fd := T.def_ 26
theorem m__law_faults (T : Tx K mg) : mg "_law_faults" = some (.ref (He.ga K "_law_faults")) := T.glo 21
theorem d__law_seat_of (T : Tx K mg) : ∃ fd, FunD K "_law_seat_of" "_law_seat_of" (defArgs s__law_seat_of) (defBody s__law_seat_of) (defScope s__law_seat_of) [] [] (He.fAd K ("_law_seat_of", none)) fd := T.def_ 27
theorem m__law_seat_of (T : Tx K mg) : mg "_law_seat_of" = some (.ref (He.ga K "_law_seat_of")) := T.glo 22
theorem d__law_takes (T : Tx K mg) : ∃ fd, FunD K "_law_takes" "_law_takes" (defArgs s__law_takes) (defBody s__law_takes) (defScope s__law_takes) [] [] (He.fAd K ("_law_takes", none)) fd := T.def_ 28
theorem m__law_takes (T : Tx K mg) : mg "_law_takes" = some (.ref (He.ga K "_law_takes")) := T.glo 23
theorem d__law_written (T : Tx K mg) : ∃ fd, FunD K "_law_written" "_law_written" (defArgs s__law_written) (defBody s__law_written) (defScope s__law_written) [] [] (He.fAd K ("_law_written", none)) fd := T.def_ 29
theorem m__law_written (T : Tx K mg) : mg "_law_written" = some (.ref (He.ga K "_law_written")) := T.glo 24
theorem d__law_met (T : Tx K mg) : ∃ fd, FunD K "_law_met" "_law_met" (defArgs s__law_met) (defBody s__law_met) (defScope s__law_met) [] [] (He.fAd K ("_law_met", none)) fd := T.def_ 30
theorem m__law_met (T : Tx K mg) : mg "_law_met" = some (.ref (He.ga K "_law_met")) := T.glo 25
theorem d__law_are_possible (T : Tx K mg) : ∃ fd, FunD K "_law_are_possible" "_law_are_possible" (defArgs s__law_are_possible) (defBody s__law_are_possible) (defScope s__law_are_possible) [] [] (He.fAd K ("_law_are_possible", none)) fd := T.def_ 31
theorem m__law_are_possible (T : Tx K mg) : mg "_law_are_possible" = some (.ref (He.ga K "_law_are_possible")) := T.glo 26
theorem d_law (T : Tx K mg) : ∃ fd, FunD K "law" "law" (defArgs s_law) (defBody s_law) (defScope s_law) [] [] (He.fAd K ("law", none)) fd := T.def_ 32
theorem m_law (T : Tx K mg) : mg "law" = some (.ref (He.ga K "law")) := T.glo 27
theorem m_SeatError (T : Tx K mg) : mg "SeatError" = some (.ref (He.ga K "SeatError")) := T.glo 28
theorem m_InvalidRule (T : Tx K mg) : mg "InvalidRule" = some (.ref (He.ga K "InvalidRule")) := T.glo 29
theorem m_InvalidText (T : Tx K mg) : mg "InvalidText" = some (.ref (He.ga K "InvalidText")) := T.glo 30
theorem m_InvalidFault (T : Tx K mg) : mg "InvalidFault" = some (.ref (He.ga K "InvalidFault")) := T.glo 31
theorem m_Rule (T : Tx K mg) : mg "Rule" = some (.ref (He.ga K "Rule")) := T.glo 32
theorem cl_Rule (T : Tx K mg) : Cls K (He.ga K "Rule") := T.cls 33
theorem mk_Rule (T : Tx K mg) : Mk K (He.ga K "Rule") (He.ma K (He.ga K "Rule") "__init__") := T.mkr 34
theorem me_Rule_numbers (T : Tx K mg) : Meth K (He.ga K "Rule") "numbers" (He.ma K (He.ga K "Rule") "numbers") := T.meth 35
theorem me_Rule_but (T : Tx K mg) : Meth K (He.ga K "Rule") "but" (He.ma K (He.ga K "Rule") "but") := T.meth 36
theorem fl_Rule_seats (T : Tx K mg) : FldOk K (ct K) 0 "seats" := ⟨cl_Rule T, T.noat 37⟩
theorem fl_Rule_lapse (T : Tx K mg) : FldOk K (ct K) 0 "lapse" := ⟨cl_Rule T, T.noat 38⟩
theorem fl_Rule_beat (T : Tx K mg) : FldOk K (ct K) 0 "beat" := ⟨cl_Rule T, T.noat 39⟩
theorem fl_Rule_grace (T : Tx K mg) : FldOk K (ct K) 0 "grace" := ⟨cl_Rule T, T.noat 40⟩
theorem fl_Rule_late (T : Tx K mg) : FldOk K (ct K) 0 "late" := ⟨cl_Rule T, T.noat 41⟩
theorem b_abs (T : Tx K mg) : mg "abs" = none := T.free 42
theorem b_all (T : Tx K mg) : mg "all" = none := T.free 43
theorem b_bool (T : Tx K mg) : mg "bool" = none := T.free 44
theorem b_dict (T : Tx K mg) : mg "dict" = none := T.free 45
theorem b_enumerate (T : Tx K mg) : mg "enumerate" = none := T.free 46
theorem b_int (T : Tx K mg) : mg "int" = none := T.free 47
theorem b_isinstance (T : Tx K mg) : mg "isinstance" = none := T.free 48
theorem b_len (T : Tx K mg) : mg "len" = none := T.free 49
theorem b_list (T : Tx K mg) : mg "list" = none := T.free 50
theorem b_max (T : Tx K mg) : mg "max" = none := T.free 51
theorem b_min (T : Tx K mg) : mg "min" = none := T.free 52
theorem b_range (T : Tx K mg) : mg "range" = none := T.free 53
theorem b_sorted (T : Tx K mg) : mg "sorted" = none := T.free 54
theorem b_str (T : Tx K mg) : mg "str" = none := T.free 55
theorem b_tuple (T : Tx K mg) : mg "tuple" = none := T.free 56
theorem c_PASS (T : Tx K mg) : GlC K (ct K) mg "PASS" (.tup [.str "pass"]) := glc_tup (T.glo 57) (T.xb 0) (.strs ["pass"])
theorem c_FAULTS (T : Tx K mg) : GlC K (ct K) mg "FAULTS" (.tup [.str "back", .str "late"]) := glc_tup (T.glo 58) (T.xb 1) (.strs ["back", "late"])
theorem c_WORDS (T : Tx K mg) : GlC K (ct K) mg "WORDS" (.tup [.str "seats", .str "lapse", .str "beat", .str "grace", .str "late"]) := glc_tup (T.glo 59) (T.xb 2) (.strs ["seats", "lapse", "beat", "grace", "late"])
theorem c_DIGITS (T : Tx K mg) : GlC K (ct K) mg "DIGITS" (.int 7) := T.intC 60
end
/-! the head -/
abbrev R : PySem.W.OpenRow := PySem.W.OpenLaw.row PySem.Challenge.rw_lapseseats_k78_told_rows_of_deeds
abbrev hk : PySem.W.Hook := hookX 5 fa fn xb
def ob (s : PySem.W.SharedT) : He.AlD := obsXG 5 fa fn xb (HandSHeadRun.getT s)
theorem ob_eq (s : PySem.W.SharedT) : ob s = hk.obs s.abs := obsXG_eq (HandSHeadRun.getT_eq s)
def others0 : List Str := ["_wall", "SeatError", "InvalidRule", "InvalidText", "InvalidFault", "PASS", "is_integer", "is_from", "number_in", "reach", "calm_reach", "alone_events", "FAULTS", "can_meet", "need_fault", "store_faults", "least_deeds", "store_deeds", "WORDS", "DIGITS", "least_for", "Rule", "_law_box", "_law_take", "_law_pick", "_law_ruled", "_law_begun", "_law_kept_seat", "_law_can", "_law_moment"]
def others1 : List Str := ["_law_behind", "_law_faults", "_law_seat_of", "_law_takes", "_law_written", "_law_met", "_law_are_possible"]
abbrev others : List Str := others0 ++ others1
abbrev ilaw : Nat := 43
end Lw

section
open PySem PySem.Spec PyProof.Rows L2 DL
local macro_rules | `(tactic| walk_at "o") => `(tactic| first | exact o2_add | exact o2_sub | exact o2_lt | exact o2_le | exact o2_gt | exact o2_ge | exact o2_eqI | exact o2_neI | exact o2_eqZ | exact o2_neZ | exact o2_eqB | exact o2_neB | exact o2_is rfl | exact o2_isnt rfl | exact o2_eqNil (hu64 ‹Room _ _›) | exact o2_neNil (hu64 ‹Room _ _›) | exact o2_eqS rfl rfl rfl | exact o2_neS rfl rfl rfl | exact o2_eqD (hu64 ‹Room _ _›) rfl rfl rfl rfl | exact o2_neD (hu64 ‹Room _ _›) rfl rfl rfl rfl | exact o2_mod (by first | decide | omega) | exact o2_fdiv (by walk_at "z") | exact o2_mul (by walk_at "z") | exact o2_catL (by walk_at "z") | exact o2_catT (by simp) (by walk_at "z"))
local macro_rules | `(tactic| walk_at "z") => `(tactic| first | exact sz_small (Nat.le_of_ble_eq_true rfl) | exact Nat.le_of_ble_eq_true rfl | assumption | exact ⟨by decide, by decide⟩ | exact Or.inr ⟨by decide, by decide⟩ | exact Or.inl ⟨by decide, by decide⟩ | omega | (simp; done) | (simp; omega))
local macro_rules | `(tactic| walk_at "p") => `(tactic| first | exact trivial | assumption | exact ⟨trivial, trivial⟩ | (simp; done) | omega)
local macro_rules | `(tactic| walk_at "i") => `(tactic| first | exact .dic .dicI | exact .dic .dicS | exact .dic (.cdI rfl) | exact .dic (.cdS rfl) | exact .ints rfl | exact .seq rfl rfl rfl)
local macro_rules | `(tactic| walk_at "x") => `(tactic| first | exact .tup rfl | exact .lst rfl | exact .scr rfl | exact .cell rfl rfl | exact .dicS rfl | exact .dicI (by assumption) | exact .lst (by assumption) | exact .tup (by assumption) | exact .cell rfl (by assumption) | exact .cdI rfl (by assumption))
local macro_rules | `(tactic| walk_at "l") => `(tactic| first | exact .cell rfl | exact .seq rfl | exact .str (by walk_at "z"))
local macro_rules | `(tactic| walk_at "s") => `(tactic| first | exact .cell rfl | exact .seq rfl)
local macro_rules | `(tactic| walk_at "ty") => `(tactic| rfl)
local macro_rules | `(tactic| walk_at "kit") => `(tactic| first | (refine kit_t ?_; decide +kernel) | (refine kit_f ?_; decide +kernel))
local macro_rules | `(tactic| walk_at "g") => `(tactic| repeat (first | exact GLe.nil | refine GLe.cons ?_ | refine GLe.any ?_))

namespace Lw
open PySem PySem.Spec PyProof.Rows L2 DL
/-! ### the rule -/
def ruleD (r : RL) : D := .ins 0 [("seats", .int r.s), ("lapse", .int r.l), ("beat", .int r.b), ("grace", .int r.g), ("late", .int r.t)]
structure RL.Ok (r : RL) : Prop where
  s : 1 ≤ r.s
  l : 1 ≤ r.l
  b : 1 ≤ r.b
  g : 1 ≤ r.g
  t : 0 ≤ r.t
  lz : r.l ≤ 100
  sz : r.s ≤ 100
section
variable {P : Program} {w : World} {K : PySem.W.Frag} {mg : Str → Option Value} {base : Heap}
def isIntD : D → Bool | .int _ => true | _ => false
theorem F_is_integer (T : Tx K mg) : PFn P w K mg base (ct K) "is_integer" 1 (fun (value : D) => [value]) (fun d => okD 0 d = true ∧ ∃ U, tyName d = some U) (fun d => .bl (isIntD d)) := by
  refine PFn.of (d_is_integer T) (m_is_integer T) sc_is_integer (fun _ _ _ _ _ _ us hl => match us, hl with | [_], _ => rfl) (fun _ => rfl) (fun _ h => ⟨by simp only [okDs, h.1]; rfl, rfl⟩) ?_
  rintro f cdv A outer s H E value hr ⟨-, U, ty⟩
  have g : ∀ k1 k2, kitB U "int" = some k1 → kitB U "bool" = some k2 → (k1 && !k2) = isIntD value → DSs (cxOf CX0 P w K mg base n_is_integer "is_integer" (defScope s_is_integer) f cdv A outer s H E).nox (ct K) (defBody s_is_integer) ([some value]) [] { nx := fun _ _ => D.non = .bl (isIntD value), rt := fun d2 _ => d2 = .bl (isIntD value) } := by
    intro k1 k2 h1 h2 h3
    exact ds_ret (de_and (de_isi (b_isinstance T) ty h1 (de_var 0) (de_tyint (b_int T))) (fun _ => de_one (de_not (de_isi (b_isinstance T) ty h2 (de_var 0) (de_tybool (b_bool T)))))) (by show D.bl _ = D.bl _; rw [h3])
  have h1 : ∃ k1, kitB U "int" = some k1 := by cases value <;> simp [tyName] at ty <;> subst ty <;> exact ⟨_, rfl⟩
  cases value <;> simp [tyName] at ty <;> subst ty
  all_goals first
    | exact g true false (by decide +kernel) (by decide +kernel) rfl
    | exact g true true (by decide +kernel) (by decide +kernel) rfl
    | exact g false false (by decide +kernel) (by decide +kernel) rfl
theorem F_is_from (T : Tx K mg) : PFn P w K mg base (ct K) "is_from" 2 (fun ((v, l) : Int × Int) => [.int v, .int l]) (fun _ => True) (fun (v, l) => .bl (decide (l ≤ v))) := by
  refine PFn.of (d_is_from T) (m_is_from T) sc_is_from (fun _ _ _ _ _ _ us hl => match us, hl with | [_, _], _ => rfl) (fun _ => rfl) (fun _ _ => ⟨rfl, rfl⟩) ?_
  rintro f cdv A outer s H E ⟨value, least⟩ hr -
  refine
    ds_ret (de_and (q_call (F_is_integer T) (da_cons (de_var 0) da_nil) (_) rfl ⟨rfl, _, rfl⟩) (fun h1 => (de_one (q_cmp (de_var 0) (de_var 1) (by walk_at "o"))))) (?_)
  simp [isIntD]
theorem F_reach (T : Tx K mg) : PFn P w K mg base (ct K) "reach" 1 (fun (rule) => [ruleD rule]) (fun _ => True) (fun r => .int (r.g + r.t)) := by
  refine PFn.of (d_reach T) (m_reach T) sc_reach (fun _ _ _ _ _ _ us hl => match us, hl with | [_], _ => rfl) (fun _ => rfl) (fun _ _ => ⟨rfl, rfl⟩) ?_
  rintro f cdv A outer s H E rule hr -
  -- 0 rule
  refine
    ds_ret (q_op (q_attr (de_var 0) (.ins (fl_Rule_grace T) rfl)) (q_attr (de_var 0) (.ins (fl_Rule_late T) rfl)) (by walk_at "o")) (?_)
  rfl
theorem F_calm_reach (T : Tx K mg) : PFn P w K mg base (ct K) "calm_reach" 1 (fun (rule) => [ruleD rule]) (fun _ => True) (fun r => .int (min r.b r.g + r.t)) := by
  refine PFn.of (d_calm_reach T) (m_calm_reach T) sc_calm_reach (fun _ _ _ _ _ _ us hl => match us, hl with | [_], _ => rfl) (fun _ => rfl) (fun _ _ => ⟨rfl, rfl⟩) ?_
  rintro f cdv A outer s H E rule hr -
  -- 0 rule
  refine
    ds_ret (q_op (de_min rfl (b_min T) (q_attr (de_var 0) (.ins (fl_Rule_beat T) rfl)) (q_attr (de_var 0) (.ins (fl_Rule_grace T) rfl))) (q_attr (de_var 0) (.ins (fl_Rule_late T) rfl)) (by walk_at "o")) (?_)
  rfl
def evD (w : Str) (u : Int) : D := .tup [.str w, .int u]
def passD : D := .tup [.str "pass"]
def aloneD (r : RL) : List D := evD "borrow" 0 :: ((bif decide (min r.b r.g + r.t < r.l) then [evD "cut" 0] else []) ++ List.replicate r.l.toNat passD)
end
end Lw

namespace Lw
section
variable {P : Program} {w : World} {K : PySem.W.Frag} {mg : Str → Option Value} {base : Heap}
theorem okDs_rep (n : Nat) (d : D) (k : Nat) (h : okD n d = true) : okDs n (List.replicate k d) = true := by
  induction k with
  | zero => rfl
  | succ k ih => simp only [List.replicate_succ, okDs, h, ih, Bool.and_self]
theorem ok_alone (r : RL) : okDs 0 (aloneD r) = true := by
  have h : okDs 0 (List.replicate r.l.toNat passD) = true := okDs_rep _ _ _ rfl
  unfold aloneD
  simp only [okDs, okDs_app, h]
  cases decide (min r.b r.g + r.t < r.l) <;> rfl
theorem alone_len (r : RL) : (aloneD r).length ≤ r.l.toNat + 2 := by
  unfold aloneD
  cases decide (min r.b r.g + r.t < r.l) <;> simp
theorem F_alone_events (T : Tx K mg) : PFn P w K mg base (ct K) "alone_events" 2 (fun (rule) => [ruleD rule]) RL.Ok (fun r => .lst (aloneD r)) := by
  refine PFn.of (d_alone_events T) (m_alone_events T) sc_alone_events (fun _ _ _ _ _ _ us hl => match us, hl with | [_], _ => rfl) (fun _ => rfl) (fun r _ => ⟨rfl, by simp only [okD]; exact ok_alone r⟩) ?_
  rintro f cdv A outer s H E rule hr ok
  have z1 : 0 ≤ rule.l := by have := ok.l; omega
  have z2 : rule.l ≤ 16777216 := by have := ok.lz; omega
  have z3 := alone_len rule
  have z4 : (aloneD rule).length ≤ sizeLine := sz_small (by have := ok.lz; omega)
  have e : (D.tup [.str "borrow", .int 0]) :: ((bif decide (min rule.b rule.g + rule.t < rule.l) then [D.tup [.str "cut", .int 0]] else []) ++ ((List.range rule.l.toNat).map (fun _ => passD) ++ [])) = aloneD rule := by
    unfold aloneD evD
    simp [List.map_const']
  -- 0 rule, 1 cuts, 2 moment
  refine
    ds_set 1 sc_alone_events.nd (q_ifL (qt_cmp (q_attr (de_var 0) (.ins (fl_Rule_lapse T) rfl)) (q_call (F_calm_reach T) (da_cons (de_var 0) da_nil) (_) rfl (by walk_at "p")) (by walk_at "o")) (fun h1 => (de_lst (da_cons (de_tup (da_cons (de_str) (da_cons (de_int) da_nil)) (by walk_at "z")) da_nil) (by walk_at "z"))) (fun h1 => (de_lst da_nil (by walk_at "z")))) <|
    ds_ret (de_lst (da_cons (de_tup (da_cons (de_str) (da_cons (de_int) da_nil)) (by walk_at "z")) (da_star (de_var 1) rfl (da_star (de_lcU [("moment", 2)] (List.range rule.l.toNat) (fun i => D.int (i : Nat)) (fun _ => passD) rfl sc_alone_events.nd (di_rangeM (b_range T) (q_attr (de_var 0) (.ins (fl_Rule_lapse T) rfl)) z1 z2) (blkOk_by (show blkC n_alone_events (defScope s_alone_events) _ _ = true by decide +kernel)) (fun z hz => ⟨_, (by simp), (fun s H C cl fp => (dg_name 2 sc_alone_events.nd)), (fun s H C cl fp => (de_glob (c_PASS T)))⟩)) rfl da_nil))) (by rw [e]; exact z4)) (?_)
  exact congrArg D.lst e
def canMeet (r : RL) (u : Int) (form fault : Str) : Bool := !(decide (r.g + r.t < r.l) || decide (u ≤ 1)) && (decide (form = "open") || (decide (form = "highest") && decide (fault = "late")))
theorem F_can_meet (T : Tx K mg) : PFn P w K mg base (ct K) "can_meet" 2 (fun ((rule, users, form, fault) : RL × Int × Str × Str) => [ruleD rule, .int users, .str form, .str fault]) (fun _ => True) (fun (r, u, fo, fa) => .bl (canMeet r u fo fa)) := by
  refine PFn.of (d_can_meet T) (m_can_meet T) sc_can_meet (fun _ _ _ _ _ _ us hl => match us, hl with | [_, _, _, _], _ => rfl) (fun _ => rfl) (fun _ _ => ⟨rfl, rfl⟩) ?_
  rintro f cdv A outer s H E ⟨rule, users, form, fault⟩ hr -
  -- 0 rule, 1 users, 2 form, 3 fault
  refine
    ds_if (dt_w (dw_or (qt_cmp (q_attr (de_var 0) (.ins (fl_Rule_lapse T) rfl)) (q_call (F_reach T) (da_cons (de_var 0) da_nil) (_) rfl (by walk_at "p")) (by walk_at "o")) (fun h2 => (dw_or1 (qt_cmp (de_var 1) (de_int) (by walk_at "o")))))) (fun h1 =>
      ds_ret (de_bl) (?_)) (fun h1 =>
      ds_nil <|
      ds_ret (de_or (q_cmp (de_var 2) (de_str) (by walk_at "o")) (fun h4 => (de_one (de_and (q_cmp (de_var 2) (de_str) (by walk_at "o")) (fun h3 => (de_one (q_cmp (de_var 3) (de_str) (by walk_at "o")))))))) (?_))
  · simp only [canMeet, h1]; rfl
  · simp only [canMeet, h1]; rfl
def okFault (fault : Str) : Prop := fault = "back" ∨ fault = "late"
theorem F_need_fault (T : Tx K mg) : PFn P w K mg base (ct K) "need_fault" 1 (fun (fault : Str) => [.str fault]) okFault (fun _ => .non) := by
  refine PFn.of (d_need_fault T) (m_need_fault T) sc_need_fault (fun _ _ _ _ _ _ us hl => match us, hl with | [_], _ => rfl) (fun _ => rfl) (fun _ _ => ⟨rfl, rfl⟩) ?_
  rintro f cdv A outer s H E fault hr ok
  -- 0 fault
  refine
    ds_if (dt_w (dw_or (dt_not (dt_val (q_isi (b_isinstance T) (de_var 0) (de_tystr (b_str T)) (by walk_at "ty") (by walk_at "kit")))) (fun h2 => (dw_or1 (qt_nin (de_var 0) (de_glob (c_FAULTS T)) (by walk_at "i")))))) (fun h1 => ?_) (fun h1 =>
      ds_nil <|
      ds_nil rfl)
  exfalso
  rcases ok with rfl | rfl <;> exact absurd h1 (by decide +kernel)
def faultsOf (r : RL) (u : Int) (form : Str) : List Str := (["back", "late"] : List Str).filter (canMeet r u form)
theorem F_store_faults (T : Tx K mg) : PFn P w K mg base (ct K) "store_faults" 3 (fun ((rule, users, form) : RL × Int × Str) => [ruleD rule, .int users, .str form]) (fun _ => True) (fun (r, u, fo) => .tup ((faultsOf r u fo).map .str)) := by
  refine PFn.of (d_store_faults T) (m_store_faults T) sc_store_faults (fun _ _ _ _ _ _ us hl => match us, hl with | [_, _, _], _ => rfl) (fun _ => rfl) (fun _ _ => ⟨rfl, by simp only [okD, okDs_all, List.all_map]; simp [okD]⟩) ?_
  rintro f cdv A outer s H E ⟨rule, users, form⟩ hr -
  -- 0 rule, 1 users, 2 form, 3 fault
  refine
    ds_ret (q_tuple (b_tuple T) (de_lcP [("fault", 3)] (["back", "late"] : List Str) D.str (canMeet rule users form) D.str rfl sc_store_faults.nd (di_seq (de_glob (c_FAULTS T)) rfl) (blkOk_by (show blkC n_store_faults (defScope s_store_faults) _ _ = true by decide +kernel)) (fun z hz => ⟨_, (by simp), (fun s H C cl fp => (dg_name 3 sc_store_faults.nd)), (fun s H C cl fp => (dts_one (dt_val (q_call (F_can_meet T) (da_cons (de_var 0) (da_cons (de_var 1) (da_cons (de_var 2) (da_cons (de_var 3) da_nil)))) (_, _, _, _) rfl (by walk_at "p"))))), (fun hk s H C cl fp => (de_var 3))⟩)) (by walk_at "s")) (?_)
  rfl
def leastOf (r : RL) (fault : Str) : Int := r.l + (bif decide (min r.b r.g + r.t < r.l) then 1 else 0) + (bif decide (fault = "back") then 4 else 3)
theorem F_least_deeds (T : Tx K mg) : PFn P w K mg base (ct K) "least_deeds" 3 (fun ((rule, users, form, fault) : RL × Int × Str × Str) => [ruleD rule, .int users, .str form, .str fault]) (fun (_, _, _, fault) => okFault fault) (fun (r, u, fo, fa) => bif canMeet r u fo fa then .int (leastOf r fa) else .non) := by
  refine PFn.of (d_least_deeds T) (m_least_deeds T) sc_least_deeds (fun _ _ _ _ _ _ us hl => match us, hl with | [_, _, _, _], _ => rfl) (fun _ => rfl) (fun (r, u, fo, fa) _ => ⟨rfl, by cases h : canMeet r u fo fa <;> simp only [h] <;> rfl⟩) ?_
  rintro f cdv A outer s H E ⟨rule, users, form, fault⟩ hr ok
  -- 0 rule, 1 users, 2 form, 3 fault, 4 cuts
  refine
    ds_expr (q_call (F_need_fault T) (da_cons (de_var 3) da_nil) (_) rfl ok) <|
    ds_if (dt_not (dt_val (q_call (F_can_meet T) (da_cons (de_var 0) (da_cons (de_var 1) (da_cons (de_var 2) (da_cons (de_var 3) da_nil)))) (_, _, _, _) rfl (by walk_at "p")))) (fun h1 =>
      ds_ret (de_non) (?_)) (fun h1 =>
      ds_nil <|
      ds_set 4 sc_least_deeds.nd (q_ifI (qt_cmp (q_attr (de_var 0) (.ins (fl_Rule_lapse T) rfl)) (q_call (F_calm_reach T) (da_cons (de_var 0) da_nil) (_) rfl (by walk_at "p")) (by walk_at "o")) (fun h2 => (de_int)) (fun h2 => (de_int))) <|
      ds_ret (q_op (q_op (q_attr (de_var 0) (.ins (fl_Rule_lapse T) rfl)) (de_var 4) (by walk_at "o")) (q_ifI (qt_cmp (de_var 3) (de_str) (by walk_at "o")) (fun h3 => (de_int)) (fun h3 => (de_int))) (by walk_at "o")) (?_))
  · simp at h1; simp [h1]
  · simp at h1; simp [h1, leastOf]
def deedsOf (r : RL) (fault : Str) : List D := aloneD r ++ (evD "borrow" 1 :: ((bif decide (fault = "back") then [evD "write" 1] else []) ++ [evD "write" 0]))
theorem F_store_deeds (T : Tx K mg) : PFn P w K mg base (ct K) "store_deeds" 3 (fun ((rule, users, form, fault) : RL × Int × Str × Str) => [ruleD rule, .int users, .str form, .str fault]) (fun (r, _, _, fault) => r.Ok ∧ okFault fault) (fun (r, u, fo, fa) => bif canMeet r u fo fa then .tup (deedsOf r fa) else .non) := by
  refine PFn.of (d_store_deeds T) (m_store_deeds T) sc_store_deeds (fun _ _ _ _ _ _ us hl => match us, hl with | [_, _, _, _], _ => rfl) (fun _ => rfl) (fun (r, u, fo, fa) _ => ⟨rfl, ?_⟩) ?_
  · cases h : canMeet r u fo fa <;> simp only [h, cond_true, cond_false] <;> simp only [okD, deedsOf, okDs_app, ok_alone]
    cases decide (fa = "back") <;> rfl
  rintro f cdv A outer s H E ⟨rule, users, form, fault⟩ hr ⟨ok, ok2⟩
  have z : (aloneD rule).length ≤ 102 := by have := alone_len rule; have := ok.lz; omega
  -- 0 rule, 1 users, 2 form, 3 fault, 4 newer
  refine
    ds_expr (q_call (F_need_fault T) (da_cons (de_var 3) da_nil) (_) rfl ok2) <|
    ds_if (dt_not (dt_val (q_call (F_can_meet T) (da_cons (de_var 0) (da_cons (de_var 1) (da_cons (de_var 2) (da_cons (de_var 3) da_nil)))) (_, _, _, _) rfl (by walk_at "p")))) (fun h1 =>
      ds_ret (de_non) (?_)) (fun h1 =>
      ds_nil <|
      ds_set 4 sc_store_deeds.nd (q_ifL (qt_cmp (de_var 3) (de_str) (by walk_at "o")) (fun h2 => (de_lst (da_cons (de_tup (da_cons (de_str) (da_cons (de_int) da_nil)) (by walk_at "z")) da_nil) (by walk_at "z"))) (fun h2 => (de_lst da_nil (by walk_at "z")))) <|
      ds_ret (de_tup (da_star (q_call (F_alone_events T) (da_cons (de_var 0) da_nil) (_) rfl ok) rfl (da_cons (de_tup (da_cons (de_str) (da_cons (de_int) da_nil)) (by walk_at "z")) (da_star (de_var 4) rfl (da_cons (de_tup (da_cons (de_str) (da_cons (de_int) da_nil)) (by walk_at "z")) da_nil)))) (?_)) (?_))
  · simp at h1; simp [h1]
  · refine sz_small ?_
    cases decide (fault = "back") <;> simp <;> omega
  · simp at h1; simp [h1, deedsOf, evD]
theorem F_least_for (T : Tx K mg) : PFn P w K mg base (ct K) "least_for" 1 (fun (word : Str) => [.str word]) (fun _ => True) (fun word => .int (bif decide (word = "late") then 0 else 1)) := by
  refine PFn.of (d_least_for T) (m_least_for T) sc_least_for (fun _ _ _ _ _ _ us hl => match us, hl with | [_], _ => rfl) (fun _ => rfl) (fun _ _ => ⟨rfl, rfl⟩) ?_
  rintro f cdv A outer s H E word hr -
  -- 0 word
  refine
    ds_ret (q_ifI (qt_cmp (de_var 0) (de_str) (by walk_at "o")) (fun h1 => (de_int)) (fun h1 => (de_int))) (?_)
  rfl
end
end Lw

namespace Lw
section
variable {P : Program} {w : World} {K : PySem.W.Frag} {mg : Str → Option Value} {base : Heap}
def wordsL : List (Nat × Str) := [(0, "seats"), (1, "lapse"), (2, "beat"), (3, "grace"), (4, "late")]
structure RL.Pos (r : RL) : Prop where
  s : 1 ≤ r.s
  l : 1 ≤ r.l
  b : 1 ≤ r.b
  g : 1 ≤ r.g
  t : 0 ≤ r.t
theorem rule_init (T : Tx K mg) (f : Addr) (cdv : Value) (A : Around) (outer : List Env) (s : Shared) (H : Hp) (E : XK) (r : RL) (hr : Room 2 (A.deeper (envOfC "Rule.__init__" (defScope s_Ruledd_initdd) s.heap.objs.size f cdv))) (ok : r.Pos) :
      DSs (cxOf CX0 P w K mg base n_Ruledd_initdd "Rule.__init__" (defScope s_Ruledd_initdd) f cdv A outer s H E).nox (ct K) (defBody s_Ruledd_initdd) [some (.ptr 0), some (.int r.s), some (.int r.l), some (.int r.b), some (.int r.g), some (.int r.t), none, none, none] [.ins 0 []]
        { nx := fun _ μ2 => μ2 = [.ins 0 [("seats", .int r.s), ("lapse", .int r.l), ("beat", .int r.b), ("grace", .int r.g), ("late", .int r.t)]] } := by
  refine
    ds_set 6 sc_Ruledd_initdd.nd (de_tup (da_cons (de_var 1) (da_cons (de_var 2) (da_cons (de_var 3) (da_cons (de_var 4) (da_cons (de_var 5) da_nil))))) (by walk_at "z")) <|
    ds_forJ (S := Unit) (fun p : Nat × Str => D.tup [.int (p.1 : Nat), .str p.2]) wordsL
      (fun _ => [some (.ptr 0), some (.int r.s), some (.int r.l), some (.int r.b), some (.int r.g), some (.int r.t), some (.tup [.int r.s, .int r.l, .int r.b, .int r.g, .int r.t]), none, none]) (fun _ => [.ins 0 []])
      (fun rest _ => ∀ p ∈ rest, ∃ v, atI [D.int r.s, D.int r.l, .int r.b, .int r.g, .int r.t] (p.1 : Nat) = some (.int v) ∧ (bif decide (p.2 = "late") then 0 else 1) ≤ v)
      (di_enum (b_enumerate T) (de_glob (c_WORDS T)) rfl) ⟨(), by walk_at "g", rfl, ?_⟩
      (fun a rs _ hJ => ?_) (fun _ _ =>
      ds_fld (fl_Rule_seats T) (de_var 1) (de_var 0) rfl (by walk_at "z") <|
      ds_fld (fl_Rule_lapse T) (de_var 2) (de_var 0) rfl (by walk_at "z") <|
      ds_fld (fl_Rule_beat T) (de_var 3) (de_var 0) rfl (by walk_at "z") <|
      ds_fld (fl_Rule_grace T) (de_var 4) (de_var 0) rfl (by walk_at "z") <|
      ds_fld (fl_Rule_late T) (de_var 5) (de_var 0) rfl (by walk_at "z") <|
      ds_nil rfl)
  · have e : ∀ i : Str, i ≠ "late" → decide (i = "late") = false := fun i h => by simp [h]
    intro p hp
    simp only [wordsL, List.mem_cons, List.not_mem_nil, or_false] at hp
    rcases hp with rfl | rfl | rfl | rfl | rfl
    · exact ⟨r.s, rfl, ok.s⟩
    · exact ⟨r.l, rfl, ok.l⟩
    · exact ⟨r.b, rfl, ok.b⟩
    · exact ⟨r.g, rfl, ok.g⟩
    · exact ⟨r.t, rfl, ok.t⟩
  · obtain ⟨v, h1, h2⟩ := hJ a List.mem_cons_self
    refine ⟨_, (dg_tup rfl (dgs_cons (dg_name 7 sc_Ruledd_initdd.nd) (dgs_cons (dg_name 8 sc_Ruledd_initdd.nd) dgs_nil))),
      ds_if (dt_not (dt_val (q_call (F_is_from T) (da_cons (q_ix (de_var 6) (de_var 7) (.tup h1)) (da_cons (q_call (F_least_for T) (da_cons (de_var 8) da_nil) (_) rfl (by walk_at "p")) da_nil)) (_, _) rfl (by walk_at "p")))) (fun h => ?_) (fun h1 =>
        ds_nil <|
        ds_nil ⟨(), by walk_at "g", rfl, fun p hp => hJ p (List.mem_cons_of_mem _ hp)⟩)⟩
    exfalso
    simp at h
    omega
theorem M_Rule5 (T : Tx K mg) : PMk P w K mg base (ct K) 0 "Rule" 3 (fun r : RL => [.int r.s, .int r.l, .int r.b, .int r.g, .int r.t]) RL.Pos (fun r => [("seats", .int r.s), ("lapse", .int r.l), ("beat", .int r.b), ("grace", .int r.g), ("late", .int r.t)]) := by
  refine PMk.of (dds := []) 1 (d_Ruledd_initdd T) rfl (mk_Rule T) (m_Rule T) sc_Ruledd_initdd (fun fd F => F.binds1 6 1 (by simp) rfl fun T kV doc pm an cdv ct us its h1 h2 => ?_) (fun _ _ => .nil) (fun _ => rfl) (fun r ok => ⟨rfl, rfl⟩) ?_
  · match us, its, h1, h2 with
    | [_, _, _, _, _, _], [_], _, _ => exact ⟨_, rfl, rfl⟩
  · intro f cdv A outer s H E a hr ok
    exact rule_init T f cdv A outer s H E a hr ok
theorem M_Rule4 (T : Tx K mg) : PMk P w K mg base (ct K) 0 "Rule" 3 (fun ((s, l, b, g) : Int × Int × Int × Int) => [.int s, .int l, .int b, .int g]) (fun (s, l, b, g) => 1 ≤ s ∧ 1 ≤ l ∧ 1 ≤ b ∧ 1 ≤ g) (fun (s, l, b, g) => [("seats", .int s), ("lapse", .int l), ("beat", .int b), ("grace", .int g), ("late", .int 0)]) := by
  refine PMk.of (dds := [.int 0]) 0 (d_Ruledd_initdd T) rfl (mk_Rule T) (m_Rule T) sc_Ruledd_initdd (fun fd F => F.binds1 5 0 (by simp) rfl fun T kV doc pm an cdv ct us its h1 h2 => ?_) (fun _ _ => .cons (.int 0) .nil) (fun _ => rfl) (fun r ok => ⟨rfl, rfl⟩) ?_
  · match us, its, h1, h2 with
    | [_, _, _, _, _], [_], _, _ => exact ⟨_, rfl, rfl⟩
  · rintro f cdv A outer s H E ⟨ss, l, b, g⟩ hr ⟨h1, h2, h3, h4⟩
    exact rule_init T f cdv A outer s H E ⟨ss, l, b, g, 0⟩ hr ⟨h1, h2, h3, h4, Int.le_refl 0⟩
end
end Lw

namespace Lw
section
variable {P : Program} {w : World} {K : PySem.W.Frag} {mg : Str → Option Value} {base : Heap}
theorem F__law_box (T : Tx K mg) : NFn P w K mg base (ct K) "_law_box" 1 (fun ((sc, k, own) : List Int × Nat × Int) => [.scr (sc.map .int), .int (k : Nat), .int own]) (fun (_, k, own) => k ≤ 100 ∧ 0 ≤ own ∧ own ≤ 1000) (fun (sc, k, own) => boxC (boxOf sc k own)) := by
  refine NFn.of (d__law_box T) (m__law_box T) sc__law_box (fun _ _ _ _ _ _ us hl => match us, hl with | [_, _, _], _ => rfl) (fun _ => rfl) (fun (sc, k, own) _ => ⟨by simp only [okDs, okD, ok_map 0 D.int (fun _ => rfl)]; rfl, rfl⟩) ?_
  rintro f cdv A outer s H E ⟨sc, k, own⟩ hr ⟨hk, ho, ho2⟩
  have e1 : (bif decide ((k : Int) < ((sc.map D.int).length : Nat)) then (if sc.getD k 0 < 0 then -sc.getD k 0 else sc.getD k 0) else 0) = cellOf sc k := by
    unfold cellOf
    by_cases h : k < sc.length
    · have h2 : (k : Int) < ((sc.map D.int).length : Nat) := by simpa using h
      rw [decide_eq_true h2]
      simp [h]
    · have h2 : ¬ (k : Int) < ((sc.map D.int).length : Nat) := by simpa using h
      rw [decide_eq_false h2]
      simp at h
      simp [h]
  have e2 : DL.cutD (sc.map D.int) none (some 40) = (sc.take 40).map D.int := by
    unfold DL.cutD
    have : HT.sIx (sc.map D.int).length (sc.map D.int).length (some 40) = min 40 sc.length := by simp [HT.sIx]
    rw [this, show HT.sIx (sc.map D.int).length 0 none = 0 from rfl]
    simp [List.map_take]
  -- 0 script, 1 k, 2 own, 3 cell, 4 seed, 5 one
  refine
    ds_set 3 sc__law_box.nd (de_eq (q_ifI (qt_cmp (de_var 1) (q_len (b_len T) (de_var 0) (by walk_at "l")) (by walk_at "o")) (fun h1 => (de_abs (i := sc.getD k 0) (b_abs T) (q_ix (de_var 0) (de_var 1) (.scr (by
      have h := of_decide_eq_true h1
      have h2 : k < sc.length := by simpa using h
      refine atI_nat ?_
      simp [h2]))))) (fun h1 => (de_int))) (congrArg D.int e1)) <|
    ds_set 4 sc__law_box.nd (q_op (q_op (q_op (de_int) (de_var 2) (o2_mul (.inl ⟨by decide, by decide⟩))) (q_op (de_int) (de_var 1) (o2_mul (.inl ⟨by decide, by decide⟩))) (by walk_at "o")) (de_int) (by walk_at "o")) <|
    ds_forJ (S := Int) D.int (sc.take 40) (fun sd => [some (.scr (sc.map .int)), some (.int (k : Nat)), some (.int own), some (.int (cellOf sc k)), some (.int sd), none]) (fun _ => []) (fun r sd => 0 ≤ sd ∧ sd < 2147483647 ∧ r.foldl (seed1 k) sd = seedOf sc k own)
      (di_seq (de_eq (de_sliceL (de_var 0) (.inr rfl) do_none (do_some (de_int))) (congrArg D.lst e2)) rfl) ⟨_, by walk_at "g", rfl, by omega, by omega, rfl⟩ (fun a r sd hJ => ⟨_, (dg_name 5 sc__law_box.nd),
      ds_set 4 sc__law_box.nd (q_op (de_intc (b_int T) (q_op (q_op (q_op (de_var 4) (de_int) (o2_mul (.inr ⟨by decide, by decide⟩))) (q_op (de_abs (b_abs T) (de_var 5)) (de_int) (o2_mod (by decide))) (by walk_at "o")) (de_var 1) (by walk_at "o"))) (de_int) (o2_mod (by decide))) <|
      ds_nil ⟨seed1 k sd a, by walk_at "g", rfl, Int.emod_nonneg _ (by decide), Int.emod_lt_of_pos _ (by decide), hJ.2.2⟩⟩) (fun sd hJ =>
      ds_ret (de_lstM (da_cons (q_ifI (qt_cmp (de_var 3) (q_op (de_int) (de_int) (o2_pow ⟨by decide, by decide, by decide⟩)) (by walk_at "o")) (fun h2 => (de_var 3)) (fun h2 => (de_int))) (da_cons (q_op (de_var 4) (de_int) (by walk_at "o")) da_nil)) (by walk_at "z")) (?_))
  have e3 := hJ.2.2
  simp only [List.foldl_nil] at e3
  subst e3
  exact ⟨rfl, rfl⟩
end
end Lw

namespace Lw
section
variable {P : Program} {w : World} {K : PySem.W.Frag} {mg : Str → Option Value} {base : Heap}
theorem F__law_take (T : Tx K mg) : BFn P w K mg base (ct K) "_law_take" 1 boxC (fun (l : Int) => [.int l]) (fun l b => 0 < l ∧ l < 1073741824 ∧ BoxOk b) (fun l b => .int (tk l b)) tkN := by
  refine BFn.of (d__law_take T) (m__law_take T) sc__law_take (fun _ _ _ _ _ _ us hl => match us, hl with | [_, _], _ => rfl) (fun _ => rfl) (fun _ _ _ => ⟨rfl, rfl⟩) (fun _ => ⟨rfl, by simp [boxC]⟩) ?_
  rintro f cdv A outer s H E l b hr ⟨h0, h1, hb⟩
  have hb2 := hb.2.1
  -- 0 box, 1 limit, 2 digit
  refine
    ds_if (qt_cmp (q_ix (de_var 0) (de_int) (by walk_at "x")) (de_int) (by walk_at "o")) (fun h =>
      ds_set 2 sc__law_take.nd (q_op (de_intc (b_int T) (q_ix (de_var 0) (de_int) (by walk_at "x"))) (de_var 1) (o2_mod h0)) <|
      ds_put (q_op (q_ix (de_var 0) (de_int) (by walk_at "x")) (de_var 1) (o2_fdiv ⟨h0, h1⟩)) (de_var 0) (de_int) rfl rfl <|
      ds_ret (de_var 2) (?_)) (fun h =>
      ds_nil <|
      ds_put (q_op (de_intc (b_int T) (q_op (q_op (q_ix (de_var 0) (de_int) (by walk_at "x")) (de_int) (o2_mul (.inr ⟨by decide, by decide⟩))) (de_int) (by walk_at "o"))) (de_int) (o2_mod (by decide))) (de_var 0) (de_int) rfl rfl <|
      ds_ret (q_op (de_intc (b_int T) (q_op (q_ix (de_var 0) (de_int) (by walk_at "x")) (de_int) (o2_fdiv ⟨by decide, by decide⟩))) (de_var 1) (o2_mod h0)) (?_))
  · simp only [tk, tkN, h]; exact ⟨rfl, [], rfl⟩
  · simp only [tk, tkN, h]; exact ⟨rfl, [], rfl⟩
theorem F__law_pick (T : Tx K mg) : BFn P w K mg base (ct K) "_law_pick" 2 boxC (fun (l : List D) => [.lst l]) (fun l b => okDs 0 l = true ∧ 0 < l.length ∧ l.length < 1000 ∧ BoxOk b) (fun l b => l.getD (tk l.length b).toNat .non) (fun l b => tkN l.length b) := by
  refine BFn.of (d__law_pick T) (m__law_pick T) sc__law_pick (fun _ _ _ _ _ _ us hl => match us, hl with | [_, _], _ => rfl) (fun _ => rfl) (fun l b h => ⟨by simp only [okDs, okD, h.1]; rfl, ?_⟩) (fun _ => ⟨rfl, by simp [boxC]⟩) ?_
  · have ho := h.1
    rw [okDs_all, List.all_eq_true] at ho
    rw [List.getD_eq_getElem?_getD]
    cases q : l[(tk l.length b).toNat]? with
    | none => rfl
    | some d => exact ho d (List.mem_of_getElem? q)
  rintro f cdv A outer s H E l b hr ⟨ho, h0, h1, hb⟩
  have ht := tk_lt (l := (l.length : Nat)) (b := b) (by omega)
  have hlt : (tk l.length b).toNat < l.length := by omega
  -- 0 box, 1 some
  refine
    ds_ret (q_ix (de_var 1) (q_box (F__law_take T) (da_cons (de_var 0) (da_cons (q_len (b_len T) (de_var 1) (by walk_at "l")) da_nil)) (_) b rfl rfl ⟨by omega, by omega, hb⟩) (.lst (atI_lt ht.1 hlt))) ⟨?_, [], rfl⟩
  simp [hlt]
theorem F__law_ruled (T : Tx K mg) : PFn P w K mg base (ct K) "_law_ruled" 5 (fun (r : RL) => [r.gv]) RL.Pos ruleD := by
  refine PFn.of (d__law_ruled T) (m__law_ruled T) sc__law_ruled (fun _ _ _ _ _ _ us hl => match us, hl with | [_], _ => rfl) (fun _ => rfl) (fun _ _ => ⟨rfl, rfl⟩) ?_
  rintro f cdv A outer s H E r hr ok
  -- 0 given
  refine
    ds_ret (q_make (M_Rule5 T) (da_cons (q_ix (de_var 0) (de_int) (by walk_at "x")) (da_cons (q_ix (de_var 0) (de_int) (by walk_at "x")) (da_cons (q_ix (de_var 0) (de_int) (by walk_at "x")) (da_cons (q_ix (de_var 0) (de_int) (by walk_at "x")) (da_cons (q_ix (de_var 0) (de_int) (by walk_at "x")) da_nil))))) r rfl ok) (?_)
  rfl
theorem F__law_begun (T : Tx K mg) : PFn P w K mg base (ct K) "_law_begun" 1 (fun (r : RL) => [r.gv]) (fun r => 0 ≤ r.s ∧ r.s ≤ 1000) (fun r => (lbegun r.s).D) := by
  refine PFn.of (d__law_begun T) (m__law_begun T) sc__law_begun (fun _ _ _ _ _ _ us hl => match us, hl with | [_], _ => rfl) (fun _ => rfl) (fun _ _ => ⟨rfl, ok_ls _ _⟩) ?_
  rintro f cdv A outer s H E r hr ⟨h0, h1⟩
  -- 0 given
  refine
    ds_ret (de_tup (da_cons (de_dic0) (da_cons (q_op (de_lst (da_cons (de_non) da_nil) (by walk_at "z")) (q_ix (de_var 0) (de_int) (by walk_at "x")) (o2_repL (by omega) (by omega) (sz_small (by simp; omega)))) (da_cons (de_lst da_nil (by walk_at "z")) da_nil))) (by walk_at "z")) (?_)
  simp [lbegun, LS.D, kvD, kpD]
theorem head_eq (l : List Int) : (bif !l.isEmpty then D.int (l.headD 0) else D.non) = oiD l.head? := by cases l <;> rfl
theorem F__law_kept_seat (T : Tx K mg) : PFn P w K mg base (ct K) "_law_kept_seat" 1 (fun ((s, u) : LS × Int) => [s.D, .int u]) (fun (s, _) => s.Sz 1000) (fun (s, u) => oiD (kseat s.kp u)) := by
  refine PFn.of (d__law_kept_seat T) (m__law_kept_seat T) sc__law_kept_seat (fun _ _ _ _ _ _ us hl => match us, hl with | [_, _], _ => rfl) (fun _ => rfl) (fun (s, u) _ => ⟨by simp only [okDs, okD, ok_ls]; rfl, by show okD 0 (oiD (kseat s.kp u)) = true; cases kseat s.kp u <;> rfl⟩) ?_
  rintro f cdv A outer s H E ⟨st, u⟩ hr sz
  -- 0 state, 1 user, 2 found, 3 seat, 4 pair
  have key : ∀ (l : List (Option (Int × Int) × Nat)), (l.filter fun p => isKept u p.1).map (fun p => D.int ((p.2 : Nat) : Int)) = ((l.filter fun p => isKept u p.1).map fun p => ((p.2 : Nat) : Int)).map D.int := fun l => by simp
  refine
    ds_setLcP 2 [("seat", 3), ("pair", 4)] st.kp.zipIdx (fun p => D.tup [.int (p.2 : Nat), kpD p.1]) (fun p => isKept u p.1) (fun p => D.int (p.2 : Nat)) sc__law_kept_seat.nd (by rw [← enumD_map]; exact (di_enum (b_enumerate T) (q_ix (de_var 0) (de_int) (by walk_at "x")) rfl)) (blkOk_by (show blkC n__law_kept_seat (defScope s__law_kept_seat) _ _ = true by decide +kernel)) (fun z hz => by
      rcases z with ⟨_ | ⟨a, b⟩, i⟩
      · exact ⟨_, (by simp), (fun s H C cl fp => (dg_tup rfl (dgs_cons (dg_name 3 sc__law_kept_seat.nd) (dgs_cons (dg_name 4 sc__law_kept_seat.nd) dgs_nil)))), (fun s H C cl fp => (dts_oneE (dt_w (dw_and (k' := false) (qt_cmp (de_var 4) (de_non) (by walk_at "o")) (fun h1 => absurd h1 (by decide)))))), (fun hk => nomatch hk)⟩
      · exact ⟨_, (by simp), (fun s H C cl fp => (dg_tup rfl (dgs_cons (dg_name 3 sc__law_kept_seat.nd) (dgs_cons (dg_name 4 sc__law_kept_seat.nd) dgs_nil)))), (fun s H C cl fp => (dts_oneE (dt_w (dw_and (qt_cmp (de_var 4) (de_non) (by walk_at "o")) (fun h1 => (dw_and1 (qt_cmp (q_ix (de_var 4) (de_int) (by walk_at "x")) (de_var 1) (by walk_at "o")))))))), (fun hk s H C cl fp => (de_var 3))⟩) <| by
    rw [key]
    show DSs _ _ _ [some st.D, some (.int u), some (.lst ((kseats st.kp u).map .int)), none, none] [] _
    refine ds_ret (de_if (qt_cmp (de_var 2) (de_lst da_nil (by walk_at "z")) (by walk_at "o")) (fun h2 => (q_ix (d := .int ((kseats st.kp u).headD 0)) (de_var 2) (de_int) (.lst ?_))) (fun h2 => (de_non))) (?_)
    · cases q : kseats st.kp u with
      | nil => rw [q] at h2; cases h2
      | cons a l => exact atI_nat (j := 0) rfl
    · exact head_eq _
end
end Lw

namespace Lw
section
variable {P : Program} {w : World} {K : PySem.W.Frag} {mg : Str → Option Value} {base : Heap}
theorem ix_us {μ : Mu} {s : LS} {u : Int} {q : Int × Int} (h : aget s.us u = some q) : IxD μ (.dic (kvD prD s.us)) (.int u) (prD q) := .dicI (by rw [dget_kv, h]; rfl)
theorem in_us {μ : Mu} {s : LS} {u : Int} : InD μ (.int u) (.dic (kvD prD s.us)) (aget s.us u).isSome := by
  have h : DicD μ (.int u) (.dic (kvD prD s.us)) (dget (kvD prD s.us) (.inl u)).isSome := .dicI
  rw [dget_kv, Option.isSome_map] at h
  exact .dic h
theorem F__law_can (T : Tx K mg) : PFn P w K mg base (ct K) "_law_can" 1 (fun ((r, s, e) : RL × LS × Ev) => [r.gv, s.D, e.D]) (fun (_, s, e) => s.Sz 1000 ∧ e.Ok) (fun (r, s, e) => .bl (lcan r s e)) := by
  refine PFn.of (d__law_can T) (m__law_can T) sc__law_can (fun _ _ _ _ _ _ us hl => match us, hl with | [_, _, _], _ => rfl) (fun _ => rfl) (fun (r, s, e) _ => ⟨by simp only [okDs, ok_ls, ok_ev]; rfl, rfl⟩) ?_
  rintro f cdv A outer s H E ⟨r, st, ev⟩ hr ⟨sz, eok⟩
  have hu64 := hu64 hr
  have zz : (kvD prD st.us).length ≤ sizeLine := sz_small (by rw [kvD_len]; exact sz.us)
  -- 0 given, 1 state, 2 event, 3 using, 4 kept, 5 cut, 6 user, 7 age, 8 word
  refine
    ds_asg (de_var 1) (dg_tup rfl (dgs_cons (dg_name 3 sc__law_can.nd) (dgs_cons (dg_name 4 sc__law_can.nd) (dgs_cons (dg_name 5 sc__law_can.nd) dgs_nil)))) <|
    ds_if (qt_cmp (de_var 2) (de_tup (da_cons (de_str) da_nil) (by walk_at "z")) (o2_evPass hu64 eok)) (fun h1 => ?_) (fun h1 => ?_)
  · cases ev with
    | act w u => cases h1
    | pass =>
      refine
      ds_forKJ (S := Unit) (st.us.map (·.1)) (kvD_keys _ _) zz (fun _ => [some r.gv, some st.D, some Ev.pass.D, some (.dic (kvD prD st.us)), some (.lst (st.kp.map kpD)), some (.lst (st.ct.map .int)), none, none, none]) (fun _ => [])
        (fun rs _ => (∀ u ∈ rs, ∃ q, aget st.us u = some q) ∧ lcan r st .pass = rs.all fun u => !lateU r st u) (dp_name 3) ⟨(), by walk_at "g", rfl, fun u hu => aget_mem hu, rfl⟩ (fun u rs _ ⟨hJ, hall⟩ => ?_) (fun _ ⟨_, hall⟩ =>
        ds_ret (de_bl) (?_))
      · obtain ⟨q, hq⟩ := hJ u List.mem_cons_self
        refine ⟨_, (dg_name 6 sc__law_can.nd),
        ds_set 7 sc__law_can.nd (q_ix (q_ix (de_var 3) (de_var 6) (ix_us hq)) (de_int) (by walk_at "x")) <|
        ds_if (dt_w (dw_or (qt_cmp (de_var 7) (q_op (q_ix (de_var 0) (de_int) (by walk_at "x")) (q_ix (de_var 0) (de_int) (by walk_at "x")) (by walk_at "o")) (by walk_at "o")) (fun h4 => (dw_or1 (dt_w (dw_and (qt_nin (de_var 6) (de_var 5) (.ints rfl)) (fun h3 => (dw_and1 (qt_cmp (de_var 7) (q_op (q_ix (de_var 0) (de_int) (by walk_at "x")) (q_ix (de_var 0) (de_int) (by walk_at "x")) (by walk_at "o")) (by walk_at "o")))))))))) (fun h2 =>
          ds_ret (de_bl) (?_)) (fun h2 =>
          ds_nil <|
          ds_nil ⟨(), by walk_at "g", rfl, fun v hv => hJ v (List.mem_cons_of_mem _ hv), ?_⟩)⟩
        · have e : lateU r st u = true := by unfold lateU; rw [hq]; exact h2
          show D.bl false = D.bl (lcan r st .pass)
          rw [hall, List.all_cons, e]; rfl
        · have e : lateU r st u = false := by unfold lateU; rw [hq]; exact h2
          rw [hall, List.all_cons, e]; rfl
      · show D.bl true = D.bl (lcan r st .pass)
        rw [hall]; rfl
  · cases ev with
    | pass => cases h1
    | act w u =>
      refine ds_nil <|
      ds_asg (de_var 2) (dg_tup rfl (dgs_cons (dg_name 8 sc__law_can.nd) (dgs_cons (dg_name 6 sc__law_can.nd) dgs_nil))) <|
      ds_if (qt_in (de_var 8) (de_tup (da_cons (de_str) (da_cons (de_str) da_nil)) (by walk_at "z")) .w2) (fun h5 =>
        ds_ret (q_cmp (q_in (de_var 6) (de_var 5) (.ints rfl)) (q_cmp (de_var 8) (de_str) (by walk_at "o")) (by walk_at "o")) (?_)) (fun h5 =>
        ds_nil <|
        ds_if (qt_cmp (de_var 8) (de_str) (by walk_at "o")) (fun h6 =>
          ds_ret (de_and (q_nin (de_var 6) (de_var 3) in_us) (fun h7 => (de_one (q_nin (de_var 6) (de_var 5) (.ints rfl))))) (?_)) (fun h6 =>
          ds_nil <|
          ds_if (dt_w (dw_or (qt_nin (de_var 6) (de_var 3) in_us) (fun h10 => (dw_or1 (dt_w (dw_and (qt_in (de_var 8) (de_tup (da_cons (de_str) (da_cons (de_str) da_nil)) (by walk_at "z")) .w2) (fun h9 => (dw_and1 (qt_in (de_var 6) (de_var 5) (.ints rfl)))))))))) (fun h8 =>
            ds_ret (de_bl) (?_)) (fun h8 =>
            ds_nil <|
            ds_ret (de_or (q_cmp (de_var 8) (de_str) (by walk_at "o")) (fun h11 => (de_one (q_cmp (q_ix (q_ix (d := prD ((aget st.us u).getD (0, 0))) (de_var 3) (de_var 6) ?_) (de_int) (by walk_at "x")) (q_ix (de_var 0) (de_int) (by walk_at "x")) (by walk_at "o"))))) (?_))))
      · show D.bl _ = D.bl (lcan r st (.act w u))
        simp only [lcan, h5, cond_true]
      · show D.bl _ = D.bl (lcan r st (.act w u))
        simp only [lcan, h5, h6, cond_true, cond_false]
      · show D.bl _ = D.bl (lcan r st (.act w u))
        simp only [lcan, h5, h6, h8, cond_true, cond_false]
      · have : (aget st.us u).isSome = true := by
          cases q : (aget st.us u).isSome
          · rw [q] at h8; simp at h8
          · rfl
        obtain ⟨q, hq⟩ := Option.isSome_iff_exists.mp this
        rw [hq]
        exact ix_us hq
      · show D.bl _ = D.bl (lcan r st (.act w u))
        simp only [lcan, h5, h6, h8, cond_true, cond_false]
end
end Lw

namespace Lw
section
variable {P : Program} {w : World} {K : PySem.W.Frag} {mg : Str → Option Value} {base : Heap}
theorem flatMap_len (r : RL) : ∀ l : List (Option (Int × Int)), (l.flatMap (lostOf r)).length ≤ l.length
  | [] => by simp
  | p :: l => by
    have ih := flatMap_len r l
    have : (lostOf r p).length ≤ 1 := by
      cases p with
      | none => simp [lostOf]
      | some p => by_cases h : p.2 + 1 = r.l <;> simp [lostOf, h]
    simp only [List.flatMap_cons, List.length_append, List.length_cons]
    omega
theorem F__law_moment (T : Tx K mg) : PFn P w K mg base (ct K) "_law_moment" 1 (fun ((r, s) : RL × LS) => [r.gv, s.D]) (fun (_, s) => s.Sz 1000) (fun (r, s) => .tup [(lmoment r s).1.D, .lst ((lmoment r s).2.map .int)]) := by
  refine PFn.of (d__law_moment T) (m__law_moment T) sc__law_moment (fun _ _ _ _ _ _ us hl => match us, hl with | [_, _], _ => rfl) (fun _ => rfl) (fun (r, s) _ => ⟨by simp only [okDs, ok_ls]; rfl, by simp only [okD, okDs, ok_ls, ok_map 0 D.int (fun _ => rfl)]; rfl⟩) ?_
  rintro f cdv A outer s H E ⟨r, st⟩ hr sz
  have zz : (kvD prD st.us).length ≤ sizeLine := sz_small (by rw [kvD_len]; exact sz.us)
  -- 0 given, 1 state, 2 using, 3 kept, 4 lost, 5 user, 6 pair, 7 is_lost
  refine
    ds_par3 2 3 4 rfl sc__law_moment.nd (da_cons de_dic0M (da_cons (de_lstM da_nil (by walk_at "z")) (da_cons (de_lstM da_nil (by walk_at "z")) da_nil))) <|
    ds_forKJ (S := List (Int × (Int × Int))) (st.us.map (·.1)) (kvD_keys _ _) zz (fun _ => [some r.gv, some st.D, some (.ptr 0), some (.ptr 1), some (.ptr 2), none, none, none]) (fun acc => [.dic (kvD prD acc), .lst [], .lst []])
      (fun rs acc => (∀ u ∈ rs, ∃ q, aget st.us u = some q) ∧ acc.length + rs.length ≤ 1000 ∧ rs.foldl (older st.us) acc = (st.us.map (·.1)).foldl (older st.us) []) (dp_ix 1 rfl) ⟨[], by walk_at "g", rfl, fun u hu => aget_mem hu, by simpa using sz.us, rfl⟩ (fun u rs acc ⟨hJ, hz, hall⟩ => ?_) (fun acc ⟨_, _, hall⟩ =>
    ds_forJ (S := List (Option (Int × Int)) × List Int) kpD st.kp (fun _ => [some r.gv, some st.D, some (.ptr 0), some (.ptr 1), some (.ptr 2), none, none, none]) (fun q => [.dic (kvD prD acc), .lst (q.1.map kpD), .lst (q.2.map .int)])
      (fun rs q => q.1.length + rs.length ≤ 1000 ∧ q.2.length ≤ q.1.length ∧ q.1 ++ rs.map (keptOn r) = (lmoment r st).1.kp ∧ q.2 ++ rs.flatMap (lostOf r) = (lmoment r st).2)
      (di_seq (q_ix (de_var 1) (de_int) (by walk_at "x")) rfl) ⟨([], []), by walk_at "g", rfl, by simpa using sz.kp, Nat.le_refl _, rfl, rfl⟩ (fun p rs q ⟨h1, h2, h3, h4⟩ => ?_) (fun q ⟨_, _, h3, h4⟩ =>
      ds_freeze 2 rfl rfl rfl <| ds_freeze 3 rfl rfl rfl <| ds_freeze 4 rfl rfl rfl <|
      ds_ret (de_tup (da_cons (de_tup (da_cons (de_var 2) (da_cons (de_var 3) (da_cons (q_list (b_list T) (q_ix (de_var 1) (de_int) (by walk_at "x")) (by walk_at "s")) da_nil))) (by walk_at "z")) (da_cons (de_var 4) da_nil)) (by walk_at "z")) (?_)))
  · obtain ⟨q, hq⟩ := hJ u List.mem_cons_self
    refine ⟨_, dg_name 5 sc__law_moment.nd, ds_dput (hu_of hr) (de_tup (da_cons (q_ix (q_ix (q_ix (de_var 1) (de_int) (by walk_at "x")) (de_var 5) (ix_us hq)) (de_int) (by walk_at "x")) (da_cons (q_op (q_ix (q_ix (q_ix (de_var 1) (de_int) (by walk_at "x")) (de_var 5) (ix_us hq)) (de_int) (by walk_at "x")) (de_int) (by walk_at "o")) da_nil)) (by walk_at "z")) (de_var 2) (de_var 5) .int rfl (by rw [kvD_len]; exact Nat.lt_of_lt_of_le (show acc.length < 1000 from by have hz' : acc.length + (rs.length + 1) ≤ 1000 := hz; omega) (sz_small (Nat.le_refl 1000))) <| ds_nil ?_⟩
    refine ⟨older st.us acc u, by walk_at "g", ?_, fun v hv => hJ v (List.mem_cons_of_mem _ hv), ?_, hall⟩
    · unfold older
      rw [hq]
      show [Cell.dic (dput (kvD prD acc) (.inl u) (prD (q.1, q.2 + 1))), _, _] = _
      rw [dput_kv]
    · have : (older st.us acc u).length ≤ acc.length + 1 := by
        unfold older; rw [hq]; exact aput_len _ _ _
      have hz' : acc.length + (rs.length + 1) ≤ 1000 := hz; omega
  · have z1 : (q.1.map kpD).length < sizeLine := Nat.lt_of_lt_of_le (by have h1' : q.1.length + (rs.length + 1) ≤ 1000 := h1; rw [List.length_map]; omega) (sz_small (Nat.le_refl 1000))
    have z2 : (q.2.map D.int).length + 1 ≤ sizeLine := sz_small (by have h1' : q.1.length + (rs.length + 1) ≤ 1000 := h1; rw [List.length_map]; omega)
    have fin : ∀ (k : Option (Int × Int)) (l : List Int), k = keptOn r p → l = lostOf r p → (q.1 ++ [k]).length + rs.length ≤ 1000 ∧ (q.2 ++ l).length ≤ (q.1 ++ [k]).length ∧ (q.1 ++ [k]) ++ rs.map (keptOn r) = (lmoment r st).1.kp ∧ (q.2 ++ l) ++ rs.flatMap (lostOf r) = (lmoment r st).2 := by
      rintro k l rfl rfl
      have : (lostOf r p).length ≤ 1 := by
        cases p with
        | none => simp [lostOf]
        | some p => by_cases h : p.2 + 1 = r.l <;> simp [lostOf, h]
      refine ⟨by simp at h1 ⊢; omega, by simp; omega, ?_, ?_⟩
      · rw [← h3]; simp
      · rw [← h4]; simp
    cases p with
    | none =>
      refine ⟨_, dg_name 6 sc__law_moment.nd,
        ds_set 7 sc__law_moment.nd (de_and (k' := false) (q_cmp (de_var 6) de_non (by walk_at "o")) (fun h => absurd h (by decide))) <|
        ds_expr (de_extend (de_var 4) (q_ifL (i := []) (dt_val (de_var 7)) (fun h => absurd h (by decide)) (fun h => de_lst da_nil (by walk_at "z"))) ⟨_, rfl⟩ rfl (by have := z2; simp at this ⊢; omega)) <|
        ds_expr (de_append (de_var 3) (de_if' (dt_w (dw_or (k' := false) (qt_cmp (de_var 6) de_non (by walk_at "o")) (fun h => absurd h (by decide)))) (fun h => de_non) (fun h => absurd h (by decide))) ⟨_, rfl⟩ rfl z1) <|
        ds_nil ⟨(q.1 ++ [none], q.2 ++ []), by walk_at "g", ?_, fin none [] rfl rfl⟩⟩
      simp [kpD]
    | some pq =>
      have e1 : keptOn r (some pq) = bif decide (pq.2 + 1 = r.l) then none else some (pq.1, pq.2 + 1) := by
        by_cases h : pq.2 + 1 = r.l <;> simp [keptOn, h]
      have e2 : lostOf r (some pq) = bif decide (pq.2 + 1 = r.l) then [pq.1] else [] := by
        by_cases h : pq.2 + 1 = r.l <;> simp [lostOf, h]
      have z3 : (q.2.map D.int).length + (bif decide (pq.2 + 1 = r.l) then [D.int pq.1] else []).length ≤ sizeLine := Nat.le_trans (Nat.add_le_add_left (by cases decide (pq.2 + 1 = r.l) <;> simp) _) z2
      refine ⟨_, dg_name 6 sc__law_moment.nd,
        ds_set 7 sc__law_moment.nd (de_and (q_cmp (de_var 6) de_non (by walk_at "o")) (fun h => de_one (q_cmp (q_op (q_ix (de_var 6) (de_int) (by walk_at "x")) (de_int) (by walk_at "o")) (q_ix (de_var 0) (de_int) (by walk_at "x")) (by walk_at "o")))) <|
        ds_expr (de_extend (de_var 4) (q_ifL (dt_val (de_var 7)) (fun h => de_lst (da_cons (q_ix (de_var 6) (de_int) (by walk_at "x")) da_nil) (by walk_at "z")) (fun h => de_lst da_nil (by walk_at "z"))) ⟨_, rfl⟩ rfl z3) <|
        ds_expr (de_append (de_var 3) (de_if (dt_w (dw_or (qt_cmp (de_var 6) de_non (by walk_at "o")) (fun h => dw_or1 (dt_val (de_var 7))))) (fun h => de_non) (fun h => de_tup (da_cons (q_ix (de_var 6) (de_int) (by walk_at "x")) (da_cons (q_op (q_ix (de_var 6) (de_int) (by walk_at "x")) (de_int) (by walk_at "o")) da_nil)) (by walk_at "z"))) ⟨_, rfl⟩ rfl z1) <|
        ds_nil ⟨(q.1 ++ [keptOn r (some pq)], q.2 ++ lostOf r (some pq)), by walk_at "g", ?_, fin _ _ rfl rfl⟩⟩
      rw [e1, e2]
      cases decide (pq.2 + 1 = r.l) <;> simp [kpD, prD]
  · show D.tup [D.tup [.dic (kvD prD acc), .lst (q.1.map kpD), .lst (st.ct.map .int)], .lst (q.2.map .int)] = D.tup [(lmoment r st).1.D, .lst ((lmoment r st).2.map .int)]
    simp only [List.map_nil, List.append_nil, List.flatMap_nil] at h3 h4
    rw [h3, h4]
    simp only [List.foldl_nil] at hall
    rw [hall]
    rfl
end
end Lw

namespace Lw
section
variable {P : Program} {w : World} {K : PySem.W.Frag} {mg : Str → Option Value} {base : Heap}
def seatsOf (s : LS) : List Int := (s.us.map (·.1)).map fun u => ((aget s.us u).getD (0, 0)).1
def seatK (s : LS) : Key → D
  | .inl u => .int ((aget s.us u).getD (0, 0)).1
  | .inr _ => .non
theorem seats_eq (s : LS) : (((kvD prD s.us).map (·.1)).filter (fun _ => true)).map (seatK s) = (seatsOf s).map .int := by
  rw [List.filter_eq_self.mpr fun _ _ => rfl, kvD_keys, seatsOf]
  simp only [List.map_map]
  apply List.map_congr_left
  intro u _
  rfl
theorem bif_map {α β : Type} (f : α → β) (k : Bool) (a b : List α) : (bif k then a.map f else b.map f) = (bif k then a else b).map f := by cases k <;> rfl
theorem F__law_faults (T : Tx K mg) : PFn P w K mg base (ct K) "_law_faults" 1 (fun ((r, s, met) : RL × LS × List Str) => [r.gv, s.D, .lst (met.map .str)]) (fun (_, s, met) => s.Sz 1000 ∧ met.length ≤ 10) (fun (r, s, met) => .tup ((lfaults r s met).map .str)) := by
  refine PFn.of (d__law_faults T) (m__law_faults T) sc__law_faults (fun _ _ _ _ _ _ us hl => match us, hl with | [_, _, _], _ => rfl) (fun _ => rfl) (fun (r, s, met) _ => ⟨by simp only [okDs, okD, ok_ls, ok_map 0 D.str (fun _ => rfl)]; rfl, by simp only [okD, ok_map 0 D.str (fun _ => rfl)]⟩) ?_
  rintro f cdv A outer s H E ⟨r, st, met⟩ hr ⟨sz, hm⟩
  have zz : (kvD prD st.us).length ≤ sizeLine := sz_small (by rw [kvD_len]; exact sz.us)
  have sl : (seatsOf st).length ≤ 1000 := by simpa [seatsOf] using sz.us
  have e1 := bif_map D.str (decide (r.s < ((((seatsOf st).map D.int).length : Nat) : Int))) (["over"] : List Str) []
  have key : ∀ tw : List Int, (met.map D.str ++ (bif decide (r.s < ((((seatsOf st).map D.int).length : Nat) : Int)) then [D.str "over"] else [])) ++ (bif !tw.isEmpty then [D.str "twice"] else []) = (met ++ (bif decide (r.s < (((seatsOf st).length : Nat) : Int)) then (["over"] : List Str) else []) ++ (bif tw.isEmpty then [] else (["twice"] : List Str))).map D.str := by
    intro tw
    rw [List.length_map]
    cases decide (r.s < (((seatsOf st).length : Nat) : Int)) <;> cases tw.isEmpty <;> simp
  -- 0 given, 1 state, 2 met, 3 seats, 4 user, 5 found, 6 twice, 7 seat, 8 one
  refine
    ds_set 3 sc__law_faults.nd (de_eq (de_lcK [("user", 4)] (fun _ => true) (seatK st) rfl sc__law_faults.nd zz (dp_ix 1 rfl) (blkOk_by (show blkC n__law_faults (defScope s__law_faults) _ _ = true by decide +kernel)) (fun kv hkv => ?_)) (congrArg D.lst (seats_eq st))) <|
    ds_set 5 sc__law_faults.nd (q_op (de_var 2) (q_ifL (qt_cmp (q_len (b_len T) (de_var 3) (by walk_at "l")) (q_ix (de_var 0) (de_int) (by walk_at "x")) (by walk_at "o")) (fun h1 => (de_lst (da_cons (de_str) da_nil) (by walk_at "z"))) (fun h1 => (de_lst da_nil (by walk_at "z")))) (o2_catL (sz_small ?_))) <|
    ds_setLcP 6 [("seat", 7)] (seatsOf st) D.int (fun q => decide (1 < (((seatsOf st).count q : Nat) : Int))) D.int sc__law_faults.nd (di_seq (de_var 3) rfl) (blkOk_by (show blkC n__law_faults (defScope s__law_faults) _ _ = true by decide +kernel)) (fun z hz => ⟨_, (by simp), (fun s H C cl fp => (dg_name 7 sc__law_faults.nd)), (fun s H C cl fp => (dts_oneE (qt_cmp (de_count (ns := seatsOf st) (de_var 3) (.seq rfl) (by nofun) (de_var 7) (.seq rfl)) (de_int) (by walk_at "o")))), (fun hk s H C cl fp => (de_var 7))⟩) <|
    ds_ret (q_tuple (b_tuple T) (q_sortS (b_sorted T) (de_lcU [("one", 8)] (met ++ (bif decide (r.s < (((seatsOf st).length : Nat) : Int)) then (["over"] : List Str) else []) ++ (bif ((seatsOf st).filter fun q => decide (1 < (((seatsOf st).count q : Nat) : Int))).isEmpty then [] else (["twice"] : List Str))) D.str D.str rfl sc__law_faults.nd (di_seq (q_op (de_var 5) (q_ifL (qt_cmp (de_var 6) (de_lst da_nil (by walk_at "z")) (by walk_at "o")) (fun h2 => (de_lst (da_cons (de_str) da_nil) (by walk_at "z"))) (fun h2 => (de_lst da_nil (by walk_at "z")))) (o2_catL (sz_small ?_))) (congrArg some (key _))) (blkOk_by (show blkC n__law_faults (defScope s__law_faults) _ _ = true by decide +kernel)) (fun z hz => ⟨_, (by simp), (fun s H C cl fp => (dg_name 8 sc__law_faults.nd)), (fun s H C cl fp => (de_strc (b_str T) (de_var 8)))⟩)) (.seq rfl) (by nofun) ?_) (.seq rfl)) (?_)
  · unfold kvD at hkv
    rw [List.mem_map] at hkv
    obtain ⟨p, hp, rfl⟩ := hkv
    obtain ⟨q, hq⟩ := aget_mem (List.mem_map_of_mem (f := (·.1)) hp)
    refine ⟨_, (by simp), (fun s H C cl fp => (dg_name 4 sc__law_faults.nd)), (fun s H C cl fp => dts_nil), (fun hk s H C cl fp => de_eq (q_ix (q_ix (q_ix (de_var 1) (de_int) (by walk_at "x")) (de_var 4) (ix_us hq)) (de_int) (by walk_at "x")) ?_)⟩
    show D.int q.1 = D.int _
    rw [hq]; rfl
  · rw [List.length_map]
    have : (bif decide (r.s < ((((seatsOf st).map D.int).length : Nat) : Int)) then [D.str "over"] else []).length ≤ 1 := by cases decide (r.s < ((((seatsOf st).map D.int).length : Nat) : Int)) <;> simp
    omega
  · have a : ∀ k : Bool, (bif k then [D.str "over"] else []).length ≤ 1 := by intro k; cases k <;> simp
    have b : ∀ k : Bool, (bif k then [D.str "twice"] else []).length ≤ 1 := by intro k; cases k <;> simp
    rw [List.length_append, List.length_map]
    exact Nat.le_trans (Nat.add_le_add (Nat.add_le_add hm (a _)) (b _)) (by decide)
  · have a : ∀ k : Bool, (bif k then (["over"] : List Str) else []).length ≤ 1 := by intro k; cases k <;> simp
    have b : ∀ k : Bool, (bif k then [] else (["twice"] : List Str)).length ≤ 1 := by intro k; cases k <;> simp
    rw [List.length_append, List.length_append]
    exact Nat.lt_of_le_of_lt (Nat.add_le_add (Nat.add_le_add hm (a _)) (b _)) (by decide)
  · rfl
end
end Lw

namespace Lw
section
variable {P : Program} {wd : World} {K : PySem.W.Frag} {mg : Str → Option Value} {base : Heap}
theorem isNon_oi (o : Option Int) : isNon (oiD o) = some o.isNone := by cases o <;> rfl
theorem strs_bif (k : Bool) (s : Str) : (bif k then [D.str s] else []) = ((bif k then [s] else []) : List Str).map D.str := by cases k <;> rfl
theorem lbehind_isPass {r : RL} {s : LS} : lbehind r s .pass = ((lmoment r s).1, lfaults r (lmoment r s).1 (bif ((lmoment r s).2.filter fun u => (aget (lmoment r s).1.us u).isSome && !decide (u ∈ (lmoment r s).1.ct)).isEmpty then [] else (["taken"] : List Str))) := rfl
theorem lcan_using {r : RL} {s : LS} {w : Str} {u : Int} (h : lcan r s (.act w u) = true) (h1 : ¬ w = "cut") (h2 : ¬ w = "join") (h3 : ¬ w = "borrow") : ∃ q, aget s.us u = some q := by
  simp only [lcan, decide_eq_false h1, decide_eq_false h2, decide_eq_false h3, Bool.or_false, cond_false] at h
  cases q : aget s.us u with
  | some v => exact ⟨v, rfl⟩
  | none => rw [q] at h; simp at h
theorem kseat_lt {kp : List (Option (Int × Int))} {u i : Int} (h : kseat kp u = some i) : 0 ≤ i ∧ i.toNat < kp.length := kseats_lt (List.mem_of_mem_head? h)
theorem F__law_behind (T : Tx K mg) : PFn P wd K mg base (ct K) "_law_behind" 2 (fun ((r, s, e) : RL × LS × Ev) => [r.gv, s.D, e.D]) (fun (r, s, e) => s.Sz 999 ∧ e.Ok ∧ lcan r s e = true) (fun (r, s, e) => .tup [(lbehind r s e).1.D, .tup ((lbehind r s e).2.map .str)]) := by
  refine PFn.of (d__law_behind T) (m__law_behind T) sc__law_behind (fun _ _ _ _ _ _ us hl => match us, hl with | [_, _, _], _ => rfl) (fun _ => rfl) (fun (r, s, e) _ => ⟨by simp only [okDs, ok_ls, ok_ev]; rfl, by simp only [okD, okDs, ok_ls, ok_map 0 D.str (fun _ => rfl)]; rfl⟩) ?_
  rintro f cdv A outer s H E ⟨r, st, ev⟩ hr ⟨sz, eok, can⟩
  have hu64 := hu64 hr
  have szp : st.Sz 1000 := ⟨by have := sz.us; omega, by have := sz.kp; omega, by have := sz.ct; omega⟩
  have szm := sz_moment (r := r) szp
  -- 0 given, 1 state, 2 event, 3 later, 4 lost, 5 bad, 6 user, 7 word, 8 using, 9 kept, 10 cut, 11 seat, 12 met, 13 free, 14 at, 15 pair, 16 one
  refine
    ds_if (qt_cmp (de_var 2) (de_tup (da_cons (de_str) da_nil) (by walk_at "z")) (o2_evPass hu64 eok)) (fun h1 => ?_) (fun h1 => ?_)
  · cases ev with
    | act w u => cases h1
    | pass =>
      refine
      ds_asg (q_call (F__law_moment T) (da_cons (de_var 0) (da_cons (de_var 1) da_nil)) (r, st) rfl szp) (dg_tup rfl (dgs_cons (dg_name 3 sc__law_behind.nd) (dgs_cons (dg_name 4 sc__law_behind.nd) dgs_nil))) <|
      ds_setLcP 5 [("user", 6)] (lmoment r st).2 D.int (fun u => (aget (lmoment r st).1.us u).isSome && !decide (u ∈ (lmoment r st).1.ct)) D.int sc__law_behind.nd (di_seq (de_var 4) rfl) (blkOk_by (show blkC n__law_behind (defScope s__law_behind) _ _ = true by decide +kernel)) (fun z hz => ⟨_, (by simp), (fun s H C cl fp => (dg_name 6 sc__law_behind.nd)), (fun s H C cl fp => (dts_oneE (dt_w (dw_and (qt_in (de_var 6) (q_ix (de_var 3) (de_int) (.tup rfl)) in_us) (fun h2 => (dw_and1 (qt_nin (de_var 6) (q_ix (de_var 3) (de_int) (.tup rfl)) (.ints rfl)))))))), (fun hk s H C cl fp => (de_var 6))⟩) <|
      ds_ret (de_tup (da_cons (de_var 3) (da_cons (q_call (F__law_faults T) (da_cons (de_var 0) (da_cons (de_var 3) (da_cons (q_ifL (qt_cmp (de_var 5) (de_lst da_nil (by walk_at "z")) (o2_neNil hu64)) (fun h3 => (de_lst (da_cons (de_str) da_nil) (by walk_at "z"))) (fun h3 => (de_lst da_nil (by walk_at "z")))) da_nil))) (r, (lmoment r st).1, bif ((lmoment r st).2.filter fun u => (aget (lmoment r st).1.us u).isSome && !decide (u ∈ (lmoment r st).1.ct)).isEmpty then [] else (["taken"] : List Str)) ?_ ⟨szm, ?_⟩) da_nil)) (by walk_at "z")) (?_)
      · cases ((lmoment r st).2.filter fun u => (aget (lmoment r st).1.us u).isSome && !decide (u ∈ (lmoment r st).1.ct)).isEmpty <;> rfl
      · cases ((lmoment r st).2.filter fun u => (aget (lmoment r st).1.us u).isSome && !decide (u ∈ (lmoment r st).1.ct)).isEmpty <;> simp
      · rfl
  · cases ev with
    | pass => cases h1
    | act w u =>
      have hse := isNon_oi (kseat st.kp u)
      -- the end
      have fin : ∀ (s' : LS) (met : List Str) (c2 : Cell), s'.Sz 1000 → met.length ≤ 10 → lbehind r st (.act w u) = (s', lfaults r s' met) →
          DSs (cxOf CX0 P wd K mg base n__law_behind "_law_behind" (defScope s__law_behind) f cdv A outer s H E).nox (ct K) ((defBody s__law_behind).drop 6)
            [some r.gv, some st.D, some (Ev.act w u).D, none, none, none, none, none, some (.ptr 0), some (.ptr 1), some (.lst (s'.ct.map .int)), none, some (.lst (met.map .str)), none, none, none, none] [.dic (kvD prD s'.us), .lst (s'.kp.map kpD), c2]
            { nx := fun _ _ => D.non = .tup [(lbehind r st (.act w u)).1.D, .tup ((lbehind r st (.act w u)).2.map .str)], rt := fun d2 _ => d2 = .tup [(lbehind r st (.act w u)).1.D, .tup ((lbehind r st (.act w u)).2.map .str)] } := by
        intro s' met c2 sz' hm' e
        refine ds_freeze 8 rfl rfl rfl <| ds_freeze 9 rfl rfl rfl <|
          ds_set 3 sc__law_behind.nd (de_eq (d' := s'.D) (de_tup (da_cons (de_var 8) (da_cons (de_var 9) (da_cons (de_var 10) da_nil))) (by walk_at "z")) rfl) <|
          ds_ret (de_tup (da_cons (de_var 3) (da_cons (q_call (F__law_faults T) (da_cons (de_var 0) (da_cons (de_var 3) (da_cons (de_var 12) da_nil))) (r, s', met) rfl ⟨sz', hm'⟩) da_nil)) (by walk_at "z")) ?_
        show D.tup _ = D.tup _
        rw [e]
      have finM : ∀ (s' : LS) (met : List Str), s'.Sz 1000 → met.length ≤ 10 → lbehind r st (.act w u) = (s', lfaults r s' met) →
          DSs (cxOf CX0 P wd K mg base n__law_behind "_law_behind" (defScope s__law_behind) f cdv A outer s H E).nox (ct K) ((defBody s__law_behind).drop 6)
            [some r.gv, some st.D, some (Ev.act w u).D, none, none, none, none, none, some (.ptr 0), some (.ptr 1), some (.ptr 2), none, some (.lst (met.map .str)), none, none, none, none] [.dic (kvD prD s'.us), .lst (s'.kp.map kpD), .lst (s'.ct.map .int)]
            { nx := fun _ _ => D.non = .tup [(lbehind r st (.act w u)).1.D, .tup ((lbehind r st (.act w u)).2.map .str)], rt := fun d2 _ => d2 = .tup [(lbehind r st (.act w u)).1.D, .tup ((lbehind r st (.act w u)).2.map .str)] } := fun s' met h1 h2 h3 =>
        ds_freeze 10 rfl rfl rfl <| fin s' met .dead h1 h2 h3
      refine
      ds_nil <|
      ds_asg (de_var 2) (dg_tup rfl (dgs_cons (dg_name 7 sc__law_behind.nd) (dgs_cons (dg_name 6 sc__law_behind.nd) dgs_nil))) <|
      ds_par3 8 9 10 rfl sc__law_behind.nd (da_cons (de_dictM (b_dict T) (q_ix (de_var 1) (de_int) (by walk_at "x"))) (da_cons (de_listM (b_list T) (q_ix (de_var 1) (de_int) (by walk_at "x")) (.seq rfl)) (da_cons (de_listM (b_list T) (q_ix (de_var 1) (de_int) (by walk_at "x")) (.seq rfl)) da_nil))) <|
      ds_par 11 12 rfl sc__law_behind.nd (da_cons (q_call (F__law_kept_seat T) (da_cons (de_var 1) (da_cons (de_var 6) da_nil)) (st, u) rfl szp) (da_cons (de_lst da_nil (by walk_at "z")) da_nil)) <|
      ds_setLcM 13 [("at", 14), ("pair", 15)] st.kp.zipIdx (fun p => D.tup [.int (p.2 : Nat), kpD p.1]) (fun p => p.1.isNone) (fun p => D.int (p.2 : Nat)) sc__law_behind.nd rfl (by rw [← enumD_map]; exact di_enumM (b_enumerate T) (de_var 9)) (blkOk_by (show blkC n__law_behind (defScope s__law_behind) _ _ = true by decide +kernel)) (fun z hz => by
        rcases z with ⟨_ | ⟨a, b⟩, i⟩
        · exact ⟨_, (by simp), (fun s H C cl fp => (dg_tup rfl (dgs_cons (dg_name 14 sc__law_behind.nd) (dgs_cons (dg_name 15 sc__law_behind.nd) dgs_nil)))), (fun s H C cl fp => (dts_oneE (qt_cmp (de_var 15) de_non (by walk_at "o")))), (fun hk s H C cl fp => (de_var 14))⟩
        · exact ⟨_, (by simp), (fun s H C cl fp => (dg_tup rfl (dgs_cons (dg_name 14 sc__law_behind.nd) (dgs_cons (dg_name 15 sc__law_behind.nd) dgs_nil)))), (fun s H C cl fp => (dts_oneE (qt_cmp (de_var 15) de_non (by walk_at "o")))), (fun hk s H C cl fp => (de_var 14))⟩) <| by
        rw [show (st.kp.zipIdx.filter fun p => p.1.isNone).map (fun p => D.int ((p.2 : Nat) : Int)) = (frees st.kp).map D.int by simp [frees]]
        refine ds_if (dt_w (dw_and (qt_cmp (de_var 7) de_str (by walk_at "o")) (fun _ => dw_and (qt_cmp (de_var 11) de_non (o2_is hse)) (fun _ => dw_and1 (qt_cmp (de_var 13) (de_lst da_nil (by walk_at "z")) (o2_eqNil hu64)))))) (fun c1 => ?_) (fun c1 => ?_)
        · have f := finM st (bif decide ((st.us.length : Int) < r.s) then (["waits"] : List Str) else []) szp (by cases decide ((st.us.length : Int) < r.s) <;> simp) (by simp only [lbehind, c1, cond_true])
          refine ds_set 12 sc__law_behind.nd (de_eq (q_ifL (qt_cmp (de_lenD (b_len T) (de_var 8) rfl) (q_ix (de_var 0) de_int (by walk_at "x")) (by walk_at "o")) (fun _ => de_lst (da_cons de_str da_nil) (by walk_at "z")) (fun _ => de_lst da_nil (by walk_at "z"))) ?_) <| ds_nil <| ds_less (by walk_at "g") f
          rw [kvD_len]
          exact congrArg D.lst (strs_bif _ _)
        · have ns : (!(kseat st.kp u).isNone) = (kseat st.kp u).isSome := by cases kseat st.kp u <;> rfl
          refine ds_if (dt_w (dw_or (qt_cmp (de_var 7) de_str (by walk_at "o")) (fun _ => dw_or1 (dt_w (dw_and (qt_cmp (de_var 7) de_str (by walk_at "o")) (fun _ => dw_and1 (qt_cmp (de_var 11) de_non (o2_isnt hse)))))))) (fun c2 => ?_) (fun c2 => ?_)
          · rw [ns] at c2
            have hq : ∀ q : Int, (kseat st.kp u).getD ((frees st.kp).headD 0) = q → 0 ≤ q ∧ q.toNat < st.kp.length := by
              rintro q rfl
              cases hk : kseat st.kp u with
              | some i => exact kseat_lt hk
              | none =>
                cases hf : frees st.kp with
                | nil => rw [hk, hf] at c1; rw [hk] at c2; simp at c1 c2; exact absurd c2 c1
                | cons a l => exact frees_lt (by rw [hf]; exact List.mem_cons_self)
            obtain ⟨q, hqe⟩ : ∃ q, (kseat st.kp u).getD ((frees st.kp).headD 0) = q := ⟨_, rfl⟩
            obtain ⟨q0, q1⟩ := hq q hqe
            have f := finM ⟨aput st.us u (q, 0), st.kp.set q.toNat (some (u, 0)), st.ct⟩ [] ⟨by have := aput_len st.us u (q, 0); have := sz.us; show (aput st.us u (q, 0)).length ≤ 1000; omega, by simpa using szp.kp, szp.ct⟩ (by simp) (by simp only [lbehind, c1, c2, cond_true, cond_false, hqe])
            simp only [← dput_kv, List.map_set] at f
            refine ds_set 11 sc__law_behind.nd (de_if' (d := .int q) (qt_cmp (de_var 11) de_non (o2_is hse)) (fun h => q_ix (de_var 13) de_int (.lst ?_)) (fun h => de_eq (de_var 11) ?_)) <|
              ds_asgM (de_tup (da_cons (de_tup (da_cons (de_var 11) (da_cons de_int da_nil)) (by walk_at "z")) (da_cons (de_tup (da_cons (de_var 6) (da_cons de_int da_nil)) (by walk_at "z")) da_nil)) (by walk_at "z"))
                (gm_tup rfl (gm_cons (gm_dput (hu_of hr) (de_var 8) (de_var 6) .int rfl (by rw [kvD_len]; exact Nat.lt_of_lt_of_le (Nat.lt_of_le_of_lt sz.us (by decide)) (sz_small (Nat.le_refl 1000)))) (gm_cons (gm_put (de_var 9) (de_var 11) rfl (ixN_lt q0 (by simpa using q1))) gm_nil))) <|
              ds_nil <| ds_nil <| ?_
            · cases hk : kseat st.kp u with
              | some i => rw [hk] at h; cases h
              | none =>
                cases hf : frees st.kp with
                | nil => rw [hk, hf] at c1; rw [hk] at c2; simp at c1 c2; exact absurd c2 c1
                | cons a l => rw [hk, hf] at hqe; subst hqe; exact atI_nat (j := 0) rfl
            · cases hk : kseat st.kp u with
              | some i => rw [hk] at hqe; subst hqe; show oiD (kseat st.kp u) = _; rw [hk]; rfl
              | none => rw [hk] at h; cases h
            · exact ds_less (by walk_at "g") f
          · rw [ns] at c2
            refine ds_if (qt_cmp (de_var 7) de_str (by walk_at "o")) (fun c3 => ?_) (fun c3 => ?_)
            · have f := finM ⟨st.us, st.kp, st.ct ++ [u]⟩ [] ⟨szp.us, szp.kp, by have := sz.ct; simp; omega⟩ (by simp) (by simp only [lbehind, c1, c2, c3, cond_true, cond_false])
              simp only [List.map_append, List.map_cons, List.map_nil] at f
              refine ds_expr (de_append (de_var 10) (de_var 6) ⟨_, rfl⟩ rfl (Nat.lt_of_lt_of_le (by rw [List.length_map]; exact Nat.lt_of_le_of_lt sz.ct (by decide)) (sz_small (Nat.le_refl 1000)))) <| ds_nil <| ds_nil <| ds_nil <| ?_
              exact ds_less (by walk_at "g") f
            · refine ds_if (qt_cmp (de_var 7) de_str (by walk_at "o")) (fun c4 => ?_) (fun c4 => ?_)
              · have f := fin ⟨st.us, st.kp, st.ct.filter fun o => !decide (o = u)⟩ [] (.lst (st.ct.map .int)) ⟨szp.us, szp.kp, Nat.le_trans (List.length_filter_le _ _) szp.ct⟩ (by simp) (by simp only [lbehind, c1, c2, c3, c4, cond_true, cond_false])
                refine ds_setLcM 10 [("one", 16)] st.ct D.int (fun o => !decide (o = u)) D.int sc__law_behind.nd rfl (di_seqM (de_var 10)) (blkOk_by (show blkC n__law_behind (defScope s__law_behind) _ _ = true by decide +kernel)) (fun z hz => ⟨_, (by simp), (fun s H C cl fp => dg_name 16 sc__law_behind.nd), (fun s H C cl fp => dts_oneE (qt_cmp (de_var 16) (de_var 6) (by walk_at "o"))), (fun hk s H C cl fp => de_var 16)⟩) <| ds_nil <| ds_nil <| ds_nil <| ds_nil <| ?_
                exact ds_less (by walk_at "g") f
              · have w1 : ¬ w = "borrow" := fun z => by rw [decide_eq_true z] at c2; simp at c2
                have w2 : ¬ w = "cut" := of_decide_eq_false c3
                have w3 : ¬ w = "join" := of_decide_eq_false c4
                obtain ⟨q, hq⟩ := lcan_using can w2 w3 w1
                have hg : dget (kvD prD st.us) (.inl u) = some (prD q) := by rw [dget_kv, hq]; rfl
                have szd : (adel st.us u).length ≤ 1000 := Nat.le_trans (adel_len _ _) szp.us
                refine ds_expr (de_dpop (de_var 8) (de_var 6) .int rfl rfl hg) <|
                  ds_if (dt_w (dw_and (qt_cmp (de_var 7) de_str (by walk_at "o")) (fun _ => dw_and1 (qt_cmp (de_var 11) de_non (o2_isnt hse))))) (fun c5 => ?_) (fun c5 => ?_)
                · rw [ns] at c5
                  have hs : (kseat st.kp u).isSome = true := by rw [Bool.and_eq_true] at c5; exact c5.2
                  obtain ⟨i, hi⟩ := Option.isSome_iff_exists.mp hs
                  obtain ⟨i0, i1⟩ := kseat_lt hi
                  have f := finM ⟨adel st.us u, st.kp.set i.toNat none, st.ct⟩ [] ⟨szd, by simpa using szp.kp, szp.ct⟩ (by simp) (by simp only [lbehind, c1, c2, c3, c4, c5, cond_true, cond_false]; simp only [hi, Option.getD_some])
                  simp only [← ddrop_kv, List.map_set] at f
                  refine ds_put de_non (de_var 9) (de_eq (d' := .int i) (de_var 11) (by show oiD (kseat st.kp u) = _; rw [hi]; rfl)) rfl (ixN_lt i0 (by simpa using i1)) <| ds_nil <| ds_nil <| ds_nil <| ds_nil <| ds_nil <| ?_
                  exact ds_less (by walk_at "g") f
                · rw [ns] at c5
                  have f := finM ⟨adel st.us u, st.kp, st.ct⟩ [] ⟨szd, szp.kp, szp.ct⟩ (by simp) (by simp only [lbehind, c1, c2, c3, c4, c5, cond_true, cond_false])
                  simp only [← ddrop_kv] at f
                  exact ds_nil <| ds_nil <| ds_nil <| ds_nil <| ds_nil <| ds_less (by walk_at "g") f
end
end Lw

namespace Lw
section
variable {P : Program} {wd : World} {K : PySem.W.Frag} {mg : Str → Option Value} {base : Heap}
theorem ok_oi (n : Nat) (o : Option Int) : okD n (oiD o) = true := by cases o <;> rfl
theorem F__law_seat_of (T : Tx K mg) : PFn P wd K mg base (ct K) "_law_seat_of" 1 (fun ((s, u) : LS × Int) => [s.D, .int u]) (fun _ => True) (fun (s, u) => oiD (seatOf s u)) := by
  refine PFn.of (d__law_seat_of T) (m__law_seat_of T) sc__law_seat_of (fun _ _ _ _ _ _ us hl => match us, hl with | [_, _], _ => rfl) (fun _ => rfl) (fun (s, u) _ => ⟨by simp only [okDs, okD, ok_ls]; rfl, ok_oi _ _⟩) ?_
  rintro f cdv A outer s H E ⟨st, u⟩ hr -
  -- 0 state, 1 user
  refine
    ds_ret (de_if (qt_in (de_var 1) (q_ix (de_var 0) (de_int) (by walk_at "x")) in_us) (fun h1 => (q_ix (q_ix (d := prD ((aget st.us u).getD (0, 0))) (q_ix (de_var 0) (de_int) (by walk_at "x")) (de_var 1) ?_) (de_int) (by walk_at "x"))) (fun h1 => (de_non))) (?_)
  · obtain ⟨q, hq⟩ := Option.isSome_iff_exists.mp h1
    rw [hq]; exact ix_us hq
  · show (bif (aget st.us u).isSome then D.int ((aget st.us u).getD (0, 0)).1 else D.non) = oiD ((aget st.us u).map (·.1))
    cases aget st.us u <;> rfl
def okForm (form : Str) : Prop := form = "open" ∨ form = "highest" ∨ form = "sealed"
theorem F__law_takes (T : Tx K mg) : PFn P wd K mg base (ct K) "_law_takes" 1 (fun ((form, told, newest, ticket) : Str × Option Int × Option Int × Int) => [.str form, oiD told, oiD newest, .int ticket]) (fun (form, _) => okForm form) (fun (form, told, newest, ticket) => .bl (ltakes form told newest ticket)) := by
  refine PFn.of (d__law_takes T) (m__law_takes T) sc__law_takes (fun _ _ _ _ _ _ us hl => match us, hl with | [_, _, _, _], _ => rfl) (fun _ => rfl) (fun (form, told, newest, ticket) _ => ⟨by simp only [okDs, okD, ok_oi]; rfl, rfl⟩) ?_
  rintro f cdv A outer s H E ⟨form, told, newest, ticket⟩ hr ok
  have hl : dget (mergeD [] [(.inr "open", .non), (.inr "highest", oiD told), (.inr "sealed", oiD newest)]) (.inr form) = some (oiD (leastF form told newest)) := by
    rcases ok with rfl | rfl | rfl <;> rfl
  -- 0 form, 1 told, 2 newest, 3 ticket, 4 least
  refine
    ds_set 4 sc__law_takes.nd (q_ix (de_disp (dps_cons de_str de_non .str (dps_cons de_str (de_var 1) .str (dps_cons de_str (de_var 2) .str dps_nil))) (h15' := Nat.le_of_ble_eq_true rfl)) (de_var 0) (.dicS hl)) ?_
  cases hq : leastF form told newest with
  | none =>
    refine ds_ret (de_or (k' := false) (q_cmp (de_var 4) (de_non) (by walk_at "o")) (fun h1 => absurd h1 (by decide))) ?_
    show D.bl true = D.bl (ltakes form told newest ticket)
    unfold ltakes; rw [hq]
  | some l =>
    refine ds_ret (de_or (q_cmp (de_var 4) (de_non) (by walk_at "o")) (fun h1 => (de_one (q_cmp (de_var 3) (de_var 4) (by walk_at "o"))))) ?_
    show D.bl (false || decide (l ≤ ticket)) = D.bl (ltakes form told newest ticket)
    unfold ltakes; rw [hq]; rfl
theorem lposs_write {r : RL} {s : LS} {u : Int} {es : List Ev} : lposs r s (.act "write" u :: es) = (if (aget s.us u).isSome = true then lposs r s es else false) := by simp [lposs]
theorem lposs_ev {r : RL} {s : LS} {e : Ev} {es : List Ev} (h : e.Ok) : lposs r s (e :: es) = (if lcan r s e = true then lposs r (lbehind r s e).1 es else false) := by
  cases e with
  | pass => rfl
  | act w u =>
    have : ¬ w = "write" := fun z => by
      subst z
      exact absurd h (by show ¬ ("write" : Str) ∈ evWords; decide +kernel)
    simp only [lposs, if_neg this]
theorem ok_notWrite {w : Str} {u : Int} (h : (Ev.act w u).Ok) : decide (w = "write") = false := decide_eq_false fun z => by
  subst z
  exact absurd h (by show ¬ ("write" : Str) ∈ evWords; decide +kernel)
theorem F__law_are_possible (T : Tx K mg) : PFn P wd K mg base (ct K) "_law_are_possible" 3 (fun ((r, es) : RL × List Ev) => [r.gv, .tup (es.map Ev.D)]) (fun (r, es) => 0 ≤ r.s ∧ r.s ≤ 100 ∧ es.length ≤ 500 ∧ ∀ e ∈ es, e.OkD) (fun (r, es) => .bl (lposs r (lbegun r.s) es)) := by
  refine PFn.of (d__law_are_possible T) (m__law_are_possible T) sc__law_are_possible (fun _ _ _ _ _ _ us hl => match us, hl with | [_, _], _ => rfl) (fun _ => rfl) (fun (r, es) _ => ⟨by simp only [okDs, okD, ok_map 0 Ev.D (ok_ev 0)]; rfl, rfl⟩) ?_
  rintro f cdv A outer s H E ⟨r, es⟩ hr ⟨h0, h1, h2, hok⟩
  -- 0 given, 1 deeds, 2 state, 3 deed
  refine
    ds_set 2 sc__law_are_possible.nd (q_call (F__law_begun T) (da_cons (de_var 0) da_nil) (_) rfl ⟨h0, by omega⟩) <|
    ds_forJ (S := LS) Ev.D es (fun st => [some r.gv, some (.tup (es.map Ev.D)), some st.D, none]) (fun _ => [])
      (fun rs st => st.Sz (999 - rs.length) ∧ rs.length ≤ 500 ∧ (∀ e ∈ rs, e.OkD) ∧ lposs r st rs = lposs r (lbegun r.s) es)
      (di_seq (de_var 1) rfl) ⟨lbegun r.s, by walk_at "g", rfl, ⟨Nat.zero_le _, by simp [lbegun]; omega, Nat.zero_le _⟩, h2, hok, rfl⟩ (fun e rs st ⟨sz, hl, hk, he⟩ => ?_) (fun st ⟨_, _, _, he⟩ =>
      ds_ret (de_bl) (?_))
  · have hl' : rs.length + 1 ≤ 500 := hl
    have sz' : st.Sz (999 - (rs.length + 1)) := sz
    have hk' : ∀ e ∈ rs, e.OkD := fun e h => hk e (List.mem_cons_of_mem _ h)
    refine ⟨_, (dg_name 3 sc__law_are_possible.nd), ?_⟩
    rcases hk e List.mem_cons_self with eok | ⟨u, rfl⟩
    · rw [lposs_ev eok] at he
      have hc : DE (cxOf CX0 P wd K mg base n__law_are_possible "_law_are_possible" (defScope s__law_are_possible) f cdv A outer s H E).nox (ct K) [some r.gv, some (.tup (es.map Ev.D)), some st.D, some e.D] [] (.Subscript (.Name "deed" ⟨0, 0, 0, 0⟩) (.Constant (.int 0) 0 ⟨0, 0, 0, 0⟩) ⟨0, 0, 0, 0⟩) (.str e.word) [] := by
        cases e with
        | pass => exact q_ix (de_var 3) de_int (.tup rfl)
        | act w u => exact q_ix (de_var 3) de_int (.tup rfl)
      have nw : decide (e.word = "write") = false := by
        cases e with
        | pass => exact decide_eq_false (by show ¬ ("pass" : Str) = "write"; decide +kernel)
        | act w u => exact ok_notWrite eok
      refine ds_if (k := false) (dt_eq (qt_cmp (q_ix (d := .str e.word) (de_var 3) (de_int) (by cases e <;> exact .tup rfl)) (de_str) (by walk_at "o")) nw) (fun h => by cases h) (fun h =>
        ds_nil <|
        ds_if (dt_not (dt_val (q_call (F__law_can T) (da_cons (de_var 0) (da_cons (de_var 2) (da_cons (de_var 3) da_nil))) (r, st, e) rfl ⟨sz'.mono (by omega), eok⟩))) (fun h3 =>
          ds_ret (de_bl) (?_)) (fun h3 =>
          ds_nil <|
          ds_set 2 sc__law_are_possible.nd (q_ix (q_call (F__law_behind T) (da_cons (de_var 0) (da_cons (de_var 2) (da_cons (de_var 3) da_nil))) (r, st, e) rfl ⟨sz'.mono (by omega), eok, by simpa using h3⟩) (de_int) (.tup rfl)) <|
          ds_nil ⟨(lbehind r st e).1, by walk_at "g", rfl, (sz_behind sz' e).mono (by omega), by omega, hk', ?_⟩))
      · have h4 : lcan r st e = false := by simpa using h3
        rw [h4] at he
        show D.bl false = D.bl _
        rw [← he]; rfl
      · have h4 : lcan r st e = true := by simpa using h3
        rw [h4] at he
        exact he
    · rw [lposs_write] at he
      refine ds_if (qt_cmp (q_ix (de_var 3) (de_int) (.tup rfl)) (de_str) (by walk_at "o")) (fun h =>
        ds_if (qt_nin (q_ix (de_var 3) (de_int) (.tup rfl)) (q_ix (de_var 2) (de_int) (.tup rfl)) in_us) (fun h2 =>
          ds_ret (de_bl) (?_)) (fun h2 =>
          ds_nil <|
          ds_cont ⟨st, by walk_at "g", rfl, sz'.mono (by omega), by omega, hk', ?_⟩)) (fun h => absurd h (by decide +kernel))
      · have h4 : (aget st.us u).isSome = false := by simpa using h2
        rw [h4] at he
        show D.bl false = D.bl _
        rw [← he]; rfl
      · have h4 : (aget st.us u).isSome = true := by simpa using h2
        rw [h4] at he
        exact he
  · show D.bl true = D.bl _
    rw [← he]; rfl
end
end Lw

namespace DL
section
variable {X : Cx} {ct : Nat → Addr} {Γ : Gm} {μ μ1 μ2 : Mu} {a b : Expr} {pos : Pos} {l : List D}
/-- a list made by *, which may change later -/
theorem de_repM {n : Int} (ha : DE X ct Γ μ a (.lst l) μ1) (hb : DE X ct Γ μ1 b (.int n) μ2) (h1 : -(2 ^ 63) ≤ n) (h2 : n < 2 ^ 63) (h : l.length * n.toNat ≤ sizeLine) : DE X ct Γ μ (.BinOp a .Mult b pos) (.ptr μ2.length) (μ2 ++ [.lst (List.replicate n.toNat l).flatten]) :=
  PE.imp (pe_op op_rep ha hb) fun σ H Q ⟨F, A, r, q⟩ => ⟨F, A, r, fun v H1 F1 A1 e1 p1 r1 hv => ⟨F1, A1, r1, fun w H2 F2 A2 e2 p2 r2 hw => by
    cases hw
    cases hv with
    | @lst a0 vs _ h3 rv =>
      refine ⟨_, _, _, rfl, rfl, r2.m.sub _ _ (e2 _ _ h3), h1, h2, by rw [rv.len]; exact h, fun p hp => ?_⟩
      have rs : Reps X.K ct A2 F2 (List.replicate n.toNat vs).flatten (List.replicate n.toNat l).flatten := by
        have rv2 := rv.mono e2 p2
        induction n.toNat with
        | zero => exact .nil
        | succ j ih => rw [List.replicate_succ, List.flatten_cons]; exact rv2.app ih
      have fp := r2.m.sub.free hp
      have pA : A2 <+: A2 ++ [p] := List.prefix_append _ _
      refine q _ _ F2 (A2 ++ [p]) (e1.trans e2) (p1.trans (p2.trans pA)) ⟨r2.m.push hp (c := .lst _) ⟨fp, _, upd_same, rs.mono (.refl _) pA⟩, r2.s.mono (.refl _) pA⟩ (.ptr ?_)
      rw [← r2.m.len, List.getElem?_append_right (Nat.le_refl _), Nat.sub_self]; rfl⟩⟩
end
end DL
namespace Lw
section
variable {P : Program} {wd : World} {K : PySem.W.Frag} {mg : Str → Option Value} {base : Heap}
theorem at_oi {l : List (Option Int)} {i : Int} (h0 : 0 ≤ i) (h : i.toNat < l.length) : atI (l.map oiD) i = some (oiD (l.getD i.toNat none)) := by
  have h' : i.toNat < (l.map oiD).length := by simpa using h
  rw [atI_lt h0 h']
  simp [h]
theorem q_keepmax {X : Cx} {ct : Nat → Addr} {Γ : Gm} {μ : Mu} {o : Option Int} {t : Int} {a1 a2 a3 b1 b2 : Expr} {j : Nat} {p1 p2 p3 p4 p5 : Pos} (h1 : DE X ct Γ μ a1 (oiD o) μ) (h2 : DE X ct Γ μ a2 (oiD o) μ) (h3 : DE X ct Γ μ a3 (oiD o) μ) (t1 : DE X ct Γ μ b1 (.int t) μ) (t2 : DE X ct Γ μ b2 (.int t) μ) :
    DE X ct Γ μ (.IfExp (.BoolOp .Or [.Compare a1 [.Is] [.Constant .none j p1] p2, .Compare b1 [.Gt] [a2] p3] p4) b2 a3 p5) (oiD (bif ogt t o then some t else o)) μ := by
  cases o with
  | none => exact de_if' (d := D.int t) (dt_w (dw_or (k' := false) (qt_cmp h1 de_non (o2_is rfl)) (fun h => absurd h (by decide)))) (fun _ => t2) (fun h => absurd h (by decide))
  | some y =>
    refine de_eq (de_if (dt_w (dw_or (qt_cmp h1 de_non (o2_is rfl)) (fun _ => dw_or1 (qt_cmp t1 h2 o2_gt)))) (fun _ => t2) (fun _ => h3)) ?_
    show (bif (false || decide (y < t)) then D.int t else D.int y) = oiD (bif decide (y < t) then some t else some y)
    cases decide (y < t) <;> rfl
def wμ (x : WS) : Mu := [.dic (kvD D.int x.tk), .lst (x.found.map Row.D), .lst (x.told.map oiD), .lst (x.newest.map oiD), .lst (x.taken.map oiD)]
theorem rep_none (n : Nat) : (List.replicate n [D.non]).flatten = (List.replicate n (none : Option Int)).map oiD := by simp [oiD]
theorem enum_map {α : Type} (f : α → D) (l : List α) : enumD (l.map f) = l.zipIdx.map fun p => D.tup [.int (p.2 : Nat), f p.1] := enumD_map f l
theorem ix_kv {β : Type} {f : β → D} {μ : Mu} {l : List (Int × β)} {j : Nat} {u : Int} {q : β} (hm : μ[j]? = some (.dic (kvD f l))) (h : aget l u = some q) : IxD μ (.ptr j) (.int u) (f q) := .cdI hm (by rw [dget_kv, h]; rfl)
theorem F__law_written (T : Tx K mg) : PFn P wd K mg base (ct K) "_law_written" 3 (fun ((r, form, es) : RL × Str × List Ev) => [r.gv, .str form, .tup (es.map Ev.D)]) (fun (r, form, es) => 0 ≤ r.s ∧ r.s ≤ 100 ∧ es.length ≤ 500 ∧ okForm form ∧ wok r form 0 (wbegun r) es) (fun (r, form, es) => .tup [.tup ((wsteps r form 0 (wbegun r) es).found.map Row.D), .tup ((wsteps r form 0 (wbegun r) es).taken.map oiD)]) := by
  refine PFn.of (d__law_written T) (m__law_written T) sc__law_written (fun _ _ _ _ _ _ us hl => match us, hl with | [_, _, _], _ => rfl) (fun _ => rfl) (fun (r, form, es) _ => ⟨by simp only [okDs, okD, ok_map 0 Ev.D (ok_ev 0)]; rfl, by simp only [okDs, okD, ok_map 0 Row.D (fun _ => rfl), ok_map 0 oiD (ok_oi 0)]; rfl⟩) ?_
  rintro f cdv A outer s H E ⟨r, form, es⟩ hr ⟨h0, h1, h2, hf, hw⟩
  have z1 : (List.replicate r.s.toNat (none : Option Int)).length = r.s.toNat := List.length_replicate
  -- 0 given, 1 form, 2 deeds, 3 state, 4 tickets, 5 many, 6 found, 7 told, 8 newest, 9 taken, 10 at, 11 deed, 12 seat, 13 ticket, 14 is_taken
  refine
    ds_asg (de_tup (da_cons (q_call (F__law_begun T) (da_cons (de_var 0) da_nil) (_) rfl ⟨h0, by omega⟩) (da_cons de_dic0M (da_cons de_int (da_cons (de_lstM da_nil (by walk_at "z")) da_nil)))) (by walk_at "z")) (dg_tup rfl (dgs_cons (dg_name 3 sc__law_written.nd) (dgs_cons (dg_name 4 sc__law_written.nd) (dgs_cons (dg_name 5 sc__law_written.nd) (dgs_cons (dg_name 6 sc__law_written.nd) dgs_nil))))) <|
    ds_par3 7 8 9 rfl sc__law_written.nd (da_cons (de_repM (de_lst (da_cons de_non da_nil) (by walk_at "z")) (q_ix (de_var 0) de_int (by walk_at "x")) (by omega) (by omega) (sz_small (by simp; omega))) (da_cons (de_repM (de_lst (da_cons de_non da_nil) (by walk_at "z")) (q_ix (de_var 0) de_int (by walk_at "x")) (by omega) (by omega) (sz_small (by simp; omega))) (da_cons (de_repM (de_lst (da_cons de_non da_nil) (by walk_at "z")) (q_ix (de_var 0) de_int (by walk_at "x")) (by omega) (by omega) (sz_small (by simp; omega))) da_nil))) <| by
    rw [rep_none]
    refine ds_forJ (S := WS) (fun p : Ev × Nat => D.tup [.int (p.2 : Nat), p.1.D]) es.zipIdx (fun x => [some r.gv, some (.str form), some (.tup (es.map Ev.D)), some x.s.D, some (.ptr 0), some (.int x.many), some (.ptr 1), some (.ptr 2), some (.ptr 3), some (.ptr 4), none, none, none, none, none]) wμ
      (fun rs x => ∃ i es', rs = es'.zipIdx i ∧ i + es'.length ≤ 500 ∧ x.s.Sz (200 + i) ∧ x.tk.length ≤ i ∧ x.found.length ≤ i ∧ wok r form i x es' ∧ wsteps r form i x es' = wsteps r form 0 (wbegun r) es)
      (by rw [← enum_map]; exact di_enum (b_enumerate T) (de_var 2) rfl) ⟨wbegun r, by walk_at "g", rfl, 0, es, rfl, by omega, ⟨Nat.zero_le _, by simp [wbegun, lbegun]; omega, Nat.zero_le _⟩, Nat.le_refl _, Nat.le_refl _, hw, rfl⟩ (fun a rs x hJ => ?_) (fun x hJ => ?_)
    · obtain ⟨i, es', he, hl, sz, ht, hfo, hwk, hfin⟩ := hJ
      cases es' with
      | nil => cases he
      | cons e es' =>
        rw [List.zipIdx_cons] at he
        obtain ⟨rfl, rfl⟩ := List.cons.inj he
        obtain ⟨w1, w2⟩ := hwk
        have hl' : i + es'.length + 1 ≤ 500 := by simp only [List.length_cons] at hl; omega
        refine ⟨_, (dg_tup rfl (dgs_cons (dg_name 10 sc__law_written.nd) (dgs_cons (dg_name 11 sc__law_written.nd) dgs_nil))), ?_⟩
        have go : ∀ x' : WS, wstep r form x i e = x' → x'.s.Sz (200 + (i + 1)) → x'.tk.length ≤ i + 1 → x'.found.length ≤ i + 1 → ∀ (Γ' : Gm) (μ' : Mu), μ' = wμ x' → GLe [some r.gv, some (.str form), some (.tup (es.map Ev.D)), some x'.s.D, some (.ptr 0), some (.int x'.many), some (.ptr 1), some (.ptr 2), some (.ptr 3), some (.ptr 4), none, none, none, none, none] Γ' →
            ∃ s' : WS, GLe [some r.gv, some (.str form), some (.tup (es.map Ev.D)), some s'.s.D, some (.ptr 0), some (.int s'.many), some (.ptr 1), some (.ptr 2), some (.ptr 3), some (.ptr 4), none, none, none, none, none] Γ' ∧ μ' = wμ s' ∧ ∃ i_1 es'_1, es'.zipIdx (i + 1) = es'_1.zipIdx i_1 ∧ i_1 + es'_1.length ≤ 500 ∧ s'.s.Sz (200 + i_1) ∧ s'.tk.length ≤ i_1 ∧ s'.found.length ≤ i_1 ∧ wok r form i_1 s' es'_1 ∧ wsteps r form i_1 s' es'_1 = wsteps r form 0 (wbegun r) es := by
          rintro x' rfl h1 h2 h3 Γ' _ rfl g
          exact ⟨_, g, rfl, i + 1, es', rfl, by omega, h1, h2, h3, w2, hfin⟩
        have szb : ∀ e', (lbehind r x.s e').1.Sz (200 + (i + 1)) := fun e' => sz_behind sz e'
        cases e with
        | pass =>
          refine ds_if (qt_cmp (q_ix (de_var 11) de_int (.tup rfl)) de_str (by walk_at "o")) (fun h => absurd h (by decide +kernel)) (fun _ => ds_nil <|
            ds_set 3 sc__law_written.nd (q_ix (q_call (F__law_behind T) (da_cons (de_var 0) (da_cons (de_var 3) (da_cons (de_var 11) da_nil))) (r, x.s, .pass) rfl ⟨sz.mono (by omega), trivial, w1⟩) de_int (.tup rfl)) <|
            ds_if (dt_w (dw_and (k' := false) (qt_cmp (q_ix (de_var 11) de_int (.tup rfl)) de_str (by walk_at "o")) (fun h => absurd h (by decide +kernel)))) (fun h => absurd h (by decide +kernel)) (fun _ => ds_nil <| ds_nil ?_))
          exact go _ rfl (szb .pass) (Nat.le_succ_of_le ht) (Nat.le_succ_of_le hfo) _ _ rfl (by walk_at "g")
        | act w u =>
          by_cases hwr : w = "write"
          · subst hwr
            obtain ⟨⟨q, hq, hin⟩, t, htk⟩ : (∃ q, aget x.s.us u = some q ∧ seatIn x q.1) ∧ ∃ t, aget x.tk u = some t := by
              have : wok1 r x (.act "write" u) := w1
              simp only [wok1, if_pos] at this
              exact this
            obtain ⟨o, ho⟩ : ∃ o, x.told.getD q.1.toNat none = o := ⟨_, rfl⟩
            have ato := at_oi hin.1 hin.2.1
            rw [ho] at ato
            obtain ⟨ok, hok⟩ : ∃ k, ltakes form o (x.newest.getD q.1.toNat none) t = k := ⟨_, rfl⟩
            have ex : wstep r form x i (.act "write" u) = ⟨x.s, x.tk, x.many, x.found ++ [⟨i, u, q.1, t, ok⟩], x.told.set q.1.toNat (bif ogt t o then some t else o), x.newest, x.taken.set q.1.toNat (bif ok then some t else x.taken.getD q.1.toNat none)⟩ := by
              simp only [wstep, if_pos, wwrite, hq, htk, Option.getD_some, ho, hok]
            refine ds_if (qt_cmp (q_ix (de_var 11) de_int (.tup rfl)) de_str (by walk_at "o")) (fun _ =>
              ds_par 12 13 rfl sc__law_written.nd (da_cons (de_eq (d' := .int q.1) (q_call (F__law_seat_of T) (da_cons (de_var 3) (da_cons (q_ix (de_var 11) de_int (.tup rfl)) da_nil)) (x.s, u) rfl trivial) ?_) (da_cons (q_ix (d := .int t) (de_var 4) (q_ix (de_var 11) de_int (.tup rfl)) (ix_kv (f := D.int) rfl htk)) da_nil)) <|
              ds_set 14 sc__law_written.nd (de_eq (d' := .bl ok) (q_call (F__law_takes T) (da_cons (de_var 1) (da_cons (q_ix (de_var 7) (de_var 12) (.cell rfl ato)) (da_cons (q_ix (de_var 8) (de_var 12) (.cell rfl (at_oi hin.1 hin.2.2.1))) (da_cons (de_var 13) da_nil)))) (form, o, x.newest.getD q.1.toNat none, t) rfl hf) (congrArg D.bl hok)) <|
              ds_expr (de_append (de_var 6) (de_tup (da_cons (de_var 10) (da_cons (q_ix (de_var 11) de_int (.tup rfl)) (da_cons (de_var 12) (da_cons (de_var 13) (da_cons (de_var 14) da_nil))))) (by walk_at "z")) ⟨_, rfl⟩ rfl (Nat.lt_of_lt_of_le (by rw [List.length_map]; omega) (sz_small (Nat.le_refl 1000)))) <|
              ds_put (d := oiD (bif ogt t o then some t else o)) (n := q.1.toNat) (q_keepmax (q_ix (de_var 7) (de_var 12) (.cell rfl ato)) (q_ix (de_var 7) (de_var 12) (.cell rfl ato)) (q_ix (de_var 7) (de_var 12) (.cell rfl ato)) (de_var 13) (de_var 13)) (de_var 7) (de_var 12) rfl (ixN_lt hin.1 (by simpa using hin.2.1)) <|
              ds_put (d := oiD (bif ok then some t else x.taken.getD q.1.toNat none)) (n := q.1.toNat) (de_eq (de_if (dt_val (de_var 14)) (fun _ => de_var 13) (fun _ => q_ix (de_var 9) (de_var 12) (.cell rfl (at_oi hin.1 hin.2.2.2)))) ?_) (de_var 9) (de_var 12) rfl (ixN_lt hin.1 (by simpa using hin.2.2.2)) <|
              ds_cont ?_) (fun h => absurd h (by decide +kernel))
            · show oiD (seatOf x.s u) = _
              unfold seatOf; rw [hq]; rfl
            · cases ok <;> rfl
            · exact go _ ex (sz.mono (by omega)) (Nat.le_succ_of_le ht) (by simp; omega) _ _ (by simp only [wμ, List.map_append, List.map_cons, List.map_nil, List.map_set]; rfl) (by walk_at "g")
          · obtain ⟨wm, wc, wb⟩ : w ∈ evWords ∧ lcan r x.s (.act w u) = true ∧ (w = "borrow" → ∀ q, aget (lbehind r x.s (.act w u)).1.us u = some q → seatIn x q.1) := by
              have : wok1 r x (.act w u) := w1
              simp only [wok1, if_neg hwr] at this
              exact this
            have est : wstep r form x i (.act w u) = wled r x (.act w u) := by simp only [wstep, if_neg hwr]
            refine ds_if (qt_cmp (q_ix (de_var 11) de_int (.tup rfl)) de_str (by walk_at "o")) (fun h => absurd (of_decide_eq_true h) hwr) (fun _ => ds_nil <|
              ds_set 3 sc__law_written.nd (q_ix (q_call (F__law_behind T) (da_cons (de_var 0) (da_cons (de_var 3) (da_cons (de_var 11) da_nil))) (r, x.s, .act w u) rfl ⟨sz.mono (by omega), wm, wc⟩) de_int (.tup rfl)) <|
              ds_if (dt_w (dw_and (qt_cmp (q_ix (de_var 11) de_int (.tup rfl)) de_str (by walk_at "o")) (fun h => dw_and1 (qt_in (q_ix (de_var 11) de_int (.tup rfl)) (q_ix (de_var 3) de_int (.tup rfl)) in_us)))) (fun h => ?_) (fun h => ds_nil <| ds_nil ?_))
            · obtain ⟨hb, hs⟩ := (Bool.and_eq_true_iff.mp h)
              obtain ⟨q, hq⟩ := Option.isSome_iff_exists.mp hs
              have sin := wb (of_decide_eq_true hb) q hq
              have ex : wstep r form x i (.act w u) = ⟨(lbehind r x.s (.act w u)).1, aput x.tk u x.many, x.many + 1, x.found, x.told, x.newest.set q.1.toNat (some x.many), x.taken⟩ := by
                rw [est]; unfold wled; simp only [hq, hb, cond_true]
              refine ds_asgM (de_tup (da_cons (de_var 5) (da_cons (de_var 5) da_nil)) (by walk_at "z")) (gm_tup rfl (gm_cons (gm_dput (hu_of hr) (de_var 4) (q_ix (de_var 11) de_int (.tup rfl)) .int rfl (by rw [kvD_len]; exact Nat.lt_of_lt_of_le (by omega : x.tk.length < 1000) (sz_small (Nat.le_refl 1000)))) (gm_cons (gm_put (n := q.1.toNat) (i := q.1) (de_var 8) (de_eq (q_call (F__law_seat_of T) (da_cons (de_var 3) (da_cons (q_ix (de_var 11) de_int (.tup rfl)) da_nil)) (_, _) rfl trivial) ?_) rfl (ixN_lt sin.1 (by simpa using sin.2.2.1))) gm_nil))) <|
                ds_set 5 sc__law_written.nd (q_op (de_var 5) de_int (by walk_at "o")) <| ds_nil <| ds_nil ?_
              · show oiD (seatOf _ u) = _
                unfold seatOf; rw [hq]; rfl
              · exact go _ ex (szb _) (Nat.le_trans (aput_len _ _ _) (by omega)) (Nat.le_succ_of_le hfo) _ _ (by simp only [wμ, ← dput_kv, List.map_set]; rfl) (by walk_at "g")
            · have ex : wstep r form x i (.act w u) = ⟨(lbehind r x.s (.act w u)).1, x.tk, x.many, x.found, x.told, x.newest, x.taken⟩ := by
                rw [est]; unfold wled
                cases hq : aget (lbehind r x.s (.act w u)).1.us u with
                | none => simp only [hq]
                | some q =>
                  have hb : decide (w = "borrow") = false := by rw [hq] at h; simpa using h
                  simp only [hq, hb, cond_false]
              exact go _ ex (szb _) (Nat.le_succ_of_le ht) (Nat.le_succ_of_le hfo) _ _ rfl (by walk_at "g")
    · obtain ⟨i, es', he, hl, sz, ht, hfo, hwk, hfin⟩ := hJ
      cases es' with
      | cons e es' => rw [List.zipIdx_cons] at he; cases he
      | nil =>
        have hx : x = wsteps r form 0 (wbegun r) es := hfin
        subst hx
        exact ds_ret (de_tup (da_cons (q_tuple (b_tuple T) (de_var 6) (.cell rfl)) (da_cons (q_tuple (b_tuple T) (de_var 9) (.cell rfl)) da_nil)) (by walk_at "z")) rfl
end
end Lw

namespace DL
section
variable {X : Cx} {ct : Nat → Addr} {Γ Γ1 : Gm} {μ μ1 μ2 : Mu} {c : Expr} {sa sb rest : List Stmt} {pos : Pos} {k : Bool} {P : P4}
/-- both ways lead to one place -/
theorem ds_ifJ (Γ1 : Gm) (μ2 : Mu) (hc : DT X ct Γ μ c k μ1) (h1 : k = true → DSs X ct sa Γ μ1 { P with nx := fun Γ' μ' => GLe Γ1 Γ' ∧ μ' = μ2 }) (h2 : k = false → DSs X ct sb Γ μ1 { P with nx := fun Γ' μ' => GLe Γ1 Γ' ∧ μ' = μ2 }) (hr : DSs X ct rest Γ1 μ2 P) : DSs X ct (.If c sa sb pos :: rest) Γ μ P :=
  ds_if hc (fun h => ds_imp (h1 h) (fun Γ' μ' ⟨g, e⟩ => by subst e; exact ds_less g hr) (fun _ _ z => z) (fun _ _ z => z) (fun _ _ z => z))
    (fun h => ds_imp (h2 h) (fun Γ' μ' ⟨g, e⟩ => by subst e; exact ds_less g hr) (fun _ _ z => z) (fun _ _ z => z) (fun _ _ z => z))
end
end DL
namespace Lw
section
variable {P : Program} {wd : World} {K : PySem.W.Frag} {mg : Str → Option Value} {base : Heap}
theorem inr_eq (a b : Str) : decide ((Sum.inr a : Key) = Sum.inr b) = decide (a = b) := by simp
theorem dget_sk (u : Str) : ∀ l : List (Str × Int), dget (skD l) (.inr u) = (sget l u).map D.int
  | [] => rfl
  | p :: l => by
    have ih := dget_sk u l
    unfold dget sget skD at *
    simp only [List.map_cons, List.find?_cons, inr_eq]
    cases h : decide (p.1 = u) with
    | true => rfl
    | false => exact ih
theorem dput_sk (u : Str) (v : Int) (l : List (Str × Int)) : dput (skD l) (.inr u) (.int v) = skD (sput l u v) := by
  unfold dput sput skD
  simp only [List.any_map, Function.comp_def, inr_eq]
  split
  · simp only [List.map_map]
    apply List.map_congr_left
    intro p _
    simp only [Function.comp_def]
    by_cases h : p.1 = u
    · simp [h]
    · simp [h]
  · simp
theorem optD (o : Option Int) (d : Int) : (o.map D.int).getD (.int d) = .int (o.getD d) := by cases o <;> rfl
theorem sput_len (l : List (Str × Int)) (u : Str) (v : Int) : (sput l u v).length ≤ l.length + 1 := by
  unfold sput; split <;> simp
theorem skD_len (l : List (Str × Int)) : (skD l).length = l.length := by simp [skD]
def mμ (x : MS) : Mu := [.dic (skD x.found), .dic (kvD D.int x.out), .dic (kvD D.int x.best)]
theorem q_getS {X : Cx} {ct : Nat → Addr} {Γ : Gm} {μ : Mu} {o e f : Expr} {apos pos : Pos} {j : Nat} {l : List (Str × Int)} {u : Str} {v : Int} (ho : DE X ct Γ μ o (.ptr j) μ) (he : DE X ct Γ μ e (.str u) μ) (hf : DE X ct Γ μ f (.int v) μ) (hm : μ[j]? = some (.dic (skD l))) (hu : X.A.units + 1 < cLine := by exact hu_of ‹Room _ _›) (bm : M2 X o "get" apos e f pos := by exact ⟨rfl, rfl, rfl, rfl⟩) :
    DE X ct Γ μ (.Call (.Attribute o "get" apos) [e, f] [] pos) (.int ((sget l u).getD v)) μ :=
  de_eq (de_get2 hu ho he hf ⟨_, .inr ⟨j, rfl, hm⟩⟩ (.cdS hm) bm) (by rw [dget_sk, optD])
theorem q_getI {X : Cx} {ct : Nat → Addr} {Γ : Gm} {μ : Mu} {o e f : Expr} {apos pos : Pos} {j : Nat} {l : List (Int × Int)} {u : Int} {v : Int} (ho : DE X ct Γ μ o (.ptr j) μ) (he : DE X ct Γ μ e (.int u) μ) (hf : DE X ct Γ μ f (.int v) μ) (hm : μ[j]? = some (.dic (kvD D.int l))) (hu : X.A.units + 1 < cLine := by exact hu_of ‹Room _ _›) (bm : M2 X o "get" apos e f pos := by exact ⟨rfl, rfl, rfl, rfl⟩) :
    DE X ct Γ μ (.Call (.Attribute o "get" apos) [e, f] [] pos) (.int ((aget l u).getD v)) μ :=
  de_eq (de_get2 hu ho he hf ⟨_, .inr ⟨j, rfl, hm⟩⟩ (.cdI hm) bm) (by rw [dget_kv, optD])
theorem mkeep_len (l : List (Str × Int)) (u : Str) (v : Int) : (mkeep l u v).length ≤ l.length + 1 := sput_len _ _ _
theorem ok_sk (n : Nat) (l : List (Str × Int)) : okKs n (skD l) = true := by
  rw [okKs_all]; simp [skD, okD]
theorem rowAt_eq {rows : List Row} {i : Nat} (h : (rows.filter fun x => decide (x.at_ = i)) ≠ []) : atI ((rows.filter fun x => decide (x.at_ = i)).map Row.D) 0 = some (rowAt rows i).D := by
  unfold rowAt
  cases q : rows.filter fun x => decide (x.at_ = i) with
  | nil => exact absurd q h
  | cons a l => exact atI_nat (j := 0) rfl
theorem F__law_met (T : Tx K mg) : PFn P wd K mg base (ct K) "_law_met" 4 (fun ((r, form, es) : RL × Str × List Ev) => [r.gv, .str form, .tup (es.map Ev.D)])
    (fun (r, form, es) => (0 ≤ r.s ∧ r.s ≤ 100 ∧ es.length ≤ 500 ∧ okForm form ∧ wok r form 0 (wbegun r) es) ∧ mok r (wsteps r form 0 (wbegun r) es).found 0 (mbegun r) es)
    (fun (r, form, es) => .dic (skD (msteps r (wsteps r form 0 (wbegun r) es).found 0 (mbegun r) es).found)) := by
  refine PFn.of (d__law_met T) (m__law_met T) sc__law_met (fun _ _ _ _ _ _ us hl => match us, hl with | [_, _, _], _ => rfl) (fun _ => rfl) (fun (r, form, es) _ => ⟨by simp only [okDs, okD, ok_map 0 Ev.D (ok_ev 0)]; rfl, by simp only [okD, ok_sk]⟩) ?_
  rintro f cdv A outer s H E ⟨r, form, es⟩ hr ⟨⟨h0, h1, h2, hf, hw⟩, hm⟩
  obtain ⟨rows, hrows⟩ : ∃ rows, (wsteps r form 0 (wbegun r) es).found = rows := ⟨_, rfl⟩
  have hrD : D.tup ((wsteps r form 0 (wbegun r) es).found.map Row.D) = .tup (rows.map Row.D) := by rw [hrows]
  -- 0 given, 1 form, 2 deeds, 3 rows, 4 found, 5 given_out, 6 best, 7 state, 8 many, 9 at, 10 deed, 11 row, 12 one
  refine
    ds_asg (de_tup (da_cons (de_eq (q_ix (q_call (F__law_written T) (da_cons (de_var 0) (da_cons (de_var 1) (da_cons (de_var 2) da_nil))) (r, form, es) rfl ⟨h0, h1, h2, hf, hw⟩) de_int (.tup rfl)) hrD) (da_cons de_dic0M (da_cons de_dic0M (da_cons de_dic0M da_nil)))) (by walk_at "z")) (dg_tup rfl (dgs_cons (dg_name 3 sc__law_met.nd) (dgs_cons (dg_name 4 sc__law_met.nd) (dgs_cons (dg_name 5 sc__law_met.nd) (dgs_cons (dg_name 6 sc__law_met.nd) dgs_nil))))) <|
    ds_par 7 8 rfl sc__law_met.nd (da_cons (q_call (F__law_begun T) (da_cons (de_var 0) da_nil) (_) rfl ⟨h0, by omega⟩) (da_cons de_int da_nil)) <| by
    show DSs _ _ _ _ _ { nx := fun _ _ => D.non = .dic (skD (msteps r (wsteps r form 0 (wbegun r) es).found 0 (mbegun r) es).found), rt := fun d2 _ => d2 = .dic (skD (msteps r (wsteps r form 0 (wbegun r) es).found 0 (mbegun r) es).found) }
    rw [hrows] at hm ⊢
    refine ds_forJ (S := MS) (fun p : Ev × Nat => D.tup [.int (p.2 : Nat), p.1.D]) es.zipIdx (fun x => [some r.gv, some (.str form), some (.tup (es.map Ev.D)), some (.tup (rows.map Row.D)), some (.ptr 0), some (.ptr 1), some (.ptr 2), some x.s.D, some (.int x.many), none, none, none, none]) mμ
      (fun rs x => ∃ i es', rs = es'.zipIdx i ∧ i + es'.length ≤ 500 ∧ x.s.Sz (200 + i) ∧ x.found.length ≤ 2 * i ∧ x.out.length ≤ i ∧ x.best.length ≤ i ∧ mok r rows i x es' ∧ msteps r rows i x es' = msteps r rows 0 (mbegun r) es)
      (by rw [← enum_map]; exact di_enum (b_enumerate T) (de_var 2) rfl) ⟨mbegun r, by walk_at "g", rfl, 0, es, rfl, by omega, ⟨Nat.zero_le _, by simp [mbegun, lbegun]; omega, Nat.zero_le _⟩, Nat.le_refl _, Nat.le_refl _, Nat.le_refl _, hm, rfl⟩ (fun a rs x hJ => ?_) (fun x hJ => ?_)
    · obtain ⟨i, es', he, hl, sz, hfo, hout, hbest, hmk, hfin⟩ := hJ
      cases es' with
      | nil => cases he
      | cons e es' =>
        rw [List.zipIdx_cons] at he
        obtain ⟨rfl, rfl⟩ := List.cons.inj he
        obtain ⟨w1, w2⟩ := hmk
        have hl' : i + es'.length + 1 ≤ 500 := by simp only [List.length_cons] at hl; omega
        have big : ∀ n : Nat, n ≤ 1000 → n < sizeLine := fun n h => Nat.lt_of_le_of_lt h (by decide +kernel)
        refine ⟨_, (dg_tup rfl (dgs_cons (dg_name 9 sc__law_met.nd) (dgs_cons (dg_name 10 sc__law_met.nd) dgs_nil))), ?_⟩
        have go : ∀ x' : MS, mstep r rows x i e = x' → x'.s.Sz (200 + (i + 1)) → x'.found.length ≤ 2 * (i + 1) → x'.out.length ≤ i + 1 → x'.best.length ≤ i + 1 → ∀ (Γ' : Gm) (μ' : Mu), μ' = mμ x' → GLe [some r.gv, some (.str form), some (.tup (es.map Ev.D)), some (.tup (rows.map Row.D)), some (.ptr 0), some (.ptr 1), some (.ptr 2), some x'.s.D, some (.int x'.many), none, none, none, none] Γ' →
            ∃ s' : MS, GLe [some r.gv, some (.str form), some (.tup (es.map Ev.D)), some (.tup (rows.map Row.D)), some (.ptr 0), some (.ptr 1), some (.ptr 2), some s'.s.D, some (.int s'.many), none, none, none, none] Γ' ∧ μ' = mμ s' ∧ ∃ i_1 es'_1, es'.zipIdx (i + 1) = es'_1.zipIdx i_1 ∧ i_1 + es'_1.length ≤ 500 ∧ s'.s.Sz (200 + i_1) ∧ s'.found.length ≤ 2 * i_1 ∧ s'.out.length ≤ i_1 ∧ s'.best.length ≤ i_1 ∧ mok r rows i_1 s' es'_1 ∧ msteps r rows i_1 s' es'_1 = msteps r rows 0 (mbegun r) es := by
          rintro x' rfl h1 h2 h3 h4 Γ' _ rfl g
          exact ⟨_, g, rfl, i + 1, es', rfl, by omega, h1, h2, h3, h4, w2, hfin⟩
        have szb : ∀ e', (lbehind r x.s e').1.Sz (200 + (i + 1)) := fun e' => sz_behind sz e'
        cases e with
        | pass =>
          refine ds_if (qt_cmp (q_ix (de_var 10) de_int (.tup rfl)) de_str (by walk_at "o")) (fun h => absurd h (by decide +kernel)) (fun _ => ds_nil <|
            ds_set 7 sc__law_met.nd (q_ix (q_call (F__law_behind T) (da_cons (de_var 0) (da_cons (de_var 7) (da_cons (de_var 10) da_nil))) (r, x.s, .pass) rfl ⟨sz.mono (by omega), trivial, w1⟩) de_int (.tup rfl)) <|
            ds_if (dt_w (dw_and (k' := false) (qt_cmp (q_ix (de_var 10) de_int (.tup rfl)) de_str (by walk_at "o")) (fun h => absurd h (by decide +kernel)))) (fun h => absurd h (by decide +kernel)) (fun _ => ds_nil <| ds_nil ?_))
          exact go _ rfl (szb .pass) (Nat.le_trans hfo (by omega)) (Nat.le_succ_of_le hout) (Nat.le_succ_of_le hbest) _ _ rfl (by walk_at "g")
        | act w u =>
          by_cases hwr : w = "write"
          · subst hwr
            obtain ⟨hne, hgo⟩ : (rows.filter fun x => decide (x.at_ = i)) ≠ [] ∧ ((rowAt rows i).ok = true → (aget x.out (rowAt rows i).seat).isSome = true) := by
              have : mok1 r rows x i (.act "write" u) := w1
              simp only [mok1, if_pos] at this
              exact this
            have hrow := rowAt_eq hne
            have ex : mstep r rows x i (.act "write" u) = mwrite (rowAt rows i) x i := by simp only [mstep, if_pos]
            obtain ⟨rw, hrw⟩ : ∃ rw, rowAt rows i = rw := ⟨_, rfl⟩
            rw [hrw] at hrow hgo ex
            have fl : (bif rw.ok && decide (rw.tk < (aget x.out rw.seat).getD 0) then mkeep x.found "late" i else x.found).length ≤ 2 * i + 1 := by
              cases rw.ok && decide (rw.tk < (aget x.out rw.seat).getD 0)
              · exact Nat.le_succ_of_le hfo
              · exact Nat.le_trans (mkeep_len _ _ _) (by omega)
            have fl2 : (mwrite rw x i).found.length ≤ 2 * i + 2 := by
              show (bif rw.ok && decide (rw.tk < (aget x.best rw.seat).getD 0) then mkeep (bif rw.ok && decide (rw.tk < (aget x.out rw.seat).getD 0) then mkeep x.found "late" i else x.found) "back" i else (bif rw.ok && decide (rw.tk < (aget x.out rw.seat).getD 0) then mkeep x.found "late" i else x.found)).length ≤ _
              cases rw.ok && decide (rw.tk < (aget x.best rw.seat).getD 0)
              · exact Nat.le_succ_of_le fl
              · exact Nat.le_trans (mkeep_len _ _ _) (by omega)
            let Γr : Gm := [some r.gv, some (.str form), some (.tup (es.map Ev.D)), some (.tup (rows.map Row.D)), some (.ptr 0), some (.ptr 1), some (.ptr 2), some x.s.D, some (.int x.many), some (.int (i : Nat)), some (.tup [.str "write", .int u]), some rw.D, none]
            refine ds_if (qt_cmp (q_ix (de_var 10) de_int (.tup rfl)) de_str (by walk_at "o")) (fun _ =>
              ds_set 11 sc__law_met.nd (q_ix (de_lcP [("one", 12)] rows Row.D (fun x => decide (x.at_ = i)) Row.D rfl sc__law_met.nd (di_seq (de_var 3) rfl) (blkOk_by (show blkC n__law_met (defScope s__law_met) _ _ = true by decide +kernel)) (fun z hz => ⟨_, (by simp), (fun s H C cl fp => dg_name 12 sc__law_met.nd), (fun s H C cl fp => dts_oneE (qt_cmp (q_ix (de_var 12) de_int (.tup rfl)) (de_var 9) (by walk_at "o")) (decide_eq_decide.mpr (by omega))), (fun hk s H C cl fp => de_var 12)⟩)) de_int (.lst hrow)) <|
              ds_ifJ Γr [.dic (skD (bif rw.ok && decide (rw.tk < (aget x.out rw.seat).getD 0) then mkeep x.found "late" i else x.found)), .dic (kvD D.int x.out), .dic (kvD D.int x.best)]
                (dt_w (dw_and (dt_val (q_ix (de_var 11) de_int (.tup rfl))) (fun hok => dw_and1 (qt_cmp (q_ix (de_var 11) de_int (.tup rfl)) (q_ix (d := .int ((aget x.out rw.seat).getD 0)) (de_var 5) (q_ix (de_var 11) de_int (.tup rfl)) ?_) (by walk_at "o")))))
                (fun hk => ds_dput (hu_of hr) (q_getS (de_var 4) de_str (de_var 9) rfl) (de_var 4) de_str .str rfl (by rw [skD_len]; exact big _ (by omega)) <| ds_nil ⟨by walk_at "g", ?_⟩) (fun hk => ds_nil ⟨by walk_at "g", ?_⟩) <|
              ds_ifJ Γr [.dic (skD (mwrite rw x i).found), .dic (kvD D.int x.out), .dic (kvD D.int x.best)]
                (dt_w (dw_and (dt_val (q_ix (de_var 11) de_int (.tup rfl))) (fun hok => dw_and1 (qt_cmp (q_ix (de_var 11) de_int (.tup rfl)) (q_getI (de_var 6) (q_ix (de_var 11) de_int (.tup rfl)) de_int rfl) (by walk_at "o")))))
                (fun hk => ds_dput (hu_of hr) (q_getS (de_var 4) de_str (de_var 9) rfl) (de_var 4) de_str .str rfl (by rw [skD_len]; exact big _ (by omega)) <| ds_nil ⟨by walk_at "g", ?_⟩) (fun hk => ds_nil ⟨by walk_at "g", ?_⟩) <|
              ds_dput (hu_of hr) (q_ifI (dt_val (q_ix (de_var 11) de_int (.tup rfl))) (fun _ => de_max rfl (b_max T) (q_getI (de_var 6) (q_ix (de_var 11) de_int (.tup rfl)) de_int rfl) (q_ix (de_var 11) de_int (.tup rfl))) (fun _ => q_getI (de_var 6) (q_ix (de_var 11) de_int (.tup rfl)) de_int rfl)) (de_var 6) (q_ix (de_var 11) de_int (.tup rfl)) .int rfl (by rw [kvD_len]; exact big _ (by omega)) <|
              ds_cont ?_) (fun h => absurd h (by decide +kernel))
            · have := hgo hok
              obtain ⟨v, hv⟩ := Option.isSome_iff_exists.mp this
              rw [hv]
              exact ix_kv (f := D.int) rfl hv
            · rw [hk]
              show _ = [Cell.dic (skD (sput x.found "late" ((sget x.found "late").getD i))), _, _]
              rw [← dput_sk]; rfl
            · rw [hk]; rfl
            · show _ = [Cell.dic (skD (bif rw.ok && decide (rw.tk < (aget x.best rw.seat).getD 0) then mkeep _ "back" i else _)), _, _]
              rw [hk]
              show _ = [Cell.dic (skD (sput _ "back" ((sget _ "back").getD i))), _, _]
              rw [← dput_sk]; rfl
            · show _ = [Cell.dic (skD (bif rw.ok && decide (rw.tk < (aget x.best rw.seat).getD 0) then mkeep _ "back" i else _)), _, _]
              rw [hk]; rfl
            · exact go _ ex (sz.mono (by omega)) (Nat.le_trans fl2 (by omega)) (Nat.le_succ_of_le hout) (Nat.le_trans (aput_len _ _ _) (by omega)) _ _ (by simp only [mμ, mwrite, ← dput_kv]; rfl) (by walk_at "g")
          · obtain ⟨wm, wc⟩ : w ∈ evWords ∧ lcan r x.s (.act w u) = true := by
              have : mok1 r rows x i (.act w u) := w1
              simp only [mok1, if_neg hwr] at this
              exact this
            have est : mstep r rows x i (.act w u) = mled r x (.act w u) := by simp only [mstep, if_neg hwr]
            refine ds_if (qt_cmp (q_ix (de_var 10) de_int (.tup rfl)) de_str (by walk_at "o")) (fun h => absurd (of_decide_eq_true h) hwr) (fun _ => ds_nil <|
              ds_set 7 sc__law_met.nd (q_ix (q_call (F__law_behind T) (da_cons (de_var 0) (da_cons (de_var 7) (da_cons (de_var 10) da_nil))) (r, x.s, .act w u) rfl ⟨sz.mono (by omega), wm, wc⟩) de_int (.tup rfl)) <|
              ds_if (dt_w (dw_and (qt_cmp (q_ix (de_var 10) de_int (.tup rfl)) de_str (by walk_at "o")) (fun h => dw_and1 (qt_in (q_ix (de_var 10) de_int (.tup rfl)) (q_ix (de_var 7) de_int (.tup rfl)) in_us)))) (fun h => ?_) (fun h => ds_nil <| ds_nil ?_))
            · obtain ⟨hb, hs⟩ := (Bool.and_eq_true_iff.mp h)
              obtain ⟨q, hq⟩ := Option.isSome_iff_exists.mp hs
              have ex : mstep r rows x i (.act w u) = ⟨(lbehind r x.s (.act w u)).1, x.many + 1, x.found, aput x.out q.1 x.many, x.best⟩ := by
                rw [est]; unfold mled; simp only [hq, hb, cond_true]
              refine ds_dput (hu_of hr) (de_var 8) (de_var 5) (de_eq (d' := .int q.1) (q_call (F__law_seat_of T) (da_cons (de_var 7) (da_cons (q_ix (de_var 10) de_int (.tup rfl)) da_nil)) (_, _) rfl trivial) ?_) .int rfl (by rw [kvD_len]; exact big _ (by omega)) <|
                ds_set 8 sc__law_met.nd (q_op (de_var 8) de_int (by walk_at "o")) <| ds_nil <| ds_nil ?_
              · show oiD (seatOf _ u) = _
                unfold seatOf; rw [hq]; rfl
              · exact go _ ex (szb _) (Nat.le_trans hfo (by omega)) (Nat.le_trans (aput_len _ _ _) (by omega)) (Nat.le_succ_of_le hbest) _ _ (by simp only [mμ, ← dput_kv]; rfl) (by walk_at "g")
            · have ex : mstep r rows x i (.act w u) = ⟨(lbehind r x.s (.act w u)).1, x.many, x.found, x.out, x.best⟩ := by
                rw [est]; unfold mled
                cases hq : aget (lbehind r x.s (.act w u)).1.us u with
                | none => simp only [hq]
                | some q =>
                  have hb : decide (w = "borrow") = false := by rw [hq] at h; simpa using h
                  simp only [hq, hb, cond_false]
              exact go _ ex (szb _) (Nat.le_trans hfo (by omega)) (Nat.le_succ_of_le hout) (Nat.le_succ_of_le hbest) _ _ rfl (by walk_at "g")
    · obtain ⟨i, es', he, hl, sz, ht, hfo, hb, hwk, hfin⟩ := hJ
      cases es' with
      | cons e es' => rw [List.zipIdx_cons] at he; cases he
      | nil =>
        have hx : x = msteps r rows 0 (mbegun r) es := hfin
        subst hx
        exact ds_freeze 4 rfl rfl rfl <| ds_ret (de_var 4) rfl
end
end Lw

/-! # The plain law of k78 -/
namespace Lw
open PySem PySem.Spec PyProof.Rows L2 DL
def cuts (c : Bool) : List Int := bif c then [0] else []
/-- user 0 in its seat, k moments after the borrowing -/
def StA (n : Nat) (c : Bool) (k : Int) : LS := ⟨[(0, (0, k))], some (0, k) :: List.replicate n none, cuts c⟩
def StL (n : Nat) (c : Bool) (k : Int) : LS := ⟨[(0, (0, k))], none :: List.replicate n none, cuts c⟩
def StB (n : Nat) (c : Bool) (k : Int) : LS := ⟨[(0, (0, k)), (1, (0, 0))], some (1, 0) :: List.replicate n none, cuts c⟩
theorem bor0 (r : RL) (n : Nat) (h : n < 4) : (lbehind r (lbegun ((n + 1 : Nat) : Int)) (.act "borrow" 0)).1 = StA n false 0 := by
  have : n = 0 ∨ n = 1 ∨ n = 2 ∨ n = 3 := by omega
  rcases this with rfl | rfl | rfl | rfl <;> rfl
theorem bor1 (r : RL) (n : Nat) (h : n < 4) (c : Bool) (k : Int) : (lbehind r (StL n c k) (.act "borrow" 1)).1 = StB n c k := by
  have : n = 0 ∨ n = 1 ∨ n = 2 ∨ n = 3 := by omega
  rcases this with rfl | rfl | rfl | rfl <;> cases c <;> rfl
theorem cut0 (r : RL) (n : Nat) (k : Int) : (lbehind r (StA n false k) (.act "cut" 0)).1 = StA n true k := by
  have e1 : decide (("cut" : Str) = "borrow") = false := by decide +kernel
  have e2 : decide (("cut" : Str) = "word") = false := by decide +kernel
  have e3 : decide (("cut" : Str) = "cut") = true := by decide +kernel
  simp only [lbehind, e1, e2, e3, Bool.false_and, Bool.or_false, cond_false, cond_true]
  rfl
theorem pass1 (r : RL) (n : Nat) (c : Bool) (k : Int) (h : k + 1 ≠ r.l) : (lbehind r (StA n c k) .pass).1 = StA n c (k + 1) := by
  simp [lbehind, lmoment, StA, older, aget, aput, keptOn, h]
theorem passL (r : RL) (n : Nat) (c : Bool) (k : Int) (h : k + 1 = r.l) : (lbehind r (StA n c k) .pass).1 = StL n c (k + 1) := by
  simp [lbehind, lmoment, StA, StL, older, aget, aput, keptOn, h]
theorem canP (r : RL) (n : Nat) (c : Bool) (k : Int) (h1 : k < r.g + r.t) (h2 : c = true ∨ k < r.b + r.t) : lcan r (StA n c k) .pass = true := by
  have e1 : ¬ r.g + r.t ≤ k := by omega
  rcases h2 with rfl | h2
  · simp [lcan, StA, lateU, aget, e1, cuts]
  · have e2 : ¬ r.b + r.t ≤ k := by omega
    simp [lcan, StA, lateU, aget, e1, e2]
theorem canB0 (r : RL) (n : Nat) : lcan r (lbegun n) (.act "borrow" 0) = true := rfl
theorem canB1 (r : RL) (n : Nat) (c : Bool) (k : Int) : lcan r (StL n c k) (.act "borrow" 1) = true := by cases c <;> rfl
theorem canC (r : RL) (n : Nat) (k : Int) : lcan r (StA n false k) (.act "cut" 0) = true := rfl
def tailE (back : Bool) : List Ev := .act "borrow" 1 :: ((bif back then [.act "write" 1] else []) ++ [.act "write" 0])
def evsOf (c : Bool) (l : Nat) (back : Bool) : List Ev := .act "borrow" 0 :: ((bif c then [.act "cut" 0] else []) ++ (List.replicate l .pass ++ tailE back))
theorem lposs_pass (r : RL) (n : Nat) (c : Bool) (tl : List Ev) (hg : r.l ≤ r.g + r.t) (hb : c = true ∨ r.l ≤ r.b + r.t) : ∀ (m : Nat) (k : Int), k + m + 1 = r.l → lposs r (StA n c k) (List.replicate (m + 1) .pass ++ tl) = lposs r (StL n c r.l) tl
  | 0, k, hk => by
    have hk' : k + 1 = r.l := by simpa using hk
    have e := canP r n c k (by omega) (hb.imp id fun h => by omega)
    show lposs r (StA n c k) (.pass :: tl) = _
    simp only [lposs, e, if_true, passL r n c k hk', hk']
  | m + 1, k, hk => by
    have hk' : k + 1 + m + 1 = r.l := by omega
    have e := canP r n c k (by omega) (hb.imp id fun h => by omega)
    show lposs r (StA n c k) (.pass :: (List.replicate (m + 1) .pass ++ tl)) = _
    simp only [lposs, e, if_true, pass1 r n c k (by omega)]
    exact lposs_pass r n c tl hg hb m (k + 1) hk'
def wA (n : Nat) (c : Bool) (k : Int) : WS := ⟨StA n c k, [(0, 0)], 1, [], List.replicate (n + 1) none, some 0 :: List.replicate n none, List.replicate (n + 1) none⟩
def wL (n : Nat) (c : Bool) (k : Int) : WS := ⟨StL n c k, [(0, 0)], 1, [], List.replicate (n + 1) none, some 0 :: List.replicate n none, List.replicate (n + 1) none⟩
theorem w_pass (r : RL) (form : Str) (n : Nat) (c : Bool) (tl : List Ev) (hg : r.l ≤ r.g + r.t) (hb : c = true ∨ r.l ≤ r.b + r.t) : ∀ (m i : Nat) (k : Int), k + m + 1 = r.l →
    (wok r form (i + m + 1) (wL n c r.l) tl → wok r form i (wA n c k) (List.replicate (m + 1) .pass ++ tl)) ∧ wsteps r form i (wA n c k) (List.replicate (m + 1) .pass ++ tl) = wsteps r form (i + m + 1) (wL n c r.l) tl
  | 0, i, k, hk => by
    have hk' : k + 1 = r.l := by simpa using hk
    have e := canP r n c k (by omega) (hb.imp id fun h => by omega)
    have st : wstep r form (wA n c k) i .pass = wL n c r.l := by
      show WS.mk (lbehind r (StA n c k) .pass).1 _ _ _ _ _ _ = _
      rw [passL r n c k hk', hk']; rfl
    refine ⟨fun h => ⟨e, ?_⟩, ?_⟩
    · rw [st]; exact h
    · show wsteps r form (i + 1) (wstep r form (wA n c k) i .pass) tl = _
      rw [st]
  | m + 1, i, k, hk => by
    have e := canP r n c k (by omega) (hb.imp id fun h => by omega)
    have st : wstep r form (wA n c k) i .pass = wA n c (k + 1) := by
      show WS.mk (lbehind r (StA n c k) .pass).1 _ _ _ _ _ _ = _
      rw [pass1 r n c k (by omega)]; rfl
    have ih := w_pass r form n c tl hg hb m (i + 1) (k + 1) (by omega)
    have ei : i + 1 + m + 1 = i + (m + 1) + 1 := by omega
    rw [ei] at ih
    refine ⟨fun h => ⟨e, ?_⟩, ?_⟩
    · rw [st]; exact ih.1 h
    · show wsteps r form (i + 1) (wstep r form (wA n c k) i .pass) (List.replicate (m + 1) .pass ++ tl) = _
      rw [st]; exact ih.2
def mA (n : Nat) (c : Bool) (k : Int) : MS := ⟨StA n c k, 1, [], [(0, 0)], []⟩
def mL (n : Nat) (c : Bool) (k : Int) : MS := ⟨StL n c k, 1, [], [(0, 0)], []⟩
theorem m_pass (r : RL) (rows : List Row) (n : Nat) (c : Bool) (tl : List Ev) (hg : r.l ≤ r.g + r.t) (hb : c = true ∨ r.l ≤ r.b + r.t) : ∀ (m i : Nat) (k : Int), k + m + 1 = r.l →
    (mok r rows (i + m + 1) (mL n c r.l) tl → mok r rows i (mA n c k) (List.replicate (m + 1) .pass ++ tl)) ∧ msteps r rows i (mA n c k) (List.replicate (m + 1) .pass ++ tl) = msteps r rows (i + m + 1) (mL n c r.l) tl
  | 0, i, k, hk => by
    have hk' : k + 1 = r.l := by simpa using hk
    have e := canP r n c k (by omega) (hb.imp id fun h => by omega)
    have st : mstep r rows (mA n c k) i .pass = mL n c r.l := by
      show MS.mk (lbehind r (StA n c k) .pass).1 _ _ _ _ = _
      rw [passL r n c k hk', hk']; rfl
    refine ⟨fun h => ⟨e, ?_⟩, ?_⟩
    · rw [st]; exact h
    · show msteps r rows (i + 1) (mstep r rows (mA n c k) i .pass) tl = _
      rw [st]
  | m + 1, i, k, hk => by
    have e := canP r n c k (by omega) (hb.imp id fun h => by omega)
    have st : mstep r rows (mA n c k) i .pass = mA n c (k + 1) := by
      show MS.mk (lbehind r (StA n c k) .pass).1 _ _ _ _ = _
      rw [pass1 r n c k (by omega)]; rfl
    have ih := m_pass r rows n c tl hg hb m (i + 1) (k + 1) (by omega)
    have ei : i + 1 + m + 1 = i + (m + 1) + 1 := by omega
    rw [ei] at ih
    refine ⟨fun h => ⟨e, ?_⟩, ?_⟩
    · rw [st]; exact ih.1 h
    · show msteps r rows (i + 1) (mstep r rows (mA n c k) i .pass) (List.replicate (m + 1) .pass ++ tl) = _
      rw [st]; exact ih.2
/-! the tail -/
def wB (n : Nat) (c : Bool) (k : Int) : WS := ⟨StB n c k, [(0, 0), (1, 1)], 2, [], List.replicate (n + 1) none, some 1 :: List.replicate n none, List.replicate (n + 1) none⟩
theorem wled_eq {r : RL} {x : WS} {w : Str} {u : Int} {s' : LS} (e : (lbehind r x.s (.act w u)).1 = s') : wled r x (.act w u) = match aget s'.us u with
    | some q => bif decide (w = "borrow") then ⟨s', aput x.tk u x.many, x.many + 1, x.found, x.told, x.newest.set q.1.toNat (some x.many), x.taken⟩ else ⟨s', x.tk, x.many, x.found, x.told, x.newest, x.taken⟩
    | none => ⟨s', x.tk, x.many, x.found, x.told, x.newest, x.taken⟩ := by subst e; rfl
theorem mled_eq {r : RL} {x : MS} {w : Str} {u : Int} {s' : LS} (e : (lbehind r x.s (.act w u)).1 = s') : mled r x (.act w u) = match aget s'.us u with
    | some q => bif decide (w = "borrow") then ⟨s', x.many + 1, x.found, aput x.out q.1 x.many, x.best⟩ else ⟨s', x.many, x.found, x.out, x.best⟩
    | none => ⟨s', x.many, x.found, x.out, x.best⟩ := by subst e; rfl
theorem nb : ¬ (("borrow" : Str) = "write") := by decide +kernel
theorem nc : ¬ (("cut" : Str) = "write") := by decide +kernel
theorem ncb : ¬ (("cut" : Str) = "borrow") := by decide +kernel
theorem mb : ("borrow" : Str) ∈ evWords := by decide +kernel
theorem mc : ("cut" : Str) ∈ evWords := by decide +kernel
theorem w_bor1 (r : RL) (form : Str) (n : Nat) (h : n < 4) (c : Bool) (k : Int) (i : Nat) : wstep r form (wL n c k) i (.act "borrow" 1) = wB n c k := by
  simp only [wstep, if_neg nb]
  rw [wled_eq (x := wL n c k) (bor1 r n h c k)]; rfl
theorem w_bor0 (r : RL) (form : Str) (n : Nat) (h : n < 4) (hs : r.s = ((n + 1 : Nat) : Int)) (i : Nat) : wstep r form (wbegun r) i (.act "borrow" 0) = wA n false 0 := by
  simp only [wstep, if_neg nb]
  have e : (lbehind r (wbegun r).s (.act "borrow" 0)).1 = StA n false 0 := by
    show (lbehind r (lbegun r.s) _).1 = _
    rw [hs]; exact bor0 r n h
  rw [wled_eq e]
  unfold wbegun
  rw [hs]; rfl
theorem w_cut0 (r : RL) (form : Str) (n : Nat) (i : Nat) : wstep r form (wA n false 0) i (.act "cut" 0) = wA n true 0 := by
  simp only [wstep, if_neg nc]
  rw [wled_eq (x := wA n false 0) (cut0 r n 0)]; rfl
theorem m_bor1 (r : RL) (rows : List Row) (n : Nat) (h : n < 4) (c : Bool) (k : Int) (i : Nat) : mstep r rows (mL n c k) i (.act "borrow" 1) = ⟨StB n c k, 2, [], [(0, 1)], []⟩ := by
  simp only [mstep, if_neg nb]
  rw [mled_eq (x := mL n c k) (bor1 r n h c k)]; rfl
theorem m_bor0 (r : RL) (rows : List Row) (n : Nat) (h : n < 4) (hs : r.s = ((n + 1 : Nat) : Int)) (i : Nat) : mstep r rows (mbegun r) i (.act "borrow" 0) = mA n false 0 := by
  simp only [mstep, if_neg nb]
  have e : (lbehind r (mbegun r).s (.act "borrow" 0)).1 = StA n false 0 := by
    show (lbehind r (lbegun r.s) _).1 = _
    rw [hs]; exact bor0 r n h
  rw [mled_eq e]; rfl
theorem m_cut0 (r : RL) (rows : List Row) (n : Nat) (i : Nat) : mstep r rows (mA n false 0) i (.act "cut" 0) = mA n true 0 := by
  simp only [mstep, if_neg nc]
  rw [mled_eq (x := mA n false 0) (cut0 r n 0)]; rfl
/-- what the parameters give -/
structure Fit (r : RL) (n : Nat) (c : Bool) (m : Nat) : Prop where
  n4 : n < 4
  s : r.s = ((n + 1 : Nat) : Int)
  l : r.l = ((m + 1 : Nat) : Int)
  g : r.l ≤ r.g + r.t
  b : c = true ∨ r.l ≤ r.b + r.t
section
variable {r : RL} {n m : Nat} {c : Bool}
theorem Fit.k (h : Fit r n c m) : (0 : Int) + m + 1 = r.l := by have := h.l; omega
theorem lposs_tail (h : Fit r n c m) (back : Bool) : lposs r (StL n c r.l) (tailE back) = true := by
  have e := canB1 r n c r.l
  unfold tailE
  simp only [lposs, if_neg nb, e, if_true, bor1 r n h.n4 c r.l]
  cases back <;> rfl
theorem law_poss (h : Fit r n c m) (back : Bool) : lposs r (lbegun r.s) (evsOf c (m + 1) back) = true := by
  have e0 : lcan r (lbegun r.s) (.act "borrow" 0) = true := rfl
  have b0 : (lbehind r (lbegun r.s) (.act "borrow" 0)).1 = StA n false 0 := by rw [h.s]; exact bor0 r n h.n4
  unfold evsOf
  simp only [lposs, if_neg nb, e0, if_true, b0]
  cases hc : c with
  | false =>
    have h' := h
    rw [hc] at h'
    show lposs r (StA n false 0) (List.replicate (m + 1) .pass ++ tailE back) = true
    rw [lposs_pass r n false _ h'.g h'.b m 0 h'.k]
    exact lposs_tail h' back
  | true =>
    have h' := h
    rw [hc] at h'
    show lposs r (StA n false 0) (.act "cut" 0 :: (List.replicate (m + 1) .pass ++ tailE back)) = true
    simp only [lposs, if_neg nc, canC r n 0, if_true, cut0 r n 0]
    rw [lposs_pass r n true _ h'.g h'.b m 0 h'.k]
    exact lposs_tail h' back
/-- where the tail begins -/
def start (c : Bool) (m : Nat) : Nat := (bif c then 2 else 1) + m + 1
theorem law_w (h : Fit r n c m) (form : Str) (back : Bool) : (wok r form (start c m) (wL n c r.l) (tailE back) → wok r form 0 (wbegun r) (evsOf c (m + 1) back)) ∧ wsteps r form 0 (wbegun r) (evsOf c (m + 1) back) = wsteps r form (start c m) (wL n c r.l) (tailE back) := by
  have b0 := w_bor0 r form n h.n4 h.s 0
  have b0' : (lbehind r (lbegun r.s) (.act "borrow" 0)).1 = StA n false 0 := by rw [h.s]; exact bor0 r n h.n4
  have ok0 : wok1 r (wbegun r) (.act "borrow" 0) := by
    simp only [wok1, if_neg nb]
    refine ⟨mb, rfl, fun _ q hq => ?_⟩
    change aget (lbehind r (lbegun r.s) (.act "borrow" 0)).1.us 0 = some q at hq
    rw [b0'] at hq
    have : q = (0, 0) := (Option.some.inj hq).symm
    subst this
    have : 0 < (List.replicate r.s.toNat (none : Option Int)).length := by rw [h.s]; simp
    exact ⟨Int.le_refl _, this, this, this⟩
  cases hc : c with
  | false =>
    have h' := h
    rw [hc] at h'
    have p := w_pass r form n false (tailE back) h'.g h'.b m 1 0 h'.k
    refine ⟨fun t => ⟨ok0, ?_⟩, ?_⟩
    · rw [b0]; exact p.1 t
    · show wsteps r form 1 (wstep r form (wbegun r) 0 (.act "borrow" 0)) _ = _
      rw [b0]; exact p.2
  | true =>
    have h' := h
    rw [hc] at h'
    have p := w_pass r form n true (tailE back) h'.g h'.b m 2 0 h'.k
    have c0 := w_cut0 r form n 1
    refine ⟨fun t => ⟨ok0, ?_⟩, ?_⟩
    · rw [b0]
      refine ⟨?_, ?_⟩
      · show wok1 r (wA n false 0) (.act "cut" 0)
        simp only [wok1, if_neg nc]
        exact ⟨mc, canC r n 0, fun z => absurd z ncb⟩
      · show wok r form 2 (wstep r form (wA n false 0) 1 (.act "cut" 0)) _
        rw [c0]; exact p.1 t
    · show wsteps r form 1 (wstep r form (wbegun r) 0 (.act "borrow" 0)) _ = _
      rw [b0]
      show wsteps r form 2 (wstep r form (wA n false 0) 1 (.act "cut" 0)) _ = _
      rw [c0]; exact p.2
theorem law_m (h : Fit r n c m) (rows : List Row) (back : Bool) : (mok r rows (start c m) (mL n c r.l) (tailE back) → mok r rows 0 (mbegun r) (evsOf c (m + 1) back)) ∧ msteps r rows 0 (mbegun r) (evsOf c (m + 1) back) = msteps r rows (start c m) (mL n c r.l) (tailE back) := by
  have b0 := m_bor0 r rows n h.n4 h.s 0
  have ok0 : mok1 r rows (mbegun r) 0 (.act "borrow" 0) := by
    simp only [mok1, if_neg nb]
    exact ⟨mb, rfl⟩
  cases hc : c with
  | false =>
    have h' := h
    rw [hc] at h'
    have p := m_pass r rows n false (tailE back) h'.g h'.b m 1 0 h'.k
    refine ⟨fun t => ⟨ok0, ?_⟩, ?_⟩
    · rw [b0]; exact p.1 t
    · show msteps r rows 1 (mstep r rows (mbegun r) 0 (.act "borrow" 0)) _ = _
      rw [b0]; exact p.2
  | true =>
    have h' := h
    rw [hc] at h'
    have p := m_pass r rows n true (tailE back) h'.g h'.b m 2 0 h'.k
    have c0 := m_cut0 r rows n 1
    refine ⟨fun t => ⟨ok0, ?_⟩, ?_⟩
    · rw [b0]
      refine ⟨?_, ?_⟩
      · show mok1 r rows (mA n false 0) 1 (.act "cut" 0)
        simp only [mok1, if_neg nc]
        exact ⟨mc, canC r n 0⟩
      · show mok r rows 2 (mstep r rows (mA n false 0) 1 (.act "cut" 0)) _
        rw [c0]; exact p.1 t
    · show msteps r rows 1 (mstep r rows (mbegun r) 0 (.act "borrow" 0)) _ = _
      rw [b0]
      show msteps r rows 2 (mstep r rows (mA n false 0) 1 (.act "cut" 0)) _ = _
      rw [c0]; exact p.2
/-! the tail -/
theorem tail_wok (h : Fit r n c m) (form : Str) (j : Nat) (back : Bool) : wok r form j (wL n c r.l) (tailE back) := by
  have e := canB1 r n c r.l
  have b1 := w_bor1 r form n h.n4 c r.l j
  have b1' := bor1 r n h.n4 c r.l
  have pos : 0 < (List.replicate (n + 1) (none : Option Int)).length := by simp
  refine ⟨?_, ?_⟩
  · show wok1 r (wL n c r.l) (.act "borrow" 1)
    simp only [wok1, if_neg nb]
    refine ⟨mb, e, fun _ q hq => ?_⟩
    change aget (lbehind r (StL n c r.l) (.act "borrow" 1)).1.us 1 = some q at hq
    rw [b1'] at hq
    have : q = (0, 0) := (Option.some.inj hq).symm
    subst this
    exact ⟨Int.le_refl _, pos, pos, pos⟩
  · rw [b1]
    have s0 : ∀ x : WS, x.s = StB n c r.l → x.tk = [(0, 0), (1, 1)] → x.told.length = n + 1 → x.newest.length = n + 1 → x.taken.length = n + 1 → ∀ u : Int, u = 0 ∨ u = 1 → wok1 r x (.act "write" u) := by
      rintro x h1 h2 h3 h4 h5 u hu
      simp only [wok1, if_pos]
      rw [h1, h2]
      rcases hu with rfl | rfl
      · exact ⟨⟨(0, r.l), rfl, Int.le_refl _, by rw [h3]; simp, by rw [h4]; simp, by rw [h5]; simp⟩, 0, rfl⟩
      · exact ⟨⟨(0, 0), rfl, Int.le_refl _, by rw [h3]; simp, by rw [h4]; simp, by rw [h5]; simp⟩, 1, rfl⟩
    cases back with
    | false => exact ⟨s0 _ rfl rfl (by simp [wB]) (by simp [wB]) (by simp [wB]) 0 (.inl rfl), trivial⟩
    | true =>
      refine ⟨s0 _ rfl rfl (by simp [wB]) (by simp [wB]) (by simp [wB]) 1 (.inr rfl), ?_⟩
      show wok r form (j + 1 + 1) (wwrite form (wB n c r.l) (j + 1) 1) [.act "write" 0]
      exact ⟨s0 _ rfl rfl (by simp [wwrite, wB]) (by simp [wwrite, wB]) (by simp [wwrite, wB]) 0 (.inl rfl), trivial⟩
end
end Lw

namespace Lw
open PySem PySem.Spec PyProof.Rows L2 DL
section
variable {r : RL} {n m : Nat} {c : Bool}
def rowsE (j : Nat) (back : Bool) : List Row := bif back then [⟨j + 1, 1, 0, 1, true⟩, ⟨j + 2, 0, 0, 0, true⟩] else [⟨j + 1, 0, 0, 0, true⟩]
theorem rows_late (h : Fit r n c m) (form : Str) (hf : form = "open" ∨ form = "highest") (j : Nat) : (wsteps r form j (wL n c r.l) (tailE false)).found = rowsE j false := by
  have b1 := w_bor1 r form n h.n4 c r.l j
  show (wsteps r form (j + 1) (wstep r form (wL n c r.l) j (.act "borrow" 1)) [.act "write" 0]).found = _
  rw [b1]
  show (wwrite form (wB n c r.l) (j + 1) 0).found = _
  rcases hf with rfl | rfl <;> rfl
theorem rows_back (h : Fit r n c m) (j : Nat) : (wsteps r "open" j (wL n c r.l) (tailE true)).found = rowsE j true := by
  have b1 := w_bor1 r "open" n h.n4 c r.l j
  show (wsteps r "open" (j + 1) (wstep r "open" (wL n c r.l) j (.act "borrow" 1)) [.act "write" 1, .act "write" 0]).found = _
  rw [b1]
  show (wwrite "open" (wwrite "open" (wB n c r.l) (j + 1) 1) (j + 1 + 1) 0).found = _
  rfl
theorem m_late (h : Fit r n c m) (j : Nat) : mok r (rowsE j false) j (mL n c r.l) (tailE false) ∧ sget (msteps r (rowsE j false) j (mL n c r.l) (tailE false)).found "late" = some ((j : Int) + 1) := by
  have b1 := m_bor1 r (rowsE j false) n h.n4 c r.l j
  have fl : (rowsE j false).filter (fun x => decide (x.at_ = j + 1)) = [⟨j + 1, 0, 0, 0, true⟩] := by simp [rowsE]
  have ra : rowAt (rowsE j false) (j + 1) = ⟨j + 1, 0, 0, 0, true⟩ := by unfold rowAt; rw [fl]; rfl
  refine ⟨⟨?_, ?_⟩, ?_⟩
  · show mok1 r (rowsE j false) (mL n c r.l) j (.act "borrow" 1)
    simp only [mok1, if_neg nb]
    exact ⟨mb, canB1 r n c r.l⟩
  · rw [b1]
    refine ⟨?_, trivial⟩
    simp only [mok1, if_pos]
    rw [ra, fl]
    exact ⟨by simp, fun _ => rfl⟩
  · show sget (msteps r (rowsE j false) (j + 1) (mstep r (rowsE j false) (mL n c r.l) j (.act "borrow" 1)) [.act "write" 0]).found "late" = _
    rw [b1]
    show sget (mwrite (rowAt (rowsE j false) (j + 1)) _ (j + 1)).found "late" = _
    rw [ra]; rfl
theorem m_back (h : Fit r n c m) (j : Nat) : mok r (rowsE j true) j (mL n c r.l) (tailE true) ∧ sget (msteps r (rowsE j true) j (mL n c r.l) (tailE true)).found "back" = some ((j : Int) + 2) := by
  have b1 := m_bor1 r (rowsE j true) n h.n4 c r.l j
  have f1 : (rowsE j true).filter (fun x => decide (x.at_ = j + 1)) = [⟨j + 1, 1, 0, 1, true⟩] := by simp [rowsE]
  have f2 : (rowsE j true).filter (fun x => decide (x.at_ = j + 1 + 1)) = [⟨j + 2, 0, 0, 0, true⟩] := by simp [rowsE]
  have r1 : rowAt (rowsE j true) (j + 1) = ⟨j + 1, 1, 0, 1, true⟩ := by unfold rowAt; rw [f1]; rfl
  have r2 : rowAt (rowsE j true) (j + 1 + 1) = ⟨j + 2, 0, 0, 0, true⟩ := by unfold rowAt; rw [f2]; rfl
  refine ⟨⟨?_, ?_⟩, ?_⟩
  · show mok1 r (rowsE j true) (mL n c r.l) j (.act "borrow" 1)
    simp only [mok1, if_neg nb]
    exact ⟨mb, canB1 r n c r.l⟩
  · rw [b1]
    refine ⟨?_, ?_, trivial⟩
    · simp only [mok1, if_pos]
      rw [r1, f1]
      exact ⟨by simp, fun _ => rfl⟩
    · simp only [mok1, if_pos]
      rw [r2, f2]
      refine ⟨by simp, fun _ => ?_⟩
      show (aget (mwrite (rowAt (rowsE j true) (j + 1)) _ (j + 1)).out 0).isSome = true
      rw [r1]; rfl
  · show sget (msteps r (rowsE j true) (j + 1) (mstep r (rowsE j true) (mL n c r.l) j (.act "borrow" 1)) [.act "write" 1, .act "write" 0]).found "back" = _
    rw [b1]
    show sget (mwrite (rowAt (rowsE j true) (j + 1 + 1)) (mwrite (rowAt (rowsE j true) (j + 1)) _ (j + 1)) (j + 1 + 1)).found "back" = _
    rw [r1, r2]
    show some (((j + 1 + 1 : Nat)) : Int) = _
    congr 1
end
end Lw

namespace DL
section
variable {X : Cx} {ct : Nat → Addr} {Γ : Gm} {μ : Mu} {ds : List D} {e : Expr} {es : List Expr} {x : Str} {p pos : Pos}
theorem set_last {μ : Mu} {c c' : Cell} : (μ ++ [c]).set μ.length c' = μ ++ [c'] := by rw [List.set_append_right _ _ (Nat.le_refl _), Nat.sub_self]; rfl
theorem q_boxL {kk : Nat} {α β : Type} {cell : β → Cell} {enc : α → List D} {pre : α → β → Prop} {out : α → β → D} {nxt : α → β → β} (G : BFn X.prog X.w X.K X.mg X.base ct x kk cell enc pre out nxt) {y : β} (ha : DA X ct Γ (μ ++ [cell y]) (e :: es) (.ptr μ.length :: ds) (μ ++ [cell y])) (z : α) (h : ds = enc z) (hp : pre z y) (hr : Room kk X.A := by first | exact ‹Room _ _› | exact Room.mono ‹Room _ _› (by decide)) (hg : Gl X x := by rfl)
    (hdb : (x == ("__debug__" : Str)) = false := by decide) (he : starEach (e :: es) X.env = (false, eval e X.env) :: starEach es X.env := by rfl) (hpl : (backTo pos (starEach es X.env)).any (·.1) = false := by rfl) : DE X ct Γ (μ ++ [cell y]) (.Call (.Name x p) (e :: es) [] pos) (out z y) (μ ++ [cell (nxt z y)]) := by
  have := q_box (pos := pos) (p := p) G ha z y h (List.getElem?_concat_length ..) hp hr hg hdb he hpl
  rw [set_last] at this
  exact this
end
theorem InD.strs {μ : Mu} {s : Str} {db : D} {ns : List Str} (hl : isSeq db = some (ns.map .str)) : InD μ (.str s) db (decide (s ∈ ns)) := by
  have h : InD μ (.str s) db ((ns.map D.str).any fun y => eqF y (.str s)) := .seq hl rfl (by rw [List.all_map]; simp [flatD])
  have e : ((ns.map D.str).any fun y => eqF y (.str s)) = decide (s ∈ ns) := by
    rw [List.any_map, Bool.eq_iff_iff, List.any_eq_true, decide_eq_true_eq]
    constructor
    · rintro ⟨x, hx, q⟩
      have : x = s := by
        have q' : (x == s) = true := q
        exact of_decide_eq_true (by simpa using q')
      exact this ▸ hx
    · intro hs
      exact ⟨s, hs, by show (s == s) = true; simp⟩
  rw [e] at h
  exact h
end DL
namespace Lw
section
variable {P : Program} {wd : World} {K : PySem.W.Frag} {mg : Str → Option Value} {base : Heap}
theorem alone_ev (r : RL) (fault : Str) : deedsOf r fault = (evsOf (decide (min r.b r.g + r.t < r.l)) r.l.toNat (decide (fault = "back"))).map Ev.D := by
  unfold deedsOf aloneD evsOf tailE
  cases decide (min r.b r.g + r.t < r.l) <;> cases decide (fault = "back") <;> simp [Ev.D, evD, passD]
theorem evs_len (c : Bool) (l : Nat) (back : Bool) : ((evsOf c l back).length : Int) = l + (bif c then 1 else 0) + (bif back then 4 else 3) := by
  unfold evsOf tailE
  cases c <;> cases back <;> simp <;> omega
theorem evs_ok (c : Bool) (l : Nat) (back : Bool) : ∀ e ∈ evsOf c l back, e.OkD ∧ ∀ w u, e = .act w u → u < 2 := by
  intro e he
  unfold evsOf tailE at he
  have hb : (Ev.act "borrow" 0).Ok := mb
  have h1 : (Ev.act "borrow" 1).Ok := mb
  have hc : (Ev.act "cut" 0).Ok := mc
  have fin : ∀ w u, u < 2 → ((Ev.act w u).Ok ∨ w = "write") → (Ev.act w u).OkD ∧ ∀ w' u', Ev.act w u = .act w' u' → u' < 2 := by
    intro w u hu h
    refine ⟨h.imp id fun z => ⟨u, by rw [z]⟩, fun w' u' e => by cases e; exact hu⟩
  simp only [List.mem_cons, List.mem_append, List.not_mem_nil, or_false] at he
  rcases he with rfl | he | he | rfl | he | rfl
  · exact fin _ _ (by decide) (.inl hb)
  · cases c
    · simp at he
    · simp at he; subst he; exact fin _ _ (by decide) (.inl hc)
  · have := List.eq_of_mem_replicate he
    subst this
    exact ⟨.inl trivial, fun _ _ z => by cases z⟩
  · exact fin _ _ (by decide) (.inl h1)
  · cases back
    · simp at he
    · simp at he; subst he; exact fin _ _ (by decide) (.inr rfl)
  · exact fin _ _ (by decide) (.inr rfl)
/-- the numbers drawn -/
structure Drawn (r : RL) : Prop where
  s1 : 1 ≤ r.s
  s2 : r.s ≤ 4
  l1 : 1 ≤ r.l
  l2 : r.l ≤ 9
  b1 : 1 ≤ r.b
  g1 : 1 ≤ r.g
  t0 : 0 ≤ r.t
theorem Drawn.ok {r : RL} (h : Drawn r) : r.Ok := ⟨h.s1, h.l1, h.b1, h.g1, h.t0, by have := h.l2; omega, by have := h.s2; omega⟩
theorem Drawn.pos {r : RL} (h : Drawn r) : r.Pos := ⟨h.s1, h.l1, h.b1, h.g1, h.t0⟩
theorem fit_of {r : RL} (h : Drawn r) {u : Int} {form fault : Str} (hc : canMeet r u form fault = true) : Fit r (r.s.toNat - 1) (decide (min r.b r.g + r.t < r.l)) (r.l.toNat - 1) := by
  have := h.s1; have := h.s2; have := h.l1
  simp only [canMeet, Bool.and_eq_true, Bool.not_eq_true', Bool.or_eq_false_iff, decide_eq_false_iff_not] at hc
  refine ⟨by omega, by omega, by omega, by omega, ?_⟩
  by_cases z : min r.b r.g + r.t < r.l
  · exact .inl (decide_eq_true z)
  · exact .inr (by omega)
theorem plain_law {r : RL} (h : Drawn r) {u : Int} {form fault : Str} (hf : okFault fault) (hc : canMeet r u form fault = true) :
    ∃ es, deedsOf r fault = es.map Ev.D ∧ (es.length : Int) = leastOf r fault ∧ (∀ e ∈ es, e.OkD ∧ ∀ w v, e = .act w v → v < 2) ∧ es.length ≤ 500 ∧ lposs r (lbegun r.s) es = true ∧ wok r form 0 (wbegun r) es ∧
      mok r (wsteps r form 0 (wbegun r) es).found 0 (mbegun r) es ∧ sget (msteps r (wsteps r form 0 (wbegun r) es).found 0 (mbegun r) es).found fault = some (leastOf r fault - 1) := by
  have ft := fit_of h hc
  have hl := h.l1
  have hl2 := h.l2
  have el : r.l.toNat - 1 + 1 = r.l.toNat := by omega
  obtain ⟨c, hcc⟩ : ∃ c, decide (min r.b r.g + r.t < r.l) = c := ⟨_, rfl⟩
  have hform : fault = "back" → form = "open" := by
    rintro rfl
    simp only [canMeet, Bool.and_eq_true, Bool.or_eq_true, decide_eq_true_eq] at hc
    rcases hc.2 with z | ⟨_, z⟩
    · exact z
    · exact absurd z (by decide +kernel)
  have hform2 : form = "open" ∨ form = "highest" := by
    simp only [canMeet, Bool.and_eq_true, Bool.or_eq_true, decide_eq_true_eq] at hc
    exact hc.2.imp id And.left
  refine ⟨_, alone_ev r fault, ?_, evs_ok _ _ _, ?_, ?_⟩
  · rw [evs_len]; unfold leastOf; omega
  · have := evs_len (decide (min r.b r.g + r.t < r.l)) r.l.toNat (decide (fault = "back"))
    have a : ∀ k : Bool, (bif k then (1 : Int) else 0) ≤ 1 := by intro k; cases k <;> decide
    have b : ∀ k : Bool, (bif k then (4 : Int) else 3) ≤ 4 := by intro k; cases k <;> decide
    have := a (decide (min r.b r.g + r.t < r.l))
    have := b (decide (fault = "back"))
    omega
  · rw [hcc] at ft ⊢
    have lp := law_poss ft (decide (fault = "back"))
    have lw := law_w ft form (decide (fault = "back"))
    have lm := fun rows => law_m ft rows (decide (fault = "back"))
    rw [el] at lp lw lm
    refine ⟨lp, lw.1 (tail_wok ft form _ _), ?_⟩
    have est : ((start c (r.l.toNat - 1) : Nat) : Int) = r.l + 1 + (bif c then 1 else 0) := by
      unfold start; cases c <;> simp <;> omega
    rcases hf with rfl | rfl
    · have e1 : decide (("back" : Str) = "back") = true := by decide +kernel
      have := hform rfl
      subst this
      rw [e1] at lw lm ⊢
      have rb : (wsteps r "open" 0 (wbegun r) (evsOf c r.l.toNat true)).found = rowsE (start c (r.l.toNat - 1)) true := by rw [lw.2]; exact rows_back ft _
      have mbk := m_back ft (start c (r.l.toNat - 1))
      rw [rb]
      refine ⟨(lm _).1 mbk.1, ?_⟩
      rw [(lm _).2, mbk.2, est]
      unfold leastOf
      rw [hcc, e1]
      congr 1
      simp only [cond_true]; omega
    · have e1 : decide (("late" : Str) = "back") = false := by decide +kernel
      rw [e1] at lw lm ⊢
      have rb : (wsteps r form 0 (wbegun r) (evsOf c r.l.toNat false)).found = rowsE (start c (r.l.toNat - 1)) false := by rw [lw.2]; exact rows_late ft form hform2 _
      have mbk := m_late ft (start c (r.l.toNat - 1))
      rw [rb]
      refine ⟨(lm _).1 mbk.1, ?_⟩
      rw [(lm _).2, mbk.2, est]
      unfold leastOf
      rw [hcc, e1]
      congr 1
      simp only [cond_false]; omega
end
end Lw

namespace Lw
section
variable {P : Program} {wd : World} {K : PySem.W.Frag} {mg : Str → Option Value} {base : Heap}
def itB (l : Int) (b : Int × Int) : Nat → Int × Int
  | 0 => b
  | n + 1 => tkN l (itB l b n)
theorem itB_ok {l : Int} (hl : 0 < l) {b : Int × Int} (hb : BoxOk b) : ∀ n, BoxOk (itB l b n)
  | 0 => hb
  | n + 1 => tkN_ok hl (itB_ok hl hb n)
theorem law_body (T : Tx K mg) (f : Addr) (cdv : Value) (A : Around) (outer : List Env) (s : Shared) (H : Hp) (E : XK) (sc : List Int) (hr : Room 5 (A.deeper (envOfC "law" (defScope s_law) s.heap.objs.size f cdv))) :
    DSs (cxOf CX0 P wd K mg base n_law "law" (defScope s_law) f cdv A outer s H E).nox (ct K) (defBody s_law) ((([D.scr (sc.map .int)] : List D)).map some ++ List.replicate (n_law.length - (["script"] : List Str).length) none) [] { nx := fun _ _ => D.non = .bl true, rt := fun d2 _ => d2 = .bl true } := by
  have scl : (((sc.map D.int).length : Nat) : Int) = (sc.length : Nat) := by simp
  -- 0 script, 1 k, 2 box, 3 turn, 4 some, 5 number, 6 given, 7 users, 8 form, 9 rule, 10 fault, 11 deeds, 12 least, 13 high, 14 deed
  refine
    ds_forJ (S := Mu) (fun i : Nat => D.int (i : Int)) (List.range (max 1 (min 4 (sc.length : Int))).toNat) (fun _ => [some (.scr (sc.map .int)), none, none, none, none, none, none, none, none, none, none, none, none, none, none]) (fun μ => μ) (fun rs _ => ∀ k ∈ rs, k ≤ 100)
      (di_rangeM (b_range T) (de_eq (de_max rfl (b_max T) (de_int) (de_min rfl (b_min T) (de_int) (q_len (b_len T) (de_var 0) (by walk_at "l")))) (by rw [scl])) (by omega) (by omega)) ⟨[], by walk_at "g", rfl, fun k hk => by rw [List.mem_range] at hk; omega⟩ (fun k rs μ hJ => ⟨_, (dg_name 1 sc_law.nd), ?_⟩) (fun μ _ =>
      ds_ret (q_cmp (q_call (F_store_deeds T) (da_cons (q_make (M_Rule4 T) (da_cons (de_int) (da_cons (de_int) (da_cons (de_int) (da_cons (de_int) da_nil)))) (1, 9, 1, 8) rfl ⟨by decide, by decide, by decide, by decide⟩) (da_cons (de_int) (da_cons (de_str) (da_cons (de_str) da_nil)))) (⟨1, 9, 1, 8, 0⟩, 2, "open", "late") rfl ⟨⟨by decide, by decide, by decide, by decide, by decide, by decide, by decide⟩, .inr rfl⟩) (de_non) (o2_is rfl)) rfl)
  have hk := hJ k List.mem_cons_self
  refine ds_set 2 sc_law.nd (q_new (F__law_box T) (da_cons (de_var 0) (da_cons (de_var 1) (da_cons (de_int) da_nil))) (sc, k, 78) rfl ⟨hk, by decide, by decide⟩) <|
    ds_forJ (S := Int × Int) (fun i : Nat => D.int (i : Int)) (List.range 4) (fun _ => [some (.scr (sc.map .int)), none, some (.ptr μ.length), none, none, none, none, none, none, none, none, none, none, none, none]) (fun b => μ ++ [boxC b]) (fun _ b => BoxOk b)
      (di_rangeM (b_range T) (de_int) (by decide) (by decide)) ⟨boxOf sc k 78, by walk_at "g", rfl, boxOf_ok hk (by decide) (by decide)⟩ (fun tn _ b hb => ⟨_, (dg_name 3 sc_law.nd), ?_⟩) (fun b hb => ds_nil ⟨_, by walk_at "g", rfl, fun k hk => hJ k (List.mem_cons_of_mem _ hk)⟩)
  let r : RL := ⟨1 + tk 4 (itB 9 b 3), 1 + tk 9 b, 1 + tk 9 (itB 9 b 1), 1 + tk 9 (itB 9 b 2), tk 4 (tkN 4 (itB 9 b 3))⟩
  have hb3 : BoxOk (itB 9 b 3) := itB_ok (by decide) hb 3
  have hb4 := tkN_ok (l := 4) (by decide) hb3
  have hb5 := tkN_ok (l := 4) (by decide) hb4
  have hb6 := tkN_ok (l := 5) (by decide) hb5
  have hb7 := tkN_ok (l := 3) (by decide) hb6
  have dr : Drawn r := by
    have a1 := tk_lt (l := 4) (b := itB 9 b 3) (by decide)
    have a2 := tk_lt (l := 9) (b := b) (by decide)
    have a3 := tk_lt (l := 9) (b := itB 9 b 1) (by decide)
    have a4 := tk_lt (l := 9) (b := itB 9 b 2) (by decide)
    have a5 := tk_lt (l := 4) (b := tkN 4 (itB 9 b 3)) (by decide)
    refine ⟨?_, ?_, ?_, ?_, ?_, ?_, ?_⟩ <;> simp only [r] <;> omega
  let us : Int := 1 + tk 5 (tkN 4 (tkN 4 (itB 9 b 3)))
  obtain ⟨fi, hfi, hfi2⟩ : ∃ fi : Nat, (tk 3 (tkN 5 (tkN 4 (tkN 4 (itB 9 b 3))))).toNat = fi ∧ fi < 3 := ⟨_, rfl, by
    have := tk_lt (l := 3) (b := tkN 5 (tkN 4 (tkN 4 (itB 9 b 3)))) (by decide)
    omega⟩
  let forms : List Str := ["open", "highest", "sealed"]
  obtain ⟨form, hform⟩ : ∃ form, forms.getD fi "open" = form := ⟨_, rfl⟩
  have okf : okForm form := by
    have : fi = 0 ∨ fi = 1 ∨ fi = 2 := by omega
    rcases this with h | h | h <;> rw [h] at hform <;> subst hform
    · exact .inl rfl
    · exact .inr (.inl rfl)
    · exact .inr (.inr rfl)
  have hfD : ([D.str "open", .str "highest", .str "sealed"] : List D).getD (tk (([D.str "open", .str "highest", .str "sealed"] : List D).length : Nat) (tkN 5 (tkN 4 (tkN 4 (itB 9 b 3))))).toNat .non = .str form := by
    show ([D.str "open", .str "highest", .str "sealed"] : List D).getD (tk 3 _).toNat .non = _
    rw [hfi]
    have : fi = 0 ∨ fi = 1 ∨ fi = 2 := by omega
    rcases this with h | h | h <;> rw [h] at hform ⊢ <;> subst hform <;> rfl
  refine ds_setLc 4 [("number", 5)] rfl sc_law.nd (di_rangeM (n := 3) (b_range T) (de_int) (by decide) (by decide)) (blkOk_by (show blkC n_law (defScope s_law) _ _ = true by decide +kernel))
    (fun i acc μ' => acc = (List.range i).map (fun q => D.int (1 + tk 9 (itB 9 b q))) ∧ μ' = μ ++ [boxC (itB 9 b i)]) ⟨rfl, rfl⟩ (fun i d acc μ' hd ⟨h1, h2⟩ => ?_) (fun i acc μ' ⟨h1, h2⟩ => by rw [h1]; simp) (res := [.int (1 + tk 9 b), .int (1 + tk 9 (itB 9 b 1)), .int (1 + tk 9 (itB 9 b 2))]) (μ2 := μ ++ [boxC (itB 9 b 3)]) (fun acc μ' ⟨h1, h2⟩ => ⟨h1, h2⟩) ?_ rfl rfl rfl (by intro _; rfl)
  · subst h1 h2
    refine ⟨[(5, d)], true, _, (by simp), (fun s H C cl fp => dg_name 5 sc_law.nd), (fun s H C cl fp => dts_nil), fun _ => ⟨_, _, (fun s H C cl fp => q_op de_int (q_boxL (F__law_take T) (da_cons (de_var 2) (da_cons de_int da_nil)) 9 rfl ⟨by decide, by decide, itB_ok (by decide) hb i⟩) (by walk_at "o")), ?_, rfl⟩, fun z => by cases z⟩
    rw [List.range_succ, List.map_append]; rfl
  refine
    ds_asg (de_tup (da_cons (de_eq (d' := r.gv) (de_tup (da_cons (q_op (de_int) (q_boxL (F__law_take T) (da_cons (de_var 2) (da_cons (de_int) da_nil)) 4 rfl ⟨by decide, by decide, hb3⟩) (by walk_at "o")) (da_cons (q_ix (de_var 4) (de_int) (.lst rfl)) (da_cons (q_ix (de_var 4) (de_int) (.lst rfl)) (da_cons (q_ix (de_var 4) (de_int) (.lst rfl)) (da_cons (q_boxL (F__law_take T) (da_cons (de_var 2) (da_cons (de_int) da_nil)) 4 rfl ⟨by decide, by decide, hb4⟩) da_nil))))) (by walk_at "z")) rfl) (da_cons (de_eq (d' := .int us) (q_op (de_int) (q_boxL (F__law_take T) (da_cons (de_var 2) (da_cons (de_int) da_nil)) 5 rfl ⟨by decide, by decide, hb5⟩) (by walk_at "o")) rfl) da_nil)) (by walk_at "z")) (dg_tup rfl (dgs_cons (dg_name 6 sc_law.nd) (dgs_cons (dg_name 7 sc_law.nd) dgs_nil))) <|
    ds_par 8 9 rfl sc_law.nd (da_cons (de_eq (d' := .str form) (q_boxL (F__law_pick T) (da_cons (de_var 2) (da_cons (de_lst (da_cons (de_str) (da_cons (de_str) (da_cons (de_str) da_nil))) (by walk_at "z")) da_nil)) ([D.str "open", .str "highest", .str "sealed"] : List D) rfl ⟨rfl, by simp, by simp, hb6⟩) hfD) (da_cons (q_call (F__law_ruled T) (da_cons (de_var 6) da_nil) r rfl dr.pos) da_nil)) <|
    ds_forJ (S := Unit) D.str (["back", "late"] : List Str) (fun _ => [some (.scr (sc.map .int)), none, some (.ptr μ.length), none, none, none, some r.gv, some (.int us), some (.str form), some (ruleD r), none, none, none, none, none]) (fun _ => μ ++ [boxC (tkN 3 (tkN 5 (tkN 4 (tkN 4 (itB 9 b 3)))))]) (fun rs _ => ∀ x ∈ rs, okFault x)
      (di_seq (de_tup (da_cons (de_str) (da_cons (de_str) da_nil)) (by walk_at "z")) rfl) ⟨(), by walk_at "g", rfl, fun x hx => by simpa [okFault] using hx⟩ (fun fault rs _ hJ => ⟨_, (dg_name 10 sc_law.nd), ?_⟩) (fun _ _ => ds_nil ⟨_, by walk_at "g", rfl, hb7⟩)
  have hfa := hJ fault List.mem_cons_self
  have hJ' : ∀ x ∈ rs, okFault x := fun x hx => hJ x (List.mem_cons_of_mem _ hx)
  have hus : ∀ v : Int, canMeet r us form fault = true → v < 2 → ¬ us ≤ v := by
    intro v hc hv
    simp only [canMeet, Bool.and_eq_true, Bool.not_eq_true', Bool.or_eq_false_iff, decide_eq_false_iff_not] at hc
    omega
  have hin : decide (fault ∈ faultsOf r us form) = canMeet r us form fault := by
    rw [Bool.eq_iff_iff, decide_eq_true_eq]
    unfold faultsOf
    rw [List.mem_filter]
    constructor
    · exact And.right
    · intro h
      refine ⟨?_, h⟩
      rcases hfa with rfl | rfl <;> simp
  cases hcm : canMeet r us form fault with
  | false =>
    rw [hcm] at hin
    refine
      ds_par 11 12 rfl sc_law.nd (da_cons (de_eq (d' := .non) (q_call (F_store_deeds T) (da_cons (de_var 9) (da_cons (de_var 7) (da_cons (de_var 8) (da_cons (de_var 10) da_nil)))) (r, us, form, fault) rfl ⟨dr.ok, hfa⟩) ?_) (da_cons (de_eq (d' := .non) (q_call (F_least_deeds T) (da_cons (de_var 9) (da_cons (de_var 7) (da_cons (de_var 8) (da_cons (de_var 10) da_nil)))) (r, us, form, fault) rfl hfa) ?_) da_nil)) <|
      ds_if (k := false) (dt_eq (qt_cmp (q_cmp (de_var 11) (de_non) (o2_is rfl)) (q_nin (de_var 10) (q_call (F_store_faults T) (da_cons (de_var 9) (da_cons (de_var 7) (da_cons (de_var 8) da_nil))) (r, us, form) rfl trivial) (.strs rfl)) o2_neB) (by rw [hin]; rfl)) (fun h => by cases h) (fun _ =>
        ds_nil <|
        ds_if (k := false) (qt_cmp (q_cmp (de_var 11) (de_non) (o2_is rfl)) (q_cmp (de_var 12) (de_non) (o2_is rfl)) o2_neB) (fun h => by cases h) (fun _ =>
          ds_nil <|
          ds_if (qt_cmp (de_var 11) (de_non) (o2_is rfl)) (fun _ => ds_cont ⟨(), by walk_at "g", rfl, hJ'⟩) (fun h => by cases h)))
    · show (bif canMeet r us form fault then _ else _) = _
      rw [hcm]; rfl
    · show (bif canMeet r us form fault then _ else _) = _
      rw [hcm]; rfl
  | true =>
    rw [hcm] at hin
    obtain ⟨es, p1, p2, p3, p4, p5, p6, p7, p8⟩ := plain_law dr hfa hcm
    let pd : Ev → Bool := fun e => match e with
      | .pass => false
      | .act _ v => decide (us ≤ v)
    have hpd : es.filter pd = [] := by
      rw [List.filter_eq_nil_iff]
      intro e he
      cases e with
      | pass => simp [pd]
      | act w v =>
        have := hus v hcm ((p3 _ he).2 w v rfl)
        simp only [pd]
        simpa using this
    refine
      ds_par 11 12 rfl sc_law.nd (da_cons (de_eq (d' := .tup (es.map Ev.D)) (q_call (F_store_deeds T) (da_cons (de_var 9) (da_cons (de_var 7) (da_cons (de_var 8) (da_cons (de_var 10) da_nil)))) (r, us, form, fault) rfl ⟨dr.ok, hfa⟩) ?_) (da_cons (de_eq (d' := .int (leastOf r fault)) (q_call (F_least_deeds T) (da_cons (de_var 9) (da_cons (de_var 7) (da_cons (de_var 8) (da_cons (de_var 10) da_nil)))) (r, us, form, fault) rfl hfa) ?_) da_nil)) <|
      ds_if (k := false) (dt_eq (qt_cmp (q_cmp (de_var 11) (de_non) (o2_is rfl)) (q_nin (de_var 10) (q_call (F_store_faults T) (da_cons (de_var 9) (da_cons (de_var 7) (da_cons (de_var 8) da_nil))) (r, us, form) rfl trivial) (.strs rfl)) o2_neB) (by rw [hin]; rfl)) (fun h => by cases h) (fun _ =>
        ds_nil <|
        ds_if (k := false) (qt_cmp (q_cmp (de_var 11) (de_non) (o2_is rfl)) (q_cmp (de_var 12) (de_non) (o2_is rfl)) o2_neB) (fun h => by cases h) (fun _ =>
          ds_nil <|
          ds_if (qt_cmp (de_var 11) (de_non) (o2_is rfl)) (fun h => by cases h) (fun _ =>
            ds_nil <|
            ds_setLcP 13 [("deed", 14)] es Ev.D pd Ev.D sc_law.nd (di_seq (de_var 11) rfl) (blkOk_by (show blkC n_law (defScope s_law) _ _ = true by decide +kernel)) (fun z hz => ?_) ?_)))
    · show (bif canMeet r us form fault then _ else _) = _
      rw [hcm, p1]; rfl
    · show (bif canMeet r us form fault then _ else _) = _
      rw [hcm]; rfl
    · cases z with
      | pass => exact ⟨_, (by simp), (fun s H C cl fp => (dg_name 14 sc_law.nd)), (fun s H C cl fp => (dts_oneE (dt_w (dw_and (k' := false) (qt_cmp (q_len (b_len T) (de_var 14) (.seq rfl)) (de_int) (by walk_at "o")) (fun h4 => absurd h4 (by decide)))))), (fun hk s H C cl fp => (de_var 14))⟩
      | act w v => exact ⟨_, (by simp), (fun s H C cl fp => (dg_name 14 sc_law.nd)), (fun s H C cl fp => (dts_oneE (dt_w (dw_and (qt_cmp (q_len (b_len T) (de_var 14) (.seq rfl)) (de_int) (by walk_at "o")) (fun h4 => (dw_and1 (qt_cmp (q_ix (de_var 14) (de_int) (.tup rfl)) (de_var 7) (by walk_at "o")))))))), (fun hk s H C cl fp => (de_var 14))⟩
    · rw [hpd]
      refine
        ds_if (k := false) (dt_eq (dt_w (dw_or (qt_cmp (q_len (b_len T) (de_var 11) (.seq rfl)) (de_var 12) (by walk_at "o")) (fun _ => dw_or1 (qt_cmp (de_var 13) (de_lst da_nil (by walk_at "z")) (o2_neNil (l := []) (hu64 hr)))))) ?_) (fun h => by cases h) (fun _ =>
          ds_nil <|
          ds_if (k := false) (dt_eq (dt_not (dt_val (q_call (F__law_are_possible T) (da_cons (de_var 6) (da_cons (de_var 11) da_nil)) (r, es) rfl ⟨by have := dr.s1; omega, by have := dr.s2; omega, p4, fun e he => (p3 e he).1⟩))) (by rw [p5]; rfl)) (fun h => by cases h) (fun _ =>
            ds_nil <|
            ds_if (k := false) (dt_eq (qt_cmp (de_eq (d' := .int (leastOf r fault - 1)) (de_get1 (hu_of hr) (q_call (F__law_met T) (da_cons (de_var 6) (da_cons (de_var 8) (da_cons (de_var 11) da_nil))) (r, form, es) rfl ⟨⟨by have := dr.s1; omega, by have := dr.s2; omega, p4, okf, p6⟩, p7⟩) (de_var 10) ⟨_, by constructor⟩ ⟨_, .inl rfl⟩ .dicS) ?_) (q_op (de_var 12) (de_int) (by walk_at "o")) (by walk_at "o")) (by simp)) (fun h => by cases h) (fun _ =>
              ds_nil <|
              ds_nil ⟨(), by walk_at "g", rfl, hJ'⟩)))
      · rw [List.length_map, p2]; simp
      · rw [dget_sk, p8]; rfl
abbrev spLaw (K : PySem.W.Frag) : Sp := spD K (ct K) (PuR (fun (sc : List Int) => [D.scr (sc.map .int)]) (fun _ => True) (fun _ => .bl true))
theorem ok_law (T : Tx K mg) {f : Addr} {fd : FuncData} (F : FunD K "law" "law" (defArgs s_law) (defBody s_law) (defScope s_law) [] [] f fd) : FnOk P wd K mg base CX0 6 f fd ["script"] (spLaw K) := by
  refine fn_okF F sc_law (fun ds μ o μ' ⟨a, e, _⟩ => by subst e; rfl) fun cdv A outer s H E ds μ o μ' hr ⟨a, e1, hp, e2, e3, e4⟩ => ?_
  subst e1 e2 e3 e4
  refine ⟨_, rfl, ?_⟩
  exact ds_imp (law_body T f cdv A outer s H E a hr) (fun _ μ h => ⟨h, .inr ⟨Nat.le_refl _, rfl, .nil, μ, rfl⟩⟩) (fun d μ h => ⟨h, .inr ⟨Nat.le_refl _, rfl, .nil, μ, rfl⟩⟩) (fun _ _ z => z) (fun _ _ z => z)
theorem pure_law {H : Hp} {a : Addr} {ns : List Int} (hS : SqL K H a (ns.map V.int)) : spLaw K [.ref a] H (fun v _ => v = .bl true) fun _ _ _ => False := by
  have key : ∀ F : Hp, Sub F H → SqL K F a (ns.map V.int) → spLaw K [.ref a] H (fun v _ => v = .bl true) fun _ _ _ => False := fun F sb hF =>
    ⟨F, [], [], [.scr (ns.map .int)], .val (.bl true), [], ⟨sb, rfl, fun i j a c c' h _ _ _ _ _ => by simp at h, fun a h => by simp at h, fun k a c h _ => by simp at h⟩, .cons (.scr hF (.ints ns)) .nil, ⟨ns, rfl, trivial, rfl, rfl, rfl⟩, fun v H' F' A' _ _ _ h => by cases h; rfl⟩
  rcases hS with h | h
  · have one : ∀ u : HO, H a = some u → unmark u = u → Rd (fun b => if b = a then H a else none) a (.lst (ns.map V.int)) → spLaw K [.ref a] H (fun v _ => v = .bl true) fun _ _ _ => False := fun u hu hm hr =>
      key (fun b => if b = a then H a else none) (fun b o e => by
        by_cases hb : b = a
        · subst hb
          simp only [if_pos] at e
          rw [hu] at e; cases e
          rw [hu, hm]
        · simp only [if_neg hb] at e; cases e) (.inl hr)
    rcases h with h | ⟨o, h⟩
    · exact one _ h rfl (.inl (by simp only [if_pos]; exact h))
    · exact one _ h rfl (.inr ⟨o, by simp only [if_pos]; exact h⟩)
  · exact key (fun _ => none) (fun b o e => by cases e) (.inr h)
end
end Lw

end

namespace Lw
open PySem PySem.Spec PyProof.Rows L2 DL
theorem run (w : World) : HandSHeadRun.RunEq R (PySem.W.view R.prog [ilaw]) hk ob 4000 others w := by
  intro os
  kernel_rfl
end Lw

namespace Lw
open PySem PySem.Spec PyProof.Rows L2 DL
theorem facts {P : Program} {w : World} {K : PySem.W.Frag} {h : Heap} {mg : Str → Option Value} {f : Addr} (X : K.In h) (G : h.Ns mainGlobals mg) (hfa : mg ("law" : Str) = some (.ref f)) (c : SaysX fa fn xb K) :
    ∃ fd : FuncData, (∀ (s : Shared) (v : Value), BindsTo s fd ⟨[v], []⟩ [("script", v)]) ∧ ∀ base : Heap, K.In base → base.Ns mainGlobals mg → FnOk P w K mg base CX0 6 f fd ["script"] (spLaw K) := by
  have T : Tx K mg := ⟨h, X, G, c⟩
  obtain ⟨fd, F⟩ := d_law T
  have e := hfa.symm.trans (m_law T)
  cases e
  have b := FunD.bindsA (ps := ["script"]) F fun _ _ _ _ _ _ us hl => match us, hl with | [_], _ => rfl
  exact ⟨fd, fun s v => b s [v] rfl, fun base _ _ => ok_law T F⟩
end Lw
open PySem PySem.W PySem.Calls PyProof.Rows
theorem PySem.Challenge.cw_lapseseats_k78_told_rows_of_deeds_holds : PySem.Challenge.rw_lapseseats_k78_told_rows_of_deeds.Holds := by
  w_on; o_law
  refine HandSHeadRun.head_any (r := OpenLaw.row PySem.Challenge.rw_lapseseats_k78_told_rows_of_deeds) (q := view (OpenLaw.row PySem.Challenge.rw_lapseseats_k78_told_rows_of_deeds).prog [Lw.ilaw]) (H := Lw.hk) (ob := Lw.ob) (M := 4000) (loose := Lw.others) (d := HandSHeadRun.topDef (OpenLaw.row PySem.Challenge.rw_lapseseats_k78_told_rows_of_deeds).prog Lw.ilaw) (kwd := []) Lw.ob_eq
    (by kernel_rfl) (fun s => by kernel_rfl) Lw.run (by kernel_rfl) (by kernel_rfl) (by kernel_rfl) (by rfl) (by first | assumption | decide +kernel) (by decide +kernel) ⟨rfl, rfl, rfl, rfl, rfl, by decide +kernel⟩ ?hw ?hc
  case hw => w_witness2
  case hc =>
    refine L2.walk_ofE (l := PySem.Challenge.rw_lapseseats_k78_told_rows_of_deeds) (n := 63) (k := 6) (x := "script") (CX := L2.CX0) rfl (by decide) (by kernel_rfl) ⟨rfl, by decide, by decide⟩ ?F (fun _ _ _ _ z => z)
    intro w mg fa h Y G hmg0
    obtain ⟨K, KX, c⟩ := Y
    have hmg : mg ("law" : PySem.Str) = some (.ref fa) := by
      have e : (HandSHeadRun.topDef (OpenLaw.row PySem.Challenge.rw_lapseseats_k78_told_rows_of_deeds).prog Lw.ilaw).name = ("law" : PySem.Str) := by kernel_rfl
      rw [← e]
      exact hmg0
    obtain ⟨fd, hb, hF⟩ := Lw.facts (P := (PySem.Challenge.rw_lapseseats_k78_told_rows_of_deeds).prog) (w := w) KX G hmg c
    exact ⟨K, fd, Lw.spLaw K, KX, hb, fun H a ns hl _ hS => Lw.pure_law hS, hF⟩

