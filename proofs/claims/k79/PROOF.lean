import PyProof.Rows.All
import Wide.All
import OpenK.AllK
import Wide.FinOn
import HandS.ForMost
import HandS.ForExc
import HandS.Walk
import HandS.Star
import HandS.IsInst
import HandS.FStr
import KE.GoesMore
import HandS.SortInts
import HandS.SetFor
import HandS.RaiseMore
import HandS.More
import HandS.Defaults
import HandS.Head0
import HandS.Head1
import HandS.Head2
import HandS.HeadEnd
import HandS.HeadHook1
import HandS.HeadHook2
import KE.KStateDown
import HandS.Style
import HandS.Small
import KE.KSortTupG
import PyProof.ReprRoads
import PyProof.ReprLen
import PyProof.P3Eq
import HandS.Exc
import HandS.ExcInit
import HandS.ExcField
import HandS.ClsMeth
import HandS.TryOnly
import HandS.ExcIs
import KE.KExcIs
import HandS.Zip
import HandS.TupLe
import PySem.Challenge.RW_lapseseats_k79_late_spans_and_safe_lapse
set_option Elab.async false
set_option linter.all false
set_option maxRecDepth 100000
set_option maxHeartbeats 0
/-! # Data over the hand layer: what expressions and statements do to data, the heap out of sight -/
namespace DL
open PySem PySem.Spec PyProof.Rows L2

/-- data: a frozen value is a tree; a thing that may still change is a place in the store -/
inductive D where
  | non | bl (b : Bool) | int (i : Int) | str (s : Str)
  | tup (l : List D) | lst (l : List D) | scr (l : List D)
  | dic (l : List (Key × D))
  | ins (n : Nat) (fs : List (Str × D))
  | ptr (k : Nat)
  | raw (v : V)

/-- what stands at a place of the store -/
inductive Cell where
  | dead
  | lst (l : List D)
  | dic (l : List (Key × D))
  | ins (n : Nat) (fs : List (Str × D))

abbrev Mu := List Cell
abbrev Gm := List (Option D)

/-- what can be frozen data -/
def isData : HO → Bool
  | .lst _ => true
  | .tup _ => true
  | .dK _ => true
  | _ => false
theorem rd_data {F : Hp} {a : Addr} {u v : HO} {o : Obj} (e : F a = some (.frz o u)) (h : Rd F a v) (d : isData v = true) : u = v := by
  rcases h with h | ⟨o', h⟩
  · rw [e] at h; cases h; cases d
  · rw [e] at h; cases h; rfl

/-- what frozen data lean on is there, too (a dict may be locked in the one and not in the other) -/
structure LeR (F F' : Hp) : Prop where
  rd : ∀ a u, isData u = true → Rd F a u → Rd F' a u
  ins : ∀ a C dx fs, F a = some (.ins C dx fs) → F' a = some (.ins C dx fs)
  lst : ∀ a xs, F a = some (.lst xs) → F' a = some (.lst xs)
/-- all of F is there, too -/
def Le (F F' : Hp) : Prop := ∀ a o, F a = some o → F' a = some o
theorem Le.refl (F : Hp) : Le F F := fun _ _ h => h
theorem Le.trans {F F1 F2 : Hp} (a : Le F F1) (b : Le F1 F2) : Le F F2 := fun x o h => b x o (a x o h)
theorem Le.r {F F' : Hp} (h : Le F F') : LeR F F' :=
  ⟨fun a u _ r => r.elim (fun r => .inl (h a _ r)) fun ⟨o, r⟩ => .inr ⟨o, h a _ r⟩, fun a C dx fs e => h a _ e, fun a xs e => h a _ e⟩
theorem Le.new {F : Hp} {p : Addr} {o : HO} (h : F p = none) : Le F (upd F p o) := fun a u e => by rw [upd_ne (ne_of_none e h)]; exact e
theorem LeR.l {K : PySem.W.Frag} {F F' : Hp} {a : Addr} {xs : List V} (e : LeR F F') (h : SqL K F a xs) : SqL K F' a xs := h.elim (fun h => .inl (e.rd a _ rfl h)) .inr
theorem LeR.t {K : PySem.W.Frag} {F F' : Hp} {a : Addr} {xs : List V} (e : LeR F F') (h : SqT K F a xs) : SqT K F' a xs := h.elim (fun h => .inl (e.rd a _ rfl h)) .inr
theorem Le.l {K : PySem.W.Frag} {F F' : Hp} {a : Addr} {xs : List V} (e : Le F F') (h : SqL K F a xs) : SqL K F' a xs := e.r.l h
theorem Le.t {K : PySem.W.Frag} {F F' : Hp} {a : Addr} {xs : List V} (e : Le F F') (h : SqT K F a xs) : SqT K F' a xs := e.r.t h
/-- a lock is put on, is taken off -/
theorem LeR.lock {F : Hp} {d : Addr} {od : Obj} {u : HO} (h : F d = some u) (hu : ∃ kvs, u = .dK kvs) : LeR F (upd F d (.frz od u)) := by
  obtain ⟨kvs, rfl⟩ := hu
  refine ⟨fun a v dv r => ?_, fun a C dx fs e => ?_, fun a xs e => ?_⟩
  · by_cases ha : a = d
    · subst ha
      rcases r with r | ⟨o, r⟩
      · rw [h] at r; cases r; exact .inr ⟨od, upd_same⟩
      · rw [h] at r; cases r
    · exact r.elim (fun r => .inl (by rw [upd_ne ha]; exact r)) fun ⟨o, r⟩ => .inr ⟨o, by rw [upd_ne ha]; exact r⟩
  · rw [upd_ne (ne_of e h (by intro z; cases z))]; exact e
  · rw [upd_ne (ne_of e h (by intro z; cases z))]; exact e
theorem LeR.unlock {F : Hp} {d : Addr} {od : Obj} {u : HO} (h : F d = some (.frz od u)) : LeR F (upd F d u) := by
  refine ⟨fun a v dv r => ?_, fun a C dx fs e => ?_, fun a xs e => ?_⟩
  · by_cases ha : a = d
    · subst ha
      rcases r with r | ⟨o, r⟩
      · rw [h] at r; cases r; cases dv
      · rw [h] at r; cases r; exact .inl upd_same
    · exact r.elim (fun r => .inl (by rw [upd_ne ha]; exact r)) fun ⟨o, r⟩ => .inr ⟨o, by rw [upd_ne ha]; exact r⟩
  · rw [upd_ne (ne_of e h (by intro z; cases z))]; exact e
  · rw [upd_ne (ne_of e h (by intro z; cases z))]; exact e

/-- a mark keeps an object as it is, and no datum leans on it -/
def unmark : HO → HO
  | .frz _ (.frz _ u) => u
  | o => o
def mark (u : HO) : HO := .frz { cls := .none, data := .fields #[] } (.frz { cls := .none, data := .fields #[] } u)
/-- F is a part of H -/
def Sub (F H : Hp) : Prop := ∀ a o, F a = some o → H a = some (unmark o)
theorem Sub.r {F H : Hp} (s : Sub F H) : LeR F H := by
  refine ⟨fun a u d r => ?_, fun a C dx fs h => s a _ h, fun a xs h => s a _ h⟩
  rcases r with r | ⟨o, r⟩
  · refine .inl ((s a _ r).trans ?_)
    cases u <;> first | rfl | cases d
  · refine .inr ⟨o, (s a _ r).trans ?_⟩
    cases u <;> first | rfl | cases d
theorem Sub.free {F H : Hp} (s : Sub F H) {p : Addr} (h : H p = none) : F p = none := by
  cases q : F p with
  | none => rfl
  | some o => rw [s p o q] at h; cases h
theorem Sub.upd {F H : Hp} (s : Sub F H) (p : Addr) (o : HO) (hu : unmark o = o) : Sub (upd F p o) (L2.upd H p o) := fun a u e => by
  by_cases h : a = p
  · subst h; rw [upd_same] at e ⊢; cases e; rw [hu]
  · rw [upd_ne h] at e ⊢; exact s a u e
theorem Sub.mut {F H : Hp} (s : Sub F H) {p : Addr} (h : F p = none) (o : HO) : Sub F (L2.upd H p o) := fun a u e => by
  rw [upd_ne (ne_of_none e h)]; exact s a u e
/-- a marked thing may change -/
theorem LeR.remark {F : Hp} {d : Addr} {u : HO} {v : HO} (h : F d = some (mark u)) : LeR F (L2.upd F d v) := by
  refine ⟨fun a w dw r => ?_, fun a C dx fs e => ?_, fun a xs e => ?_⟩
  · by_cases ha : a = d
    · subst ha
      rcases r with r | ⟨o, r⟩
      · rw [h] at r; cases r; cases dw
      · rw [h] at r; cases r; cases dw
    · exact r.elim (fun r => .inl (by rw [upd_ne ha]; exact r)) fun ⟨o, r⟩ => .inr ⟨o, by rw [upd_ne ha]; exact r⟩
  · rw [upd_ne (ne_of e h (by intro z; cases z))]; exact e
  · rw [upd_ne (ne_of e h (by intro z; cases z))]; exact e

/-! ### what a value is -/
section
variable (K : PySem.W.Frag) (ct : Nat → Addr) (A : List Addr) (F : Hp)
mutual
inductive Rep : V → D → Prop
  | non : Rep .non .non
  | bl (b : Bool) : Rep (.bl b) (.bl b)
  | int (i : Int) : Rep (.int i) (.int i)
  | str (s : Str) : Rep (.str s) (.str s)
  | raw (v : V) : Rep v (.raw v)
  | tup {a : Addr} {vs : List V} {ds : List D} : SqT K F a vs → Reps vs ds → Rep (.ref a) (.tup ds)
  | lst {a : Addr} {vs : List V} {ds : List D} : F a = some (.lst vs) → Reps vs ds → Rep (.ref a) (.lst ds)
  | scr {a : Addr} {vs : List V} {ds : List D} : SqL K F a vs → Reps vs ds → Rep (.ref a) (.scr ds)
  | dic {a : Addr} {kvs : List (Key × V)} {kds : List (Key × D)} : Rd F a (.dK kvs) → kvs.map (·.1) = kds.map (·.1) → Reps (kvs.map (·.2)) (kds.map (·.2)) → Rep (.ref a) (.dic kds)
  | ins {a dx : Addr} {n : Nat} {vfs : List (Str × V)} {fs : List (Str × D)} : F a = some (.ins (ct n) dx vfs) → vfs.map (·.1) = fs.map (·.1) → Reps (vfs.map (·.2)) (fs.map (·.2)) → Rep (.ref a) (.ins n fs)
  | ptr {a : Addr} {k : Nat} : A[k]? = some a → Rep (.ref a) (.ptr k)
inductive Reps : List V → List D → Prop
  | nil : Reps [] []
  | cons {v : V} {vs : List V} {d : D} {ds : List D} : Rep v d → Reps vs ds → Reps (v :: vs) (d :: ds)
end
end
section
variable {K : PySem.W.Frag} {ct : Nat → Addr} {A A' : List Addr} {F F' : Hp}
theorem pre_get {k : Nat} {a : Addr} (p : A <+: A') (h : A[k]? = some a) : A'[k]? = some a := by
  obtain ⟨t, rfl⟩ := p
  rw [List.getElem?_append_left (List.getElem?_eq_some_iff.mp h).1]
  exact h
mutual
theorem Rep.monoR (e : LeR F F') (p : A <+: A') : ∀ {v : V} {d : D}, Rep K ct A F v d → Rep K ct A' F' v d
  | _, _, .non => .non
  | _, _, .bl b => .bl b
  | _, _, .int i => .int i
  | _, _, .str s => .str s
  | _, _, .raw v => .raw v
  | _, _, .tup h r => .tup (e.t h) (Reps.monoR e p r)
  | _, _, .lst h r => .lst (e.lst _ _ h) (Reps.monoR e p r)
  | _, _, .scr h r => .scr (e.l h) (Reps.monoR e p r)
  | _, _, .dic h k r => .dic (e.rd _ _ rfl h) k (Reps.monoR e p r)
  | _, _, .ins h k r => .ins (e.ins _ _ _ _ h) k (Reps.monoR e p r)
  | _, _, .ptr h => .ptr (pre_get p h)
theorem Reps.monoR (e : LeR F F') (p : A <+: A') : ∀ {vs : List V} {ds : List D}, Reps K ct A F vs ds → Reps K ct A' F' vs ds
  | _, _, .nil => .nil
  | _, _, .cons h r => .cons (Rep.monoR e p h) (Reps.monoR e p r)
end
theorem Rep.mono {v : V} {d : D} (e : Le F F') (p : A <+: A') (h : Rep K ct A F v d) : Rep K ct A' F' v d := h.monoR e.r p
theorem Reps.mono {vs : List V} {ds : List D} (e : Le F F') (p : A <+: A') (h : Reps K ct A F vs ds) : Reps K ct A' F' vs ds := h.monoR e.r p
theorem Reps.len : ∀ {vs : List V} {ds : List D}, Reps K ct A F vs ds → vs.length = ds.length
  | _, _, .nil => rfl
  | _, _, .cons _ r => congrArg (· + 1) (Reps.len r)
theorem Reps.get : ∀ {vs : List V} {ds : List D} {i : Nat} {d : D}, Reps K ct A F vs ds → ds[i]? = some d → ∃ v, vs[i]? = some v ∧ Rep K ct A F v d
  | _, _, _, _, .nil, h => by simp at h
  | _, _, 0, _, .cons h _, e => by simp at e; subst e; exact ⟨_, rfl, h⟩
  | _, _, i + 1, _, .cons _ r, e => by
    obtain ⟨v, h1, h2⟩ := Reps.get (i := i) r (by simpa using e)
    exact ⟨v, by simpa using h1, h2⟩
theorem Reps.getV : ∀ {vs : List V} {ds : List D} {i : Nat} {v : V}, Reps K ct A F vs ds → vs[i]? = some v → ∃ d, ds[i]? = some d ∧ Rep K ct A F v d
  | _, _, _, _, .nil, h => by simp at h
  | _, _, 0, _, .cons h _, e => by simp at e; subst e; exact ⟨_, rfl, h⟩
  | _, _, i + 1, _, .cons _ r, e => by
    obtain ⟨v, h1, h2⟩ := Reps.getV (i := i) r (by simpa using e)
    exact ⟨v, by simpa using h1, h2⟩
theorem Reps.app : ∀ {vs ws : List V} {ds es : List D}, Reps K ct A F vs ds → Reps K ct A F ws es → Reps K ct A F (vs ++ ws) (ds ++ es)
  | _, _, _, _, .nil, s => s
  | _, _, _, _, .cons h r, s => .cons h (Reps.app r s)
theorem Reps.take : ∀ {vs : List V} {ds : List D} (n : Nat), Reps K ct A F vs ds → Reps K ct A F (vs.take n) (ds.take n)
  | _, _, 0, _ => .nil
  | _, _, _ + 1, .nil => .nil
  | _, _, n + 1, .cons h r => .cons h (Reps.take n r)
theorem Reps.drop : ∀ {vs : List V} {ds : List D} (n : Nat), Reps K ct A F vs ds → Reps K ct A F (vs.drop n) (ds.drop n)
  | _, _, 0, r => r
  | _, _, _ + 1, .nil => .nil
  | _, _, n + 1, .cons _ r => Reps.drop n r
theorem Reps.set {v : V} {d : D} (h : Rep K ct A F v d) : ∀ {vs : List V} {ds : List D} (i : Nat), Reps K ct A F vs ds → Reps K ct A F (vs.set i v) (ds.set i d)
  | _, _, _, .nil => .nil
  | _, _, 0, .cons _ r => .cons h r
  | _, _, i + 1, .cons q r => .cons q (Reps.set h i r)
theorem Reps.snoc {vs : List V} {ds : List D} {v : V} {d : D} (r : Reps K ct A F vs ds) (h : Rep K ct A F v d) : Reps K ct A F (vs ++ [v]) (ds ++ [d]) := r.app (.cons h .nil)
theorem Reps.ints : ∀ (ns : List Int), Reps K ct A F (ns.map V.int) (ns.map D.int)
  | [] => .nil
  | n :: ns => .cons (.int n) (Reps.ints ns)
theorem Reps.of_ints : ∀ {ns : List Int} {vs : List V}, Reps K ct A F vs (ns.map D.int) → vs = ns.map V.int
  | [], _, .nil => rfl
  | n :: ns, _, .cons (.int _) r => by rw [Reps.of_ints r]; rfl
theorem Reps.of_strs : ∀ {ns : List Str} {vs : List V}, Reps K ct A F vs (ns.map D.str) → vs = ns.map V.str
  | [], _, .nil => rfl
  | n :: ns, _, .cons (.str _) r => by rw [Reps.of_strs r]; rfl
theorem Reps.of_bls : ∀ {ns : List Bool} {vs : List V}, Reps K ct A F vs (ns.map D.bl) → vs = ns.map V.bl
  | [], _, .nil => rfl
  | n :: ns, _, .cons (.bl _) r => by rw [Reps.of_bls r]; rfl
theorem Reps.strs : ∀ (ns : List Str), Reps K ct A F (ns.map V.str) (ns.map D.str)
  | [] => .nil
  | n :: ns => .cons (.str n) (Reps.strs ns)
end

/-! ### the store, the slots -/
section
variable (K : PySem.W.Frag) (ct : Nat → Addr)
def CellOk (A : List Addr) (F H : Hp) (a : Addr) : Cell → Prop
  | .dead => True
  | .lst ds => F a = none ∧ ∃ vs, H a = some (.lst vs) ∧ Reps K ct A F vs ds
  | .dic kds => F a = none ∧ ∃ kvs : List (Key × V), H a = some (.dK kvs) ∧ kvs.map (·.1) = kds.map (·.1) ∧ Reps K ct A F (kvs.map (·.2)) (kds.map (·.2))
  | .ins n fs => F a = none ∧ ∃ (dx : Addr) (vfs : List (Str × V)), H a = some (.ins (ct n) dx vfs) ∧ vfs.map (·.1) = fs.map (·.1) ∧ Reps K ct A F (vfs.map (·.2)) (fs.map (·.2))
structure Rl0 (μ : Mu) (H F : Hp) (A : List Addr) : Prop where
  sub : Sub F H
  len : A.length = μ.length
  nd : ∀ (i j : Nat) (a : Addr) (c c' : Cell), A[i]? = some a → A[j]? = some a → μ[i]? = some c → μ[j]? = some c' → c ≠ .dead → c' ≠ .dead → i = j
  there : ∀ a ∈ A, ∃ o, H a = some o
  ok : ∀ (k : Nat) (a : Addr) (c : Cell), A[k]? = some a → μ[k]? = some c → CellOk K ct A F H a c
/-- a slot whose datum is known -/
inductive Slots (A : List Addr) (F : Hp) : Gm → L2.St → Prop
  | nil : Slots A F [] []
  | any {o : Option V} {Γ : Gm} {σ : L2.St} : Slots A F Γ σ → Slots A F (none :: Γ) (o :: σ)
  | cons {v : V} {d : D} {Γ : Gm} {σ : L2.St} : Rep K ct A F v d → Slots A F Γ σ → Slots A F (some d :: Γ) (some v :: σ)
structure Rl (Γ : Gm) (μ : Mu) (σ : L2.St) (H F : Hp) (A : List Addr) : Prop where
  m : Rl0 K ct μ H F A
  s : Slots K ct A F Γ σ
end
section
variable {K : PySem.W.Frag} {ct : Nat → Addr} {A A' : List Addr} {F F' H H' : Hp} {Γ : Gm} {μ : Mu} {σ : L2.St}
theorem Slots.monoR (e : LeR F F') (p : A <+: A') : ∀ {Γ : Gm} {σ : L2.St}, Slots K ct A F Γ σ → Slots K ct A' F' Γ σ
  | _, _, .nil => .nil
  | _, _, .any r => .any (Slots.monoR e p r)
  | _, _, .cons h r => .cons (h.monoR e p) (Slots.monoR e p r)
theorem Slots.mono {Γ : Gm} {σ : L2.St} (e : Le F F') (p : A <+: A') (h : Slots K ct A F Γ σ) : Slots K ct A' F' Γ σ := h.monoR e.r p
theorem Slots.get : ∀ {Γ : Gm} {σ : L2.St} {i : Nat} {d : D}, Slots K ct A F Γ σ → Γ[i]? = some (some d) → ∃ v, σ[i]? = some (some v) ∧ Rep K ct A F v d
  | _, _, _, _, .nil, h => by simp at h
  | _, _, 0, _, .any _, h => by simp at h
  | _, _, 0, _, .cons h _, e => by simp at e; subst e; exact ⟨_, rfl, h⟩
  | _, _, i + 1, _, .any r, e => by
    obtain ⟨v, h1, h2⟩ := Slots.get (i := i) r (by simpa using e)
    exact ⟨v, by simpa using h1, h2⟩
  | _, _, i + 1, _, .cons _ r, e => by
    obtain ⟨v, h1, h2⟩ := Slots.get (i := i) r (by simpa using e)
    exact ⟨v, by simpa using h1, h2⟩
theorem Slots.set {v : V} {d : D} (h : Rep K ct A F v d) : ∀ {Γ : Gm} {σ : L2.St} (i : Nat), Slots K ct A F Γ σ → Slots K ct A F (Γ.set i (some d)) (σ.set i (some v))
  | _, _, _, .nil => .nil
  | _, _, 0, .any r => .cons h r
  | _, _, 0, .cons _ r => .cons h r
  | _, _, i + 1, .any r => .any (Slots.set h i r)
  | _, _, i + 1, .cons q r => .cons q (Slots.set h i r)
theorem Slots.wipe1 : ∀ {Γ : Gm} {σ : L2.St} (i : Nat) {o : Option V}, Slots K ct A F Γ σ → Slots K ct A F (Γ.set i none) (σ.set i o)
  | _, _, _, _, .nil => .nil
  | _, _, 0, _, .any r => .any r
  | _, _, 0, _, .cons _ r => .any r
  | _, _, i + 1, _, .any r => .any (Slots.wipe1 i r)
  | _, _, i + 1, _, .cons q r => .cons q (Slots.wipe1 i r)
def wipeG (Γ : Gm) : List Nat → Gm
  | [] => Γ
  | v :: vs => (wipeG Γ vs).set v none
theorem Slots.wipe {Γ : Gm} {σ : L2.St} (h : Slots K ct A F Γ σ) : ∀ vs : List Nat, Slots K ct A F (wipeG Γ vs) (L2.wipe σ vs)
  | [] => h
  | v :: vs => (Slots.wipe h vs).wipe1 v
/-- what is known, forgotten in part -/
inductive GLe : Gm → Gm → Prop
  | nil : GLe [] []
  | any {o : Option D} {Γ Γ' : Gm} : GLe Γ Γ' → GLe (none :: Γ) (o :: Γ')
  | cons {d : D} {Γ Γ' : Gm} : GLe Γ Γ' → GLe (some d :: Γ) (some d :: Γ')
theorem Slots.less : ∀ {Γ Γ' : Gm} {σ : L2.St}, GLe Γ Γ' → Slots K ct A F Γ' σ → Slots K ct A F Γ σ
  | _, _, _, .nil, .nil => .nil
  | _, _, _, .any g, .any r => .any (Slots.less g r)
  | _, _, _, .any g, .cons _ r => .any (Slots.less g r)
  | _, _, _, .cons g, .cons h r => .cons h (Slots.less g r)
theorem Slots.start : ∀ {ds : List D} {vs : List V} (n : Nat), Reps K ct A F vs ds → Slots K ct A F (ds.map some ++ List.replicate n none) (vs.map some ++ List.replicate n none)
  | _, _, 0, .nil => .nil
  | _, _, n + 1, .nil => .any (Slots.start n .nil)
  | _, _, n, .cons h r => .cons h (Slots.start n r)

theorem CellOk.monoR {c : Cell} {a : Addr} (e : LeR F F') (p : A <+: A') (hf : F a = none → F' a = none) (hh : ∀ o, H a = some o → F a = none → H' a = some o) (h : CellOk K ct A F H a c) : CellOk K ct A' F' H' a c := by
  cases c with
  | dead => trivial
  | lst ds => obtain ⟨f, vs, h1, h2⟩ := h; exact ⟨hf f, vs, hh _ h1 f, h2.monoR e p⟩
  | dic ds => obtain ⟨f, vs, h1, h2, h3⟩ := h; exact ⟨hf f, vs, hh _ h1 f, h2, h3.monoR e p⟩
  | ins n ds => obtain ⟨f, dx, vs, h1, h2, h3⟩ := h; exact ⟨hf f, dx, vs, hh _ h1 f, h2, h3.monoR e p⟩
theorem CellOk.mono {c : Cell} {a : Addr} (e : Le F F') (p : A <+: A') (hf : F a = none → F' a = none) (hh : ∀ o, H a = some o → F a = none → H' a = some o) (h : CellOk K ct A F H a c) : CellOk K ct A' F' H' a c := h.monoR e.r p hf hh
theorem CellOk.fr {K : PySem.W.Frag} {ct : Nat → Addr} {A : List Addr} {F H : Hp} {a : Addr} {c : Cell} (h : CellOk K ct A F H a c) (l : c ≠ .dead) : F a = none := by
  cases c with
  | dead => exact absurd rfl l
  | lst l => exact h.1
  | dic l => exact h.1
  | ins n l => exact h.1
/-- a live place is not where something frozen or marked is -/
theorem Rl0.ne {K : PySem.W.Frag} {ct : Nat → Addr} {μ : Mu} {H F : Hp} {A : List Addr} (r : Rl0 K ct μ H F A) {k : Nat} {a b : Addr} {c : Cell} {u : HO} (ha : A[k]? = some a) (hc : μ[k]? = some c) (l : c ≠ .dead) (h : F b = some u) : a ≠ b := fun z => by
  subst z
  rw [(r.ok k a c ha hc).fr l] at h
  cases h
/-- a new object joins the frozen part -/
theorem Rl0.grow (r : Rl0 K ct μ H F A) {p : Addr} (hp : H p = none) (o : HO) (hu : unmark o = o := by rfl) : Rl0 K ct μ (upd H p o) (upd F p o) A where
  sub := r.sub.upd p o hu
  len := r.len
  nd := r.nd
  there := fun a ha => by
    obtain ⟨u, e⟩ := r.there a ha
    exact ⟨u, by rw [upd_ne (ne_of_none e hp)]; exact e⟩
  ok := fun k a c ha hc => by
    obtain ⟨u, e⟩ := r.there a (List.mem_of_getElem? ha)
    have ne := ne_of_none e hp
    refine (r.ok k a c ha hc).mono (.new (r.sub.free hp)) (List.prefix_refl _) (fun f => ?_) (fun o' h _ => ?_)
    · rw [upd_ne ne]; exact f
    · rw [upd_ne ne]; exact h
theorem Rl0.le_grow (r : Rl0 K ct μ H F A) {p : Addr} (hp : H p = none) (o : HO) : Le F (upd F p o) := .new (r.sub.free hp)
/-- a new object joins the store -/
theorem Rl0.push (r : Rl0 K ct μ H F A) {p : Addr} (hp : H p = none) {o : HO} {c : Cell} (hc : CellOk K ct (A ++ [p]) F (upd H p o) p c) : Rl0 K ct (μ ++ [c]) (upd H p o) F (A ++ [p]) where
  sub := r.sub.mut (r.sub.free hp) o
  len := by simp [r.len]
  nd := fun i j a c1 c2 hi hj h1 h2 l1 l2 => by
    have key : ∀ n : Nat, (A ++ [p])[n]? = some a → (n < A.length ∧ A[n]? = some a) ∨ (n = A.length ∧ a = p) := fun n hn => by
      by_cases hk : n < A.length
      · rw [List.getElem?_append_left hk] at hn; exact .inl ⟨hk, hn⟩
      · have hk' : n < (A ++ [p]).length := (List.getElem?_eq_some_iff.mp hn).1
        rw [List.length_append] at hk'
        have hk2 : n = A.length := by
          have : ([p] : List Addr).length = 1 := rfl
          omega
        subst hk2
        rw [List.getElem?_append_right (Nat.le_refl _), Nat.sub_self] at hn
        simp at hn
        exact .inr ⟨rfl, hn.symm⟩
    rcases key i hi with ⟨a1, a2⟩ | ⟨a1, a2⟩ <;> rcases key j hj with ⟨b1, b2⟩ | ⟨b1, b2⟩
    · rw [List.getElem?_append_left (by rw [← r.len]; exact a1)] at h1
      rw [List.getElem?_append_left (by rw [← r.len]; exact b1)] at h2
      exact r.nd i j a c1 c2 a2 b2 h1 h2 l1 l2
    · obtain ⟨u, e⟩ := r.there a (List.mem_of_getElem? a2)
      subst b2; rw [hp] at e; cases e
    · obtain ⟨u, e⟩ := r.there a (List.mem_of_getElem? b2)
      subst a2; rw [hp] at e; cases e
    · rw [a1, b1]
  there := fun a ha => by
    rcases List.mem_append.mp ha with ha | ha
    · obtain ⟨u, e⟩ := r.there a ha
      exact ⟨u, by rw [upd_ne (ne_of_none e hp)]; exact e⟩
    · rw [List.mem_singleton] at ha
      subst ha
      exact ⟨o, upd_same⟩
  ok := fun k a c' ha hc' => by
    by_cases hk : k < A.length
    · rw [List.getElem?_append_left hk] at ha
      rw [List.getElem?_append_left (by rw [← r.len]; exact hk)] at hc'
      obtain ⟨u, e⟩ := r.there a (List.mem_of_getElem? ha)
      exact (r.ok k a c' ha hc').mono (.refl _) (List.prefix_append _ _) (fun f => f) fun o' h _ => by rw [upd_ne (ne_of_none e hp)]; exact h
    · have hk' : k < (A ++ [p]).length := (List.getElem?_eq_some_iff.mp ha).1
      rw [List.length_append] at hk'
      have hk2 : k = A.length := by
        have : ([p] : List Addr).length = 1 := rfl
        omega
      subst hk2
      rw [List.getElem?_append_right (Nat.le_refl _), Nat.sub_self] at ha
      rw [r.len, List.getElem?_append_right (Nat.le_refl _), Nat.sub_self] at hc'
      simp at ha hc'
      subst ha; subst hc'
      exact hc
/-- the object at a place is changed -/
theorem Rl0.write (r : Rl0 K ct μ H F A) {k : Nat} {a : Addr} {c0 : Cell} (ha : A[k]? = some a) (h0 : μ[k]? = some c0) (l0 : c0 ≠ .dead) (hf : F a = none) {o : HO} {c : Cell} (hc : CellOk K ct A F (upd H a o) a c) : Rl0 K ct (μ.set k c) (upd H a o) F A where
  sub := r.sub.mut hf o
  len := by simp [r.len]
  nd := fun i j b c1 c2 hi hj h1 h2 l1 l2 => by
    have key : ∀ (n : Nat) (c' : Cell), (μ.set k c)[n]? = some c' → c' ≠ .dead → ∃ c'', μ[n]? = some c'' ∧ c'' ≠ .dead := fun n c' hn hl => by
      by_cases e : n = k
      · subst e; exact ⟨c0, h0, l0⟩
      · rw [List.getElem?_set_ne (Ne.symm e)] at hn; exact ⟨c', hn, hl⟩
    obtain ⟨x1, y1, z1⟩ := key i c1 h1 l1
    obtain ⟨x2, y2, z2⟩ := key j c2 h2 l2
    exact r.nd i j b x1 x2 hi hj y1 y2 z1 z2
  there := fun b hb => by
    by_cases h : b = a
    · subst h; exact ⟨o, upd_same⟩
    · obtain ⟨u, e⟩ := r.there b hb
      exact ⟨u, by rw [upd_ne h]; exact e⟩
  ok := fun j b c' hb hc' => by
    by_cases h : j = k
    · subst h
      rw [ha] at hb
      cases hb
      rw [List.getElem?_set_self (by rw [← r.len]; exact (List.getElem?_eq_some_iff.mp ha).1)] at hc'
      cases hc'
      exact hc
    · rw [List.getElem?_set_ne (Ne.symm h)] at hc'
      by_cases hd : c' = .dead
      · subst hd; trivial
      have ne : b ≠ a := fun e => by
        subst e
        exact h (r.nd j k b c' c0 hb ha hc' h0 hd l0)
      exact (r.ok j b c' hb hc').mono (.refl _) (List.prefix_refl _) (fun f => f) fun o' h _ => by rw [upd_ne ne]; exact h
end
end DL

namespace DL
open PySem PySem.Spec PyProof.Rows L2

/-! ### dicts of data -/
def dget (kds : List (Key × D)) (k : Key) : Option D := (kds.find? fun kv => decide (kv.1 = k)).map (·.2)
def dput (kds : List (Key × D)) (k : Key) (v : D) : List (Key × D) :=
  if (kds.any fun kv => decide (kv.1 = k)) = true then kds.map (fun kv => if kv.1 = k then (kv.1, v) else kv) else kds ++ [(k, v)]
def ddrop (kds : List (Key × D)) (k : Key) : List (Key × D) := kds.filter fun kv => decide (kv.1 ≠ k)
section
variable {K : PySem.W.Frag} {ct : Nat → Addr} {A A' : List Addr} {F F' : Hp}
/-- pairs of a dict, as values and as data -/
def KD (K : PySem.W.Frag) (ct : Nat → Addr) (A : List Addr) (F : Hp) (kvs : List (Key × V)) (kds : List (Key × D)) : Prop := kvs.map (·.1) = kds.map (·.1) ∧ Reps K ct A F (kvs.map (·.2)) (kds.map (·.2))
theorem KD.cons_inv {p : Key × V} {kvs : List (Key × V)} {q : Key × D} {kds : List (Key × D)} (h : KD K ct A F (p :: kvs) (q :: kds)) : p.1 = q.1 ∧ Rep K ct A F p.2 q.2 ∧ KD K ct A F kvs kds := by
  obtain ⟨h1, h2⟩ := h
  simp only [List.map_cons, List.cons.injEq] at h1
  simp only [List.map_cons] at h2
  cases h2 with
  | cons a b => exact ⟨h1.1, a, h1.2, b⟩
theorem KD.cons {p : Key × V} {kvs : List (Key × V)} {q : Key × D} {kds : List (Key × D)} (e : p.1 = q.1) (r : Rep K ct A F p.2 q.2) (h : KD K ct A F kvs kds) : KD K ct A F (p :: kvs) (q :: kds) :=
  ⟨by simp only [List.map_cons, e, h.1], .cons r h.2⟩
theorem KD.nil : KD K ct A F [] [] := ⟨rfl, .nil⟩
theorem KD.len {kvs : List (Key × V)} {kds : List (Key × D)} (h : KD K ct A F kvs kds) : kvs.length = kds.length := by
  have := congrArg List.length h.1
  simpa using this
theorem KD.app : ∀ {kvs : List (Key × V)} {kds : List (Key × D)} {kvs' : List (Key × V)} {kds' : List (Key × D)}, KD K ct A F kvs kds → KD K ct A F kvs' kds' → KD K ct A F (kvs ++ kvs') (kds ++ kds') := fun h h' =>
  ⟨by simp only [List.map_append, h.1, h'.1], by simp only [List.map_append]; exact h.2.app h'.2⟩
theorem KD.get : ∀ {kvs : List (Key × V)} {kds : List (Key × D)} (k : Key), KD K ct A F kvs kds → match valV kvs k, dget kds k with | some v, some d => Rep K ct A F v d | none, none => True | _, _ => False
  | [], [], _, _ => trivial
  | [], _ :: _, _, h => by have := h.len; simp at this
  | _ :: _, [], _, h => by have := h.len; simp at this
  | p :: kvs, q :: kds, k, h => by
    obtain ⟨e, r, t⟩ := h.cons_inv
    by_cases hk : p.1 = k
    · have hk' : q.1 = k := e ▸ hk
      rw [valV_pos hk, show dget (q :: kds) k = some q.2 by simp [dget, List.find?_cons, hk']]
      exact r
    · have hk' : ¬ q.1 = k := fun z => hk (e.trans z)
      rw [valV_neg hk, show dget (q :: kds) k = dget kds k by simp [dget, List.find?_cons, hk']]
      exact KD.get k t
theorem KD.get_some {kvs : List (Key × V)} {kds : List (Key × D)} {k : Key} {d : D} (h : KD K ct A F kvs kds) (e : dget kds k = some d) : ∃ v, valV kvs k = some v ∧ Rep K ct A F v d := by
  have g := h.get k
  rw [e] at g
  cases q : valV kvs k with
  | none => rw [q] at g; exact g.elim
  | some v => rw [q] at g; exact ⟨v, rfl, g⟩
theorem KD.get_none {kvs : List (Key × V)} {kds : List (Key × D)} {k : Key} (h : KD K ct A F kvs kds) (e : dget kds k = none) : valV kvs k = none := by
  have g := h.get k
  rw [e] at g
  cases q : valV kvs k with
  | none => rfl
  | some v => rw [q] at g; exact g.elim
theorem KD.isSome {kvs : List (Key × V)} {kds : List (Key × D)} (k : Key) (h : KD K ct A F kvs kds) : (valV kvs k).isSome = (dget kds k).isSome := by
  cases q : dget kds k with
  | none => rw [h.get_none q] <;> rfl
  | some d => obtain ⟨v, e, _⟩ := h.get_some q; rw [e]; rfl
theorem any_keys {α β : Type} (k : Key) : ∀ {l : List (Key × α)} {m : List (Key × β)}, l.map (·.1) = m.map (·.1) → (l.any fun kv => decide (kv.1 = k)) = (m.any fun kv => decide (kv.1 = k))
  | [], [], _ => rfl
  | [], _ :: _, h => by simp at h
  | _ :: _, [], h => by simp at h
  | p :: l, q :: m, h => by
    simp only [List.map_cons, List.cons.injEq] at h
    simp only [List.any_cons, h.1, any_keys k h.2]
theorem KD.mapput {k : Key} {v : V} {d : D} (r : Rep K ct A F v d) : ∀ {kvs : List (Key × V)} {kds : List (Key × D)}, KD K ct A F kvs kds → KD K ct A F (kvs.map fun kv => if kv.1 = k then (kv.1, v) else kv) (kds.map fun kv => if kv.1 = k then (kv.1, d) else kv)
  | [], [], _ => .nil
  | [], _ :: _, h => by have := h.len; simp at this
  | _ :: _, [], h => by have := h.len; simp at this
  | p :: kvs, q :: kds, h => by
    obtain ⟨e, r', t⟩ := h.cons_inv
    simp only [List.map_cons]
    by_cases hk : p.1 = k
    · have hk' : q.1 = k := e ▸ hk
      rw [if_pos hk, if_pos hk']
      exact .cons e r (KD.mapput r t)
    · have hk' : ¬ q.1 = k := fun z => hk (e.trans z)
      rw [if_neg hk, if_neg hk']
      exact .cons e r' (KD.mapput r t)
theorem KD.put {kvs : List (Key × V)} {kds : List (Key × D)} (k : Key) {v : V} {d : D} (h : KD K ct A F kvs kds) (r : Rep K ct A F v d) : KD K ct A F (putK kvs k v) (dput kds k d) := by
  unfold putK dput
  rw [any_keys k h.1]
  split
  · exact KD.mapput r h
  · exact h.app (.cons rfl r .nil)
theorem KD.drop (k : Key) : ∀ {kvs : List (Key × V)} {kds : List (Key × D)}, KD K ct A F kvs kds → KD K ct A F (dropK kvs k) (ddrop kds k)
  | [], [], _ => .nil
  | [], _ :: _, h => by have := h.len; simp at this
  | _ :: _, [], h => by have := h.len; simp at this
  | p :: kvs, q :: kds, h => by
    obtain ⟨e, r', t⟩ := h.cons_inv
    unfold dropK ddrop
    simp only [List.filter_cons]
    by_cases hk : p.1 = k
    · have hk' : q.1 = k := e ▸ hk
      have dn : decide (k ≠ k) = false := by simp
      simp only [hk, hk', dn]
      exact KD.drop k t
    · have hk' : ¬ q.1 = k := fun z => hk (e.trans z)
      simp only [hk, hk', ne_eq, not_false_eq_true, decide_true, if_true]
      exact .cons e r' (KD.drop k t)
theorem KD.mono {kvs : List (Key × V)} {kds : List (Key × D)} (e : Le F F') (p : A <+: A') (h : KD K ct A F kvs kds) : KD K ct A' F' kvs kds := ⟨h.1, h.2.mono e p⟩
/-- the fields of an instance -/
theorem fs_look : ∀ {vfs : List (Str × V)} {fs : List (Str × D)} {f : Str} {d : D}, vfs.map (·.1) = fs.map (·.1) → Reps K ct A F (vfs.map (·.2)) (fs.map (·.2)) → fs.lookup f = some d → ∃ v, vfs.lookup f = some v ∧ Rep K ct A F v d
  | [], [], _, _, _, _, h => by simp at h
  | [], _ :: _, _, _, h, _, _ => by simp at h
  | _ :: _, [], _, _, h, _, _ => by simp at h
  | (a, v) :: vfs, (b, e) :: fs, f, d, h, r, l => by
    simp only [List.map_cons, List.cons.injEq] at h
    simp only [List.map_cons] at r
    obtain ⟨rfl, h2⟩ := h
    cases r with
    | cons r1 r2 =>
      by_cases hf : (f == a) = true
      · simp only [List.lookup, hf] at l ⊢
        cases l
        exact ⟨v, rfl, r1⟩
      · have hf' : (f == a) = false := by simpa using hf
        simp only [List.lookup, hf'] at l ⊢
        exact fs_look h2 r2 l
def putD (f : Str) (v : D) : List (Str × D) → List (Str × D)
  | [] => [(f, v)]
  | (g, x) :: r => if g = f then (g, v) :: r else (g, x) :: putD f v r
end

/-! ### readings over data -/
section
variable (K : PySem.W.Frag) (ct : Nat → Addr)
def tD (Γ : Gm) (μ : Mu) (d : D) (μ' : Mu) : TE := fun σ H Q => ∃ F A, Rl K ct Γ μ σ H F A ∧ ∀ v H' F' A', Le F F' → A <+: A' → Rl K ct Γ μ' σ H' F' A' → Rep K ct A' F' v d → Q v H'
def tT (Γ : Gm) (μ : Mu) (b : Bool) (μ' : Mu) : TT := fun σ H Q => ∃ F A, Rl K ct Γ μ σ H F A ∧ ∀ H' F' A', Le F F' → A <+: A' → Rl K ct Γ μ' σ H' F' A' → Q b H'
def tAs (Γ : Gm) (μ : Mu) (ds : List D) (μ' : Mu) : TA := fun σ H Q => ∃ F A, Rl K ct Γ μ σ H F A ∧ ∀ vs H' F' A', Le F F' → A <+: A' → Rl K ct Γ μ' σ H' F' A' → Reps K ct A' F' vs ds → Q vs H'
/-- an operation on two values, a call on values -/
def r2 (μ : Mu) (da db d : D) : R2 := fun x y H Q => ∃ F A, Rl0 K ct μ H F A ∧ Rep K ct A F x da ∧ Rep K ct A F y db ∧ ∀ v H' F', Le F F' → Rl0 K ct μ H' F' A → Rep K ct A F' v d → Q v H'
def rc (μ : Mu) (ds : List D) (d : D) : List V → Hp → VK → Prop := fun xs H Q => ∃ F A, Rl0 K ct μ H F A ∧ Reps K ct A F xs ds ∧ ∀ v H' F', Le F F' → Rl0 K ct μ H' F' A → Rep K ct A F' v d → Q v H'
end
abbrev DE (X : Cx) (ct : Nat → Addr) (Γ : Gm) (μ : Mu) (e : Expr) (d : D) (μ' : Mu) : Prop := PE X e (tD X.K ct Γ μ d μ')
abbrev DT (X : Cx) (ct : Nat → Addr) (Γ : Gm) (μ : Mu) (e : Expr) (b : Bool) (μ' : Mu) : Prop := PT X e (tT X.K ct Γ μ b μ')
abbrev DW (X : Cx) (ct : Nat → Addr) (Γ : Gm) (μ : Mu) (e : Expr) (b : Bool) (μ' : Mu) : Prop := PW X e (tT X.K ct Γ μ b μ')
abbrev DA (X : Cx) (ct : Nat → Addr) (Γ : Gm) (μ : Mu) (es : List Expr) (ds : List D) (μ' : Mu) : Prop := PA X es (tAs X.K ct Γ μ ds μ')
abbrev O2 (X : Cx) (ct : Nat → Addr) (f : Value → Value → Sem Value) (μ : Mu) (da db d : D) : Prop := OpR X f (r2 X.K ct μ da db d)
abbrev C1 (X : Cx) (ct : Nat → Addr) (f : Value) (μ : Mu) (ds : List D) (d : D) : Prop := CallR X f (rc X.K ct μ ds d)

section
variable {X : Cx}
theorem PE.imp {e : Expr} {t t' : TE} (h : PE X e t) (k : ∀ σ H Q, t' σ H Q → t σ H Q) : PE X e t' := ⟨fun pins s σ H Q I q => h.run pins s σ H Q I (k σ H Q q)⟩
theorem PT.imp {e : Expr} {t t' : TT} (h : PT X e t) (k : ∀ σ H Q, t' σ H Q → t σ H Q) : PT X e t' := ⟨fun pins s σ H Q I q => h.run pins s σ H Q I (k σ H Q q)⟩
theorem PW.imp {e : Expr} {t t' : TT} (h : PW X e t) (k : ∀ σ H Q, t' σ H Q → t σ H Q) : PW X e t' := ⟨fun whole pins s σ H Q I q => h.run whole pins s σ H Q I (k σ H Q q)⟩
theorem PA.imp {e : List Expr} {t t' : TA} (h : PA X e t) (k : ∀ σ H Q, t' σ H Q → t σ H Q) : PA X e t' := ⟨fun pos pins s σ H Q I q => h.run pos pins s σ H Q I (k σ H Q q)⟩
theorem PS.imp {e : Stmt} {t t' : TS} (h : PS X e t) (k : ∀ D σ H, t' D σ H → t D σ H) : PS X e t' := ⟨fun pins s σ H D I q => h.run pins s σ H D I (k D σ H q)⟩
theorem PSs.imp {e : List Stmt} {t t' : TS} (h : PSs X e t) (k : ∀ D σ H, t' D σ H → t D σ H) : PSs X e t' := ⟨fun pins s σ H D I q => h.run pins s σ H D I (k D σ H q)⟩
theorem OpR.imp {f : Value → Value → Sem Value} {r r' : R2} (h : OpR X f r) (k : ∀ x y H Q, r' x y H Q → r x y H Q) : OpR X f r' := fun pins s σ H x y v u Q I rx ry q => h pins s σ H x y v u Q I rx ry (k _ _ _ _ q)
theorem CallR.imp {f : Value} {r r' : List V → Hp → VK → Prop} (h : CallR X f r) (k : ∀ xs H Q, r' xs H Q → r xs H Q) : CallR X f r' := fun pins s σ H xs us Q I rx q => h pins s σ H xs us Q I rx (k _ _ _ q)
end

section
variable {X : Cx} {ct : Nat → Addr} {Γ : Gm} {μ μ1 μ2 μ3 : Mu} {d da db dc : D} {ds : List D} {e a b c : Expr} {es : List Expr} {pos p : Pos} {x : Str}
abbrev pr {A : List Addr} : A <+: A := List.prefix_refl A

/-! ### names, constants -/
theorem de_var (i : Nat) (hΓ : Γ[i]? = some (some d) := by rfl) (hN : X.N[i]? = some x := by rfl) (hv : Vis X.env.scope x := by first | exact Or.inl rfl | exact Or.inr (Or.inl rfl) | exact Or.inr (Or.inr rfl)) (hd : (x == ("__debug__" : Str)) = false := by decide)
    (hcd : (x == ("__classdict__" : Str)) = false := by decide) : DE X ct Γ μ (.Name x pos) d μ :=
  PE.imp (pe_var hN hv hd hcd) fun σ H Q ⟨F, A, r, k⟩ => let ⟨v, hv, rep⟩ := r.s.get hΓ; ⟨v, hv, k v H F A (.refl _) pr r rep⟩
theorem de_c {v : V} (h : PE X e (tC v)) (rep : ∀ A F, Rep X.K ct A F v d) : DE X ct Γ μ e d μ := PE.imp h fun σ H Q ⟨F, A, r, k⟩ => k v H F A (.refl _) pr r (rep A F)
theorem de_int {i j} : DE X ct Γ μ (.Constant (.int i) j pos) (.int i) μ := de_c pe_int fun _ _ => .int i
theorem de_bl {i j} : DE X ct Γ μ (.Constant (.bool i) j pos) (.bl i) μ := de_c pe_bl fun _ _ => .bl i
theorem de_non {j} : DE X ct Γ μ (.Constant .none j pos) .non μ := de_c pe_non fun _ _ => .non
theorem de_str {i j} : DE X ct Γ μ (.Constant (.str i) j pos) (.str i) μ := de_c pe_str fun _ _ => .str i
/-- a constant of the module -/
structure GlC (K : PySem.W.Frag) (ct : Nat → Addr) (mg : Str → Option Value) (x : Str) (d : D) : Prop where
  ex : ∃ (u : Value) (v : V), mg x = some u ∧ RelV v u ∧ ∀ A F, Rep K ct A F v d
theorem de_glob (g : GlC X.K ct X.mg x d) (hg : Gl X x := by rfl) (hd : (x == ("__debug__" : Str)) = false := by decide) : DE X ct Γ μ (.Name x pos) d μ := by
  obtain ⟨u, v, hm, r, rep⟩ := g.ex
  exact de_c (pe_glob hg hm r hd) rep
theorem de_bltn {v : V} {u : Value} (hm : X.mg x = none) (hv : bootBuiltins x = some u) (r : RelV v u) (hg : Gl X x := by rfl) (hn : x ≠ "__name__" := by decide) (hd : (x == ("__debug__" : Str)) = false := by decide) : DE X ct Γ μ (.Name x pos) (.raw v) μ :=
  de_c (pe_bltn hg hm hv r hn hd) fun _ _ => .raw v

/-! ### operators -/
theorem tOp_D {r : R2} (h : ∀ x y H Q, r2 X.K ct μ2 da db d x y H Q → r x y H Q) : ∀ σ H Q, tD X.K ct Γ μ d μ2 σ H Q → tOp r (tD X.K ct Γ μ da μ1) (tD X.K ct Γ μ1 db μ2) σ H Q := fun σ H Q ⟨F, A, r, k⟩ =>
  ⟨F, A, r, fun v H1 F1 A1 e1 p1 r1 h1 => ⟨F1, A1, r1, fun w H2 F2 A2 e2 p2 r2 h2 => h _ _ _ _ ⟨F2, A2, r2.m, h1.mono e2 p2, h2, fun v' H' F' e3 r3 h3 =>
    k v' H' F' A2 (e1.trans (e2.trans e3)) (p1.trans p2) ⟨r3, r2.s.mono e3 pr⟩ h3⟩⟩⟩
theorem de_op {op : Operator} (o : O2 X ct (binaryOp op) μ2 da db d) (ha : DE X ct Γ μ a da μ1) (hb : DE X ct Γ μ1 b db μ2) : DE X ct Γ μ (.BinOp a op b pos) d μ2 := PE.imp (pe_op o ha hb) (tOp_D fun _ _ _ _ h => h)
theorem de_cmp {op : CmpOp} (o : O2 X ct (compareOp op) μ2 da db d) (ha : DE X ct Γ μ a da μ1) (hb : DE X ct Γ μ1 b db μ2) (hm : behindInMarks op b = false := by first | exact nomark _ | rfl | with_unfolding_all rfl) : DE X ct Γ μ (.Compare a [op] [b] pos) d μ2 :=
  PE.imp (pe_cmpR o ha hb hm) (tOp_D fun _ _ _ _ h => h)
theorem rep_bl {K : PySem.W.Frag} {A : List Addr} {F : Hp} {v : V} {k : Bool} (h : Rep K ct A F v (.bl k)) : v = .bl k := by cases h; rfl
theorem rep_int {K : PySem.W.Frag} {A : List Addr} {F : Hp} {v : V} {k : Int} (h : Rep K ct A F v (.int k)) : v = .int k := by cases h; rfl
theorem rep_str {K : PySem.W.Frag} {A : List Addr} {F : Hp} {v : V} {k : Str} (h : Rep K ct A F v (.str k)) : v = .str k := by cases h; rfl
theorem rep_non {K : PySem.W.Frag} {A : List Addr} {F : Hp} {v : V} (h : Rep K ct A F v .non) : v = .non := by cases h; rfl
theorem dt_cmp {op : CmpOp} {k : Bool} (o : O2 X ct (compareOp op) μ2 da db (.bl k)) (ha : DE X ct Γ μ a da μ1) (hb : DE X ct Γ μ1 b db μ2) (hm : behindInMarks op b = false := by first | exact nomark _ | rfl | with_unfolding_all rfl) : DT X ct Γ μ (.Compare a [op] [b] pos) k μ2 :=
  PT.imp (pt_cmpR o ha hb hm) fun σ H Q ⟨F, A, r, q⟩ => tOp_D (d := .bl k) (fun _ _ _ _ h => h) σ H _ ⟨F, A, r, fun v H' F' A' e p r' h => ⟨k, rep_bl h, q H' F' A' e p r'⟩⟩
theorem o2_of {f : Value → Value → Sem Value} {r : R2} (o : OpR X f r) (h : ∀ (x y : V) (H F : Hp) (A : List Addr) (Q : VK), Rl0 X.K ct μ H F A → Rep X.K ct A F x da → Rep X.K ct A F y db →
    (∀ v H' F', Le F F' → Rl0 X.K ct μ H' F' A → Rep X.K ct A F' v d → Q v H') → r x y H Q) : O2 X ct f μ da db d :=
  OpR.imp o fun x y H Q ⟨F, A, m, rx, ry, k⟩ => h x y H F A Q m rx ry k
theorem o2_I0 {f : Value → Value → Sem Value} {g : Int → Int → V} {i j : Int} (o : OpR X f (rI0 g)) (h : ∀ A F, Rep X.K ct A F (g i j) d) : O2 X ct f μ (.int i) (.int j) d :=
  o2_of o fun x y H F A Q m rx ry k => ⟨i, j, rep_int rx, rep_int ry, k _ H F (.refl _) m (h A F)⟩
theorem o2_I {f : Value → Value → Sem Value} {C : Int → Int → Prop} {g : Int → Int → V} {i j : Int} (o : OpR X f (rI C g)) (c : C i j) (h : ∀ A F, Rep X.K ct A F (g i j) d) : O2 X ct f μ (.int i) (.int j) d :=
  o2_of o fun x y H F A Q m rx ry k => ⟨i, j, rep_int rx, rep_int ry, c, k _ H F (.refl _) m (h A F)⟩
theorem o2_add {i j : Int} : O2 X ct (binaryOp .Add) μ (.int i) (.int j) (.int (i + j)) := o2_I0 op_add fun _ _ => .int _
theorem o2_sub {i j : Int} : O2 X ct (binaryOp .Sub) μ (.int i) (.int j) (.int (i - j)) := o2_I0 op_sub fun _ _ => .int _
theorem o2_mul {i j : Int} (c : CMul i j) : O2 X ct (binaryOp .Mult) μ (.int i) (.int j) (.int (i * j)) := o2_I op_mul c fun _ _ => .int _
theorem o2_fdiv {i j : Int} (c : CDiv i j) : O2 X ct (binaryOp .FloorDiv) μ (.int i) (.int j) (.int (i / j)) := o2_I op_fdiv c fun _ _ => .int _
theorem o2_mod {i j : Int} (c : 0 < j) : O2 X ct (binaryOp .Mod) μ (.int i) (.int j) (.int (i % j)) := o2_I op_mod c fun _ _ => .int _
theorem o2_pow {i j : Int} (c : CPow i j) : O2 X ct (binaryOp .Pow) μ (.int i) (.int j) (.int (i ^ j.toNat)) := o2_I op_pow c fun _ _ => .int _
theorem o2_lt {i j : Int} : O2 X ct (compareOp .Lt) μ (.int i) (.int j) (.bl (decide (i < j))) := o2_I0 op_lt fun _ _ => .bl _
theorem o2_le {i j : Int} : O2 X ct (compareOp .LtE) μ (.int i) (.int j) (.bl (decide (i ≤ j))) := o2_I0 op_le fun _ _ => .bl _
theorem o2_gt {i j : Int} : O2 X ct (compareOp .Gt) μ (.int i) (.int j) (.bl (decide (j < i))) := o2_I0 op_gt fun _ _ => .bl _
theorem o2_ge {i j : Int} : O2 X ct (compareOp .GtE) μ (.int i) (.int j) (.bl (decide (j ≤ i))) := o2_I0 op_ge fun _ _ => .bl _
theorem o2_adds {i j : Str} (h : i.length + j.length ≤ sizeLine) : O2 X ct (binaryOp .Add) μ (.str i) (.str j) (.str (i ++ j)) :=
  o2_of op_add_str fun x y H F A Q m rx ry k => ⟨i, j, rep_str rx, rep_str ry, h, k _ H F (.refl _) m (.str _)⟩
/-- new frozen things -/
theorem new_tup {K : PySem.W.Frag} {A : List Addr} {H F : Hp} {Q : VK} {vs : List V} (m : Rl0 K ct μ H F A) (r : Reps K ct A F vs ds) (k : ∀ v H' F', Le F F' → Rl0 K ct μ H' F' A → Rep K ct A F' v (.tup ds) → Q v H') : ∀ p, H p = none → Q (.ref p) (upd H p (.tup vs)) :=
  fun p hp => k _ _ (upd F p (.tup vs)) (m.le_grow hp _) (m.grow hp _) (.tup (SqT.of upd_same) (r.mono (m.le_grow hp _) pr))
theorem new_lst {K : PySem.W.Frag} {A : List Addr} {H F : Hp} {Q : VK} {vs : List V} (m : Rl0 K ct μ H F A) (r : Reps K ct A F vs ds) (k : ∀ v H' F', Le F F' → Rl0 K ct μ H' F' A → Rep K ct A F' v (.lst ds) → Q v H') : ∀ p, H p = none → Q (.ref p) (upd H p (.lst vs)) :=
  fun p hp => k _ _ (upd F p (.lst vs)) (m.le_grow hp _) (m.grow hp _) (.lst upd_same (r.mono (m.le_grow hp _) pr))
theorem sqL_sub {K : PySem.W.Frag} {F H : Hp} {a : Addr} {xs : List V} (s : Sub F H) (h : SqL K F a xs) : SqL K H a xs := s.r.l h
theorem sqT_sub {K : PySem.W.Frag} {F H : Hp} {a : Addr} {xs : List V} (s : Sub F H) (h : SqT K F a xs) : SqT K H a xs := s.r.t h
theorem o2_catL {l m : List D} (h : l.length + m.length ≤ sizeLine) : O2 X ct (binaryOp .Add) μ (.lst l) (.lst m) (.lst (l ++ m)) :=
  o2_of op_cat fun x y H F A Q q rx ry k => by
    cases rx with
    | lst h1 r1 => cases ry with
      | lst h2 r2 => exact ⟨_, _, _, _, rfl, rfl, q.sub _ _ h1, q.sub _ _ h2, by rw [r1.len, r2.len]; exact h, new_lst q (r1.app r2) k⟩
theorem o2_catT {l m : List D} (h0 : l ≠ []) (h : l.length + m.length ≤ sizeLine) : O2 X ct (binaryOp .Add) μ (.tup l) (.tup m) (.tup (l ++ m)) :=
  o2_of op_catT fun x y H F A Q q rx ry k => by
    cases rx with
    | tup h1 r1 => cases ry with
      | tup h2 r2 =>
        refine ⟨_, _, _, _, rfl, rfl, sqT_sub q.sub h1, sqT_sub q.sub h2, fun z => ?_, by rw [r1.len, r2.len]; exact h, fun z => ?_, fun _ => new_tup q (r1.app r2) k⟩
        · subst z; have := r1.len; cases l with | nil => exact h0 rfl | cons a b => simp at this
        · subst z
          have : m = [] := by have := r2.len; cases m with | nil => rfl | cons a b => simp at this
          subst this
          rw [List.append_nil] at k
          exact k _ H F (.refl _) q (.tup h1 r1)
theorem o2_repL {l : List D} {n : Int} (h1 : -(2 ^ 63) ≤ n) (h2 : n < 2 ^ 63) (h : l.length * n.toNat ≤ sizeLine) : O2 X ct (binaryOp .Mult) μ (.lst l) (.int n) (.lst (List.replicate n.toNat l).flatten) :=
  o2_of op_rep fun x y H F A Q q rx ry k => by
    cases ry
    cases rx with
    | lst h3 r1 =>
      refine ⟨_, _, _, rfl, rfl, q.sub _ _ h3, h1, h2, by rw [r1.len]; exact h, new_lst q ?_ k⟩
      induction n.toNat with
      | zero => exact .nil
      | succ j ih => rw [List.replicate_succ, List.replicate_succ, List.flatten_cons, List.flatten_cons]; exact r1.app ih

/-! ### == -/
mutual
def toPy : D → Option PyData
  | .non => some .none
  | .bl b => some (.bool b)
  | .int i => some (.int i)
  | .str s => some (.str s)
  | .tup l => (toPys l).map .tuple
  | .lst l => (toPys l).map .list
  | .scr l => (toPys l).map .list
  | .dic _ => none
  | .ins _ _ => none
  | .ptr _ => none
  | .raw _ => none
def toPys : List D → Option (List PyData)
  | [] => some []
  | d :: ds => match toPy d, toPys ds with
    | some p, some ps => some (p :: ps)
    | _, _ => none
end
mutual
theorem Rep.dp {K : PySem.W.Frag} {A : List Addr} {F H : Hp} (s : Sub F H) : ∀ {d : D} {v : V} {p : PyData}, Rep K ct A F v d → toPy d = some p → Dp K H v p
  | .non, _, _, .non, h => by simp only [toPy, Option.some.injEq] at h; subst h; exact .non
  | .bl b, _, _, .bl _, h => by simp only [toPy, Option.some.injEq] at h; subst h; exact .bl b
  | .int b, _, _, .int _, h => by simp only [toPy, Option.some.injEq] at h; subst h; exact .int b
  | .str b, _, _, .str _, h => by simp only [toPy, Option.some.injEq] at h; subst h; exact .str b
  | .tup l, _, _, .tup h1 r, h => by
    simp only [toPy, Option.map_eq_some_iff] at h
    obtain ⟨ps, e, rfl⟩ := h
    exact .tup (sqT_sub s h1) (Reps.dp s r e)
  | .lst l, _, _, .lst h1 r, h => by
    simp only [toPy, Option.map_eq_some_iff] at h
    obtain ⟨ps, e, rfl⟩ := h
    exact .lst (SqL.of (s _ _ h1)) (Reps.dp s r e)
  | .scr l, _, _, .scr h1 r, h => by
    simp only [toPy, Option.map_eq_some_iff] at h
    obtain ⟨ps, e, rfl⟩ := h
    exact .lst (sqL_sub s h1) (Reps.dp s r e)
  | .dic _, _, _, _, h => by simp [toPy] at h
  | .ins _ _, _, _, _, h => by simp [toPy] at h
  | .ptr _, _, _, _, h => by simp [toPy] at h
  | .raw _, _, _, _, h => by simp [toPy] at h
theorem Reps.dp {K : PySem.W.Frag} {A : List Addr} {F H : Hp} (s : Sub F H) : ∀ {ds : List D} {vs : List V} {ps : List PyData}, Reps K ct A F vs ds → toPys ds = some ps → DpAll K H vs ps
  | [], _, _, .nil, h => by simp only [toPys, Option.some.injEq] at h; subst h; exact .nil
  | d :: ds, _, _, .cons r t, h => by
    simp only [toPys] at h
    cases e1 : toPy d with
    | none => simp [e1] at h
    | some p =>
      cases e2 : toPys ds with
      | none => simp [e1, e2] at h
      | some q =>
        simp only [e1, e2, Option.some.injEq] at h
        subst h
        exact .cons (Rep.dp s r e1) (Reps.dp s t e2)
end
theorem o2_eqD {pa pb : PyData} (hu : X.A.units + 64 < cLine) (ea : toPy da = some pa) (eb : toPy db = some pb) (sa : SeqAt.shaped pa = true) (sb : SeqAt.shaped pb = true) : O2 X ct (compareOp .Eq) μ da db (.bl (PyData.eqv pa pb)) :=
  o2_of (op_eqD hu) fun x y H F A Q q rx ry k => ⟨pa, pb, rx.dp q.sub ea, ry.dp q.sub eb, sa, sb, k _ H F (.refl _) q (.bl _)⟩
theorem o2_neD {pa pb : PyData} (hu : X.A.units + 64 < cLine) (ea : toPy da = some pa) (eb : toPy db = some pb) (sa : SeqAt.shaped pa = true) (sb : SeqAt.shaped pb = true) : O2 X ct (compareOp .NotEq) μ da db (.bl (!PyData.eqv pa pb)) :=
  o2_of (op_neD hu) fun x y H F A Q q rx ry k => ⟨pa, pb, rx.dp q.sub ea, ry.dp q.sub eb, sa, sb, k _ H F (.refl _) q (.bl _)⟩
/-- a scalar as a value -/
def scD : D → Option V
  | .non => some .non
  | .bl b => some (.bl b)
  | .int i => some (.int i)
  | .str s => some (.str s)
  | _ => none
theorem rep_sc {K : PySem.W.Frag} {A : List Addr} {F : Hp} {v w : V} (h : Rep K ct A F v d) (e : scD d = some w) : v = w := by
  cases h <;> simp [scD] at e <;> exact e
theorem o2_eqS {v w : V} (ea : scD da = some v) (eb : scD db = some w) (h : scal v w = true) : O2 X ct (compareOp .Eq) μ da db (.bl (decide (v = w))) :=
  o2_of op_eq fun x y H F A Q q rx ry k => by
    have e1 := rep_sc rx ea
    have e2 := rep_sc ry eb
    subst e1; subst e2
    exact ⟨h, k _ H F (.refl _) q (.bl _)⟩
theorem o2_neS {v w : V} (ea : scD da = some v) (eb : scD db = some w) (h : scal v w = true) : O2 X ct (compareOp .NotEq) μ da db (.bl (!decide (v = w))) :=
  o2_of op_ne fun x y H F A Q q rx ry k => by
    have e1 := rep_sc rx ea
    have e2 := rep_sc ry eb
    subst e1; subst e2
    exact ⟨h, k _ H F (.refl _) q (.bl _)⟩
theorem o2_eqI {i j : Int} : O2 X ct (compareOp .Eq) μ (.int i) (.int j) (.bl (decide (i = j))) := by
  have h := o2_eqS (X := X) (ct := ct) (μ := μ) (da := .int i) (db := .int j) rfl rfl rfl
  rw [show decide (V.int i = V.int j) = decide (i = j) by simp] at h
  exact h
theorem o2_neI {i j : Int} : O2 X ct (compareOp .NotEq) μ (.int i) (.int j) (.bl (!decide (i = j))) := by
  have h := o2_neS (X := X) (ct := ct) (μ := μ) (da := .int i) (db := .int j) rfl rfl rfl
  rw [show decide (V.int i = V.int j) = decide (i = j) by simp] at h
  exact h
theorem o2_eqZ {i j : Str} : O2 X ct (compareOp .Eq) μ (.str i) (.str j) (.bl (decide (i = j))) := by
  have h := o2_eqS (X := X) (ct := ct) (μ := μ) (da := .str i) (db := .str j) rfl rfl rfl
  rw [show decide (V.str i = V.str j) = decide (i = j) by simp] at h
  exact h
theorem o2_neZ {i j : Str} : O2 X ct (compareOp .NotEq) μ (.str i) (.str j) (.bl (!decide (i = j))) := by
  have h := o2_neS (X := X) (ct := ct) (μ := μ) (da := .str i) (db := .str j) rfl rfl rfl
  rw [show decide (V.str i = V.str j) = decide (i = j) by simp] at h
  exact h
theorem o2_eqB {i j : Bool} : O2 X ct (compareOp .Eq) μ (.bl i) (.bl j) (.bl (i == j)) := by
  have h := o2_eqS (X := X) (ct := ct) (μ := μ) (da := .bl i) (db := .bl j) rfl rfl rfl
  rw [show decide (V.bl i = V.bl j) = (i == j) from dec_bl] at h
  exact h
theorem o2_neB {i j : Bool} : O2 X ct (compareOp .NotEq) μ (.bl i) (.bl j) (.bl (!(i == j))) := by
  have h := o2_neS (X := X) (ct := ct) (μ := μ) (da := .bl i) (db := .bl j) rfl rfl rfl
  rw [show decide (V.bl i = V.bl j) = (i == j) from dec_bl] at h
  exact h
/-! ### is None -/
def isNon : D → Option Bool
  | .non => some true
  | .raw _ => none
  | _ => some false
theorem rep_isNon {K : PySem.W.Frag} {A : List Addr} {F : Hp} {v : V} {k : Bool} (h : Rep K ct A F v d) (e : isNon d = some k) : decide (v = .non) = k := by
  cases h <;> simp [isNon] at e <;> subst e <;> simp
theorem o2_is {k : Bool} (e : isNon da = some k) : O2 X ct (compareOp .Is) μ da .non (.bl k) :=
  o2_of op_isN fun x y H F A Q q rx ry q' => by cases ry; exact ⟨rfl, by rw [rep_isNon rx e]; exact q' _ H F (.refl _) q (.bl _)⟩
theorem o2_isnt {k : Bool} (e : isNon da = some k) : O2 X ct (compareOp .IsNot) μ da .non (.bl (!k)) :=
  o2_of op_notN fun x y H F A Q q rx ry q' => by cases ry; exact ⟨rfl, by rw [rep_isNon rx e]; exact q' _ H F (.refl _) q (.bl _)⟩
/-! ### in -/
def isSeq : D → Option (List D)
  | .tup l => some l
  | .lst l => some l
  | .scr l => some l
  | _ => none
theorem rep_seq {K : PySem.W.Frag} {A : List Addr} {F : Hp} {v : V} {l : List D} (h : Rep K ct A F v d) (e : isSeq d = some l) : ∃ a vs, v = .ref a ∧ (SqL K F a vs ∨ SqT K F a vs) ∧ Reps K ct A F vs l := by
  cases h <;> simp [isSeq] at e
  case tup h r => subst e; exact ⟨_, _, rfl, .inr h, r⟩
  case lst h r => subst e; exact ⟨_, _, rfl, .inl (SqL.of h), r⟩
  case scr h r => subst e; exact ⟨_, _, rfl, .inl h, r⟩
/-- == of flat data -/
def eqF : D → D → Bool
  | .non, .non => true
  | .bl a, .bl b => a == b
  | .bl a, .int b => (if a then 1 else 0) == b
  | .int a, .bl b => a == (if b then 1 else 0)
  | .int a, .int b => a == b
  | .str a, .str b => a == b
  | _, _ => false
def flatD : D → Bool
  | .non => true
  | .bl _ => true
  | .int _ => true
  | .str _ => true
  | _ => false
theorem rep_flat {K : PySem.W.Frag} {A : List Addr} {F : Hp} {v : V} (h : Rep K ct A F v d) (e : flatD d = true) : flatV v = true ∧ scD d = some v := by
  cases h <;> simp [flatD] at e <;> exact ⟨rfl, rfl⟩
theorem eqV_F {v w : V} (ea : scD da = some v) (eb : scD db = some w) : eqV v w = eqF da db := by
  cases da <;> simp [scD] at ea <;> subst ea <;> cases db <;> simp [scD] at eb <;> subst eb <;> rfl
theorem reps_flat {K : PySem.W.Frag} {A : List Addr} {F : Hp} : ∀ {vs : List V} {l : List D}, Reps K ct A F vs l → l.all flatD = true → vs.all flatV = true ∧ ∀ (x : V) (dx : D), scD dx = some x → inV x vs = l.any fun y => eqF y dx
  | _, _, .nil, _ => ⟨rfl, fun _ _ _ => rfl⟩
  | _, _, .cons h r, e => by
    rw [List.all_cons, Bool.and_eq_true] at e
    obtain ⟨f1, f2⟩ := rep_flat h e.1
    obtain ⟨g1, g2⟩ := reps_flat r e.2
    refine ⟨by rw [List.all_cons, f1, g1]; rfl, fun x dx hx => ?_⟩
    unfold inV
    rw [List.any_cons, List.any_cons, eqV_F f2 hx]
    have := g2 x dx hx
    unfold inV at this
    rw [this]
theorem o2_in {l : List D} (hl : isSeq db = some l) (fa : flatD da = true) (fl : l.all flatD = true) : O2 X ct (compareOp .In) μ da db (.bl (l.any fun y => eqF y da)) :=
  o2_of op_in_seq fun x y H F A Q q rx ry k => by
    obtain ⟨a, vs, rfl, hs, r⟩ := rep_seq ry hl
    obtain ⟨f1, f2⟩ := rep_flat rx fa
    obtain ⟨g1, g2⟩ := reps_flat r fl
    exact ⟨a, vs, rfl, hs.imp (sqL_sub q.sub) (sqT_sub q.sub), f1, g1, by rw [if_neg (by decide), g2 x da f2]; exact k _ H F (.refl _) q (.bl _)⟩
theorem o2_nin {l : List D} (hl : isSeq db = some l) (fa : flatD da = true) (fl : l.all flatD = true) : O2 X ct (compareOp .NotIn) μ da db (.bl (!l.any fun y => eqF y da)) :=
  o2_of op_notIn_seq fun x y H F A Q q rx ry k => by
    obtain ⟨a, vs, rfl, hs, r⟩ := rep_seq ry hl
    obtain ⟨f1, f2⟩ := rep_flat rx fa
    obtain ⟨g1, g2⟩ := reps_flat r fl
    exact ⟨a, vs, rfl, hs.imp (sqL_sub q.sub) (sqT_sub q.sub), f1, g1, by rw [if_pos rfl, g2 x da f2]; exact k _ H F (.refl _) q (.bl _)⟩
end
end DL

namespace DL
open PySem PySem.Spec PyProof.Rows L2
section
variable {X : Cx} {ct : Nat → Addr} {Γ Γ1 : Gm} {μ μ1 μ2 μ3 : Mu} {d da db dc : D} {ds es' : List D} {e a b c o : Expr} {es rest : List Expr} {pos p : Pos} {x f m : Str} {k k' : Bool} {n : Nat} {fs : List (Str × D)}
/-! ### tests -/
theorem dt_val (h : DE X ct Γ μ e (.bl k) μ1) (he : ∀ whole, isTrue e X.env whole = (do let v ← whole; standAt e.pos; holding [v] (truthy v)) := by intro _; rfl) : DT X ct Γ μ e k μ1 :=
  PT.imp (pt_val h he) fun σ H Q ⟨F, A, r, q⟩ => ⟨F, A, r, fun v H' F' A' e' p' r' h' => ⟨k, rep_bl h', q H' F' A' e' p' r'⟩⟩
theorem dt_not (h : DT X ct Γ μ a k μ1) : DT X ct Γ μ (.UnaryOp .Not a pos) (!k) μ1 := PT.imp (pt_not h) fun σ H Q ⟨F, A, r, q⟩ => ⟨F, A, r, fun H' F' A' e' p' r' => q H' F' A' e' p' r'⟩
theorem dt_w (h : DW X ct Γ μ e k μ1) : DT X ct Γ μ e k μ1 := h.pt
theorem dw_and1 (h : DT X ct Γ μ a k μ1) : DW X ct Γ μ (.BoolOp .And [a] pos) k μ1 := pw_and1 h
theorem dw_or1 (h : DT X ct Γ μ a k μ1) : DW X ct Γ μ (.BoolOp .Or [a] pos) k μ1 := pw_or1 h
theorem pw_triv {X : Cx} {e : Expr} : PW X e (fun _ _ _ => False) := ⟨fun _ _ _ _ _ _ _ h => h.elim⟩
theorem pe_triv {X : Cx} {e : Expr} : PE X e (fun _ _ _ => False) := ⟨fun _ _ _ _ _ _ h => h.elim⟩
theorem dw_and (ha : DT X ct Γ μ a k μ1) (hb : k = true → DW X ct Γ μ1 (.BoolOp .And (b :: rest) pos) k' μ2) (e : k = false → μ2 = μ1 := by intro _; rfl) : DW X ct Γ μ (.BoolOp .And (a :: b :: rest) pos) (k && k') μ2 := by
  cases k with
  | true =>
    refine PW.imp (pw_and ha (hb rfl)) fun σ H Q ⟨F, A, r, q⟩ => ⟨F, A, r, fun H' F' A' e' p' r' => ?_⟩
    refine iteT ?_
    exact ⟨F', A', r', fun H2 F2 A2 e2 p2 r2 => q H2 F2 A2 (e'.trans e2) (p'.trans p2) r2⟩
  | false =>
    have z := e rfl
    subst z
    refine PW.imp (pw_and ha pw_triv) fun σ H Q ⟨F, A, r, q⟩ => ⟨F, A, r, fun H' F' A' e' p' r' => ?_⟩
    refine iteF ?_
    exact q H' F' A' e' p' r'
theorem dw_or (ha : DT X ct Γ μ a k μ1) (hb : k = false → DW X ct Γ μ1 (.BoolOp .Or (b :: rest) pos) k' μ2) (e : k = true → μ2 = μ1 := by intro _; rfl) : DW X ct Γ μ (.BoolOp .Or (a :: b :: rest) pos) (k || k') μ2 := by
  cases k with
  | false =>
    refine PW.imp (pw_or ha (hb rfl)) fun σ H Q ⟨F, A, r, q⟩ => ⟨F, A, r, fun H' F' A' e' p' r' => ?_⟩
    refine iteF ?_
    exact ⟨F', A', r', fun H2 F2 A2 e2 p2 r2 => q H2 F2 A2 (e'.trans e2) (p'.trans p2) r2⟩
  | true =>
    have z := e rfl
    subst z
    refine PW.imp (pw_or ha pw_triv) fun σ H Q ⟨F, A, r, q⟩ => ⟨F, A, r, fun H' F' A' e' p' r' => ?_⟩
    refine iteT ?_
    exact q H' F' A' e' p' r'
theorem de_not (h : DE X ct Γ μ a (.bl k) μ1) : DE X ct Γ μ (.UnaryOp .Not a pos) (.bl (!k)) μ1 :=
  PE.imp (pe_not h) fun σ H Q ⟨F, A, r, q⟩ => ⟨F, A, r, fun v H' F' A' e' p' r' h' => ⟨k, rep_bl h', q _ H' F' A' e' p' r' (.bl _)⟩⟩
theorem de_one {op : BoolOp} (h : DE X ct Γ μ a d μ1) : DE X ct Γ μ (.BoolOp op [a] pos) d μ1 := pe_one h
theorem de_and (ha : DE X ct Γ μ a (.bl k) μ1) (hb : k = true → DE X ct Γ μ1 (.BoolOp .And (b :: rest) pos) (.bl k') μ2) (e : k = false → μ2 = μ1 := by intro _; rfl) : DE X ct Γ μ (.BoolOp .And (a :: b :: rest) pos) (.bl (k && k')) μ2 := by
  cases k with
  | true =>
    refine PE.imp (pe_and ha (hb rfl)) fun σ H Q ⟨F, A, r, q⟩ => ⟨F, A, r, fun v H' F' A' e' p' r' h' => ⟨true, rep_bl h', ?_⟩⟩
    refine iteT ?_
    exact ⟨F', A', r', fun v H2 F2 A2 e2 p2 r2 h2 => q v H2 F2 A2 (e'.trans e2) (p'.trans p2) r2 h2⟩
  | false =>
    have z := e rfl
    subst z
    refine PE.imp (pe_and ha pe_triv) fun σ H Q ⟨F, A, r, q⟩ => ⟨F, A, r, fun v H' F' A' e' p' r' h' => ⟨false, rep_bl h', ?_⟩⟩
    refine iteF ?_
    exact q _ H' F' A' e' p' r' (.bl _)
theorem de_or (ha : DE X ct Γ μ a (.bl k) μ1) (hb : k = false → DE X ct Γ μ1 (.BoolOp .Or (b :: rest) pos) (.bl k') μ2) (e : k = true → μ2 = μ1 := by intro _; rfl) : DE X ct Γ μ (.BoolOp .Or (a :: b :: rest) pos) (.bl (k || k')) μ2 := by
  cases k with
  | false =>
    refine PE.imp (pe_or ha (hb rfl)) fun σ H Q ⟨F, A, r, q⟩ => ⟨F, A, r, fun v H' F' A' e' p' r' h' => ⟨false, rep_bl h', ?_⟩⟩
    refine iteF ?_
    exact ⟨F', A', r', fun v H2 F2 A2 e2 p2 r2 h2 => q v H2 F2 A2 (e'.trans e2) (p'.trans p2) r2 h2⟩
  | true =>
    have z := e rfl
    subst z
    refine PE.imp (pe_or ha pe_triv) fun σ H Q ⟨F, A, r, q⟩ => ⟨F, A, r, fun v H' F' A' e' p' r' h' => ⟨true, rep_bl h', ?_⟩⟩
    refine iteT ?_
    exact q _ H' F' A' e' p' r' (.bl _)
theorem de_if' (hc : DT X ct Γ μ c k μ1) (ha : k = true → DE X ct Γ μ1 a d μ2) (hb : k = false → DE X ct Γ μ1 b d μ2) : DE X ct Γ μ (.IfExp c a b pos) d μ2 := by
  cases k with
  | true =>
    refine PE.imp (pe_ifExp hc (ha rfl) pe_triv) fun σ H Q ⟨F, A, r, q⟩ => ⟨F, A, r, fun H' F' A' e' p' r' => ?_⟩
    refine iteT ?_
    exact ⟨F', A', r', fun v H2 F2 A2 e2 p2 r2 h2 => q v H2 F2 A2 (e'.trans e2) (p'.trans p2) r2 h2⟩
  | false =>
    refine PE.imp (pe_ifExp hc pe_triv (hb rfl)) fun σ H Q ⟨F, A, r, q⟩ => ⟨F, A, r, fun H' F' A' e' p' r' => ?_⟩
    refine iteF ?_
    exact ⟨F', A', r', fun v H2 F2 A2 e2 p2 r2 h2 => q v H2 F2 A2 (e'.trans e2) (p'.trans p2) r2 h2⟩
theorem de_if (hc : DT X ct Γ μ c k μ1) (ha : k = true → DE X ct Γ μ1 a da μ2) (hb : k = false → DE X ct Γ μ1 b db μ2) : DE X ct Γ μ (.IfExp c a b pos) (bif k then da else db) μ2 :=
  de_if' hc (fun h => by subst h; exact ha rfl) fun h => by subst h; exact hb rfl
theorem de_eq {d' : D} (h : DE X ct Γ μ e d μ1) (q : d = d') : DE X ct Γ μ e d' μ1 := q ▸ h
theorem dt_eq (h : DT X ct Γ μ e k μ1) (q : k = k') : DT X ct Γ μ e k' μ1 := q ▸ h

/-! ### fields, subscripts -/
structure FldOk (K : PySem.W.Frag) (ct : Nat → Addr) (n : Nat) (f : Str) : Prop where
  cl : Cls K (ct n)
  na : NoAttr K (ct n) f
theorem de_fld (h : FldOk X.K ct n f) (he : DE X ct Γ μ e (.ins n fs) μ1) (hl : fs.lookup f = some d) (hb : attributeBase e f X.env (eval e X.env) = eval e X.env := by rfl) : DE X ct Γ μ (.Attribute e f pos) d μ1 :=
  PE.imp (pe_fld he hb) fun σ H Q ⟨F, A, r, q⟩ => ⟨F, A, r, fun v H' F' A' e' p' r' h' => by
    cases h' with
    | ins h1 h2 h3 =>
      obtain ⟨v, e1, e2⟩ := fs_look h2 h3 hl
      exact ⟨_, _, _, _, v, rfl, r'.m.sub _ _ h1, h.cl, h.na, e1, q v H' F' A' e' p' r' e2⟩⟩
theorem de_fldM {j : Nat} (h : FldOk X.K ct n f) (he : DE X ct Γ μ e (.ptr j) μ1) (hm : μ1[j]? = some (.ins n fs)) (hl : fs.lookup f = some d) (hb : attributeBase e f X.env (eval e X.env) = eval e X.env := by rfl) : DE X ct Γ μ (.Attribute e f pos) d μ1 :=
  PE.imp (pe_fld he hb) fun σ H Q ⟨F, A, r, q⟩ => ⟨F, A, r, fun v H' F' A' e' p' r' h' => by
    cases h' with
    | ptr h1 =>
      obtain ⟨_, dx, vfs, h2, h3, h4⟩ := r'.m.ok _ _ _ h1 hm
      obtain ⟨v, e1, e2⟩ := fs_look h3 h4 hl
      exact ⟨_, _, _, _, v, rfl, h2, h.cl, h.na, e1, q v H' F' A' e' p' r' e2⟩⟩
/-- what a[i] is -/
inductive IxD (μ : Mu) : D → D → D → Prop
  | tup {l : List D} {i : Int} {d : D} (h : atI l i = some d) : IxD μ (.tup l) (.int i) d
  | lst {l : List D} {i : Int} {d : D} (h : atI l i = some d) : IxD μ (.lst l) (.int i) d
  | scr {l : List D} {i : Int} {d : D} (h : atI l i = some d) : IxD μ (.scr l) (.int i) d
  | cell {j : Nat} {l : List D} {i : Int} {d : D} (hm : μ[j]? = some (.lst l)) (h : atI l i = some d) : IxD μ (.ptr j) (.int i) d
  | dicI {l : List (Key × D)} {i : Int} {d : D} (h : dget l (.inl i) = some d) : IxD μ (.dic l) (.int i) d
  | dicS {l : List (Key × D)} {i : Str} {d : D} (h : dget l (.inr i) = some d) : IxD μ (.dic l) (.str i) d
  | cdI {j : Nat} {l : List (Key × D)} {i : Int} {d : D} (hm : μ[j]? = some (.dic l)) (h : dget l (.inl i) = some d) : IxD μ (.ptr j) (.int i) d
  | cdS {j : Nat} {l : List (Key × D)} {i : Str} {d : D} (hm : μ[j]? = some (.dic l)) (h : dget l (.inr i) = some d) : IxD μ (.ptr j) (.str i) d
theorem reps_at {K : PySem.W.Frag} {A : List Addr} {F : Hp} {vs : List V} {l : List D} {i : Int} (r : Reps K ct A F vs l) (h : atI l i = some d) : ∃ v, atI vs i = some v ∧ Rep K ct A F v d := by
  unfold atI at h ⊢
  rw [r.len]
  cases q : ixN l.length i with
  | none => rw [q] at h; cases h
  | some j =>
    rw [q] at h
    exact r.get h
theorem de_ixS {r : R2} (hr : IxR X r) (hk : ∀ x y H Q, r2 X.K ct μ2 da db d x y H Q → r x y H Q) (ha : DE X ct Γ μ a da μ1) (hb : DE X ct Γ μ1 b db μ2) (hs : PlainIx b) : DE X ct Γ μ (.Subscript a b pos) d μ2 := PE.imp (pe_ix hr ha hb hs) (tOp_D hk)
theorem de_ixD (hu : X.A.units + 1 < cLine) (hk : ∀ x y H (Q : VK), r2 X.K ct μ2 da db d x y H Q → ∃ a v, x = .ref a ∧ DGet H a y (some v) ∧ Q v H) (ha : DE X ct Γ μ a da μ1) (hb : DE X ct Γ μ1 b db μ2) (hs : NoSl b) : DE X ct Γ μ (.Subscript a b pos) d μ2 :=
  PE.imp (pe_dget hu ha hb hs) (tOp_D (r := fun x y H Q => ∃ a v, x = .ref a ∧ DGet H a y (some v) ∧ Q v H) hk)
theorem de_ix (h : IxD μ2 da db d) (hu : X.A.units + 1 < cLine) (ha : DE X ct Γ μ a da μ1) (hb : DE X ct Γ μ1 b db μ2) (hs : PlainIx b := by intro _ _; rfl) (hs' : NoSl b := by intro _ _; rfl) : DE X ct Γ μ (.Subscript a b pos) d μ2 := by
  cases h with
  | tup h => exact de_ixS ix_tup (fun x y H Q ⟨F, A, m, rx, ry, k⟩ => by
      cases rx with
      | tup s r => cases ry with
        | int => obtain ⟨v, e1, e2⟩ := reps_at r h; exact ⟨_, _, _, v, rfl, rfl, sqT_sub m.sub s, e1, k v H F (.refl _) m e2⟩) ha hb hs
  | lst h => exact de_ixS ix_list (fun x y H Q ⟨F, A, m, rx, ry, k⟩ => by
      cases rx with
      | lst s r => cases ry with
        | int => obtain ⟨v, e1, e2⟩ := reps_at r h; exact ⟨_, _, _, v, rfl, rfl, SqL.of (m.sub _ _ s), e1, k v H F (.refl _) m e2⟩) ha hb hs
  | scr h => exact de_ixS ix_list (fun x y H Q ⟨F, A, m, rx, ry, k⟩ => by
      cases rx with
      | scr s r => cases ry with
        | int => obtain ⟨v, e1, e2⟩ := reps_at r h; exact ⟨_, _, _, v, rfl, rfl, sqL_sub m.sub s, e1, k v H F (.refl _) m e2⟩) ha hb hs
  | cell hm h => exact de_ixS ix_list (fun x y H Q ⟨F, A, m, rx, ry, k⟩ => by
      cases rx with
      | ptr s => cases ry with
        | int =>
          obtain ⟨_, vs, hv, r⟩ := m.ok _ _ _ s hm
          obtain ⟨v, e1, e2⟩ := reps_at r h
          exact ⟨_, _, _, v, rfl, rfl, SqL.of hv, e1, k v H F (.refl _) m e2⟩) ha hb hs
  | dicI h => exact de_ixD hu (fun x y H Q ⟨F, A, m, rx, ry, k⟩ => by
      cases rx with
      | dic s r1 r2 => cases ry with
        | int =>
          obtain ⟨v, e1, e2⟩ := KD.get_some ⟨r1, r2⟩ h
          exact ⟨_, v, rfl, .inl ⟨_, .inl _, m.sub.r.rd _ _ rfl s, rfl, e1.symm⟩, k v H F (.refl _) m e2⟩) ha hb hs'
  | dicS h => exact de_ixD hu (fun x y H Q ⟨F, A, m, rx, ry, k⟩ => by
      cases rx with
      | dic s r1 r2 => cases ry with
        | str =>
          obtain ⟨v, e1, e2⟩ := KD.get_some ⟨r1, r2⟩ h
          exact ⟨_, v, rfl, .inl ⟨_, .inr _, m.sub.r.rd _ _ rfl s, rfl, e1.symm⟩, k v H F (.refl _) m e2⟩) ha hb hs'
  | cdI hm h => exact de_ixD hu (fun x y H Q ⟨F, A, m, rx, ry, k⟩ => by
      cases rx with
      | ptr s => cases ry with
        | int =>
          obtain ⟨_, kvs, hv, r1, r2⟩ := m.ok _ _ _ s hm
          obtain ⟨v, e1, e2⟩ := KD.get_some ⟨r1, r2⟩ h
          exact ⟨_, v, rfl, .inl ⟨_, .inl _, .inl hv, rfl, e1.symm⟩, k v H F (.refl _) m e2⟩) ha hb hs'
  | cdS hm h => exact de_ixD hu (fun x y H Q ⟨F, A, m, rx, ry, k⟩ => by
      cases rx with
      | ptr s => cases ry with
        | str =>
          obtain ⟨_, kvs, hv, r1, r2⟩ := m.ok _ _ _ s hm
          obtain ⟨v, e1, e2⟩ := KD.get_some ⟨r1, r2⟩ h
          exact ⟨_, v, rfl, .inl ⟨_, .inr _, .inl hv, rfl, e1.symm⟩, k v H F (.refl _) m e2⟩) ha hb hs'
/-- k in d -/
inductive DicD (μ : Mu) : D → D → Bool → Prop
  | dicI {l : List (Key × D)} {i : Int} : DicD μ (.int i) (.dic l) (dget l (.inl i)).isSome
  | dicS {l : List (Key × D)} {i : Str} : DicD μ (.str i) (.dic l) (dget l (.inr i)).isSome
  | cdI {j : Nat} {l : List (Key × D)} {i : Int} (hm : μ[j]? = some (.dic l)) : DicD μ (.int i) (.ptr j) (dget l (.inl i)).isSome
  | cdS {j : Nat} {l : List (Key × D)} {i : Str} (hm : μ[j]? = some (.dic l)) : DicD μ (.str i) (.ptr j) (dget l (.inr i)).isSome
theorem DicD.get {K : PySem.W.Frag} {H F : Hp} {A : List Addr} {x y : V} (h : DicD μ da db k) (m : Rl0 K ct μ H F A) (rx : Rep K ct A F x da) (ry : Rep K ct A F y db) : ∃ a o, y = .ref a ∧ DGet H a x o ∧ o.isSome = k := by
  cases h with
  | dicI => cases rx with
    | int => cases ry with
      | dic s r1 r2 => exact ⟨_, _, rfl, .inl ⟨_, .inl _, m.sub.r.rd _ _ rfl s, rfl, rfl⟩, KD.isSome _ ⟨r1, r2⟩⟩
  | dicS => cases rx with
    | str => cases ry with
      | dic s r1 r2 => exact ⟨_, _, rfl, .inl ⟨_, .inr _, m.sub.r.rd _ _ rfl s, rfl, rfl⟩, KD.isSome _ ⟨r1, r2⟩⟩
  | cdI hm => cases rx with
    | int => cases ry with
      | ptr s => obtain ⟨_, kvs, hv, r1, r2⟩ := m.ok _ _ _ s hm; exact ⟨_, _, rfl, .inl ⟨_, .inl _, .inl hv, rfl, rfl⟩, KD.isSome _ ⟨r1, r2⟩⟩
  | cdS hm => cases rx with
    | str => cases ry with
      | ptr s => obtain ⟨_, kvs, hv, r1, r2⟩ := m.ok _ _ _ s hm; exact ⟨_, _, rfl, .inl ⟨_, .inr _, .inl hv, rfl, rfl⟩, KD.isSome _ ⟨r1, r2⟩⟩
theorem de_din (h : DicD μ2 da db k) (hu : X.A.units + 1 < cLine) (ha : DE X ct Γ μ a da μ1) (hb : DE X ct Γ μ1 b db μ2) (hm : behindInMarks .In b = false := by first | rfl | with_unfolding_all rfl) : DE X ct Γ μ (.Compare a [.In] [b] pos) (.bl k) μ2 :=
  PE.imp (pe_cmp (pc_din hu ha hb) hm) (tOp_D (r := fun x y H Q => ∃ a o, y = .ref a ∧ DGet H a x o ∧ Q (.bl o.isSome) H) fun x y H Q ⟨F, A, m, rx, ry, q⟩ => by
    obtain ⟨a, o, e1, g, e2⟩ := h.get m rx ry
    exact ⟨a, o, e1, g, by rw [e2]; exact q _ H F (.refl _) m (.bl _)⟩)
theorem de_dnin (h : DicD μ2 da db k) (hu : X.A.units + 1 < cLine) (ha : DE X ct Γ μ a da μ1) (hb : DE X ct Γ μ1 b db μ2) (hm : behindInMarks .NotIn b = false := by first | rfl | with_unfolding_all rfl) : DE X ct Γ μ (.Compare a [.NotIn] [b] pos) (.bl (!k)) μ2 :=
  PE.imp (pe_cmp (pc_dnotin hu ha hb) hm) (tOp_D (r := fun x y H Q => ∃ a o, y = .ref a ∧ DGet H a x o ∧ Q (.bl (!o.isSome)) H) fun x y H Q ⟨F, A, m, rx, ry, q⟩ => by
    obtain ⟨a, o, e1, g, e2⟩ := h.get m rx ry
    exact ⟨a, o, e1, g, by rw [e2]; exact q _ H F (.refl _) m (.bl _)⟩)
theorem dt_din (h : DicD μ2 da db k) (hu : X.A.units + 1 < cLine) (ha : DE X ct Γ μ a da μ1) (hb : DE X ct Γ μ1 b db μ2) (hm : behindInMarks .In b = false := by first | rfl | with_unfolding_all rfl) : DT X ct Γ μ (.Compare a [.In] [b] pos) k μ2 :=
  PT.imp (pt_cmp (pc_din hu ha hb) hm) fun σ H Q ⟨F, A, r, q⟩ => show tOp (fun x y H Q => ∃ a o, y = .ref a ∧ DGet H a x o ∧ Q (.bl o.isSome) H) _ _ σ H (fun x H1 => ∃ c, x = .bl c ∧ Q c H1) from tOp_D (d := .bl k) (r := fun x y H Q => ∃ a o, y = .ref a ∧ DGet H a x o ∧ Q (.bl o.isSome) H) (fun x y H Q ⟨F, A, m, rx, ry, q⟩ => by
    obtain ⟨a, o, e1, g, e2⟩ := h.get m rx ry
    exact ⟨a, o, e1, g, by rw [e2]; exact q _ H F (.refl _) m (.bl _)⟩) σ H _ ⟨F, A, r, fun v H' F' A' e p r' h => ⟨k, rep_bl h, q H' F' A' e p r'⟩⟩
theorem dt_dnin (h : DicD μ2 da db k) (hu : X.A.units + 1 < cLine) (ha : DE X ct Γ μ a da μ1) (hb : DE X ct Γ μ1 b db μ2) (hm : behindInMarks .NotIn b = false := by first | rfl | with_unfolding_all rfl) : DT X ct Γ μ (.Compare a [.NotIn] [b] pos) (!k) μ2 :=
  PT.imp (pt_cmp (pc_dnotin hu ha hb) hm) fun σ H Q ⟨F, A, r, q⟩ => show tOp (fun x y H Q => ∃ a o, y = .ref a ∧ DGet H a x o ∧ Q (.bl (!o.isSome)) H) _ _ σ H (fun x H1 => ∃ c, x = .bl c ∧ Q c H1) from tOp_D (d := .bl (!k)) (r := fun x y H Q => ∃ a o, y = .ref a ∧ DGet H a x o ∧ Q (.bl (!o.isSome)) H) (fun x y H Q ⟨F, A, m, rx, ry, q⟩ => by
    obtain ⟨a, o, e1, g, e2⟩ := h.get m rx ry
    exact ⟨a, o, e1, g, by rw [e2]; exact q _ H F (.refl _) m (.bl _)⟩) σ H _ ⟨F, A, r, fun v H' F' A' e p r' h => ⟨!k, rep_bl h, q H' F' A' e p r'⟩⟩

/-! ### arguments, displays -/
theorem da_nil : DA X ct Γ μ [] [] μ := PA.imp pa_nil fun σ H Q ⟨F, A, r, q⟩ => q [] H F A (.refl _) pr r .nil
theorem da_cons (h : DE X ct Γ μ e d μ1) (hr : DA X ct Γ μ1 es ds μ2) (hs : starEach (e :: es) X.env = (false, eval e X.env) :: starEach es X.env := by rfl) : DA X ct Γ μ (e :: es) (d :: ds) μ2 :=
  PA.imp (pa_cons h hr hs) fun σ H Q ⟨F, A, r, q⟩ => ⟨F, A, r, fun v H1 F1 A1 e1 p1 r1 h1 => ⟨F1, A1, r1, fun vs H2 F2 A2 e2 p2 r2 h2 => q _ H2 F2 A2 (e1.trans e2) (p1.trans p2) r2 (.cons (h1.mono e2 p2) h2)⟩⟩
theorem da_star {l : List D} (h : DE X ct Γ μ e d μ1) (hl : isSeq d = some l) (hr : DA X ct Γ μ1 es ds μ2) (hs : starEach (.Starred e p :: es) X.env = (true, eval e X.env) :: starEach es X.env := by rfl) : DA X ct Γ μ (.Starred e p :: es) (l ++ ds) μ2 :=
  PA.imp (StX.pa_star h hr hs) fun σ H Q ⟨F, A, r, q⟩ => ⟨F, A, r, fun v H1 F1 A1 e1 p1 r1 h1 => by
    obtain ⟨a, vs, rfl, s, rr⟩ := rep_seq h1 hl
    exact ⟨a, vs, rfl, s.symm.imp (sqT_sub r1.m.sub) (sqL_sub r1.m.sub), F1, A1, r1, fun ws H2 F2 A2 e2 p2 r2 h2 => q _ H2 F2 A2 (e1.trans e2) (p1.trans p2) r2 ((rr.mono e2 p2).app h2)⟩⟩
theorem da_starM {l : List D} {j : Nat} (h : DE X ct Γ μ e (.ptr j) μ1) (hl : μ1[j]? = some (.lst l)) (hr : DA X ct Γ μ1 es ds μ2) (hs : starEach (.Starred e p :: es) X.env = (true, eval e X.env) :: starEach es X.env := by rfl) : DA X ct Γ μ (.Starred e p :: es) (l ++ ds) μ2 :=
  PA.imp (StX.pa_star h hr hs) fun σ H Q ⟨F, A, r, q⟩ => ⟨F, A, r, fun v H1 F1 A1 e1 p1 r1 h1 => by
    cases h1 with
    | ptr s =>
      obtain ⟨_, vs, hv, rr⟩ := r1.m.ok _ _ _ s hl
      exact ⟨_, vs, rfl, .inr (SqL.of hv), F1, A1, r1, fun ws H2 F2 A2 e2 p2 r2 h2 => q _ H2 F2 A2 (e1.trans e2) (p1.trans p2) r2 ((rr.mono e2 p2).app h2)⟩⟩
theorem de_tup {x1} (h : DA X ct Γ μ es ds μ1) (hz : ds.length ≤ sizeLine) : DE X ct Γ μ (.Tuple es x1 pos) (.tup ds) μ1 :=
  PE.imp (pe_tup h) fun σ H Q ⟨F, A, r, q⟩ => ⟨F, A, r, fun vs H1 F1 A1 e1 p1 r1 h1 => ⟨by rw [h1.len]; exact hz, new_tup r1.m h1 fun v H' F' e' m' h' => q v H' F' A1 (e1.trans e') p1 ⟨m', r1.s.mono e' pr⟩ h'⟩⟩
theorem de_lst (h : DA X ct Γ μ es ds μ1) (hz : ds.length ≤ sizeLine) : DE X ct Γ μ (.List es pos) (.lst ds) μ1 :=
  PE.imp (pe_lst h) fun σ H Q ⟨F, A, r, q⟩ => ⟨F, A, r, fun vs H1 F1 A1 e1 p1 r1 h1 => ⟨by rw [h1.len]; exact hz, new_lst r1.m h1 fun v H' F' e' m' h' => q v H' F' A1 (e1.trans e') p1 ⟨m', r1.s.mono e' pr⟩ h'⟩⟩
/-- a new thing of the store -/
theorem new_cell {K : PySem.W.Frag} {A : List Addr} {H F : Hp} {σ : L2.St} {Q : VK} {p : Addr} {o : HO} {c : Cell} (r : Rl K ct Γ μ σ H F A) (hp : H p = none) (hc : CellOk K ct (A ++ [p]) F (upd H p o) p c)
    (k : ∀ v H' F' A', Le F F' → A <+: A' → Rl K ct Γ (μ ++ [c]) σ H' F' A' → Rep K ct A' F' v (.ptr μ.length) → Q v H') : Q (.ref p) (upd H p o) := by
  refine k _ _ F (A ++ [p]) (.refl _) (List.prefix_append _ _) ⟨r.m.push hp hc, r.s.mono (.refl _) (List.prefix_append _ _)⟩ (.ptr ?_)
  rw [← r.m.len, List.getElem?_append_right (Nat.le_refl _), Nat.sub_self]
  rfl
theorem de_lstM (h : DA X ct Γ μ es ds μ1) (hz : ds.length ≤ sizeLine) : DE X ct Γ μ (.List es pos) (.ptr μ1.length) (μ1 ++ [.lst ds]) :=
  PE.imp (pe_lst h) fun σ H Q ⟨F, A, r, q⟩ => ⟨F, A, r, fun vs H1 F1 A1 e1 p1 r1 h1 => ⟨by rw [h1.len]; exact hz, fun p hp =>
    new_cell (c := .lst ds) r1 hp ⟨r1.m.sub.free hp, vs, upd_same, h1.mono (.refl _) (List.prefix_append _ _)⟩ fun v H' F' A' e' p' r' h' => q v H' F' A' (e1.trans e') (p1.trans p') r' h'⟩⟩
theorem de_dic0 : DE X ct Γ μ (.Dict [] [] pos) (.dic []) μ :=
  PE.imp pe_dnewK fun σ H Q ⟨F, A, r, q⟩ p hp => q _ _ (upd F p (.dK [])) A (r.m.le_grow hp _) pr ⟨r.m.grow hp _, r.s.mono (r.m.le_grow hp _) pr⟩ (.dic (.inl upd_same) rfl .nil)
theorem de_dic0M : DE X ct Γ μ (.Dict [] [] pos) (.ptr μ.length) (μ ++ [.dic []]) :=
  PE.imp pe_dnewK fun σ H Q ⟨F, A, r, q⟩ p hp => new_cell (c := .dic []) r hp ⟨r.m.sub.free hp, [], upd_same, rfl, .nil⟩ q

/-! ### calls of built-ins -/
theorem tCB_D {r : List V → Hp → VK → Prop} (h : ∀ xs H Q, rc X.K ct μ1 ds d xs H Q → r xs H Q) : ∀ σ H Q, tD X.K ct Γ μ d μ1 σ H Q → tCB r (tAs X.K ct Γ μ ds μ1) σ H Q := fun σ H Q ⟨F, A, r, k⟩ =>
  ⟨F, A, r, fun vs H1 F1 A1 e1 p1 r1 h1 => h _ _ _ ⟨F1, A1, r1.m, h1, fun v' H' F' e3 r3 h3 => k v' H' F' A1 (e1.trans e3) p1 ⟨r3, r1.s.mono e3 pr⟩ h3⟩⟩
theorem de_callB {id : String} (hc : C1 X ct (.builtin id) μ1 ds d) (hm : X.mg x = none) (hv : bootBuiltins x = some (.builtin id)) (ha : DA X ct Γ μ (e :: es) ds μ1) (hg : Gl X x := by rfl) (hn : x ≠ "__name__" := by decide) (hdb : (x == ("__debug__" : Str)) = false := by decide)
    (he : starEach (e :: es) X.env = (false, eval e X.env) :: starEach es X.env := by rfl) (hpl : (backTo pos (starEach es X.env)).any (·.1) = false := by rfl) : DE X ct Γ μ (.Call (.Name x p) (e :: es) [] pos) d μ1 :=
  PE.imp (pe_callB hc hg hm hv ha hn hdb he hpl) (tCB_D fun _ _ _ h => h)
theorem de_callT {T : String} (hc : C1 X ct (.type T) μ1 ds d) (hm : X.mg x = none) (hv : bootBuiltins x = some (.type T)) (ha : DA X ct Γ μ (e :: es) ds μ1) (hg : Gl X x := by rfl) (hn : x ≠ "__name__" := by decide) (hdb : (x == ("__debug__" : Str)) = false := by decide)
    (he : starEach (e :: es) X.env = (false, eval e X.env) :: starEach es X.env := by rfl) (hpl : (backTo pos (starEach es X.env)).any (·.1) = false := by rfl) : DE X ct Γ μ (.Call (.Name x p) (e :: es) [] pos) d μ1 :=
  PE.imp (pe_callTy hc hg hm hv ha hn hdb he hpl) (tCB_D fun _ _ _ h => h)
theorem c1_of {f : Value} {r : List V → Hp → VK → Prop} (o : CallR X f r) (h : ∀ (xs : List V) (H F : Hp) (A : List Addr) (Q : VK), Rl0 X.K ct μ H F A → Reps X.K ct A F xs ds →
    (∀ v H' F', Le F F' → Rl0 X.K ct μ H' F' A → Rep X.K ct A F' v d → Q v H') → r xs H Q) : C1 X ct f μ ds d := CallR.imp o fun xs H Q ⟨F, A, m, rx, k⟩ => h xs H F A Q m rx k
theorem reps1 {K : PySem.W.Frag} {A : List Addr} {F : Hp} {xs : List V} (h : Reps K ct A F xs [d]) : ∃ v, xs = [v] ∧ Rep K ct A F v d := by
  cases h with
  | cons h t => cases t; exact ⟨_, rfl, h⟩
theorem reps2 {K : PySem.W.Frag} {A : List Addr} {F : Hp} {xs : List V} (h : Reps K ct A F xs [da, db]) : ∃ v w, xs = [v, w] ∧ Rep K ct A F v da ∧ Rep K ct A F w db := by
  cases h with
  | cons h t => obtain ⟨w, rfl, h2⟩ := reps1 t; exact ⟨_, _, rfl, h, h2⟩
theorem c1_int {i : Int} : C1 X ct (.type "int") μ [.int i] (.int i) := c1_of call_int1 fun xs H F A Q m r k => by
  obtain ⟨v, rfl, h⟩ := reps1 r
  cases h
  exact .inl ⟨i, rfl, k _ H F (.refl _) m (.int i)⟩
theorem c1_abs {i : Int} : C1 X ct (.builtin "abs") μ [.int i] (.int (if i < 0 then -i else i)) := c1_of call_abs fun xs H F A Q m r k => by
  obtain ⟨v, rfl, h⟩ := reps1 r
  cases h
  exact ⟨i, rfl, k _ H F (.refl _) m (.int _)⟩
theorem c1_max {i j : Int} (hc : X.calm = true) : C1 X ct (.builtin "max") μ [.int i, .int j] (.int (max i j)) := c1_of (call_max2 hc) fun xs H F A Q m r k => by
  obtain ⟨v, w, rfl, h, h'⟩ := reps2 r
  cases h; cases h'
  refine ⟨i, j, rfl, ?_⟩
  have e : (if j > i then j else i) = max i j := by split <;> omega
  rw [e]
  exact k _ H F (.refl _) m (.int _)
theorem c1_min {i j : Int} (hc : X.calm = true) : C1 X ct (.builtin "min") μ [.int i, .int j] (.int (min i j)) := c1_of (call_min2 hc) fun xs H F A Q m r k => by
  obtain ⟨v, w, rfl, h, h'⟩ := reps2 r
  cases h; cases h'
  refine ⟨i, j, rfl, ?_⟩
  have e : (if j < i then j else i) = min i j := by split <;> omega
  rw [e]
  exact k _ H F (.refl _) m (.int _)
/-- how long a thing is -/
inductive LenD (μ : Mu) : D → Nat → Prop
  | seq {d : D} {l : List D} (h : isSeq d = some l) : LenD μ d l.length
  | str {s : Str} (h : s.length ≤ sizeLine) : LenD μ (.str s) s.length
  | cell {j : Nat} {l : List D} (h : μ[j]? = some (.lst l)) : LenD μ (.ptr j) l.length
theorem c1_len {n : Nat} (hl : LenD μ da n) : C1 X ct (.builtin "len") μ [da] (.int n) := c1_of call_len fun xs H F A Q m r k => by
  obtain ⟨v, rfl, h⟩ := reps1 r
  refine ⟨v, n, rfl, ?_, k _ H F (.refl _) m (.int _)⟩
  cases hl with
  | seq e =>
    obtain ⟨a, vs, rfl, s, rr⟩ := rep_seq h e
    rcases s with s | s
    · exact .inl ⟨vs, sqL_sub m.sub s, rr.len.symm⟩
    · exact .inr ⟨vs, sqT_sub m.sub s, rr.len.symm⟩
  | str e => cases h; exact ⟨e, rfl⟩
  | cell e => cases h with
    | ptr s => obtain ⟨_, vs, hv, rr⟩ := m.ok _ _ _ s e; exact .inl ⟨vs, SqL.of hv, rr.len.symm⟩
theorem c1_lenD {j : Nat} {l : List (Key × D)} (hm : μ[j]? = some (.dic l)) : C1 X ct (.builtin "len") μ [.ptr j] (.int l.length) := c1_of call_lenD fun xs H F A Q m r k => by
  obtain ⟨v, rfl, h⟩ := reps1 r
  cases h with
  | ptr s =>
    obtain ⟨_, kvs, hv, r1, r2⟩ := m.ok _ _ _ s hm
    exact ⟨_, _, rfl, hv, by rw [show kvs.length = l.length from KD.len ⟨r1, r2⟩]; exact k _ H F (.refl _) m (.int _)⟩
end
end DL

namespace DL
open PySem PySem.Spec PyProof.Rows L2
/-! ### scopes of places -/
mutual
def okD (n : Nat) : D → Bool
  | .ptr k => decide (k < n)
  | .tup l => okDs n l
  | .lst l => okDs n l
  | .scr l => okDs n l
  | .dic l => okKs n l
  | .ins _ l => okFs n l
  | .non => true
  | .bl _ => true
  | .int _ => true
  | .str _ => true
  | .raw _ => true
def okDs (n : Nat) : List D → Bool
  | [] => true
  | d :: l => okD n d && okDs n l
def okKs (n : Nat) : List (Key × D) → Bool
  | [] => true
  | (_, d) :: l => okD n d && okKs n l
def okFs (n : Nat) : List (Str × D) → Bool
  | [] => true
  | (_, d) :: l => okD n d && okFs n l
end
def okC (n : Nat) : Cell → Bool
  | .dead => true
  | .lst l => okDs n l
  | .dic l => okKs n l
  | .ins _ l => okFs n l
def Scoped (μ : Mu) : Prop := ∀ c ∈ μ, okC μ.length c = true
theorem okDs_all (n : Nat) : ∀ l : List D, okDs n l = l.all (okD n)
  | [] => by simp [okDs]
  | d :: l => by simp [okDs, okDs_all n l]
theorem okKs_all (n : Nat) : ∀ l : List (Key × D), okKs n l = l.all fun kv => okD n kv.2
  | [] => by simp [okKs]
  | (_, d) :: l => by simp [okKs, okKs_all n l]
theorem okFs_all (n : Nat) : ∀ l : List (Str × D), okFs n l = l.all fun kv => okD n kv.2
  | [] => by simp [okFs]
  | (_, d) :: l => by simp [okFs, okFs_all n l]
mutual
theorem okD_mono {n m : Nat} (h : n ≤ m) : ∀ d : D, okD n d = true → okD m d = true
  | .ptr k, e => by simp [okD] at e ⊢; omega
  | .tup l, e => by simp only [okD] at e ⊢; exact okDs_mono h l e
  | .lst l, e => by simp only [okD] at e ⊢; exact okDs_mono h l e
  | .scr l, e => by simp only [okD] at e ⊢; exact okDs_mono h l e
  | .dic l, e => by simp only [okD] at e ⊢; exact okKs_mono h l e
  | .ins _ l, e => by simp only [okD] at e ⊢; exact okFs_mono h l e
  | .non, _ => by simp only [okD]
  | .bl _, _ => by simp only [okD]
  | .int _, _ => by simp only [okD]
  | .str _, _ => by simp only [okD]
  | .raw _, _ => by simp only [okD]
theorem okDs_mono {n m : Nat} (h : n ≤ m) : ∀ l : List D, okDs n l = true → okDs m l = true
  | [], _ => by simp only [okDs]
  | d :: l, e => by
    simp only [okDs, Bool.and_eq_true] at e ⊢
    exact ⟨okD_mono h d e.1, okDs_mono h l e.2⟩
theorem okKs_mono {n m : Nat} (h : n ≤ m) : ∀ l : List (Key × D), okKs n l = true → okKs m l = true
  | [], _ => by simp only [okKs]
  | (_, d) :: l, e => by
    simp only [okKs, Bool.and_eq_true] at e ⊢
    exact ⟨okD_mono h d e.1, okKs_mono h l e.2⟩
theorem okFs_mono {n m : Nat} (h : n ≤ m) : ∀ l : List (Str × D), okFs n l = true → okFs m l = true
  | [], _ => by simp only [okFs]
  | (_, d) :: l, e => by
    simp only [okFs, Bool.and_eq_true] at e ⊢
    exact ⟨okD_mono h d e.1, okFs_mono h l e.2⟩
end
theorem okC_mono {n m : Nat} (h : n ≤ m) (c : Cell) (e : okC n c = true) : okC m c = true := by
  cases c with
  | dead => rfl
  | lst l => exact okDs_mono h l e
  | dic l => exact okKs_mono h l e
  | ins n l => exact okFs_mono h l e
theorem Scoped.nil : Scoped [] := fun _ h => by cases h
theorem Scoped.push {μ : Mu} {c : Cell} (h : Scoped μ) (hc : okC (μ.length + 1) c = true) : Scoped (μ ++ [c]) := fun d hd => by
  have e : (μ ++ [c]).length = μ.length + 1 := by simp
  rw [e]
  rcases List.mem_append.mp hd with hd | hd
  · exact okC_mono (Nat.le_succ _) d (h d hd)
  · rw [List.mem_singleton] at hd; subst hd; exact hc
theorem Scoped.set {μ : Mu} {c : Cell} {k : Nat} (h : Scoped μ) (hc : okC μ.length c = true) : Scoped (μ.set k c) := fun d hd => by
  rw [List.length_set]
  rcases List.mem_or_eq_of_mem_set hd with hd | hd
  · exact h d hd
  · subst hd; exact hc
section
variable {K : PySem.W.Frag} {ct : Nat → Addr} {A : List Addr} {F H : Hp} {n : Nat}
theorem take_get {k : Nat} {a : Addr} (h : A[k]? = some a) (hk : k < n) : (A.take n)[k]? = some a := by rw [List.getElem?_take_of_lt hk]; exact h
mutual
theorem Rep.cut : ∀ {v : V} {d : D}, Rep K ct A F v d → okD n d = true → Rep K ct (A.take n) F v d
  | _, _, .non, _ => .non
  | _, _, .bl b, _ => .bl b
  | _, _, .int i, _ => .int i
  | _, _, .str s, _ => .str s
  | _, _, .raw v, _ => .raw v
  | _, _, .tup h r, e => .tup h (Reps.cut r (by simpa only [okD] using e))
  | _, _, .lst h r, e => .lst h (Reps.cut r (by simpa only [okD] using e))
  | _, _, .scr h r, e => .scr h (Reps.cut r (by simpa only [okD] using e))
  | _, _, .dic h k r, e => .dic h k (Reps.cut r (by rw [okD, okKs_all] at e; rw [okDs_all, List.all_map]; exact e))
  | _, _, .ins h k r, e => .ins h k (Reps.cut r (by rw [okD, okFs_all] at e; rw [okDs_all, List.all_map]; exact e))
  | _, _, .ptr h, e => .ptr (take_get h (by simpa [okD] using e))
theorem Reps.cut : ∀ {vs : List V} {ds : List D}, Reps K ct A F vs ds → okDs n ds = true → Reps K ct (A.take n) F vs ds
  | _, _, .nil, _ => .nil
  | _, _, .cons h r, e => by
    simp only [okDs, Bool.and_eq_true] at e
    exact .cons (Rep.cut h e.1) (Reps.cut r e.2)
end
theorem Rl0.cut {μ ex : Mu} (r : Rl0 K ct (μ ++ ex) H F A) (sc : Scoped μ) : Rl0 K ct μ H F (A.take μ.length) where
  sub := r.sub
  len := by have := r.len; rw [List.length_append] at this; rw [List.length_take]; omega
  nd := fun i j a c c' hi hj h1 h2 l1 l2 => by
    have ki : i < μ.length := (List.getElem?_eq_some_iff.mp h1).1
    have kj : j < μ.length := (List.getElem?_eq_some_iff.mp h2).1
    rw [List.getElem?_take_of_lt ki] at hi
    rw [List.getElem?_take_of_lt kj] at hj
    exact r.nd i j a c c' hi hj (by rw [List.getElem?_append_left ki]; exact h1) (by rw [List.getElem?_append_left kj]; exact h2) l1 l2
  there := fun a ha => r.there a (List.mem_of_mem_take ha)
  ok := fun k a c ha hc => by
    have hk : k < μ.length := (List.getElem?_eq_some_iff.mp hc).1
    rw [List.getElem?_take_of_lt hk] at ha
    have h := r.ok k a c ha (by rw [List.getElem?_append_left hk]; exact hc)
    have e := sc c (List.mem_of_getElem? hc)
    cases c with
    | dead => trivial
    | lst l => obtain ⟨f, vs, h1, h2⟩ := h; exact ⟨f, vs, h1, h2.cut e⟩
    | dic l => obtain ⟨f, vs, h1, h2, h3⟩ := h; exact ⟨f, vs, h1, h2, h3.cut (by have e' : okKs μ.length l = true := e; rw [okKs_all] at e'; rw [okDs_all, List.all_map]; exact e')⟩
    | ins n l => obtain ⟨f, dx, vs, h1, h2, h3⟩ := h; exact ⟨f, dx, vs, h1, h2, h3.cut (by have e' : okFs μ.length l = true := e; rw [okFs_all] at e'; rw [okDs_all, List.all_map]; exact e')⟩
end
theorem pre_take {A A' : List Addr} {n : Nat} (h : A <+: A') (hn : A.length ≤ n) : A <+: A'.take n := by
  obtain ⟨t, rfl⟩ := h
  rw [List.take_append, List.take_of_length_le hn]
  exact List.prefix_append _ _

/-! ### what a def does to data -/
inductive Out where
  | val (d : D)
  | exc (n : Nat) (fs : List (Str × D))
abbrev Rf := List D → Mu → Out → Mu → Prop
/-- an exception's own dict -/
def XOk (K : PySem.W.Frag) (ct : Nat → Addr) (A : List Addr) (F H : Hp) (dd : Option Addr) (fs : List (Str × D)) : Prop :=
  fs = [] ∨ ∃ (dx : Addr) (vfs : List (Str × V)), dd = some dx ∧ H dx = some (.xd vfs) ∧ vfs.map (·.1) = fs.map (·.1) ∧ Reps K ct A F (vfs.map (·.2)) (fs.map (·.2))
def spD (K : PySem.W.Frag) (ct : Nat → Addr) (R : Rf) : Sp := fun vs H Q E => ∃ F A μ ds o μ', Rl0 K ct μ H F A ∧ Reps K ct A F vs ds ∧ R ds μ o μ' ∧
  match o with
  | .val d => ∀ v H' F' A', Le F F' → A <+: A' → Rl0 K ct μ' H' F' A' → Rep K ct A' F' v d → Q v H'
  | .exc n fs => ∀ dd H' F' A', Le F F' → A <+: A' → Rl0 K ct μ' H' F' A' → XOk K ct A' F' H' dd fs → E (.ref (ct n)) dd H'

/-- behind a statement, over data -/
structure P4 where
  nx : Gm → Mu → Prop := fun _ _ => False
  rt : D → Mu → Prop := fun _ _ => False
  bk : Gm → Mu → Prop := fun _ _ => False
  ct : Gm → Mu → Prop := fun _ _ => False
  ex : Nat → List (Str × D) → Gm → Mu → Prop := fun _ _ _ _ => False
/-- the least that X's wish about exceptions wants -/
def XW (X : Cx) : WX := fun cls d σ H => ∀ (u : Value) (s' : Shared), (∃ (a : Addr) (B : Heap) (sI : Shared) (pins : List (Addr × Obj)), u = .ref a ∧ Inv X pins σ H sI ∧ (∀ b o, sI.heap.get? b = some o → b ∉ frs X.stack → B.get? b = some o) ∧ sI.heap.UpToSlots s'.heap ∧
  Sky B X.stack a (Zc cls d) X.env.locals s'.heap ∧ H a = none ∧ s'.os = sI.os ∧ AllBare s'.gens) → X.xe u s'
theorem takes_XW (X : Cx) : Takes X (XW X) := fun u s' ⟨a, B, sI, pins, σ, H, cls, d, e, I, nb, up, sky, na, os, ag, w⟩ => w u s' ⟨a, B, sI, pins, e, I, nb, up, sky, na, os, ag⟩
theorem XW_of {X : Cx} {W : WX} (t : Takes X W) {cls : Value} {d : Option Addr} {σ : L2.St} {H : Hp} (w : W cls d σ H) : XW X cls d σ H := fun u s' ⟨a, B, sI, pins, e, I, nb, up, sky, na, os, ag⟩ => t u s' ⟨a, B, sI, pins, σ, H, cls, d, e, I, nb, up, sky, na, os, ag, w⟩
def tS (X : Cx) (ct : Nat → Addr) (Γ : Gm) (μ : Mu) (P : P4) : TS := fun D σ H => ∃ F A, Rl X.K ct Γ μ σ H F A ∧
  (∀ Γ' μ' σ' H' F' A', Le F F' → A <+: A' → Rl X.K ct Γ' μ' σ' H' F' A' → P.nx Γ' μ' → D.nx σ' H') ∧
  (∀ d μ' v H' F' A', Le F F' → A <+: A' → Rl0 X.K ct μ' H' F' A' → Rep X.K ct A' F' v d → P.rt d μ' → D.rt v H') ∧
  (∀ Γ' μ' σ' H' F' A', Le F F' → A <+: A' → Rl X.K ct Γ' μ' σ' H' F' A' → P.bk Γ' μ' → D.bk σ' H') ∧
  ((∀ Γ' μ' σ' H' F' A', Le F F' → A <+: A' → Rl X.K ct Γ' μ' σ' H' F' A' → P.ct Γ' μ' → D.ct σ' H') ∧
   ∀ n fs dd Γ' μ' σ' H' F' A', Le F F' → A <+: A' → Rl X.K ct Γ' μ' σ' H' F' A' → XOk X.K ct A' F' H' dd fs → P.ex n fs Γ' μ' → XW X (.ref (ct n)) dd σ' H')
abbrev DS (X : Cx) (ct : Nat → Addr) (st : Stmt) (Γ : Gm) (μ : Mu) (P : P4) : Prop := PS X st (tS X ct Γ μ P)
abbrev DSs (X : Cx) (ct : Nat → Addr) (sts : List Stmt) (Γ : Gm) (μ : Mu) (P : P4) : Prop := PSs X sts (tS X ct Γ μ P)

section
variable {X : Cx} {ct : Nat → Addr} {Γ Γ1 Γ2 : Gm} {μ μ1 μ2 μ3 : Mu} {d da db dc : D} {ds : List D} {e a b c o : Expr} {es : List Expr} {st : Stmt} {rest sa sb : List Stmt} {pos p tp : Pos} {x f m : Str} {k k' : Bool} {P P' : P4}
theorem tS.mono (h1 : ∀ Γ μ, P.nx Γ μ → P'.nx Γ μ) (h2 : ∀ d μ, P.rt d μ → P'.rt d μ) (h3 : ∀ Γ μ, P.bk Γ μ → P'.bk Γ μ) (h4 : ∀ Γ μ, P.ct Γ μ → P'.ct Γ μ) (h5 : ∀ n fs Γ μ, P.ex n fs Γ μ → P'.ex n fs Γ μ) : ∀ D σ H, tS X ct Γ μ P' D σ H → tS X ct Γ μ P D σ H := fun D σ H ⟨F, A, r, q1, q2, q3, q4, q5⟩ =>
  ⟨F, A, r, fun Γ' μ' σ' H' F' A' e p r' h => q1 Γ' μ' σ' H' F' A' e p r' (h1 _ _ h), fun d μ' v H' F' A' e p r' rr h => q2 d μ' v H' F' A' e p r' rr (h2 _ _ h), fun Γ' μ' σ' H' F' A' e p r' h => q3 Γ' μ' σ' H' F' A' e p r' (h3 _ _ h), fun Γ' μ' σ' H' F' A' e p r' h => q4 Γ' μ' σ' H' F' A' e p r' (h4 _ _ h),
    fun n fs dd Γ' μ' σ' H' F' A' e p r' x h => q5 n fs dd Γ' μ' σ' H' F' A' e p r' x (h5 _ _ _ _ h)⟩
/-- from a later place -/
theorem tS.go {D : Ends} {σ σ' : L2.St} {H H' F F' : Hp} {A A' : List Addr} (e : Le F F') (p : A <+: A') (r : Rl X.K ct Γ1 μ1 σ' H' F' A')
    (q1 : ∀ Γ' μ' σ' H' F' A', Le F F' → A <+: A' → Rl X.K ct Γ' μ' σ' H' F' A' → P.nx Γ' μ' → D.nx σ' H')
    (q2 : ∀ d μ' v H' F' A', Le F F' → A <+: A' → Rl0 X.K ct μ' H' F' A' → Rep X.K ct A' F' v d → P.rt d μ' → D.rt v H')
    (q3 : ∀ Γ' μ' σ' H' F' A', Le F F' → A <+: A' → Rl X.K ct Γ' μ' σ' H' F' A' → P.bk Γ' μ' → D.bk σ' H')
    (q4 : (∀ Γ' μ' σ' H' F' A', Le F F' → A <+: A' → Rl X.K ct Γ' μ' σ' H' F' A' → P.ct Γ' μ' → D.ct σ' H') ∧
      ∀ n fs dd Γ' μ' σ' H' F' A', Le F F' → A <+: A' → Rl X.K ct Γ' μ' σ' H' F' A' → XOk X.K ct A' F' H' dd fs → P.ex n fs Γ' μ' → XW X (.ref (ct n)) dd σ' H') : tS X ct Γ1 μ1 P D σ' H' :=
  ⟨F', A', r, fun Γ' μ' σ' H' F2 A2 e2 p2 r' h => q1 Γ' μ' σ' H' F2 A2 (e.trans e2) (p.trans p2) r' h, fun d μ' v H' F2 A2 e2 p2 r' rr h => q2 d μ' v H' F2 A2 (e.trans e2) (p.trans p2) r' rr h,
    fun Γ' μ' σ' H' F2 A2 e2 p2 r' h => q3 Γ' μ' σ' H' F2 A2 (e.trans e2) (p.trans p2) r' h, fun Γ' μ' σ' H' F2 A2 e2 p2 r' h => q4.1 Γ' μ' σ' H' F2 A2 (e.trans e2) (p.trans p2) r' h,
    fun n fs dd Γ' μ' σ' H' F2 A2 e2 p2 r' x h => q4.2 n fs dd Γ' μ' σ' H' F2 A2 (e.trans e2) (p.trans p2) r' x h⟩
/-- a statement, then the rest from wherever it leads -/
theorem ds_cons (h : DS X ct st Γ μ { P with nx := fun Γ' μ' => DSs X ct rest Γ' μ' P }) : DSs X ct (st :: rest) Γ μ P := by
  have hu : PSs X rest (fun D σ H => ∃ Γ' μ', DSs X ct rest Γ' μ' P ∧ tS X ct Γ' μ' P D σ H) := ⟨fun pins s σ H D I ⟨Γ', μ', h, q⟩ => h.run pins s σ H D I q⟩
  refine PSs.imp (pss_cons h hu) fun D σ H ⟨F, A, r, q1, q2, q3, q4⟩ => ?_
  exact ⟨F, A, r, fun Γ' μ' σ' H' F' A' e p r' h => ⟨Γ', μ', h, tS.go (σ := σ) (H := H) e p r' q1 q2 q3 q4⟩, q2, q3, q4⟩
theorem ds_nil (h : P.nx Γ μ) : DSs X ct [] Γ μ P := PSs.imp pss_nil fun D σ H ⟨F, A, r, q1, q2, q3, q4⟩ => q1 Γ μ σ H F A (.refl _) pr r h
theorem ds_imp (h : DSs X ct sa Γ μ P) (h1 : ∀ Γ μ, P.nx Γ μ → P'.nx Γ μ) (h2 : ∀ d μ, P.rt d μ → P'.rt d μ) (h3 : ∀ Γ μ, P.bk Γ μ → P'.bk Γ μ) (h4 : ∀ Γ μ, P.ct Γ μ → P'.ct Γ μ) (h5 : ∀ n fs Γ μ, P.ex n fs Γ μ → P'.ex n fs Γ μ := by intro _ _ _ _ h; first | exact h | exact h.elim) : DSs X ct sa Γ μ P' := PSs.imp h (tS.mono h1 h2 h3 h4 h5)
theorem ds_ret (h : DE X ct Γ μ e d μ1) (hp : P.rt d μ1) : DSs X ct (.Return (some e) pos :: rest) Γ μ P :=
  ds_cons (PS.imp (ps_ret h) fun D σ H ⟨F, A, r, q1, q2, q3, q4⟩ => ⟨F, A, r, fun v H' F' A' e p r' rr => q2 d μ1 v H' F' A' e p r'.m rr hp⟩)
theorem ds_retN (hp : P.rt .non μ) : DSs X ct (.Return none pos :: rest) Γ μ P :=
  ds_cons (PS.imp ps_retN fun D σ H ⟨F, A, r, q1, q2, q3, q4⟩ => q2 .non μ .non H F A (.refl _) pr r.m .non hp)
theorem ds_pass (hr : DSs X ct rest Γ μ P) : DSs X ct (.Pass pos :: rest) Γ μ P := ds_cons (PS.imp ps_pass fun D σ H ⟨F, A, r, q1, q2, q3, q4⟩ => q1 Γ μ σ H F A (.refl _) pr r hr)
theorem ds_cont (hp : P.ct Γ μ) : DSs X ct (.Continue pos :: rest) Γ μ P := ds_cons (PS.imp ps_continue fun D σ H ⟨F, A, r, q1, q2, q3, q4⟩ => q4.1 Γ μ σ H F A (.refl _) pr r hp)
theorem ds_brk (hp : P.bk Γ μ) : DSs X ct (.Break pos :: rest) Γ μ P := ds_cons (PS.imp ps_break fun D σ H ⟨F, A, r, q1, q2, q3, q4⟩ => q3 Γ μ σ H F A (.refl _) pr r hp)
theorem ds_expr (h : DE X ct Γ μ e d μ1) (hr : DSs X ct rest Γ μ1 P) (hs : swapsWith e none pos.line X.env = pure false := by rfl) : DSs X ct (.Expr e pos :: rest) Γ μ P :=
  ds_cons (PS.imp (ps_expr h hs) fun D σ H ⟨F, A, r, q1, q2, q3, q4⟩ => ⟨F, A, r, fun v H' F' A' e p r' rr => q1 Γ μ1 σ H' F' A' e p r' hr⟩)
theorem ds_set (i : Nat) (hN : X.N.Nodup) (h : DE X ct Γ μ e d μ1) (hr : DSs X ct rest (Γ.set i (some d)) μ1 P) (hi : X.N[i]? = some x := by rfl) (hx : Loc X.env.scope x := by first | exact Or.inl rfl | exact Or.inr rfl)
    (hs : swapsWith e (some (.Name x p)) pos.line X.env = pure false := by rfl) (hf : X.fn x = true ∨ X.env.scope.names.lookup x = some .local := by first | exact .inl rfl | exact .inr rfl) : DSs X ct (.Assign [.Name x p] e pos :: rest) Γ μ P :=
  ds_cons (PS.imp (ps_set hN hi hx h hs hf) fun D σ H ⟨F, A, r, q1, q2, q3, q4⟩ => ⟨F, A, r, fun v H' F' A' e p r' rr => q1 _ μ1 _ H' F' A' e p ⟨r'.m, r'.s.set rr i⟩ hr⟩)
theorem ds_if (hc : DT X ct Γ μ c k μ1) (h1 : k = true → DSs X ct sa Γ μ1 { P with nx := fun Γ' μ' => DSs X ct rest Γ' μ' P }) (h2 : k = false → DSs X ct sb Γ μ1 { P with nx := fun Γ' μ' => DSs X ct rest Γ' μ' P }) : DSs X ct (.If c sa sb pos :: rest) Γ μ P := by
  refine ds_cons ?_
  cases k with
  | true =>
    refine PS.imp (ps_if hc (h1 rfl) pss_never) fun D σ H ⟨F, A, r, q1, q2, q3, q4⟩ => ⟨F, A, r, fun H' F' A' e p r' => ?_⟩
    exact iteT (tS.go (σ := σ) (H := H) e p r' q1 q2 q3 q4)
  | false =>
    refine PS.imp (ps_if hc pss_never (h2 rfl)) fun D σ H ⟨F, A, r, q1, q2, q3, q4⟩ => ⟨F, A, r, fun H' F' A' e p r' => ?_⟩
    exact iteF (tS.go (σ := σ) (H := H) e p r' q1 q2 q3 q4)
/-- less is known of the slots -/
theorem ds_less (g : GLe Γ1 Γ) (h : DSs X ct sa Γ1 μ P) : DSs X ct sa Γ μ P := PSs.imp h fun D σ H ⟨F, A, r, q1, q2, q3, q4⟩ => ⟨F, A, ⟨r.m, r.s.less g⟩, q1, q2, q3, q4⟩
/-- a place of the store is frozen -/
theorem freeze {K : PySem.W.Frag} {H F : Hp} {A : List Addr} {j : Nat} {a : Addr} {u : HO} (r : Rl0 K ct μ H F A) (ha : A[j]? = some a) (hu : H a = some u) (hf : F a = none) (hm : unmark u = u) {c0 : Cell} (h0 : μ[j]? = some c0) (l0 : c0 ≠ .dead) : Le F (upd F a u) ∧ Rl0 K ct (μ.set j .dead) H (upd F a u) A := by
  have le : Le F (upd F a u) := .new hf
  refine ⟨le, ⟨fun b o e => ?_, by simp [r.len], fun i i' b c c' hi hi' h1 h2 l1 l2 => ?_, r.there, fun i b c hb hc => ?_⟩⟩
  · by_cases h : b = a
    · subst h; rw [upd_same] at e; cases e; rw [hm]; exact hu
    · rw [upd_ne h] at e; exact r.sub b o e
  · have key : ∀ (n : Nat) (c' : Cell), (μ.set j .dead)[n]? = some c' → c' ≠ .dead → μ[n]? = some c' := fun n c' hn hl => by
      by_cases e : n = j
      · subst e
        rw [List.getElem?_set_self (List.getElem?_eq_some_iff.mp h0).1] at hn
        cases hn; exact absurd rfl hl
      · rw [List.getElem?_set_ne (Ne.symm e)] at hn; exact hn
    exact r.nd i i' b c c' hi hi' (key i c h1 l1) (key i' c' h2 l2) l1 l2
  · by_cases h : i = j
    · subst h
      rw [List.getElem?_set_self (by rw [← r.len]; exact (List.getElem?_eq_some_iff.mp ha).1)] at hc
      cases hc
      trivial
    · rw [List.getElem?_set_ne (Ne.symm h)] at hc
      by_cases hd : c = .dead
      · subst hd; trivial
      have ne : b ≠ a := fun e => by
        subst e
        exact h (r.nd i j b c c0 hb ha hc h0 hd l0)
      exact (r.ok i b c hb hc).mono le pr (fun f => by rw [upd_ne ne]; exact f) fun o h _ => h
/-- a cell as frozen data -/
def frozen : Cell → Option D
  | .dead => none
  | .lst l => some (.lst l)
  | .dic l => some (.dic l)
  | .ins n l => some (.ins n l)
theorem freeze_rep {K : PySem.W.Frag} {H F : Hp} {A : List Addr} {j : Nat} {a : Addr} {cl : Cell} (r : Rl0 K ct μ H F A) (ha : A[j]? = some a) (hc : μ[j]? = some cl) (hd : frozen cl = some d) :
    ∃ u, H a = some u ∧ F a = none ∧ unmark u = u ∧ cl ≠ .dead ∧ Rep K ct A (upd F a u) (.ref a) d := by
  have h := r.ok j a cl ha hc
  cases cl with
  | dead => cases hd
  | lst l => obtain ⟨f, vs, h1, h2⟩ := h; cases hd; exact ⟨_, h1, f, rfl, by simp, .lst upd_same (h2.mono (.new f) pr)⟩
  | dic l => obtain ⟨f, vs, h1, h2, h3⟩ := h; cases hd; exact ⟨_, h1, f, rfl, by simp, .dic (.inl upd_same) h2 (h3.mono (.new f) pr)⟩
  | ins n l => obtain ⟨f, dx, vs, h1, h2, h3⟩ := h; cases hd; exact ⟨_, h1, f, rfl, by simp, .ins upd_same h2 (h3.mono (.new f) pr)⟩
theorem ds_freeze (i : Nat) {j : Nat} {cl : Cell} (hi : Γ[i]? = some (some (.ptr j))) (hc : μ[j]? = some cl) (hd : frozen cl = some d) (h : DSs X ct sa (Γ.set i (some d)) (μ.set j .dead) P) : DSs X ct sa Γ μ P :=
  PSs.imp h fun D σ H ⟨F, A, r, q1, q2, q3, q4⟩ => by
    obtain ⟨v, hv, rv⟩ := r.s.get hi
    cases rv with
    | @ptr a _ ha =>
      obtain ⟨u, hu, hf, hm, hl, rep⟩ := freeze_rep r.m ha hc hd
      obtain ⟨le, r'⟩ := freeze r.m ha hu hf hm hc hl
      have e : σ.set i (some (.ref a)) = σ := by
        apply List.ext_getElem?
        intro n
        by_cases hn : n = i
        · subst hn
          rw [List.getElem?_set_self (List.getElem?_eq_some_iff.mp hv).1, hv]
        · rw [List.getElem?_set_ne (Ne.symm hn)]
      have s := (r.s.mono le pr).set rep i
      rw [e] at s
      exact tS.go (σ := σ) (H := H) le pr ⟨r', s⟩ q1 q2 q3 q4

/-! ### calls of defs -/
structure Fn (P : Program) (w : World) (K : PySem.W.Frag) (mg : Str → Option Value) (base : Heap) (ct : Nat → Addr) (x : Str) (k : Nat) (R : Rf) : Prop where
  ex : ∃ (CX : CXT) (f : Addr) (fd : FuncData) (ps : List Str) (dvs : List V) (dus : List Value) (dds : List D), FnOk P w K mg base CX k f fd ps (spD K ct fun ds μ o μ' => ∃ ds', ds = ds' ++ dds ∧ R ds' μ o μ') ∧ mg x = some (.ref f) ∧ PySem.W.keepIn K (.ref f) = true ∧ Binds K fd ps dus ∧ Vals dvs dus ∧
    (∀ A F, Reps K ct A F dvs dds) ∧ ∀ X : Cx, X.prog = P → X.w = w → Passes CX X E0
theorem tCall_D {K : PySem.W.Frag} {dvs : List V} {dds : List D} {R : Rf} {t : TA} (hd : ∀ A F, Reps K ct A F dvs dds) (h : R ds μ1 (.val d) μ2) :
    ∀ σ H Q, tD K ct Γ μ d μ2 σ H Q → (∀ Q', tAs K ct Γ μ ds μ1 σ H Q' → t σ H Q') → tCall (spD K ct fun ds μ o μ' => ∃ ds', ds = ds' ++ dds ∧ R ds' μ o μ') dvs E0 t σ H Q := fun σ H Q ⟨F, A, r, q⟩ ht =>
  ht _ ⟨F, A, r, fun vs H1 F1 A1 e1 p1 r1 h1 => ⟨F1, A1, μ1, ds ++ dds, .val d, μ2, r1.m, h1.app (hd A1 F1), ⟨ds, rfl, h⟩, fun v H2 F2 A2 e2 p2 r2 h2 => q v H2 F2 A2 (e1.trans e2) (p1.trans p2) ⟨r2, r1.s.mono e2 p2⟩ h2⟩⟩
theorem de_call {kk : Nat} {R : Rf} (G : Fn X.prog X.w X.K X.mg X.base ct x kk R) (hr : Room kk X.A) (ha : DA X ct Γ μ (e :: es) ds μ1) (h : R ds μ1 (.val d) μ2) (hg : Gl X x := by rfl)
    (hdb : (x == ("__debug__" : Str)) = false := by decide) (he : starEach (e :: es) X.env = (false, eval e X.env) :: starEach es X.env := by rfl) (hpl : (backTo pos (starEach es X.env)).any (·.1) = false := by rfl) : DE X ct Γ μ (.Call (.Name x p) (e :: es) [] pos) d μ2 := by
  obtain ⟨CX, f, fd, ps, dvs, dus, dds, F, hm, hk, hb, hv, hd, hx⟩ := G.ex
  exact PE.imp (pe_call F hr hg hm hk hb hv (hx X rfl rfl) ha hdb he hpl) fun σ H Q q => tCall_D hd h σ H Q q fun Q' z => z
theorem de_call0 {kk : Nat} {R : Rf} (G : Fn X.prog X.w X.K X.mg X.base ct x kk R) (hr : Room kk X.A) (h : R [] μ (.val d) μ2) (hg : Gl X x := by rfl) (hdb : (x == ("__debug__" : Str)) = false := by decide) : DE X ct Γ μ (.Call (.Name x p) [] [] pos) d μ2 := by
  obtain ⟨CX, f, fd, ps, dvs, dus, dds, F, hm, hk, hb, hv, hd, hx⟩ := G.ex
  exact PE.imp (pe_call0 F hr hg hm hk hb hv (hx X rfl rfl) hdb) fun σ H Q q => tCall_D (μ1 := μ) (ds := []) hd h σ H Q q fun Q' ⟨F, A, r, z⟩ => z [] H F A (.refl _) pr r .nil
/-- a method of the class at ct n -/
structure Me (P : Program) (w : World) (K : PySem.W.Frag) (mg : Str → Option Value) (base : Heap) (ct : Nat → Addr) (n : Nat) (m : Str) (k : Nat) (R : Rf) : Prop where
  cl : Cls K (ct n)
  ex : ∃ (CX : CXT) (f : Addr) (fd : FuncData) (ps : List Str), FnOk P w K mg base CX k f fd ps (spD K ct R) ∧ Meth K (ct n) m f ∧ Binds K fd ps [] ∧ ∀ X : Cx, X.prog = P → X.w = w → Passes CX X E0
/-- the receiver's place: frozen, or in the store -/
inductive RecD (μ : Mu) : D → Nat → List (Str × D) → Prop
  | ins {n : Nat} {fs : List (Str × D)} : RecD μ (.ins n fs) n fs
  | cell {j n : Nat} {fs : List (Str × D)} (h : μ[j]? = some (.ins n fs)) : RecD μ (.ptr j) n fs
theorem look_none : ∀ {vfs : List (Str × V)} {fs : List (Str × D)} {f : Str}, vfs.map (·.1) = fs.map (·.1) → fs.lookup f = none → vfs.lookup f = none
  | [], _, _, _, _ => rfl
  | _ :: _, [], _, h, _ => by simp at h
  | (a, v) :: vfs, (b, e) :: fs, f, h, l => by
    simp only [List.map_cons, List.cons.injEq] at h
    obtain ⟨rfl, h2⟩ := h
    by_cases hf : (f == a) = true
    · simp only [List.lookup, hf] at l; cases l
    · have hf' : (f == a) = false := by simpa using hf
      simp only [List.lookup, hf'] at l ⊢
      exact look_none h2 l
theorem RecD.get {K : PySem.W.Frag} {H F : Hp} {A : List Addr} {v : V} {n : Nat} {fs : List (Str × D)} (h : RecD μ d n fs) (r : Rl0 K ct μ H F A) (rv : Rep K ct A F v d) : ∃ a dx vfs, v = .ref a ∧ H a = some (.ins (ct n) dx vfs) ∧ vfs.map (·.1) = fs.map (·.1) := by
  cases h with
  | ins => cases rv with
    | ins h1 h2 h3 => exact ⟨_, _, _, rfl, r.sub _ _ h1, h2⟩
  | cell hm => cases rv with
    | ptr s => obtain ⟨_, dx, vfs, h2, h3, h4⟩ := r.ok _ _ _ s hm; exact ⟨_, dx, vfs, rfl, h2, h3⟩
theorem tMeth_D {K : PySem.W.Frag} {R : Rf} {t : TA} {n : Nat} {fs : List (Str × D)} (hrec : RecD μ1 da n fs) (hl : fs.lookup m = none) (h : R (da :: ds) μ2 (.val d) μ3) :
    ∀ σ H Q, tD K ct Γ μ d μ3 σ H Q → (∀ σ H Q', tAs K ct Γ μ1 ds μ2 σ H Q' → t σ H Q') → tMeth (ct n) m (spD K ct R) [] E0 (tD K ct Γ μ da μ1) t σ H Q := fun σ H Q ⟨F, A, r, q⟩ ht =>
  ⟨F, A, r, fun v H1 F1 A1 e1 p1 r1 h1 => by
    obtain ⟨a, dx, vfs, rfl, h2, h3⟩ := hrec.get r1.m h1
    refine ⟨a, dx, vfs, rfl, h2, look_none h3 hl, ht _ _ _ ⟨F1, A1, r1, fun vs H2 F2 A2 e2 p2 r2 hv => ?_⟩⟩
    show spD K ct R (V.ref a :: (vs ++ [])) H2 Q E0
    rw [List.append_nil]
    exact ⟨F2, A2, μ2, da :: ds, .val d, μ3, r2.m, .cons (h1.mono e2 p2) hv, h, fun v H3 F3 A3 e3 p3 r3 h3 => q v H3 F3 A3 (e1.trans (e2.trans e3)) (p1.trans (p2.trans p3)) ⟨r3, r2.s.mono e3 p3⟩ h3⟩⟩
theorem de_meth {kk n : Nat} {R : Rf} {fs : List (Str × D)} {apos : Pos} {pl : Sem Bool} (G : Me X.prog X.w X.K X.mg X.base ct n m kk R) (hr : Room kk X.A) (ho : DE X ct Γ μ o da μ1) (hrec : RecD μ1 da n fs) (hl : fs.lookup m = none) (ha : DA X ct Γ μ1 (e :: es) ds μ2) (h : R (da :: ds) μ2 (.val d) μ3)
    (hst : starEach (e :: es) X.env = (false, eval e X.env) :: starEach es X.env := by rfl) (hpl : (backTo pos (starEach es X.env)).any (·.1) = false := by rfl)
    (ht : eval (.Call (.Attribute o m apos) (e :: es) [] pos) X.env = (do
      let ov ← eval o X.env
      standAt apos.atName
      let (f, first) ← holding [ov] (getMethod ov m pl)
      callWith pos f first (backTo pos (starEach (e :: es) X.env)) (backToKw pos (keywordEach [] X.env))) := by rfl) : DE X ct Γ μ (.Call (.Attribute o m apos) (e :: es) [] pos) d μ3 := by
  obtain ⟨CX, f, fd, ps, F, hm, hb, hx⟩ := G.ex
  exact PE.imp (pe_meth ho G.cl hm F hr hb .nil (hx X rfl rfl) ha hst hpl ht) fun σ H Q q => tMeth_D hrec hl h σ H Q q fun σ H Q' z => z
theorem de_meth0 {kk n : Nat} {R : Rf} {fs : List (Str × D)} {apos : Pos} {pl : Sem Bool} (G : Me X.prog X.w X.K X.mg X.base ct n m kk R) (hr : Room kk X.A) (ho : DE X ct Γ μ o da μ1) (hrec : RecD μ1 da n fs) (hl : fs.lookup m = none) (h : R [da] μ1 (.val d) μ3)
    (ht : eval (.Call (.Attribute o m apos) [] [] pos) X.env = (do
      let ov ← eval o X.env
      standAt apos.atName
      let (f, first) ← holding [ov] (getMethod ov m pl)
      callWith pos f first (backTo pos (starEach [] X.env)) (backToKw pos (keywordEach [] X.env))) := by rfl) : DE X ct Γ μ (.Call (.Attribute o m apos) [] [] pos) d μ3 := by
  obtain ⟨CX, f, fd, ps, F, hm, hb, hx⟩ := G.ex
  exact PE.imp (pe_meth0 ho G.cl hm F hr hb .nil (hx X rfl rfl) ht) fun σ H Q q => tMeth_D (μ2 := μ1) (ds := []) hrec hl h σ H Q q fun σ H Q' ⟨F, A, r, z⟩ => z [] H F A (.refl _) pr r .nil
/-- a new instance: its __init__ fills the fresh place -/
structure Mkr (P : Program) (w : World) (K : PySem.W.Frag) (mg : Str → Option Value) (base : Heap) (ct : Nat → Addr) (n : Nat) (x : Str) (k : Nat) (I : List D → Mu → List (Str × D) → Mu → Prop) : Prop where
  ex : ∃ (CX : CXT) (f : Addr) (fd : FuncData) (ps : List Str) (dvs : List V) (dus : List Value) (dds : List D),
    FnOk P w K mg base CX k f fd ps (spD K ct fun ds μ o μ' => ∃ as fs μ0 μ1, μ = μ0 ++ [.ins n []] ∧ ds = .ptr μ0.length :: (as ++ dds) ∧ I as μ0 fs μ1 ∧ o = .val .non ∧ μ' = μ0 ++ [.ins n fs] ++ μ1) ∧ Mk K (ct n) f ∧ mg x = some (.ref (ct n)) ∧ Binds K fd ps dus ∧ Vals dvs dus ∧
    (∀ A F, Reps K ct A F dvs dds) ∧ ∀ X : Cx, X.prog = P → X.w = w → Passes CX X E0
theorem tMake_D {K : PySem.W.Frag} {n : Nat} {I : List D → Mu → List (Str × D) → Mu → Prop} {dvs : List V} {dds : List D} {t : TA} {fs : List (Str × D)} (hd : ∀ A F, Reps K ct A F dvs dds) (h : I ds μ1 fs μ2) :
    ∀ σ H Q, tD K ct Γ μ (.ptr μ1.length) (μ1 ++ [.ins n fs] ++ μ2) σ H Q → (∀ Q', tAs K ct Γ μ ds μ1 σ H Q' → t σ H Q') →
      tMake (ct n) (spD K ct fun ds μ o μ' => ∃ as fs μ0 μ1, μ = μ0 ++ [.ins n []] ∧ ds = .ptr μ0.length :: (as ++ dds) ∧ I as μ0 fs μ1 ∧ o = .val .non ∧ μ' = μ0 ++ [.ins n fs] ++ μ1) dvs E0 t σ H Q := fun σ H Q ⟨F, A, r, q⟩ ht =>
  ht _ ⟨F, A, r, fun vs H1 F1 A1 e1 p1 r1 h1 y dx ny nd ne => by
    have ny2 : upd H1 dx (.own y) y = none := by rw [upd_ne (Ne.symm ne)]; exact ny
    have g1 := r1.m.grow nd (.own y)
    have le1 : Le F1 (upd F1 dx (.own y)) := r1.m.le_grow nd _
    have g2 := g1.push (o := .ins (ct n) dx []) (c := .ins n []) ny2 ⟨g1.sub.free ny2, dx, [], upd_same, rfl, .nil⟩
    refine ⟨_, _, μ1 ++ [.ins n []], .ptr μ1.length :: (ds ++ dds), .val .non, _, g2, .cons (.ptr ?_) ((h1.mono le1 (List.prefix_append _ _)).app (hd _ _)), ⟨ds, fs, μ1, μ2, rfl, rfl, h, rfl, rfl⟩, fun v H2 F2 A2 e2 p2 r2 h2 => ⟨by cases h2; rfl, q _ H2 F2 A2 (e1.trans (le1.trans e2)) (p1.trans ((List.prefix_append _ _).trans p2)) ⟨r2, r1.s.mono (le1.trans e2) ((List.prefix_append _ _).trans p2)⟩ (.ptr ?_)⟩⟩
    · rw [← r1.m.len, List.getElem?_append_right (Nat.le_refl _), Nat.sub_self]; rfl
    · refine pre_get p2 ?_
      rw [← r1.m.len, List.getElem?_append_right (Nat.le_refl _), Nat.sub_self]; rfl⟩
theorem de_makeM {kk n : Nat} {I : List D → Mu → List (Str × D) → Mu → Prop} {fs : List (Str × D)} (G : Mkr X.prog X.w X.K X.mg X.base ct n x kk I) (hr : Room (kk + 1) X.A) (ha : DA X ct Γ μ (e :: es) ds μ1) (h : I ds μ1 fs μ2) (hg : Gl X x := by rfl)
    (hdb : (x == ("__debug__" : Str)) = false := by decide) (he : starEach (e :: es) X.env = (false, eval e X.env) :: starEach es X.env := by rfl) (hpl : (backTo pos (starEach es X.env)).any (·.1) = false := by rfl) : DE X ct Γ μ (.Call (.Name x p) (e :: es) [] pos) (.ptr μ1.length) (μ1 ++ [.ins n fs] ++ μ2) := by
  obtain ⟨CX, f, fd, ps, dvs, dus, dds, F, hM, hm, hb, hv, hd, hx⟩ := G.ex
  exact PE.imp (pe_make hM F hr hg hm hb hv (hx X rfl rfl) ha hdb he hpl) fun σ H Q q => tMake_D hd h σ H Q q fun Q' z => z
theorem de_make0M {kk n : Nat} {I : List D → Mu → List (Str × D) → Mu → Prop} {fs : List (Str × D)} (G : Mkr X.prog X.w X.K X.mg X.base ct n x kk I) (hr : Room (kk + 1) X.A) (h : I [] μ fs μ2) (hg : Gl X x := by rfl)
    (hdb : (x == ("__debug__" : Str)) = false := by decide) : DE X ct Γ μ (.Call (.Name x p) [] [] pos) (.ptr μ.length) (μ ++ [.ins n fs] ++ μ2) := by
  obtain ⟨CX, f, fd, ps, dvs, dus, dds, F, hM, hm, hb, hv, hd, hx⟩ := G.ex
  exact PE.imp (pe_make0 hM F hr hg hm hb hv (hx X rfl rfl) hdb) fun σ H Q q => tMake_D (μ1 := μ) (ds := []) hd h σ H Q q fun Q' ⟨F, A, r, z⟩ => z [] H F A (.refl _) pr r .nil
theorem Slots.cut {K : PySem.W.Frag} {F : Hp} {A : List Addr} {n : Nat} {σ : L2.St} (s : Slots K ct A F Γ σ) (h : ∀ d' ∈ Γ, ∀ d'', d' = some d'' → okD n d'' = true) : Slots K ct (A.take n) F Γ σ := by
  induction s with
  | nil => exact .nil
  | any _ ih => exact .any (ih fun d' hd' => h d' (List.mem_cons_of_mem _ hd'))
  | cons h' _ ih => exact .cons (h'.cut (h _ List.mem_cons_self _ rfl)) (ih fun d' hd' => h d' (List.mem_cons_of_mem _ hd'))
/-- the last thing of the store, which is the value, is frozen and leaves the store -/
theorem de_fz {cl : Cell} (h : DE X ct Γ μ e (.ptr μ1.length) (μ1 ++ [cl])) (hd : frozen cl = some d) (sc : Scoped μ1) (so : okD μ1.length d = true) (hΓ : ∀ d' ∈ Γ, ∀ d'', d' = some d'' → okD μ1.length d'' = true) (hl : μ.length ≤ μ1.length) : DE X ct Γ μ e d μ1 := by
  refine PE.imp h fun σ H Q ⟨F, A, r, q⟩ => ⟨F, A, r, fun v H' F' A' e' p' r' h' => ?_⟩
  cases h' with
  | ptr ha =>
    obtain ⟨u, hu, hf, hm, hl', rep⟩ := freeze_rep r'.m ha (List.getElem?_concat_length ..) hd
    obtain ⟨le, r2⟩ := freeze r'.m ha hu hf hm (List.getElem?_concat_length ..) hl'
    rw [List.set_append_right _ _ (Nat.le_refl _), Nat.sub_self] at r2
    have r3 := Rl0.cut r2 sc
    refine q _ H' _ _ (e'.trans le) (pre_take p' (by rw [r.m.len]; exact hl)) ⟨r3, ?_⟩ (rep.cut so)
    exact (r'.s.mono le pr).cut hΓ
end
/-! ### a def keeps its promise -/
section
variable {P : Program} {w : World} {K : PySem.W.Frag} {mg : Str → Option Value} {base : Heap} {ct : Nat → Addr}
/-- how a body ends -/
def Ended (n : Nat) (d : D) (μ' : Mu) (d2 : D) (μ2 : Mu) : Prop := d2 = d ∧ (μ2 = μ' ∨ (n ≤ μ'.length ∧ okD μ'.length d = true ∧ Scoped μ' ∧ ∃ ex, μ2 = μ' ++ ex))
theorem ended_go {K : PySem.W.Frag} {F F' H' : Hp} {A A' : List Addr} {μ' μ2 : Mu} {d d2 : D} {v : V} {Q : VK} {n : Nat} (q : ∀ v H' F' A', Le F F' → A <+: A' → Rl0 K ct μ' H' F' A' → Rep K ct A' F' v d → Q v H') (e : Le F F') (p : A <+: A') (r : Rl0 K ct μ2 H' F' A') (h : Rep K ct A' F' v d2) (hn : A.length = n) (z : Ended n d μ' d2 μ2) : Q v H' := by
  obtain ⟨rfl, z⟩ := z
  rcases z with rfl | ⟨h1, h2, h3, ex, rfl⟩
  · exact q v H' F' A' e p r h
  · exact q v H' F' _ e (pre_take p (by rw [hn]; exact h1)) (Rl0.cut r h3) (h.cut h2)
theorem fn_okD {x qual : Str} {st : Stmt} {f : Addr} {fd : FuncData} {N ps : List Str} {k : Nat} {R : Rf} (F : Fun K x qual st f fd) (S : FnScope N ps (defScope st)) (hl : ∀ ds μ o μ', R ds μ o μ' → ds.length = ps.length)
    (hbody : ∀ (cdv : Value) (A : Around) (outer : List Env) (s : Shared) (H : Hp) (E : XK) (ds : List D) (μ : Mu) (o : Out) (μ' : Mu), Room k (A.deeper (envOfC qual (defScope st) s.heap.objs.size f cdv)) → R ds μ o μ' →
      ∃ d, o = .val d ∧ DSs (cxOf CX0 P w K mg base N qual (defScope st) f cdv A outer s H E).nox ct (defBody st) (ds.map some ++ List.replicate (N.length - ds.length) none) μ
        { nx := fun _ μ2 => Ended μ.length d μ' .non μ2, rt := fun d2 μ2 => Ended μ.length d μ' d2 μ2 }) : FnOk P w K mg base CX0 (k + 1) f fd ps (spD K ct R) := by
  refine F.ok S (fun vs H Q E ⟨F, A, μ, ds, o, μ', r, rs, h, _⟩ => by rw [rs.len]; exact hl _ _ _ _ h) fun cdv A outer s H vs Q E hr ⟨F, A', μ, ds, o, μ', r, rs, h, q⟩ => ?_
  obtain ⟨d, rfl, hb⟩ := hbody cdv A outer s H E ds μ o μ' hr h
  refine ⟨_, hb, F, A', ⟨r, ?_⟩, fun Γ2 μ2 σ2 H2 F2 A2 e2 p2 r2 z => ended_go q e2 p2 r2.m .non r.len z, fun d2 μ2 v H2 F2 A2 e2 p2 r2 h2 z => ended_go q e2 p2 r2 h2 r.len z, fun _ _ _ _ _ _ _ _ _ z => z.elim, fun _ _ _ _ _ _ _ _ _ z => z.elim, fun _ _ _ _ _ _ _ _ _ _ _ _ _ z => z.elim⟩
  unfold L2.start
  rw [rs.len]
  exact Slots.start _ rs
end
end DL

namespace DL
open PySem PySem.Spec PyProof.Rows L2
/-! ### targets: which slots get what -/
def setS (σ : L2.St) : List (Nat × V) → L2.St
  | [] => σ
  | (i, v) :: l => setS (σ.set i (some v)) l
def setG (Γ : Gm) : List (Nat × D) → Gm
  | [] => Γ
  | (i, d) :: l => setG (Γ.set i (some d)) l
theorem setS_app (σ : L2.St) : ∀ l m : List (Nat × V), setS σ (l ++ m) = setS (setS σ l) m
  | [], m => rfl
  | (i, v) :: l, m => setS_app (σ.set i (some v)) l m
section
variable {K : PySem.W.Frag} {ct : Nat → Addr} {A : List Addr} {F : Hp}
theorem Slots.setS : ∀ {l : List (Nat × D)} {vs : List V} {Γ : Gm} {σ : L2.St}, Reps K ct A F vs (l.map (·.2)) → Slots K ct A F Γ σ → Slots K ct A F (setG Γ l) (DL.setS σ ((l.map (·.1)).zip vs))
  | [], _, _, _, _, s => by simpa [DL.setS, setG] using s
  | (i, d) :: l, _, Γ, σ, r, s => by
    simp only [List.map_cons] at r
    cases r with
    | cons h t => exact Slots.setS (l := l) t (s.set h i)
theorem wipe_set (σ : L2.St) (i : Nat) (o : Option V) : ∀ {vs : List Nat}, i ∈ vs → wipe (σ.set i o) vs = wipe σ vs
  | [], h => by cases h
  | v :: vs, h => by
    unfold wipe
    by_cases hi : i ∈ vs
    · rw [wipe_set σ i o hi]
    · rcases List.mem_cons.mp h with e | e
      · subst e
        have : ∀ (ws : List Nat) (σ : L2.St), i ∉ ws → wipe (σ.set i o) ws = (wipe σ ws).set i o := by
          intro ws
          induction ws with
          | nil => intro σ _; rfl
          | cons w ws ih =>
            intro σ hw
            unfold wipe
            rw [ih σ (fun z => hw (List.mem_cons_of_mem _ z)), List.set_comm]
            intro z; subst z; exact hw List.mem_cons_self
        rw [this vs σ hi, List.set_set]
      · exact absurd e hi
theorem wipe_get {σ : L2.St} {i : Nat} : ∀ {vs : List Nat}, i ∈ vs → i < σ.length → (wipe σ vs)[i]? = some none
  | v :: vs, h, hi => by
    unfold wipe
    by_cases e : v = i
    · subst e
      rw [List.getElem?_set_self (by rw [wipe_length]; exact hi)]
    · rw [List.getElem?_set_ne e]
      exact wipe_get ((List.mem_cons.mp h).resolve_left (Ne.symm e)) hi
theorem wipe_out {σ : L2.St} {i : Nat} : ∀ {vs : List Nat}, i ∉ vs → (wipe σ vs)[i]? = σ[i]?
  | [], _ => rfl
  | v :: vs, h => by
    unfold wipe
    rw [List.getElem?_set_ne (by intro e; subst e; exact h List.mem_cons_self)]
    exact wipe_out fun z => h (List.mem_cons_of_mem _ z)
theorem wipe_wipe (σ : L2.St) (vs : List Nat) : wipe (wipe σ vs) vs = wipe σ vs := by
  apply List.ext_getElem?
  intro i
  by_cases h : i ∈ vs
  · by_cases hi : i < σ.length
    · rw [wipe_get h (by rw [wipe_length]; exact hi), wipe_get h hi]
    · rw [List.getElem?_eq_none (by rw [wipe_length, wipe_length]; omega), List.getElem?_eq_none (by rw [wipe_length]; omega)]
  · rw [wipe_out h]
theorem wipe_setS {vs : List Nat} : ∀ {l : List (Nat × V)} {σ : L2.St}, (∀ p ∈ l, p.1 ∈ vs) → wipe (DL.setS σ l) vs = wipe σ vs
  | [], _, _ => rfl
  | (i, v) :: l, σ, h => by
    show wipe (DL.setS (σ.set i (some v)) l) vs = _
    rw [wipe_setS (l := l) fun p hp => h p (List.mem_cons_of_mem _ hp), wipe_set σ i _ (h (i, v) List.mem_cons_self)]
end
def tG (K : PySem.W.Frag) (ct : Nat → Addr) (d : D) (l : List (Nat × D)) : TG := fun v σ H Q => ∃ F A μ, Rl0 K ct μ H F A ∧ Rep K ct A F v d ∧ ∀ vs, Reps K ct A F vs (l.map (·.2)) → Q (setS σ ((l.map (·.1)).zip vs)) H
def tGs (K : PySem.W.Frag) (ct : Nat → Addr) (ds : List D) (l : List (Nat × D)) : TGs := fun vs σ H Q => ∃ F A μ, Rl0 K ct μ H F A ∧ Reps K ct A F vs ds ∧ ∀ ws, Reps K ct A F ws (l.map (·.2)) → Q (setS σ ((l.map (·.1)).zip ws)) H
abbrev DG (X : Cx) (ct : Nat → Addr) (tg : Expr) (d : D) (l : List (Nat × D)) : Prop := PG X tg (tG X.K ct d l)
abbrev DGs (X : Cx) (ct : Nat → Addr) (tgs : List Expr) (ds : List D) (l : List (Nat × D)) : Prop := PGs X tgs (tGs X.K ct ds l)
section
variable {X : Cx} {ct : Nat → Addr} {Γ Γ1 Γ2 : Gm} {μ μ1 μ2 μ3 : Mu} {d da db dc : D} {ds xs : List D} {e a b c o tg elt iter : Expr} {es tgs : List Expr} {st : Stmt} {rest sa sb body : List Stmt} {pos p tp : Pos} {x f m : Str} {k k' : Bool} {P P' : P4} {l l1 l2 : List (Nat × D)}
theorem PG.imp {t t' : TG} (h : PG X tg t) (k : ∀ v σ H Q, t' v σ H Q → t v σ H Q) : PG X tg t' := ⟨fun pins s σ H v u Q I r q => h.run pins s σ H v u Q I r (k v σ H Q q)⟩
theorem PGs.imp {t t' : TGs} (h : PGs X tgs t) (k : ∀ v σ H Q, t' v σ H Q → t v σ H Q) : PGs X tgs t' := ⟨fun pins s σ H v u Q I r q => h.run pins s σ H v u Q I r (k v σ H Q q)⟩
theorem PI.imp {t t' : TI} (h : PI X tg iter t) (k : ∀ σ H R, t' σ H R → t σ H R) : PI X tg iter t' := ⟨fun pins s σ H R I q => h.run pins s σ H R I (k σ H R q)⟩
theorem dg_name (i : Nat) (hN : X.N.Nodup) (hi : X.N[i]? = some x := by rfl) (hx : Loc X.env.scope x := by first | exact Or.inl rfl | exact Or.inr rfl) (hf : X.fn x = true ∨ X.env.scope.names.lookup x = some .local := by first | exact .inl rfl | exact .inr rfl) : DG X ct (.Name x p) d [(i, d)] :=
  PG.imp (pg_name hN hi hx hf) fun v σ H Q ⟨F, A, μ, r, rep, q⟩ => q [v] (.cons rep .nil)
theorem dgs_nil : DGs X ct [] [] [] := PGs.imp pgs_nil fun v σ H Q ⟨F, A, μ, r, rep, q⟩ => by cases rep; exact ⟨rfl, q [] .nil⟩
theorem dgs_cons (h : DG X ct e d l1) (hr : DGs X ct es ds l2) (hs : (assignEach (e :: es) X.env).map (·.2) = assign e X.env :: (assignEach es X.env).map (·.2) := by rfl) : DGs X ct (e :: es) (d :: ds) (l1 ++ l2) :=
  PGs.imp (pgs_cons h hr hs) fun v σ H Q ⟨F, A, μ, r, rep, q⟩ => by
    cases rep with
    | cons h1 h2 =>
      refine ⟨_, _, rfl, F, A, μ, r, h1, fun vs hv => ⟨F, A, μ, r, h2, fun ws hw => ?_⟩⟩
      have := q (vs ++ ws) (by rw [List.map_append]; exact hv.app hw)
      rw [List.map_append, List.zip_append (by have := hv.len; simp at this; simp [this]), setS_app] at this
      exact this
theorem dg_tup {kk : Nat} {n : Nat} (hc : X.calm = true) (h : DGs X ct es ds l) (hz : ds.length = n := by rfl) (hn : (assignEach es X.env).length = n := by rfl) (hst : (assignEach es X.env).findIdx? (·.1) = none := by rfl) : DG X ct (.Tuple es kk pos) (.tup ds) l :=
  PG.imp (pg_tup hc h hn hst) fun v σ H Q ⟨F, A, μ, r, rep, q⟩ => by
    cases rep with
    | tup h1 h2 => exact ⟨_, _, rfl, sqT_sub r.sub h1, by rw [h2.len]; exact hz, F, A, μ, r, h2, q⟩
theorem ds_asg (he : DE X ct Γ μ e d μ1) (hg : DG X ct tg d l) (hr : DSs X ct rest (setG Γ l) μ1 P) (hs : swapsWithSole [tg] e pos.line X.env = pure false := by rfl) (hw : swappedStores [tg] e X.env = pure none := by rfl)
    (h1 : (assignEach [tg] X.env).map (·.2) = [assign tg X.env] := by rfl) : DSs X ct (.Assign [tg] e pos :: rest) Γ μ P :=
  ds_cons (PS.imp (ps_asg he hg hs hw h1) fun D σ H ⟨F, A, r, q1, q2, q3, q4⟩ => ⟨F, A, r, fun v H' F' A' e p r' rr => ⟨F', A', μ1, r'.m, rr, fun vs hv => q1 _ μ1 _ H' F' A' e p ⟨r'.m, r'.s.setS hv⟩ hr⟩⟩)
theorem ds_par (i j : Nat) {y : Str} {px py pt : Pos} {kt k2 pt2} (hc : X.calm = true) (hN : X.N.Nodup) (ha : DA X ct Γ μ [a, b] [da, db] μ1) (hr : DSs X ct rest ((Γ.set i (some da)).set j (some db)) μ1 P) (hi : X.N[i]? = some x := by rfl) (hj : X.N[j]? = some y := by rfl) (hij : i ≠ j := by decide)
    (hx : X.env.scope.names.lookup x = some .local := by rfl) (hy : X.env.scope.names.lookup y = some .local := by rfl)
    (hw : swappedStores [.Tuple [.Name x px, .Name y py] kt pt] (.Tuple [a, b] k2 pt2) X.env = pure (some [x, y]) := by rfl)
    (hs : swapsWithSole [.Tuple [.Name x px, .Name y py] kt pt] (.Tuple [a, b] k2 pt2) pos.line X.env = pure false := by rfl) : DSs X ct (.Assign [.Tuple [.Name x px, .Name y py] kt pt] (.Tuple [a, b] k2 pt2) pos :: rest) Γ μ P :=
  ds_cons (PS.imp (ps_par hc hN hi hj hij hx hy ha hw hs) fun D σ H ⟨F, A, r, q1, q2, q3, q4⟩ => ⟨F, A, r, fun vs H' F' A' e p r' rr => by
    obtain ⟨v, w, rfl, h1, h2⟩ := reps2 rr
    exact ⟨v, w, rfl, q1 _ μ1 _ H' F' A' e p ⟨r'.m, (r'.s.set h1 i).set h2 j⟩ hr⟩⟩)

/-! ### what is walked -/
structure WalkD (K : PySem.W.Frag) (ct : Nat → Addr) (J : It) (xs : List D) (F1 : Hp) (A1 : List Addr) : Prop where
  goes : ∀ (i : Nat) (H F : Hp), i < xs.length → Le F1 F → Sub F H → J.go i H
  stops : ∀ (H F : Hp), Le F1 F → Sub F H → J.stop xs.length H
  yields : ∀ (i : Nat) (H F : Hp) (A : List Addr) (μ : Mu) (v : V) (H' : Hp) (d : D), xs[i]? = some d → Le F1 F → A1 <+: A → Rl0 K ct μ H F A → J.yld i H v H' → ∃ F', Le F F' ∧ Rl0 K ct μ H' F' A ∧ Rep K ct A F' v d
def tI (K : PySem.W.Frag) (ct : Nat → Addr) (Γ : Gm) (μ : Mu) (xs : List D) (μ1 : Mu) : TI := fun σ H R => ∃ F A, Rl K ct Γ μ σ H F A ∧ ∀ J H1 F1 A1, Le F F1 → A <+: A1 → Rl K ct Γ μ1 σ H1 F1 A1 → WalkD K ct J xs F1 A1 → xs.length ≤ sizeLine → R J H1
abbrev DI (X : Cx) (ct : Nat → Addr) (tg iter : Expr) (Γ : Gm) (μ : Mu) (xs : List D) (μ1 : Mu) : Prop := PI X tg iter (tI X.K ct Γ μ xs μ1)
/-- sequences are never longer than the line -/
theorem PE.bd {t : TE} (h : PE X e t) : PE X e (fun σ H Q => t σ H fun v H' => (∀ a xs, SqL X.K H' a xs ∨ SqT X.K H' a xs → xs.length ≤ sizeLine) → Q v H') :=
  ⟨fun pins s σ H Q I q => thn (h.run pins s σ H _ I q) fun u s' ⟨v, H', I', r, q'⟩ => ⟨v, H', I', r, q' fun a xs z => by
    rcases z with z | z
    · obtain ⟨_, _, _, hz⟩ := I'.list z; exact hz
    · obtain ⟨_, _, _, hz⟩ := I'.tuple z; exact hz⟩⟩
theorem PA.bd {t : TA} (h : PA X es t) : PA X es (fun σ H Q => t σ H fun v H' => (∀ a xs, SqL X.K H' a xs ∨ SqT X.K H' a xs → xs.length ≤ sizeLine) → Q v H') :=
  ⟨fun pos pins s σ H Q I q => thn (h.run pos pins s σ H _ I q) fun u s' ⟨v, H', I', r, q'⟩ => ⟨v, H', I', r, q' fun a xs z => by
    rcases z with z | z
    · obtain ⟨_, _, _, hz⟩ := I'.list z; exact hz
    · obtain ⟨_, _, _, hz⟩ := I'.tuple z; exact hz⟩⟩
theorem walkD_list {K : PySem.W.Frag} {ad : Addr} {vs : List V} {F1 : Hp} {A1 : List Addr} (s : SqL K F1 ad vs) (r : Reps K ct A1 F1 vs xs) : WalkD K ct (Itl K ad) xs F1 A1 where
  goes := fun i H F hi e sb => ⟨vs, vs[i]'(by rw [r.len]; exact hi), sqL_sub sb (e.l s), by simp [r.len, hi]⟩
  stops := fun H F e sb => ⟨vs, sqL_sub sb (e.l s), Nat.le_of_eq r.len⟩
  yields := fun i H F A μ v H' d hd e p m y => by
    obtain ⟨rfl, y⟩ := y
    obtain ⟨w, hw, rw'⟩ := r.get hd
    have := y vs (sqL_sub m.sub (e.l s))
    rw [hw] at this
    cases this
    exact ⟨F, .refl _, m, rw'.mono e p⟩
theorem walkD_tup {K : PySem.W.Frag} {ad : Addr} {vs : List V} {F1 : Hp} {A1 : List Addr} (s : SqT K F1 ad vs) (r : Reps K ct A1 F1 vs xs) : WalkD K ct (Itt K ad) xs F1 A1 where
  goes := fun i H F hi e sb => ⟨vs, vs[i]'(by rw [r.len]; exact hi), sqT_sub sb (e.t s), by simp [r.len, hi]⟩
  stops := fun H F e sb => ⟨vs, sqT_sub sb (e.t s), Nat.le_of_eq r.len⟩
  yields := fun i H F A μ v H' d hd e p m y => by
    obtain ⟨rfl, y⟩ := y
    obtain ⟨w, hw, rw'⟩ := r.get hd
    have := y vs (sqT_sub m.sub (e.t s))
    rw [hw] at this
    cases this
    exact ⟨F, .refl _, m, rw'.mono e p⟩
theorem di_seq (h : DE X ct Γ μ e d μ1) (hd : isSeq d = some xs) : DI X ct tg e Γ μ xs μ1 := by
  have go : (∃ l, d = .tup l) ∨ ¬ ∃ l, d = .tup l := Classical.em _
  rcases go with ⟨l, rfl⟩ | no
  · cases hd
    refine PI.imp (pi_tup (PE.bd h)) fun σ H R ⟨F, A, r, q⟩ => ⟨F, A, r, fun v H' F' A' e p r' rr bd => ?_⟩
    cases rr with
    | tup s rs =>
      have s' := sqT_sub r'.m.sub s
      exact ⟨_, rfl, ⟨_, s'⟩, q _ H' F' A' e p r' (walkD_tup s rs) (by rw [← rs.len]; exact bd _ _ (.inr s'))⟩
  · refine PI.imp (pi_list (PE.bd h)) fun σ H R ⟨F, A, r, q⟩ => ⟨F, A, r, fun v H' F' A' e p r' rr bd => ?_⟩
    cases rr <;> simp [isSeq] at hd
    case tup s rs => exact absurd ⟨_, rfl⟩ no
    case lst s rs =>
      subst hd
      exact ⟨_, rfl, ⟨_, SqL.of (r'.m.sub _ _ s)⟩, q _ H' F' A' e p r' (walkD_list (SqL.of s) rs) (by rw [← rs.len]; exact bd _ _ (.inl (SqL.of (r'.m.sub _ _ s))))⟩
    case scr s rs =>
      subst hd
      exact ⟨_, rfl, ⟨_, sqL_sub r'.m.sub s⟩, q _ H' F' A' e p r' (walkD_list s rs) (by rw [← rs.len]; exact bd _ _ (.inl (sqL_sub r'.m.sub s)))⟩
/-- lo, lo + 1, .. -/
def upto (lo : Int) (n : Nat) : List D := (List.range n).map fun i => D.int (lo + (i : Nat))
theorem upto_len (lo : Int) (n : Nat) : (upto lo n).length = n := by simp [upto]
theorem upto_get {lo : Int} {n i : Nat} {d : D} (h : (upto lo n)[i]? = some d) : i < n ∧ d = .int (lo + (i : Nat)) := by
  unfold upto at h
  rw [List.getElem?_map] at h
  by_cases hi : i < n
  · rw [List.getElem?_range hi] at h
    simp at h
    exact ⟨hi, h.symm⟩
  · rw [List.getElem?_eq_none (by simpa using hi)] at h
    simp at h
theorem walkD_range {K : PySem.W.Frag} {lo : Int} {n : Nat} {F1 : Hp} {A1 : List Addr} : WalkD K ct (Itr lo n) (upto lo n) F1 A1 where
  goes := fun i H F hi e sb => by rw [upto_len] at hi; exact hi
  stops := fun H F e sb => by rw [upto_len]; exact Nat.le_refl n
  yields := fun i H F A μ v H' d hd e p m y => by
    obtain ⟨rfl, rfl⟩ := y
    obtain ⟨_, rfl⟩ := upto_get hd
    exact ⟨F, .refl _, m, .int _⟩
theorem di_range1 {n : Int} (hm : X.mg "range" = none) (ha : DA X ct Γ μ [a] [.int n] μ1) (h1 : -(2 ^ 62) ≤ n) (h2 : n ≤ 16777216) (hg : Gl X "range" := by rfl) (hs : starEach [a] X.env = [(false, eval a X.env)] := by rfl) : DI X ct tg (.Call (.Name "range" p) [a] [] pos) Γ μ (upto 0 n.toNat) μ1 :=
  PI.imp (pi_range1 hg hm ha hs) fun σ H R ⟨F, A, r, q⟩ => ⟨F, A, r, fun v H' F' A' e p r' rr => by
    obtain ⟨w, rfl, h⟩ := reps1 rr
    cases h
    exact ⟨n, rfl, h1, by omega, q _ H' F' A' e p r' walkD_range (by rw [upto_len, sizeLine_eq]; omega)⟩⟩
theorem di_range2 {lo n : Int} (hm : X.mg "range" = none) (ha : DA X ct Γ μ [a, b] [.int lo, .int n] μ1) (h0 : -(2 ^ 62) ≤ lo) (h0' : lo < 2 ^ 62) (h1 : -(2 ^ 62) ≤ n) (h1' : n < 2 ^ 62) (h2 : n - lo ≤ 16777216) (hg : Gl X "range" := by rfl) (hs : starEach [a, b] X.env = [(false, eval a X.env), (false, eval b X.env)] := by rfl) (hs2 : starEach [b] X.env = [(false, eval b X.env)] := by rfl) : DI X ct tg (.Call (.Name "range" p) [a, b] [] pos) Γ μ (upto lo (n - lo).toNat) μ1 :=
  PI.imp (pi_range2 hg hm ha hs hs2) fun σ H R ⟨F, A, r, q⟩ => ⟨F, A, r, fun v H' F' A' e p r' rr => by
    obtain ⟨w, w', rfl, h, h'⟩ := reps2 rr
    cases h; cases h'
    exact ⟨lo, n, rfl, ⟨h0, h0', h1, h1'⟩, q _ H' F' A' e p r' walkD_range (by rw [upto_len, sizeLine_eq]; omega)⟩⟩
/-- enumerate -/
def enumD (l : List D) : List D := (List.range l.length).map fun i => D.tup [.int (i : Nat), l.getD i .non]
theorem enumD_len (l : List D) : (enumD l).length = l.length := by simp [enumD]
theorem enumD_get {l : List D} {i : Nat} {d : D} (h : (enumD l)[i]? = some d) : ∃ y, l[i]? = some y ∧ d = .tup [.int (i : Nat), y] := by
  unfold enumD at h
  rw [List.getElem?_map] at h
  by_cases hi : i < l.length
  · rw [List.getElem?_range hi] at h
    simp at h
    exact ⟨l[i], by simp [hi], by rw [← h]; simp [hi]⟩
  · rw [List.getElem?_eq_none (by simpa using hi)] at h
    simp at h
theorem walkD_enum {K : PySem.W.Frag} {ad : Addr} {vs : List V} {F1 : Hp} {A1 : List Addr} (s : SqL K F1 ad vs) (r : Reps K ct A1 F1 vs xs) : WalkD K ct (Ite K ad) (enumD xs) F1 A1 where
  goes := fun i H F hi e sb => by
    rw [enumD_len, ← r.len] at hi
    exact ⟨vs, vs[i], sqL_sub sb (e.l s), by simp [hi]⟩
  stops := fun H F e sb => ⟨vs, sqL_sub sb (e.l s), by rw [enumD_len, r.len]; exact Nat.le_refl _⟩
  yields := fun i H F A μ v H' d hd e p m y => by
    obtain ⟨T, x, rfl, hT, rfl, hx⟩ := y
    obtain ⟨y, hy, rfl⟩ := enumD_get hd
    obtain ⟨w, hw, rw'⟩ := r.get hy
    have := hx vs (sqL_sub m.sub (e.l s))
    rw [hw] at this
    cases this
    exact ⟨_, m.le_grow hT _, m.grow hT _, .tup (SqT.of upd_same) (.cons (.int _) (.cons (rw'.mono (e.trans (m.le_grow hT _)) p) .nil))⟩
theorem di_enumL {tpos : Pos} {elts : List Expr} {kk : Nat} (hm : X.mg "enumerate" = none) (h : DA X ct Γ μ [e] [d] μ1) (hd : d = .lst xs ∨ d = .scr xs) (hg : Gl X "enumerate" := by rfl) (hs : starEach [e] X.env = [(false, eval e X.env)] := by rfl) :
    DI X ct (.Tuple elts kk tpos) (.Call (.Name "enumerate" p) [e] [] pos) Γ μ (enumD xs) μ1 :=
  PI.imp (pi_enum hg hm (PA.bd h) hs) fun σ H R ⟨F, A, r, q⟩ => ⟨F, A, r, fun v H' F' A' e p r' rr bd => by
    obtain ⟨w, rfl, h⟩ := reps1 rr
    rcases hd with rfl | rfl
    · cases h with
      | lst s rs => exact ⟨_, _, rfl, SqL.of (r'.m.sub _ _ s), q _ H' F' A' e p r' (walkD_enum (SqL.of s) rs) (by rw [enumD_len, ← rs.len]; exact bd _ _ (.inl (SqL.of (r'.m.sub _ _ s))))⟩
    · cases h with
      | scr s rs => exact ⟨_, _, rfl, sqL_sub r'.m.sub s, q _ H' F' A' e p r' (walkD_enum s rs) (by rw [enumD_len, ← rs.len]; exact bd _ _ (.inl (sqL_sub r'.m.sub s)))⟩⟩

/-! ### for -/
theorem GLe.refl : ∀ Γ : Gm, GLe Γ Γ
  | [] => .nil
  | none :: Γ => .any (GLe.refl Γ)
  | some d :: Γ => .cons (GLe.refl Γ)
/-- any target, any body that has a reading -/
def gAny (X : Cx) (tg : Expr) : TG := fun v σ H Q => ∃ t, PG X tg t ∧ t v σ H Q
def sAny (X : Cx) (body : List Stmt) : TS := fun D σ H => ∃ t, PSs X body t ∧ t D σ H
theorem pg_any : PG X tg (gAny X tg) := ⟨fun pins s σ H v u Q I r ⟨t, h, q⟩ => h.run pins s σ H v u Q I r q⟩
theorem pss_any : PSs X body (sAny X body) := ⟨fun pins s σ H D I ⟨t, h, q⟩ => h.run pins s σ H D I q⟩
theorem tFor_D {wi : TI} {D : Ends} {σ : L2.St} {H F : Hp} {A : List Addr} (hwi : ∀ R, (∀ J H1 F1 A1, Le F F1 → A <+: A1 → Rl X.K ct Γ μ1 σ H1 F1 A1 → WalkD X.K ct J xs F1 A1 → xs.length ≤ sizeLine → R J H1) → wi σ H R)
    (I : Nat → Gm → Mu → Prop) (h0 : ∃ Γ0, GLe Γ0 Γ ∧ I 0 Γ0 μ1)
    (hs : ∀ i d Γ' μ', xs[i]? = some d → I i Γ' μ' → xs.length ≤ sizeLine → ∃ l, DG X ct tg d l ∧ DSs X ct body (setG Γ' l) μ' { nx := fun Γ μ => ∃ Γ0, GLe Γ0 Γ ∧ I (i + 1) Γ0 μ, ct := fun Γ μ => ∃ Γ0, GLe Γ0 Γ ∧ I (i + 1) Γ0 μ, bk := P.nx, rt := P.rt, ex := P.ex })
    (hd : ∀ Γ' μ', I xs.length Γ' μ' → P.nx Γ' μ')
    (q1 : ∀ Γ' μ' σ' H' F' A', Le F F' → A <+: A' → Rl X.K ct Γ' μ' σ' H' F' A' → P.nx Γ' μ' → D.nx σ' H')
    (q2 : ∀ d μ' v H' F' A', Le F F' → A <+: A' → Rl0 X.K ct μ' H' F' A' → Rep X.K ct A' F' v d → P.rt d μ' → D.rt v H')
    (q5 : ∀ n fs dd Γ' μ' σ' H' F' A', Le F F' → A <+: A' → Rl X.K ct Γ' μ' σ' H' F' A' → XOk X.K ct A' F' H' dd fs → P.ex n fs Γ' μ' → XW X (.ref (ct n)) dd σ' H') : tFor wi (gAny X tg) (sAny X body) D σ H := by
  refine hwi _ fun J H1 F1 A1 e1 p1 r1 wd hz => ?_
  refine ⟨fun i m σ H => ∃ Γ' μ' F A, i + m = xs.length ∧ Le F1 F ∧ A1 <+: A ∧ Rl X.K ct Γ' μ' σ H F A ∧ I i Γ' μ', ⟨xs.length, ?_⟩, ?_⟩
  · obtain ⟨Γ0, g, h⟩ := h0
    exact ⟨Γ0, μ1, F1, A1, Nat.zero_add _, .refl _, pr, ⟨r1.m, r1.s.less g⟩, h⟩
  · rintro i m σ' H' ⟨Γ', μ', F', A', hm, e', p', r', hI⟩
    cases m with
    | zero =>
      have : i = xs.length := by omega
      subst this
      exact .inl ⟨wd.stops H' F' e' r'.m.sub, q1 Γ' μ' σ' H' F' A' (e1.trans e') (p1.trans p') r' (hd Γ' μ' hI)⟩
    | succ m =>
      refine .inr ⟨wd.goes i H' F' (by omega) e' r'.m.sub, _, fun σ2 H2 z => ⟨m, Nat.lt_succ_self m, z⟩, fun v H2 hy => ?_⟩
      have hx : xs[i]? = some (xs[i]'(by omega)) := by simp
      obtain ⟨F2, e2, m2, rv⟩ := wd.yields i H' F' A' μ' v H2 _ hx e' p' r'.m hy
      obtain ⟨l, hG, hS⟩ := hs i _ Γ' μ' hx hI hz
      refine ⟨_, hG, F2, A', μ', m2, rv, fun vs hv => ⟨_, hS, F2, A', ⟨m2, (r'.s.mono e2 pr).setS hv⟩, ?_, ?_, ?_, ?_, ?_⟩⟩
      · rintro Γ3 μ3 σ3 H3 F3 A3 e3 p3 r3 ⟨Γ0, g, h⟩
        exact ⟨Γ0, μ3, F3, A3, by omega, e'.trans (e2.trans e3), p'.trans p3, ⟨r3.m, r3.s.less g⟩, h⟩
      · exact fun d3 μ3 v3 H3 F3 A3 e3 p3 r3 rr h => q2 d3 μ3 v3 H3 F3 A3 (e1.trans (e'.trans (e2.trans e3))) (p1.trans (p'.trans p3)) r3 rr h
      · exact fun Γ3 μ3 σ3 H3 F3 A3 e3 p3 r3 h => q1 Γ3 μ3 σ3 H3 F3 A3 (e1.trans (e'.trans (e2.trans e3))) (p1.trans (p'.trans p3)) r3 h
      · rintro Γ3 μ3 σ3 H3 F3 A3 e3 p3 r3 ⟨Γ0, g, h⟩
        exact ⟨Γ0, μ3, F3, A3, by omega, e'.trans (e2.trans e3), p'.trans p3, ⟨r3.m, r3.s.less g⟩, h⟩
      · exact fun n fs dd Γ3 μ3 σ3 H3 F3 A3 e3 p3 r3 x h => q5 n fs dd Γ3 μ3 σ3 H3 F3 A3 (e1.trans (e'.trans (e2.trans e3))) (p1.trans (p'.trans p3)) r3 x h
theorem ds_for (hp : PassesOwn (model X.prog X.w) X.A X.env X.xe) (hc : X.calm = true) (hi : DI X ct tg iter Γ μ xs μ1) (I : Nat → Gm → Mu → Prop) (h0 : ∃ Γ0, GLe Γ0 Γ ∧ I 0 Γ0 μ1)
    (hs : ∀ i d Γ' μ', xs[i]? = some d → I i Γ' μ' → xs.length ≤ sizeLine → ∃ l, DG X ct tg d l ∧ DSs X ct body (setG Γ' l) μ' { nx := fun Γ μ => ∃ Γ0, GLe Γ0 Γ ∧ I (i + 1) Γ0 μ, ct := fun Γ μ => ∃ Γ0, GLe Γ0 Γ ∧ I (i + 1) Γ0 μ, bk := fun Γ μ => DSs X ct rest Γ μ P, rt := P.rt, ex := P.ex })
    (hd : ∀ Γ' μ', I xs.length Γ' μ' → DSs X ct rest Γ' μ' P) (hfs : ∀ x, foldedSetIterable iter X.env x = pure x := by intro _; rfl) : DSs X ct (.For tg iter body [] pos :: rest) Γ μ P :=
  ds_cons (PS.imp (ps_for hp hc hi pg_any pss_any hfs) fun D σ H ⟨F, A, r, q1, q2, q3, q4⟩ =>
    tFor_D (P := { P with nx := fun Γ μ => DSs X ct rest Γ μ P }) (fun R k => ⟨F, A, r, k⟩) I h0 hs hd q1 q2 q4.2)

/-! ### comprehensions -/
/-- the context of a comprehension's block -/
abbrev Bk (X : Cx) (scope : Scope) (s : Shared) (H : Hp) (C : Addr) (cl : List (Str × Addr)) (fp : List Addr) : Cx := X.blk s H scope (compEnvC scope cl C X.env) fp
abbrev DTs (X : Cx) (ct : Nat → Addr) (ifs : List Expr) (Γ : Gm) (μ : Mu) (k : Bool) (μ' : Mu) : Prop := PTs X ifs (tT X.K ct Γ μ k μ')
theorem PTs.imp {ifs : List Expr} {t t' : TT} (h : PTs X ifs t) (k : ∀ σ H Q, t' σ H Q → t σ H Q) : PTs X ifs t' := ⟨fun pins s σ H Q I q => h.run pins s σ H Q I (k σ H Q q)⟩
theorem dts_nil : DTs X ct [] Γ μ true μ := PTs.imp pts_nil fun σ H Q ⟨F, A, r, q⟩ => q H F A (.refl _) pr r
theorem dts_one (h : DT X ct Γ μ c k μ1) : DTs X ct [c] Γ μ k μ1 := pts_one h
theorem tLc_D {K : PySem.W.Frag} {vs : List Nat} {g : TG} {tt : TT} {te : TE} {res : List D} (I : Nat → List D → Mu → Prop) (h0 : I 0 [] μ1)
    (hs : ∀ i d acc μ', xs[i]? = some d → I i acc μ' → ∃ l k μ2, (∀ p ∈ l, p.1 ∈ vs) ∧ (∀ v σ H Q, tG K ct d l v σ H Q → g v σ H Q) ∧ (∀ σ H Q, tT K ct (setG (wipeG Γ vs) l) μ' k μ2 σ H Q → tt σ H Q) ∧
      (k = true → ∃ y μ3, (∀ σ H Q, tD K ct (setG (wipeG Γ vs) l) μ2 y μ3 σ H Q → te σ H Q) ∧ I (i + 1) (acc ++ [y]) μ3) ∧ (k = false → I (i + 1) acc μ2))
    (hl : ∀ i acc μ', I i acc μ' → acc.length ≤ i) (hd : ∀ acc μ', I xs.length acc μ' → acc = res ∧ μ' = μ2) {wi : TI} {σ : L2.St} {H F : Hp} {A : List Addr} {Q : VK} (hwi : ∀ R, (∀ J H1 F1 A1, Le F F1 → A <+: A1 → Rl K ct Γ μ1 σ H1 F1 A1 → WalkD K ct J xs F1 A1 → xs.length ≤ sizeLine → R J H1) → wi σ H R)
    (q : ∀ v H' F' A', Le F F' → A <+: A' → Rl K ct Γ μ2 σ H' F' A' → Rep K ct A' F' v (.lst res) → Q v H') : tLc wi g tt te vs σ H Q :=
  hwi _ fun J H1 F1 A1 e1 p1 r1 wd hz D0 hD => by
    -- the list at D0 is marked: it stays as it is while the block runs, and no datum leans on it
    refine ⟨fun i m H => ∃ (acc : List D) (vacc : List V) (μ' : Mu) (F : Hp) (A : List Addr), i + m = xs.length ∧ (∀ a o, F1 a = some o → F a = some o) ∧ A1 <+: A ∧ Rl K ct Γ μ' σ H F A ∧ F D0 = some (mark (.lst vacc)) ∧ Reps K ct A F vacc acc ∧ I i acc μ', ⟨xs.length, ?_⟩, ?_⟩
    · have nA : D0 ∉ A1 := fun z => by obtain ⟨o, ho⟩ := r1.m.there _ z; rw [hD] at ho; cases ho
      have fD := r1.m.sub.free hD
      refine ⟨[], [], μ1, upd F1 D0 (mark (.lst [])), A1, Nat.zero_add _, Le.new fD, pr, ⟨⟨fun a o h => ?_, r1.m.len, r1.m.nd, fun a ha => ?_, fun k a c ha hc => ?_⟩, r1.s.mono (.new fD) pr⟩, upd_same, .nil, h0⟩
      · by_cases ha : a = D0
        · subst ha; rw [upd_same] at h ⊢; cases h; rfl
        · rw [upd_ne ha] at h ⊢; exact r1.m.sub a o h
      · obtain ⟨o, ho⟩ := r1.m.there a ha
        exact ⟨o, by rw [upd_ne (ne_of_none ho hD)]; exact ho⟩
      · have ne : a ≠ D0 := fun z => nA (z ▸ List.mem_of_getElem? ha)
        exact (r1.m.ok k a c ha hc).mono (.new fD) pr (fun f => by rw [upd_ne ne]; exact f) fun o ho _ => by rw [upd_ne ne]; exact ho
    · rintro i m H' ⟨acc, vacc, μ', F', A', hm, e', p', r', fD, rv, hI⟩
      have hv : H' D0 = some (.lst vacc) := r'.m.sub _ _ fD
      cases m with
      | zero =>
        have : i = xs.length := by omega
        subst this
        obtain ⟨rfl, rfl⟩ := hd acc μ' hI
        have le : LeR F' (upd F' D0 (.lst vacc)) := .remark fD
        have le1 : Le F1 (upd F' D0 (.lst vacc)) := fun a o h => by rw [upd_ne (ne_of_none h (r1.m.sub.free hD))]; exact e' a o h
        refine .inl ⟨wd.stops H' F' e' r'.m.sub, q _ H' (upd F' D0 (.lst vacc)) A' (e1.trans le1) (p1.trans p') ⟨⟨fun a o h => ?_, r'.m.len, r'.m.nd, r'.m.there, fun k a c ha hc => ?_⟩, r'.s.monoR le pr⟩ (.lst upd_same (rv.monoR le pr))⟩
        · by_cases ha : a = D0
          · subst ha; rw [upd_same] at h; cases h; exact hv
          · rw [upd_ne ha] at h; exact r'.m.sub a o h
        · by_cases hd' : c = .dead
          · subst hd'; trivial
          have ne : a ≠ D0 := r'.m.ne ha hc hd' fD
          exact (r'.m.ok k a c ha hc).monoR le pr (fun f => by rw [upd_ne ne]; exact f) fun o ho _ => ho
      | succ m =>
        refine .inr ⟨wd.goes i H' F' (by omega) e' r'.m.sub, _, fun H2 z => ⟨m, Nat.lt_succ_self m, z⟩, fun v H2 hy => ?_⟩
        have hx : xs[i]? = some (xs[i]'(by omega)) := by simp
        obtain ⟨F2, e2, m2, rx⟩ := wd.yields i H' F' A' μ' v H2 _ hx e' p' r'.m hy
        obtain ⟨l, k, μ3, hlv, hg, ht, hk1, hk2⟩ := hs i _ acc μ' hx hI
        refine hg _ _ _ _ ⟨F2, A', μ', m2, rx, fun ws hw => ⟨?_, ht _ _ _ ⟨F2, A', ⟨m2, ((r'.s.mono e2 pr).wipe vs).setS hw⟩, fun H3 F3 A3 e3 p3 r3 => ?_⟩⟩⟩
        · rw [wipe_setS fun p hp => ?_, wipe_wipe]
          obtain ⟨h1, _⟩ := List.of_mem_zip hp
          obtain ⟨q, hq, e⟩ := List.mem_map.mp h1
          rw [← e]
          exact hlv q hq
        have s3 : Slots K ct A3 F3 Γ σ := r'.s.mono (e2.trans e3) p3
        cases k with
        | false =>
          exact iteF ⟨acc, vacc, μ3, F3, A3, by omega, Le.trans e' (e2.trans e3), p'.trans p3, ⟨r3.m, s3⟩, e3 _ _ (e2 _ _ fD), rv.mono (e2.trans e3) p3, hk2 rfl⟩
        | true =>
          obtain ⟨y, μ4, he, hI2⟩ := hk1 rfl
          refine iteT (he _ _ _ ⟨F3, A3, r3, fun w H4 F4 A4 e4 p4 r4 rw' => ?_⟩)
          have fD4 := e4 _ _ (e3 _ _ (e2 _ _ fD))
          have hz2 : vacc.length < sizeLine := by
            have h1 := hl i acc μ' hI
            have h2 := rv.len
            omega
          refine ⟨vacc, r4.m.sub _ _ fD4, hz2, acc ++ [y], vacc ++ [w], μ4, upd F4 D0 (mark (.lst (vacc ++ [w]))), A4, by omega, fun a o h => ?_, p'.trans (p3.trans p4), ⟨⟨fun a o h => ?_, r4.m.len, r4.m.nd, fun a ha => ?_, fun k a c ha hc => ?_⟩, (s3.mono e4 p4).monoR (.remark fD4) pr⟩, upd_same, ((rv.mono (e2.trans (e3.trans e4)) (p3.trans p4)).snoc rw').monoR (.remark fD4) pr, hI2⟩
          · rw [upd_ne (ne_of_none h (r1.m.sub.free hD))]; exact e4 _ _ (e3 _ _ (e2 _ _ (e' a o h)))
          · by_cases ha : a = D0
            · subst ha; rw [upd_same] at h ⊢; cases h; rfl
            · rw [upd_ne ha] at h ⊢; exact r4.m.sub a o h
          · by_cases z : a = D0
            · subst z; exact ⟨_, upd_same⟩
            · rw [upd_ne z]; exact r4.m.there a ha
          · by_cases hd' : c = .dead
            · subst hd'; trivial
            have ne : a ≠ D0 := r4.m.ne ha hc hd' fD4
            exact (r4.m.ok k a c ha hc).monoR (.remark fD4) pr (fun f => by rw [upd_ne ne]; exact f) fun o ho _ => by rw [upd_ne ne]; exact ho
/-- [elt for tg in iter if ..] -/
theorem de_lc {ifs : List Expr} {scope : Scope} {res : List D} (own : List (Str × Nat)) (hc : X.calm = true) (hN : X.N.Nodup) (hi : DI X ct tg iter Γ μ xs μ1) (ok : BlkOk X.N X.env.scope scope own) (I : Nat → List D → Mu → Prop) (h0 : I 0 [] μ1)
    (hs : ∀ i d acc μ', xs[i]? = some d → I i acc μ' → ∃ l k μ2, (∀ p ∈ l, p.1 ∈ own.map (·.2)) ∧ (∀ s H C cl fp, DG (Bk X scope s H C cl fp) ct tg d l) ∧ (∀ s H C cl fp, DTs (Bk X scope s H C cl fp) ct ifs (setG (wipeG Γ (own.map (·.2))) l) μ' k μ2) ∧
      (k = true → ∃ y μ3, (∀ s H C cl fp, DE (Bk X scope s H C cl fp) ct (setG (wipeG Γ (own.map (·.2))) l) μ2 elt y μ3) ∧ I (i + 1) (acc ++ [y]) μ3) ∧ (k = false → I (i + 1) acc μ2))
    (hl : ∀ i acc μ', I i acc μ' → acc.length ≤ i) (hd : ∀ acc μ', I xs.length acc μ' → acc = res ∧ μ' = μ2) (hfs : ∀ x, foldedSetIterable iter X.env x = pure x := by intro _; rfl) : DE X ct Γ μ (.ListComp elt [⟨tg, iter, ifs, 0⟩] scope pos) (.lst res) μ2 := by
  refine PE.imp (pe_lc (g := fun v σ H Q => ∃ t, (∀ s H C cl fp, PG (Bk X scope s H C cl fp) tg t) ∧ t v σ H Q) (tt := fun σ H Q => ∃ t, (∀ s H C cl fp, PTs (Bk X scope s H C cl fp) ifs t) ∧ t σ H Q) (te := fun σ H Q => ∃ t, (∀ s H C cl fp, PE (Bk X scope s H C cl fp) elt t) ∧ t σ H Q) hc hN hi ok
    (fun s H C cl fp => ⟨fun pins s' σ H' v u Q I r ⟨t, h, q⟩ => (h s H C cl fp).run pins s' σ H' v u Q I r q⟩) (fun s H C cl fp => ⟨fun pins s' σ H' Q I ⟨t, h, q⟩ => (h s H C cl fp).run pins s' σ H' Q I q⟩) (fun s H C cl fp => ⟨fun pins s' σ H' Q I ⟨t, h, q⟩ => (h s H C cl fp).run pins s' σ H' Q I q⟩) hfs) fun σ H Q ⟨F, A, r, q⟩ => ?_
  refine tLc_D I h0 (fun i d acc μ' hx hI => ?_) hl hd (fun R k => ⟨F, A, r, k⟩) q
  obtain ⟨l, k, μ3, h1, h2, h3, h4, h5⟩ := hs i d acc μ' hx hI
  refine ⟨l, k, μ3, h1, fun v σ H Q q => ⟨_, h2, q⟩, fun σ H Q q => ⟨_, h3, q⟩, fun hk => ?_, h5⟩
  obtain ⟨y, μ4, h6, h7⟩ := h4 hk
  exact ⟨y, μ4, fun σ H Q q => ⟨_, h6, q⟩, h7⟩
/-- .. of elements that change nothing -/
theorem de_lcP {α : Type} {ifs : List Expr} {scope : Scope} (own : List (Str × Nat)) (as : List α) (enc : α → D) (pd : α → Bool) (g : α → D) (hc : X.calm = true) (hN : X.N.Nodup) (hi : DI X ct tg iter Γ μ (as.map enc) μ1) (ok : BlkOk X.N X.env.scope scope own)
    (hs : ∀ z ∈ as, ∃ l, (∀ p ∈ l, p.1 ∈ own.map (·.2)) ∧ (∀ s H C cl fp, DG (Bk X scope s H C cl fp) ct tg (enc z) l) ∧ (∀ s H C cl fp, DTs (Bk X scope s H C cl fp) ct ifs (setG (wipeG Γ (own.map (·.2))) l) μ1 (pd z) μ1) ∧
      (pd z = true → ∀ s H C cl fp, DE (Bk X scope s H C cl fp) ct (setG (wipeG Γ (own.map (·.2))) l) μ1 elt (g z) μ1)) (hfs : ∀ x, foldedSetIterable iter X.env x = pure x := by intro _; rfl) : DE X ct Γ μ (.ListComp elt [⟨tg, iter, ifs, 0⟩] scope pos) (.lst ((as.filter pd).map g)) μ1 := by
  refine de_lc own hc hN hi ok (fun i acc μ' => acc = ((as.take i).filter pd).map g ∧ μ' = μ1) ⟨rfl, rfl⟩ (fun i d acc μ' hx ⟨e1, e2⟩ => ?_) (fun i acc μ' ⟨e1, e2⟩ => ?_) (fun acc μ' ⟨e1, e2⟩ => ?_) hfs
  · subst e1; subst e2
    rw [List.getElem?_map, Option.map_eq_some_iff] at hx
    obtain ⟨z, hz, rfl⟩ := hx
    obtain ⟨l, h1, h2, h3, h4⟩ := hs z (List.mem_of_getElem? hz)
    have et : as.take (i + 1) = as.take i ++ [z] := by
      obtain ⟨hi, e⟩ := List.getElem?_eq_some_iff.mp hz
      rw [List.take_succ_eq_append_getElem hi, e]
    refine ⟨l, pd z, _, h1, h2, h3, fun hk => ⟨g z, _, h4 hk, ?_, rfl⟩, fun hk => ⟨?_, rfl⟩⟩
    · rw [et, List.filter_append, List.filter_cons, hk]; simp
    · rw [et, List.filter_append, List.filter_cons, hk]; simp
  · subst e1
    rw [List.length_map]
    exact Nat.le_trans (List.length_filter_le _ _) (by rw [List.length_take]; omega)
  · rw [List.length_map, List.take_length] at e1
    exact ⟨e1, e2⟩
end
end DL

namespace DL
open PySem PySem.Spec PyProof.Rows L2
open AutoSeq1 (wpAny_loadPart')
/-! ### enumerate(tuple) -/
theorem meets_enum_newT (l : Addr) (items : Array Value) :
    Meets (Builtin.«enumerate.__new__» ⟨[.type "enumerate", .ref l], []⟩) (fun _ R s => s.heap.IsTuple l items ∧
      R (.ok (.ret (.ref (s.heap.push { cls := .type "tuple_iterator", data := .fields #[.ref l, .int 0 0] }).objs.size)))
        { s with heap := (s.heap.push { cls := .type "tuple_iterator", data := .fields #[.ref l, .int 0 0] }).push { cls := .type "enumerate", data := .fields #[.none, .bool false, .ref s.heap.objs.size, rawInt 0, .none, .none] } }) :=
  .of_wp fun prog w A R s h => by
    obtain ⟨hp, g, d, tk, os⟩ := s; obtain ⟨hL, h⟩ := h
    have hsub := sub_enumerate
    have q1 : ∀ {A' : Around} {E : Value → Shared → Prop} {Q : Value → Shared → Prop}, Q (.ref hp.objs.size) ⟨hp.push { cls := .type "tuple_iterator", data := .fields #[.ref l, .int 0 0] }, g, d, tk, os⟩ → wpAny (model prog w) A' (pyIter (.ref l)) Q E ⟨hp, g, d, tk, os⟩ :=
      fun q => wpAny_pyIter_tuple (s := ⟨hp, g, d, tk, os⟩) hL q
    obtain ⟨ol, hl, _, _⟩ := id hL
    wp_walk using wpAny_loadPart' hl, q1
    refine wpAny_stack_any fun st => wpAny_pure ?_
    split
    · rename_i c _ _ _ _ _
      cases (c == Value.type "enumerate")
      · wp_walk using wpAny_loadPart' hl, q1
        exact ⟨_, rfl, h⟩
      · wp_walk using wpAny_loadPart' hl, q1
        exact ⟨_, rfl, h⟩
    · wp_walk using wpAny_loadPart' hl, q1
      exact ⟨_, rfl, h⟩
section
variable {prog : Program} {w : World} {A : Around} {E : Value → Shared → Prop} {s : Shared}
theorem call_enum_tuple {l : Addr} {items : Array Value} {Q : Value → Shared → Prop} (hL : s.heap.IsTuple l items)
    (h : ∀ h', IsEnum h' (s.heap.objs.size + 1) s.heap.objs.size 0 .none → h'.IsTupleIter s.heap.objs.size l 0 → h'.objs.size = s.heap.objs.size + 2 →
      (∀ b o, s.heap.get? b = some o → h'.get? b = some o) → Q (.ref (s.heap.objs.size + 1)) { s with heap := h' }) :
    wpAny (model prog w) A (call (.type "enumerate") [.ref l]) Q E s := by
  refine callType_new F.called_enumerate (by decide) (F.typeCall_enumerate_1 _) (F.newCall_enumerate_1 _) (fun obj => F.args_object_init_2 obj _) F.entry_enumerate_new
    (meets_enum_newT l items) ⟨hL, ?_⟩
  have hz : (s.heap.push { cls := .type "tuple_iterator", data := .fields #[.ref l, .int 0 0] }).objs.size = s.heap.objs.size + 1 := Heap.size_push ..
  show _ ∧ _
  rw [hz]
  have he : IsEnum ((s.heap.push { cls := .type "tuple_iterator", data := .fields #[.ref l, .int 0 0] }).push
      { cls := .type "enumerate", data := .fields #[.none, .bool false, .ref s.heap.objs.size, rawInt 0, .none, .none] }) (s.heap.objs.size + 1) s.heap.objs.size 0 .none := by
    have := Heap.get?_push_size (s.heap.push { cls := .type "tuple_iterator", data := .fields #[.ref l, .int 0 0] })
      (o := { cls := .type "enumerate", data := .fields #[.none, .bool false, .ref s.heap.objs.size, rawInt 0, .none, .none] }) rfl
    rw [hz] at this; exact this
  refine ⟨⟨_, he, rfl⟩, h _ he ⟨_, Heap.get?_push_of_some _ (Heap.get?_push_size _ rfl), rfl, rfl⟩ (by rw [Heap.size_push, hz]) fun b o x => Heap.get?_push_of_some _ (Heap.get?_push_of_some _ x)⟩
end
/-- the tuple at a, each item in a new pair -/
def IteT (K : PySem.W.Frag) (a : Addr) : It :=
  ⟨fun i H => ∃ (xs : List V) (x : V), SqT K H a xs ∧ xs[i]? = some x, fun i H v H' => ∃ T x, v = .ref T ∧ H T = none ∧ H' = upd H T (.tup [.int (i : Nat), x]) ∧ ∀ xs, SqT K H a xs → xs[i]? = some x, fun i H => ∃ xs : List V, SqT K H a xs ∧ xs.length ≤ i⟩
theorem turn_enumT {P : Program} {w : World} {K : PySem.W.Frag} {elts : List Expr} {kk : Nat} {tpos : Pos} (a e it : Addr) (hae : a ≠ e) (hai : a ≠ it) :
    Turn P w K (.Tuple elts kk tpos) (IteT K a) [e, it] e (fun i h => (∃ old, IsEnum h e it ((i : Nat) : Int) old) ∧ h.IsTupleIter it a i ∧ e ≠ it) where
  mem := by simp
  obj := fun i h st b hb => by
    obtain ⟨⟨old, he⟩, ⟨o, ho, hc, hd⟩, _⟩ := st
    have e' : b = e ∨ b = it := by simpa using hb
    rcases e' with z | z
    · rw [z]; exact ⟨_, he, fun v q => nomatch q⟩
    · rw [z]; exact ⟨o, ho, fun v q => by rw [hd] at q; cases q⟩
  keep := fun i h h' st k => let ⟨⟨old, he⟩, hi, hne⟩ := st; ⟨⟨old, k e (by simp) _ he⟩, hi.at fun o q => k it (by simp) o q, hne⟩
  item := by
    intro X hP hw hK hc i pins s σ H E I hf st hg
    subst hP hw hK
    obtain ⟨⟨old, he⟩, hit, hne⟩ := st
    obtain ⟨xs, x, hq, hx⟩ := hg
    obtain ⟨its, rv, p, hz⟩ := I.tuple hq
    obtain ⟨u, hu, ru⟩ := rv.get hx
    have hel : e < s.heap.objs.size := Heap.lt_size he
    have hil : it < s.heap.objs.size := by obtain ⟨_, q, _⟩ := hit; exact Heap.lt_size q
    have hlt : i < its.toArray.size := by have := (List.getElem?_eq_some_iff.mp hu).1; simpa using this
    have hh : X.A.handled = none := I.ok.hd hc
    refine wpAny_pyNext_enum_itemD (Draws.tuple (A := X.A.in1) hh it a hai its.toArray) he ⟨hit, p⟩ hlt hne (by simp; exact ⟨hne, Ne.symm hae⟩) fun x' h' tk hx' ho st' hT hsz hk => ?_
    obtain ⟨hit', _⟩ := st'
    have eu : x' = u := by
      have h1 : its.toArray[i]? = some x' := hx'
      have h2 : its.toArray[i]? = some u := by simpa using hu
      rw [h1] at h2; exact Option.some.inj h2
    subst eu
    refine ⟨_, rfl, wpAny_letOwnedTupleGo_enum (s := { s with heap := h', toks := tk + 1 }) ho fun h'' he' sb => ?_⟩
    have hT2 : h''.get? s.heap.objs.size = some { cls := .type "tuple", data := .seq #[.int i tk, x'] } := (sb.2 _ (Nat.ne_of_gt hel)).trans hT
    have new : ObjOk X.prog X.w (upd H s.heap.objs.size (.tup [.int (i : Nat), x])) h'' s.heap.objs.size (.tup [.int (i : Nat), x]) :=
      ⟨by show 2 ≤ sizeLine; decide, [.int i tk, x'], .cons ⟨_, rfl⟩ (.cons ru .nil), ⟨_, hT2, rfl, _, rfl⟩⟩
    have I1 : Inv X pins σ (upd H s.heap.objs.size (.tup [.int (i : Nat), x])) { s with heap := h'', toks := tk + 1 } :=
      I.turnedNew (ch := [e, it]) (fun b ob hb q => (sb.2 b (fun z => hb (by simp [z]))).trans (hk b ob (fun z => hb (by simp [z])) (fun z => hb (by simp [z])) q)) hf (Nat.le_refl _) new
    refine ⟨.ref s.heap.objs.size, _, I1, rfl, ⟨_, x, rfl, I.hok.fresh (Nat.le_refl _), rfl, fun ys hy => by rw [I.tuple_inj hy hq]; exact hx⟩, ⟨⟨x', ?_⟩, hit'.at fun o q => (sb.2 it (Ne.symm hne)).trans q, hne⟩, fun b hb => ?_⟩
    · have e1 : ((i + 1 : Nat) : Int) = (i : Int) + 1 := by omega
      rw [e1]; exact he'
    · have hb' : b < s.heap.objs.size := by
        have e' : b = e ∨ b = it := by simpa using hb
        rcases e' with z | z
        · rw [z]; exact hel
        · rw [z]; exact hil
      rw [upd_ne (Nat.ne_of_lt hb')]
      exact (hf b hb).1
  done := by
    intro X hP hw hK hc i pins s σ H E I hf st hg
    subst hP hw hK
    obtain ⟨⟨old, he⟩, hit, hne⟩ := st
    obtain ⟨xs, hq, hx⟩ := hg
    obtain ⟨its, rv, p, hz⟩ := I.tuple hq
    obtain ⟨f0, f1, f2, f3, f4, f5⟩ := hf it (by simp)
    have hl := rv.length
    have hh : X.A.handled = none := I.ok.hd hc
    -- done at any place from the end on
    have hT : s.TypeIs (.ref e) "enumerate" := ⟨_, he, rfl⟩
    unfold pyNext
    refine wpAny_bind (wpAny_attempt (wpAny_callSpecial?_slot (name := Str.ofString "__next__") hT F.slot_enumerate_next
      (wpAny_call_entry F.slot_enumerate_next hT F.entry_enumerate_next ?_ (F.args_enumerate_next_1 _))))
    show wpAny _ _ (field (.ref e) 2 >>= _) _ _ _
    refine wpAny_bind (wpAny_field he rfl (x := .ref it) rfl ?_)
    refine wpAny_bind (wpAny_nextOf_tuple_end (A := X.A.in1) hh hit p (by simp; omega) fun h' x he' hx' => ?_)
    obtain ⟨o, ho, hc'⟩ := hx'
    refine wpAny_bind (wpAny_isInstance (T := "StopIteration") (b := true) ⟨o, ho, hc'⟩ isSubtype_stop ?_)
    exact wpAny_pure ⟨rfl, I.turned (t' := s.toks) (fun b o hb q => he' b o hb q) f0 f1 f3 f4 f5⟩
  self := fun A i s Q E st h => let ⟨⟨_, he⟩, _⟩ := st; wpAny_pyIter_enum he h
def iEnumT (K : PySem.W.Frag) (ta : TA) : TI := fun σ H R => ta σ H fun vs H1 => ∃ a xs, vs = [.ref a] ∧ SqT K H1 a xs ∧ R (IteT K a) H1
theorem pi_enumT {X : Cx} {e : Expr} {ta : TA} {p pos tpos : Pos} {elts : List Expr} {kk : Nat} (hg : Gl X "enumerate") (hm : X.mg "enumerate" = none) (ha : PA X [e] ta) (hs : starEach [e] X.env = [(false, eval e X.env)] := by rfl) :
    PI X (.Tuple elts kk tpos) (.Call (.Name "enumerate" p) [e] [] pos) (iEnumT X.K ta) := by
  refine ⟨fun pins s σ H R I h => ?_⟩
  refine Call_ (ld_blt I hg hm boot_enumerate (PyProof.Rows.callWith_type1 (thn (ha.run pos pins s σ H _ I h) fun us s1 ⟨vs, H1, I1, r1, q1⟩ => ?_) hs rfl))
  obtain ⟨a, xs, ex, hq, q⟩ := q1
  subst ex
  cases r1 with
  | cons r rr =>
    cases rr
    cases r
    obtain ⟨its, rv, p', hz⟩ := I1.tuple hq
    have hal : a < s1.heap.objs.size := by obtain ⟨_, q, _⟩ := p'; exact Heap.lt_size q
    refine call_enum_tuple p' fun h' he hit hsz hk => wpAny_pyIter_enum he ?_
    have I2 : Inv X pins σ H1 { s1 with heap := h' } := I1.kept (t' := s1.toks) hk
    refine ⟨s1.heap.objs.size + 1, [s1.heap.objs.size + 1, s1.heap.objs.size], _, _, H1, rfl, I2, turn_enumT a (s1.heap.objs.size + 1) s1.heap.objs.size (Nat.ne_of_lt (Nat.lt_succ_of_lt hal)) (Nat.ne_of_lt hal), ⟨⟨.none, he⟩, hit, Nat.succ_ne_self _⟩, fun b hb => ?_, q⟩
    have e' : b = s1.heap.objs.size + 1 ∨ b = s1.heap.objs.size := by simpa using hb
    have hle : s1.heap.objs.size ≤ b := by
      rcases e' with z | z
      · rw [z]; exact Nat.le_add_right _ _
      · rw [z]; exact Nat.le_refl _
    exact I1.fpOk hle (I1.hok.fresh hle)
section
variable {X : Cx} {ct : Nat → Addr} {Γ : Gm} {μ μ1 : Mu} {xs : List D} {d : D} {e : Expr} {p pos : Pos}
theorem walkD_enumT {K : PySem.W.Frag} {ad : Addr} {vs : List V} {F1 : Hp} {A1 : List Addr} (s : SqT K F1 ad vs) (r : Reps K ct A1 F1 vs xs) : WalkD K ct (IteT K ad) (enumD xs) F1 A1 where
  goes := fun i H F hi e sb => by
    rw [enumD_len, ← r.len] at hi
    exact ⟨vs, vs[i], sqT_sub sb (e.t s), by simp [hi]⟩
  stops := fun H F e sb => ⟨vs, sqT_sub sb (e.t s), by rw [enumD_len, r.len]; exact Nat.le_refl _⟩
  yields := fun i H F A μ v H' d hd e p m y => by
    obtain ⟨T, x, rfl, hT, rfl, hx⟩ := y
    obtain ⟨y, hy, rfl⟩ := enumD_get hd
    obtain ⟨w, hw, rw'⟩ := r.get hy
    have := hx vs (sqT_sub m.sub (e.t s))
    rw [hw] at this
    cases this
    exact ⟨_, m.le_grow hT _, m.grow hT _, .tup (SqT.of upd_same) (.cons (.int _) (.cons (rw'.mono (e.trans (m.le_grow hT _)) p) .nil))⟩
theorem di_enumT {tpos : Pos} {elts : List Expr} {kk : Nat} (hm : X.mg "enumerate" = none) (h : DA X ct Γ μ [e] [.tup xs] μ1) (hg : Gl X "enumerate" := by rfl) (hs : starEach [e] X.env = [(false, eval e X.env)] := by rfl) :
    DI X ct (.Tuple elts kk tpos) (.Call (.Name "enumerate" p) [e] [] pos) Γ μ (enumD xs) μ1 :=
  PI.imp (pi_enumT hg hm (PA.bd h) hs) fun σ H R ⟨F, A, r, q⟩ => ⟨F, A, r, fun v H' F' A' e p r' rr bd => by
    obtain ⟨w, rfl, h⟩ := reps1 rr
    cases h with
    | tup s rs => exact ⟨_, _, rfl, sqT_sub r'.m.sub s, q _ H' F' A' e p r' (walkD_enumT s rs) (by rw [enumD_len, ← rs.len]; exact bd _ _ (.inr (sqT_sub r'.m.sub s)))⟩⟩
/-- enumerate of any sequence -/
theorem di_enum {tpos : Pos} {elts : List Expr} {kk : Nat} (hm : X.mg "enumerate" = none) (h : DE X ct Γ μ e d μ1) (hd : isSeq d = some xs) (hg : Gl X "enumerate" := by rfl) (hs : starEach [e] X.env = [(false, eval e X.env)] := by rfl) :
    DI X ct (.Tuple elts kk tpos) (.Call (.Name "enumerate" p) [e] [] pos) Γ μ (enumD xs) μ1 := by
  have ha : DA X ct Γ μ [e] [d] μ1 := da_cons h da_nil hs
  cases d <;> simp [isSeq] at hd
  case tup l => subst hd; exact di_enumT hm ha hg hs
  case lst l => subst hd; exact di_enumL hm ha (.inl rfl) hg hs
  case scr l => subst hd; exact di_enumL hm ha (.inr rfl) hg hs
end
end DL

namespace DL
open PySem PySem.Spec PyProof.Rows L2
/-! ### sorting, plain -/
def insI (x : Int) : List Int → List Int
  | [] => [x]
  | y :: l => if x ≤ y then x :: y :: l else y :: insI x l
def sortI : List Int → List Int
  | [] => []
  | x :: l => insI x (sortI l)
theorem insI_perm (x : Int) : ∀ l, (insI x l).Perm (x :: l)
  | [] => .refl _
  | y :: l => by
    unfold insI
    split
    · exact .refl _
    · exact ((insI_perm x l).cons y).trans (.swap x y l)
theorem sortI_perm : ∀ l, (sortI l).Perm l
  | [] => .refl _
  | x :: l => (insI_perm x (sortI l)).trans ((sortI_perm l).cons x)
theorem insI_sorted (x : Int) : ∀ l : List Int, l.Pairwise (· ≤ ·) → (insI x l).Pairwise (· ≤ ·)
  | [], _ => by unfold insI; simp
  | y :: l, h => by
    unfold insI
    rw [List.pairwise_cons] at h
    split
    · rename_i hxy
      rw [List.pairwise_cons]
      refine ⟨fun z hz => ?_, by rw [List.pairwise_cons]; exact h⟩
      rcases List.mem_cons.mp hz with rfl | hz
      · exact hxy
      · exact Int.le_trans hxy (h.1 z hz)
    · rename_i hxy
      rw [List.pairwise_cons]
      refine ⟨fun z hz => ?_, insI_sorted x l h.2⟩
      rcases List.mem_cons.mp ((insI_perm x l).mem_iff.mp hz) with rfl | hz
      · omega
      · exact h.1 z hz
theorem sortI_sorted : ∀ l : List Int, (sortI l).Pairwise (· ≤ ·)
  | [] => .nil
  | x :: l => insI_sorted x _ (sortI_sorted l)
theorem sorted_eq : ∀ {l m : List Int}, l.Perm m → l.Pairwise (· ≤ ·) → m.Pairwise (· ≤ ·) → l = m
  | [], m, p, _, _ => by rw [p.nil_eq]
  | x :: l, [], p, _, _ => by have := p.length_eq; simp at this
  | x :: l, y :: m, p, hl, hm => by
    rw [List.pairwise_cons] at hl hm
    have h1 : x ≤ y := by
      rcases List.mem_cons.mp (p.mem_iff.mpr (List.mem_cons_self (a := y) (l := m))) with e | e
      · omega
      · exact hl.1 y e
    have h2 : y ≤ x := by
      rcases List.mem_cons.mp (p.mem_iff.mp (List.mem_cons_self (a := x) (l := l))) with e | e
      · omega
      · exact hm.1 x e
    have e : x = y := by omega
    subst e
    rw [sorted_eq p.cons_inv hl.2 hm.2]
theorem sortI_eq {l m : List Int} (p : m.Perm l) (h : m.Pairwise (· ≤ ·)) : m = sortI l := sorted_eq (p.trans (sortI_perm l).symm) h (sortI_sorted l)

section
variable {X : Cx} {ct : Nat → Addr} {Γ Γ1 Γ2 : Gm} {μ μ1 μ2 μ3 : Mu} {d da db dc : D} {ds xs l m : List D} {e a b c o tg elt iter : Expr} {es tgs : List Expr} {st : Stmt} {rest sa sb body : List Stmt} {pos p tp apos : Pos} {x f : Str} {k k' : Bool} {P P' : P4}
/-! ### more built-ins -/
inductive SeqM (μ : Mu) : D → List D → Prop
  | seq {d : D} {l : List D} (h : isSeq d = some l) : SeqM μ d l
  | cell {j : Nat} {l : List D} (h : μ[j]? = some (.lst l)) : SeqM μ (.ptr j) l
theorem SeqM.get {K : PySem.W.Frag} {H F : Hp} {A : List Addr} {v : V} (h : SeqM μ d l) (m : Rl0 K ct μ H F A) (r : Rep K ct A F v d) : ∃ a vs, v = .ref a ∧ (SqL K H a vs ∨ SqT K H a vs) ∧ Reps K ct A F vs l := by
  cases h with
  | seq e => obtain ⟨a, vs, rfl, s, rr⟩ := rep_seq r e; exact ⟨a, vs, rfl, s.imp (sqL_sub m.sub) (sqT_sub m.sub), rr⟩
  | cell e => cases r with
    | ptr s => obtain ⟨_, vs, hv, rr⟩ := m.ok _ _ _ s e; exact ⟨_, vs, rfl, .inl (SqL.of hv), rr⟩
theorem SeqM.list {K : PySem.W.Frag} {H F : Hp} {A : List Addr} {v : V} (h : SeqM μ d l) (nt : ∀ z, d ≠ .tup z) (m : Rl0 K ct μ H F A) (r : Rep K ct A F v d) : ∃ a vs, v = .ref a ∧ SqL K H a vs ∧ Reps K ct A F vs l := by
  cases h with
  | seq e =>
    cases r <;> simp [isSeq] at e
    case tup => exact absurd rfl (nt _)
    case lst s rr => subst e; exact ⟨_, _, rfl, SqL.of (m.sub _ _ s), rr⟩
    case scr s rr => subst e; exact ⟨_, _, rfl, sqL_sub m.sub s, rr⟩
  | cell e => cases r with
    | ptr s => obtain ⟨_, vs, hv, rr⟩ := m.ok _ _ _ s e; exact ⟨_, vs, rfl, SqL.of hv, rr⟩
theorem c1_tuple (hl : SeqM μ d l) : C1 X ct (.type "tuple") μ [d] (.tup l) := c1_of call_tuple_of fun xs H F A Q m r k => by
  obtain ⟨v, rfl, h⟩ := reps1 r
  by_cases nt : ∃ z, d = .tup z
  · obtain ⟨z, rfl⟩ := nt
    cases hl with
    | seq e =>
      cases e
      cases h with
      | tup s rr => exact ⟨_, _, rfl, .inr ⟨sqT_sub m.sub s, k _ H F (.refl _) m (.tup s rr)⟩⟩
  · obtain ⟨a, vs, rfl, s, rr⟩ := hl.list (fun z e => nt ⟨z, e⟩) m h
    exact ⟨a, vs, rfl, .inl ⟨s, new_tup m rr k⟩⟩
theorem c1_list (hl : SeqM μ d l) : C1 X ct (.type "list") μ [d] (.lst l) := c1_of call_list_of fun xs H F A Q m r k => by
  obtain ⟨v, rfl, h⟩ := reps1 r
  obtain ⟨a, vs, rfl, s, rr⟩ := hl.get m h
  exact ⟨a, vs, rfl, s, new_lst m rr k⟩
/-- the same, the new list a place of the store -/
theorem de_listM (hm : X.mg "list" = none) (ha : DE X ct Γ μ e d μ1) (hl : SeqM μ1 d l) (hg : Gl X "list" := by rfl) (he : starEach [e] X.env = (false, eval e X.env) :: starEach [] X.env := by rfl) : DE X ct Γ μ (.Call (.Name "list" p) [e] [] pos) (.ptr μ1.length) (μ1 ++ [.lst l]) :=
  PE.imp (pe_callTy call_list_of hg hm boot_list (da_cons ha da_nil he) (by decide) (by decide) he rfl) fun σ H Q ⟨F, A, r, q⟩ => ⟨F, A, r, fun vs H1 F1 A1 e1 p1 r1 h1 => by
    obtain ⟨v, rfl, h⟩ := reps1 h1
    obtain ⟨a, vs, rfl, s, rr⟩ := hl.get r1.m h
    exact ⟨a, vs, rfl, s, fun p hp => new_cell (c := .lst l) r1 hp ⟨r1.m.sub.free hp, vs, upd_same, rr.mono (.refl _) (List.prefix_append _ _)⟩ fun v H' F' A' e' p' r' h' => q v H' F' A' (e1.trans e') (p1.trans p') r' h'⟩⟩
/-- dict(d): a copy, a place of the store -/
theorem call_dict_copy : CallR X (.type "dict") (fun xs H Q => ∃ a kvs, xs = [.ref a] ∧ Rd H a (.dK kvs) ∧ ∀ p, H p = none → Q (.ref p) (upd H p (.dK kvs))) := by
  intro pins s σ H xs us Q I r ⟨a, kvs, ex, h, q⟩
  subst ex
  cases r with
  | cons r1 r2 =>
    cases r2
    cases r1
    exact d_copyOf I h fun p s' hp I' => ⟨.ref p, _, I', rfl, q p hp⟩
theorem de_dictM {kds : List (Key × D)} (hm : X.mg "dict" = none) (ha : DE X ct Γ μ e (.dic kds) μ1) (hg : Gl X "dict" := by rfl) (he : starEach [e] X.env = (false, eval e X.env) :: starEach [] X.env := by rfl) : DE X ct Γ μ (.Call (.Name "dict" p) [e] [] pos) (.ptr μ1.length) (μ1 ++ [.dic kds]) :=
  PE.imp (pe_callTy call_dict_copy hg hm boot_dict (da_cons ha da_nil he) (by decide) (by decide) he rfl) fun σ H Q ⟨F, A, r, q⟩ => ⟨F, A, r, fun vs H1 F1 A1 e1 p1 r1 h1 => by
    obtain ⟨v, rfl, h⟩ := reps1 h1
    cases h with
    | dic s k1 k2 =>
      exact ⟨_, _, rfl, r1.m.sub.r.rd _ _ rfl s, fun p hp => new_cell (c := .dic kds) r1 hp ⟨r1.m.sub.free hp, _, upd_same, k1, k2.mono (.refl _) (List.prefix_append _ _)⟩ fun v H' F' A' e' p' r' h' => q v H' F' A' (e1.trans e') (p1.trans p') r' h'⟩⟩
theorem c1_sortI {ns : List Int} (hl : SeqM μ d (ns.map .int)) (nt : ∀ z, d ≠ .tup z) : C1 X ct (.builtin "sorted") μ [d] (.lst ((sortI ns).map .int)) := c1_of cr_sortedI fun xs H F A Q m r k => by
  obtain ⟨v, rfl, h⟩ := reps1 r
  obtain ⟨a, vs, rfl, s, rr⟩ := hl.list nt m h
  rw [rr.of_ints] at s
  refine ⟨a, ns, rfl, s, fun ns' p hp hs hn => ?_⟩
  rw [sortI_eq hp hs]
  exact new_lst m (.ints _) k p hn
theorem c1_str {s : Str} : C1 X ct (.type "str") μ [.str s] (.str s) := c1_of SkE.call_str_str fun xs H F A Q m r k => by
  obtain ⟨v, rfl, h⟩ := reps1 r
  cases h
  exact ⟨_, rfl, k _ H F (.refl _) m (.str _)⟩
theorem c1_any {bs : List Bool} (hc : X.calm = true) (hl : SeqM μ d (bs.map .bl)) (nt : ∀ z, d ≠ .tup z) : C1 X ct (.builtin "any") μ [d] (.bl (bs.any id)) := c1_of (cr_any hc) fun xs H F A Q m r k => by
  obtain ⟨v, rfl, h⟩ := reps1 r
  obtain ⟨a, vs, rfl, s, rr⟩ := hl.list nt m h
  rw [rr.of_bls] at s
  exact ⟨a, bs, rfl, s, k _ H F (.refl _) m (.bl _)⟩
theorem c1_all {bs : List Bool} (hc : X.calm = true) (hl : SeqM μ d (bs.map .bl)) (nt : ∀ z, d ≠ .tup z) : C1 X ct (.builtin "all") μ [d] (.bl (bs.all id)) := c1_of (cr_all hc) fun xs H F A Q m r k => by
  obtain ⟨v, rfl, h⟩ := reps1 r
  obtain ⟨a, vs, rfl, s, rr⟩ := hl.list nt m h
  rw [rr.of_bls] at s
  exact ⟨a, bs, rfl, s, k _ H F (.refl _) m (.bl _)⟩
/-! ### isinstance -/
def tyName : D → Option String
  | .non => some "NoneType"
  | .bl _ => some "bool"
  | .int _ => some "int"
  | .str _ => some "str"
  | .tup _ => some "tuple"
  | .lst _ => some "list"
  | .scr _ => some "list"
  | _ => none
theorem rep_ty {K : PySem.W.Frag} {H F : Hp} {A : List Addr} {v : V} {T : String} (m : Rl0 K ct μ H F A) (h : Rep K ct A F v d) (e : tyName d = some T) : TyX K H v (.type T) := by
  cases h <;> simp [tyName] at e <;> subst e
  case non => exact .base .non
  case bl => exact .base (.bl _)
  case int => exact .base (.int _)
  case str => exact .base (.str _)
  case tup s r =>
    rcases sqT_sub m.sub s with (s | ⟨o, s⟩) | ⟨o, its, n, s, hc, _⟩
    · exact .base (.tup s)
    · exact .fTuple s
    · exact .kTuple s hc
  case lst s r => exact .base (.lst (m.sub _ _ s))
  case scr s r =>
    rcases sqL_sub m.sub s with (s | ⟨o, s⟩) | ⟨o, its, n, s, hc, _⟩
    · exact .base (.lst s)
    · exact .base (.frz s)
    · exact .kList s hc
theorem c1_isi {T U : String} (e : tyName d = some T) (h : kitB T U = some k) : C1 X ct (.builtin "isinstance") μ [d, .raw (.ty U)] (.bl k) := c1_of call_isi fun xs H F A Q m r q => by
  obtain ⟨v, w, rfl, h1, h2⟩ := reps2 r
  cases h2
  exact ⟨v, .ty U, _, _, k, rfl, .ty U, rep_ty m h1 e, kit_ty h, q _ H F (.refl _) m (.bl _)⟩
theorem de_isi2 {T U V' : String} {k1 k2 : Bool} {x1 : Str} {x2 : Str} {q1 q2 q3 : Pos} {kk : Nat} (hm : X.mg "isinstance" = none) (e : tyName d = some T) (h1 : kitB T U = some k1) (h2 : kitB T V' = some k2) (he : DE X ct Γ μ a d μ1)
    (hb : PE X b (tC (.ty U))) (hc : PE X c (tC (.ty V'))) (hg : Gl X "isinstance" := by rfl) (hs1 : starEach [a, .Tuple [b, c] kk q1] X.env = (false, eval a X.env) :: starEach [.Tuple [b, c] kk q1] X.env := by rfl)
    (hs2 : starEach [.Tuple [b, c] kk q1] X.env = (false, eval (.Tuple [b, c] kk q1) X.env) :: starEach [] X.env := by rfl) (hs3 : starEach [b, c] X.env = (false, eval b X.env) :: starEach [c] X.env := by rfl) (hs4 : starEach [c] X.env = (false, eval c X.env) :: starEach [] X.env := by rfl)
    (hpl : (backTo pos (starEach [.Tuple [b, c] kk q1] X.env)).any (·.1) = false := by rfl) : DE X ct Γ μ (.Call (.Name "isinstance" p) [a, .Tuple [b, c] kk q1] [] pos) (.bl (k1 || k2)) μ1 := by
  refine PE.imp (pe_callB call_isiT hg hm boot_isinstance (pa_cons he (pa_cons (pe_tup (pa_cons hb (pa_cons hc pa_nil hs4) hs3)) pa_nil hs2) hs1) (by decide) (by decide) hs1 hpl) fun σ H Q ⟨F, A, r, q⟩ => ⟨F, A, r, fun v H1 F1 A1 e1 p1 r1 h1' => ⟨by show 2 ≤ sizeLine; decide, fun pp hp => ?_⟩⟩
  have g := r1.m.grow hp (.tup [.ty U, .ty V'])
  have le := r1.m.le_grow hp (.tup [.ty U, .ty V'])
  exact ⟨v, pp, _, _, _, k1 || k2, rfl, upd_same, .cons (.ty U) (.cons (.ty V') .nil), rep_ty g (h1'.mono le pr) e, kitAny_cons (kit_ty h1) (fun z => kitAny_cons (b := k2) (r := k1 || k2) (kit_ty h2) (fun z2 => by rw [z, z2]; exact kitAny_nil) (fun z2 => by rw [z2]; simp)) (fun z => by rw [z]; rfl), q _ _ _ A1 (e1.trans le) p1 ⟨g, r1.s.mono le pr⟩ (.bl _)⟩
/-! ### methods of built-in types -/
/-- what must be seen of o.m(e) in the text -/
structure Bm (X : Cx) (o : Expr) (m : Str) (apos : Pos) (e : Expr) (cpos : Pos) : Prop where
  base : attributeBase o m X.env (eval o X.env) = eval o X.env
  few : ((backTo cpos (starEach [e] X.env)).all (fun x => !x.1) && (backToKw cpos (keywordEach [] X.env)).all (fun x => x.1.isSome)
    && decide (([e] : List Expr).length + ([] : List Keyword).length + (if ([] : List Keyword).isEmpty then 0 else 1) < 30)) = true
  line : (apos.endLine == cpos.line) = true
  hs : starEach [e] X.env = (false, eval e X.env) :: starEach [] X.env
  trees : backTo cpos (starEach [e] X.env) = [(false, eval e X.env)]
  pl : (backTo cpos (starEach [] X.env)).any (·.1) = false
theorem Bm.m1 {mm : Str} (b : Bm X o mm apos e pos) : M1 X o mm apos e pos := ⟨b.base, b.few, b.line, b.trees⟩
theorem nt_lst {l : List D} : ∀ z, D.lst l ≠ .tup z := fun z h => by cases h
theorem nt_ptr {j : Nat} : ∀ z, D.ptr j ≠ .tup z := fun z h => by cases h
theorem nt_scr {l : List D} : ∀ z, D.scr l ≠ .tup z := fun z h => by cases h
theorem de_append {j : Nat} (ho : DE X ct Γ μ o (.ptr j) μ1) (he : DE X ct Γ μ1 e d μ2) (hm1 : ∃ l0, μ1[j]? = some (.lst l0)) (hm : μ2[j]? = some (.lst l)) (hz : l.length < sizeLine)
    (bm : Bm X o "append" apos e pos := by exact ⟨rfl, rfl, rfl, rfl, rfl, rfl⟩) : DE X ct Γ μ (.Call (.Attribute o "append" apos) [e] [] pos) .non (μ2.set j (.lst (l ++ [d]))) := by
  refine PE.imp (pe_bm PySem.F.plainAttrs_list PySem.F.slot_list_append PySem.F.type_list_append mt_append ho (da_cons he da_nil bm.hs) bm.base bm.few bm.line bm.hs bm.pl) fun σ H Q ⟨F, A, r, q⟩ => ⟨F, A, r, fun v H1 F1 A1 e1 p1 r1 h1 => ?_⟩
  cases h1 with
  | ptr s =>
    obtain ⟨l0, hm0⟩ := hm1
    obtain ⟨_, vs0, hv0, _⟩ := r1.m.ok _ _ _ s hm0
    refine ⟨.inl ⟨rfl, _, SqL.of hv0⟩, F1, A1, r1, fun ws H2 F2 A2 e2 p2 r2 h2 => ?_⟩
    obtain ⟨w, rfl, h3⟩ := reps1 h2
    have s2 := pre_get p2 s
    obtain ⟨fn, vs, hv, rr⟩ := r2.m.ok _ _ _ s2 hm
    refine ⟨_, vs, w, rfl, rfl, hv, by rw [rr.len]; exact hz, q _ _ F2 A2 (e1.trans e2) (p1.trans p2) ⟨r2.m.write s2 ‹_› (by simp) fn (c := .lst (l ++ [d])) ⟨fn, _, upd_same, rr.snoc h3⟩, r2.s⟩ .non⟩
theorem de_extend {j : Nat} (ho : DE X ct Γ μ o (.ptr j) μ1) (he : DE X ct Γ μ1 e (.lst m) μ2) (hm1 : ∃ l0, μ1[j]? = some (.lst l0)) (hm : μ2[j]? = some (.lst l)) (hz : l.length + m.length ≤ sizeLine)
    (bm : Bm X o "extend" apos e pos := by exact ⟨rfl, rfl, rfl, rfl, rfl, rfl⟩) : DE X ct Γ μ (.Call (.Attribute o "extend" apos) [e] [] pos) .non (μ2.set j (.lst (l ++ m))) := by
  refine PE.imp (pe_bm PySem.F.plainAttrs_list PySem.F.slot_list_extend PySem.F.type_list_extend mt_extend ho (da_cons he da_nil bm.hs) bm.base bm.few bm.line bm.hs bm.pl) fun σ H Q ⟨F, A, r, q⟩ => ⟨F, A, r, fun v H1 F1 A1 e1 p1 r1 h1 => ?_⟩
  cases h1 with
  | ptr s =>
    obtain ⟨l0, hm0⟩ := hm1
    obtain ⟨_, vs0, hv0, _⟩ := r1.m.ok _ _ _ s hm0
    refine ⟨.inl ⟨rfl, _, SqL.of hv0⟩, F1, A1, r1, fun ws H2 F2 A2 e2 p2 r2 h2 => ?_⟩
    obtain ⟨w, rfl, h3⟩ := reps1 h2
    have s2 := pre_get p2 s
    obtain ⟨fn, vs, hv, rr⟩ := r2.m.ok _ _ _ s2 hm
    cases h3 with
    | lst s3 rr3 =>
      refine ⟨_, _, vs, _, rfl, rfl, hv, r2.m.sub _ _ s3, by rw [rr.len, rr3.len]; exact hz, q _ _ F2 A2 (e1.trans e2) (p1.trans p2) ⟨r2.m.write s2 ‹_› (by simp) fn (c := .lst (l ++ m)) ⟨fn, _, upd_same, rr.app rr3⟩, r2.s⟩ .non⟩
theorem de_count {ns : List Int} {i : Int} (ho : DE X ct Γ μ o d μ1) (hl : SeqM μ1 d (ns.map .int)) (nt : ∀ z, d ≠ .tup z) (he : DE X ct Γ μ1 e (.int i) μ2) (hl2 : SeqM μ2 d (ns.map .int))
    (bm : Bm X o "count" apos e pos := by exact ⟨rfl, rfl, rfl, rfl, rfl, rfl⟩) : DE X ct Γ μ (.Call (.Attribute o "count" apos) [e] [] pos) (.int (ns.count i : Nat)) μ2 := by
  refine PE.imp (pe_bm PySem.F.plainAttrs_list PySem.F.slot_list_count PySem.F.type_list_count mt_lcount ho (da_cons he da_nil bm.hs) bm.base bm.few bm.line bm.hs bm.pl) fun σ H Q ⟨F, A, r, q⟩ => ⟨F, A, r, fun v H1 F1 A1 e1 p1 r1 h1 => ?_⟩
  obtain ⟨a, vs, rfl, s, rr⟩ := hl.list nt r1.m h1
  refine ⟨.inl ⟨rfl, _, s⟩, F1, A1, r1, fun ws H2 F2 A2 e2 p2 r2 h2 => ?_⟩
  obtain ⟨w, rfl, h3⟩ := reps1 h2
  cases h3
  obtain ⟨a', vs', ea, s', rr'⟩ := hl2.list nt r2.m (h1.mono e2 p2)
  cases ea
  rw [rr'.of_ints] at s'
  exact ⟨_, ns, i, rfl, rfl, s', q _ H2 F2 A2 (e1.trans e2) (p1.trans p2) r2 (.int _)⟩
/-- a datum as a key -/
inductive KeyD : D → Key → Prop
  | int {i : Int} : KeyD (.int i) (.inl i)
  | str {i : Str} : KeyD (.str i) (.inr i)
theorem KeyD.rep {K : PySem.W.Frag} {A : List Addr} {F : Hp} {v : V} {key : Key} (h : KeyD d key) (r : Rep K ct A F v d) : v = kV key := by cases h <;> cases r <;> rfl
theorem is_dict {K : PySem.W.Frag} {H F : Hp} {A : List Addr} {v : V} (h : ∃ kds, da = .dic kds ∨ ∃ j, da = .ptr j ∧ μ[j]? = some (.dic kds)) (m : Rl0 K ct μ H F A) (r : Rep K ct A F v da) : ∃ a, v = .ref a ∧ IsD H a := by
  obtain ⟨kds, rfl | ⟨j, rfl, hm⟩⟩ := h
  · cases r with
    | dic s k1 k2 => exact ⟨_, rfl, .inl ⟨_, m.sub.r.rd _ _ rfl s⟩⟩
  · cases r with
    | ptr s => obtain ⟨_, kvs, hv, _, _⟩ := m.ok _ _ _ s hm; exact ⟨_, rfl, .inl ⟨_, .inl hv⟩⟩
/-- d.get(k), d.get(k, x) -/
inductive GetD (μ : Mu) : D → D → Option D → Prop
  | dicI {l : List (Key × D)} {i : Int} : GetD μ (.dic l) (.int i) (dget l (.inl i))
  | dicS {l : List (Key × D)} {i : Str} : GetD μ (.dic l) (.str i) (dget l (.inr i))
  | cdI {j : Nat} {l : List (Key × D)} {i : Int} (hm : μ[j]? = some (.dic l)) : GetD μ (.ptr j) (.int i) (dget l (.inl i))
  | cdS {j : Nat} {l : List (Key × D)} {i : Str} (hm : μ[j]? = some (.dic l)) : GetD μ (.ptr j) (.str i) (dget l (.inr i))
theorem kd_opt {K : PySem.W.Frag} {A : List Addr} {F : Hp} {kvs : List (Key × V)} {kds : List (Key × D)} (h : KD K ct A F kvs kds) (k : Key) (dd : D) (vd : V) (hd : Rep K ct A F vd dd) : Rep K ct A F ((valV kvs k).getD vd) ((dget kds k).getD dd) := by
  cases q : dget kds k with
  | none => rw [h.get_none q]; exact hd
  | some d => obtain ⟨v, e, r⟩ := h.get_some q; rw [e]; exact r
theorem GetD.get {K : PySem.W.Frag} {H F : Hp} {A : List Addr} {x y : V} {od : Option D} (h : GetD μ da db od) (m : Rl0 K ct μ H F A) (rx : Rep K ct A F x da) (ry : Rep K ct A F y db) :
    ∃ a ov, x = .ref a ∧ IsD H a ∧ DGet H a y ov ∧ ∀ dd vd, Rep K ct A F vd dd → Rep K ct A F (ov.getD vd) (od.getD dd) := by
  cases h with
  | dicI => cases rx with
    | dic s r1 r2 => cases ry with
      | int => exact ⟨_, _, rfl, .inl ⟨_, m.sub.r.rd _ _ rfl s⟩, .inl ⟨_, .inl _, m.sub.r.rd _ _ rfl s, rfl, rfl⟩, fun dd vd hd => kd_opt ⟨r1, r2⟩ _ dd vd hd⟩
  | dicS => cases rx with
    | dic s r1 r2 => cases ry with
      | str => exact ⟨_, _, rfl, .inl ⟨_, m.sub.r.rd _ _ rfl s⟩, .inl ⟨_, .inr _, m.sub.r.rd _ _ rfl s, rfl, rfl⟩, fun dd vd hd => kd_opt ⟨r1, r2⟩ _ dd vd hd⟩
  | cdI hm => cases rx with
    | ptr s => cases ry with
      | int => obtain ⟨_, kvs, hv, r1, r2⟩ := m.ok _ _ _ s hm; exact ⟨_, _, rfl, .inl ⟨_, .inl hv⟩, .inl ⟨_, .inl _, .inl hv, rfl, rfl⟩, fun dd vd hd => kd_opt ⟨r1, r2⟩ _ dd vd hd⟩
  | cdS hm => cases rx with
    | ptr s => cases ry with
      | str => obtain ⟨_, kvs, hv, r1, r2⟩ := m.ok _ _ _ s hm; exact ⟨_, _, rfl, .inl ⟨_, .inl hv⟩, .inl ⟨_, .inr _, .inl hv, rfl, rfl⟩, fun dd vd hd => kd_opt ⟨r1, r2⟩ _ dd vd hd⟩
theorem de_get1 {od : Option D} (hu : X.A.units + 1 < cLine) (ho : DE X ct Γ μ o da μ1) (he : DE X ct Γ μ1 e db μ2) (hk : ∃ key, KeyD db key) (h1 : ∃ kds, da = .dic kds ∨ ∃ j, da = .ptr j ∧ μ1[j]? = some (.dic kds)) (h : GetD μ2 da db od)
    (bm : Bm X o "get" apos e pos := by exact ⟨rfl, rfl, rfl, rfl, rfl, rfl⟩) : DE X ct Γ μ (.Call (.Attribute o "get" apos) [e] [] pos) (od.getD .non) μ2 := by
  refine PE.imp (pe_dget1 hu ho he bm.m1) fun σ H Q ⟨F, A, r, q⟩ => ⟨F, A, r, fun v H1 F1 A1 e1 p1 r1 hv => ?_⟩
  obtain ⟨a, rfl, hd⟩ := is_dict h1 r1.m hv
  refine ⟨a, rfl, hd, F1, A1, r1, fun w H2 F2 A2 e2 p2 r2 hw => ?_⟩
  obtain ⟨a', ov, ea, _, g, k⟩ := h.get r2.m (hv.mono e2 p2) hw
  cases ea
  exact ⟨ov, g, q _ H2 F2 A2 (e1.trans e2) (p1.trans p2) r2 (k _ _ .non)⟩
theorem de_get2 {od : Option D} {f : Expr} (hu : X.A.units + 1 < cLine) (ho : DE X ct Γ μ o da μ1) (he : DE X ct Γ μ1 e db μ2) (hf : DE X ct Γ μ2 f dc μ3) (h1 : ∃ kds, da = .dic kds ∨ ∃ j, da = .ptr j ∧ μ1[j]? = some (.dic kds)) (h : GetD μ3 da db od)
    (bm : M2 X o "get" apos e f pos := by exact ⟨rfl, rfl, rfl, rfl⟩) : DE X ct Γ μ (.Call (.Attribute o "get" apos) [e, f] [] pos) (od.getD dc) μ3 := by
  refine PE.imp (pe_dget2 hu ho he hf bm) fun σ H Q ⟨F, A, r, q⟩ => ⟨F, A, r, fun v H1 F1 A1 e1 p1 r1 hv => ?_⟩
  obtain ⟨a, rfl, hd⟩ := is_dict h1 r1.m hv
  refine ⟨a, rfl, hd, F1, A1, r1, fun w H2 F2 A2 e2 p2 r2 hw => ⟨F2, A2, r2, fun z H3 F3 A3 e3 p3 r3 hz => ?_⟩⟩
  obtain ⟨a', ov, ea, _, g, k⟩ := h.get r3.m (hv.mono (e2.trans e3) (p2.trans p3)) (hw.mono e3 p3)
  cases ea
  exact ⟨ov, g, q _ H3 F3 A3 (e1.trans (e2.trans e3)) (p1.trans (p2.trans p3)) r3 (k _ _ hz)⟩
/-- d.pop(k), d a place of the store -/
theorem de_dpop {j : Nat} {key : Key} {kds kds0 : List (Key × D)} (ho : DE X ct Γ μ o (.ptr j) μ1) (he : DE X ct Γ μ1 e db μ2) (hk : KeyD db key) (h1 : μ1[j]? = some (.dic kds0)) (h2 : μ2[j]? = some (.dic kds)) (hg : dget kds key = some d)
    (bm : Bm X o "pop" apos e pos := by exact ⟨rfl, rfl, rfl, rfl, rfl, rfl⟩) : DE X ct Γ μ (.Call (.Attribute o "pop" apos) [e] [] pos) d (μ2.set j (.dic (ddrop kds key))) := by
  refine PE.imp (pe_dpop1 ho he bm.m1) fun σ H Q ⟨F, A, r, q⟩ => ⟨F, A, r, fun v H1 F1 A1 e1 p1 r1 hv => ?_⟩
  obtain ⟨a, rfl, hd⟩ := is_dict ⟨kds0, .inr ⟨j, rfl, h1⟩⟩ r1.m hv
  refine ⟨a, rfl, hd, F1, A1, r1, fun w H2 F2 A2 e2 p2 r2 hw => ?_⟩
  cases hv with
  | ptr s =>
    have s2 := pre_get p2 s
    obtain ⟨fn, kvs, hvs, k1, k2⟩ := r2.m.ok _ _ _ s2 h2
    have kd : KD X.K ct A2 F2 kvs kds := ⟨k1, k2⟩
    obtain ⟨y, ey, ry⟩ := kd.get_some hg
    have kp := kd.drop key
    exact ⟨kvs, key, y, hvs, hk.rep hw, ey, q _ _ F2 A2 (e1.trans e2) (p1.trans p2) ⟨r2.m.write s2 ‹_› (by simp) fn (c := .dic (ddrop kds key)) ⟨fn, _, upd_same, kp.1, kp.2⟩, r2.s⟩ ry⟩
/-! ### slices of lists -/
def cutD (l : List D) (lo hi : Option Int) : List D := (l.drop (HT.sIx l.length 0 lo)).take (HT.sIx l.length l.length hi - HT.sIx l.length 0 lo)
/-- a part of a slice -/
def tO (K : PySem.W.Frag) (ct : Nat → Addr) (Γ : Gm) (μ : Mu) (i : Option Int) (μ' : Mu) : TO := fun σ H Q => ∃ F A, Rl K ct Γ μ σ H F A ∧ ∀ H' F' A', Le F F' → A <+: A' → Rl K ct Γ μ' σ H' F' A' → Q i H'
abbrev DO (X : Cx) (ct : Nat → Addr) (Γ : Gm) (μ : Mu) (e : Option Expr) (i : Option Int) (μ' : Mu) : Prop := PO X e (tO X.K ct Γ μ i μ')
theorem PO.imp {eo : Option Expr} {t t' : TO} (h : PO X eo t) (k : ∀ σ H Q, t' σ H Q → t σ H Q) : PO X eo t' := ⟨fun pins s σ H Q I q => h.run pins s σ H Q I (k σ H Q q)⟩
theorem do_none : DO X ct Γ μ none none μ := PO.imp po_none fun σ H Q ⟨F, A, r, q⟩ => q H F A (.refl _) pr r
theorem do_some {i : Int} (h : DE X ct Γ μ e (.int i) μ1) : DO X ct Γ μ (some e) (some i) μ1 := PO.imp (po_some h) fun σ H Q ⟨F, A, r, q⟩ => ⟨F, A, r, fun v H' F' A' e' p' r' h' => ⟨i, rep_int h', q H' F' A' e' p' r'⟩⟩
theorem de_sliceL {lo hi : Option Expr} {il ih : Option Int} {p2 : Pos} (he : DE X ct Γ μ e d μ1) (hd : d = .lst l ∨ d = .scr l) (hl : DO X ct Γ μ1 lo il μ2) (hh : DO X ct Γ μ2 hi ih μ3) : DE X ct Γ μ (.Subscript e (.Slice lo hi none p2) pos) (.lst (cutD l il ih)) μ3 := by
  refine PE.imp (pe_slice sl_list he hl hh) fun σ H Q ⟨F, A, r, q⟩ => ⟨F, A, r, fun v H1 F1 A1 e1 p1 r1 h1 => ⟨F1, A1, r1, fun H2 F2 A2 e2 p2 r2 => ⟨F2, A2, r2, fun H3 F3 A3 e3 p3 r3 => ?_⟩⟩⟩
  have h3 := h1.mono (e2.trans e3) (p2.trans p3)
  have hs : SeqM μ3 d l := by rcases hd with rfl | rfl <;> exact .seq rfl
  obtain ⟨a, vs, rfl, s, rr⟩ := hs.list (by rcases hd with rfl | rfl <;> intro z h <;> cases h) r3.m h3
  refine ⟨a, vs, rfl, s, new_lst r3.m (ds := cutD l il ih) ?_ fun v H' F' e' m' h' => q v H' F' A3 (e1.trans (e2.trans (e3.trans e'))) (p1.trans (p2.trans p3)) ⟨m', r3.s.mono e' pr⟩ h'⟩
  unfold cutV cutD
  rw [rr.len]
  exact (rr.drop _).take _
/-! ### stores -/
theorem ds_put {j : Nat} {tpos : Pos} {i : Int} (he : DE X ct Γ μ e d μ1) (ho : DE X ct Γ μ1 o (.ptr j) μ2) (hi : DE X ct Γ μ2 a (.int i) μ3) (hm : μ3[j]? = some (.lst l)) {n : Nat} (hn : ixN l.length i = some n) (hr : DSs X ct rest Γ (μ3.set j (.lst (l.set n d))) P)
    (ha : ∀ v, assign (.Subscript o a tpos) X.env v = (do
      let ov ← holding [v] (eval o X.env)
      let iv ← holding [v, ov] (eval a X.env)
      standAt tpos
      holding [v, ov, iv] (setItem ov iv v)
      release [v, ov, iv] []) := by intro _; rfl)
    (hs : swapsWithSole [.Subscript o a tpos] e pos.line X.env = pure false := by rfl) (hw : swappedStores [.Subscript o a tpos] e X.env = pure none := by rfl)
    (h1 : (assignEach [.Subscript o a tpos] X.env).map (·.2) = [assign (.Subscript o a tpos) X.env] := by rfl) : DSs X ct (.Assign [.Subscript o a tpos] e pos :: rest) Γ μ P := by
  refine ds_cons (PS.imp (ps_asg he (pg_sub ho hi set_list ha) hs hw h1) fun D σ H ⟨F, A, r, q1, q2, q3, q4⟩ => ⟨F, A, r, fun v H1 F1 A1 e1 p1 r1 hv => ⟨F1, A1, r1, fun w H2 F2 A2 e2 p2 r2 hw => ⟨F2, A2, r2, fun u H3 F3 A3 e3 p3 r3 hu => ?_⟩⟩⟩)
  cases hw with
  | ptr s =>
    cases hu
    have s3 := pre_get p3 s
    obtain ⟨fn, vs, hvs, rr⟩ := r3.m.ok _ _ _ s3 hm
    refine ⟨_, vs, i, n, rfl, rfl, hvs, by rw [rr.len]; exact hn, q1 _ _ _ _ F3 A3 (e1.trans (e2.trans e3)) (p1.trans (p2.trans p3)) ⟨r3.m.write s3 ‹_› (by simp) fn (c := .lst (l.set n d)) ⟨fn, _, upd_same, Reps.set (hv.mono (e2.trans e3) (p2.trans p3)) n rr⟩, r3.s⟩ hr⟩
theorem ds_dput {j : Nat} {tpos : Pos} {key : Key} {kds : List (Key × D)} (hu : X.A.units + 1 < cLine) (he : DE X ct Γ μ e d μ1) (ho : DE X ct Γ μ1 o (.ptr j) μ2) (hi : DE X ct Γ μ2 a da μ3) (hk : KeyD da key) (hm : μ3[j]? = some (.dic kds)) (hz : kds.length < sizeLine) (hr : DSs X ct rest Γ (μ3.set j (.dic (dput kds key d))) P)
    (hs : swapsWith e (some (.Subscript o a tpos)) pos.line X.env = pure false := by rfl) : DSs X ct (.Assign [.Subscript o a tpos] e pos :: rest) Γ μ P := by
  refine ds_cons (PS.imp (ps_dput hu ho hi he hs) fun D σ H ⟨F, A, r, q1, q2, q3, q4⟩ => ⟨F, A, r, fun v H1 F1 A1 e1 p1 r1 hv => ⟨F1, A1, r1, fun w H2 F2 A2 e2 p2 r2 hw => ⟨F2, A2, r2, fun u H3 F3 A3 e3 p3 r3 hu => ?_⟩⟩⟩)
  cases hw with
  | ptr s =>
    have s3 := pre_get p3 s
    obtain ⟨fn, kvs, hvs, k1, k2⟩ := r3.m.ok _ _ _ s3 hm
    have kd : KD X.K ct A3 F3 kvs kds := ⟨k1, k2⟩
    have kp := kd.put key (hv.mono (e2.trans e3) (p2.trans p3))
    have eu := hk.rep hu
    subst eu
    refine ⟨_, _, rfl, DPut.k hvs (by rw [kd.len]; exact hz), q1 _ _ _ _ F3 A3 (e1.trans (e2.trans e3)) (p1.trans (p2.trans p3)) ⟨r3.m.write s3 ‹_› (by simp) fn (c := .dic (dput kds key d)) ⟨fn, _, upd_same, kp.1, kp.2⟩, r3.s⟩ hr⟩
/-- o.f = v, o a place of the store -/
theorem fs_put {K : PySem.W.Frag} {A : List Addr} {F : Hp} {v : V} (hv : Rep K ct A F v d) : ∀ {vfs : List (Str × V)} {fs : List (Str × D)}, vfs.map (·.1) = fs.map (·.1) → Reps K ct A F (vfs.map (·.2)) (fs.map (·.2)) → (putF f v vfs).map (·.1) = (putD f d fs).map (·.1) ∧ Reps K ct A F ((putF f v vfs).map (·.2)) ((putD f d fs).map (·.2))
  | [], [], _, _ => ⟨rfl, .cons hv .nil⟩
  | [], _ :: _, h, _ => by simp at h
  | _ :: _, [], h, _ => by simp at h
  | (g, w) :: vfs, (g', w') :: fs, h, r => by
    simp only [List.map_cons, List.cons.injEq] at h
    simp only [List.map_cons] at r
    obtain ⟨rfl, h2⟩ := h
    cases r with
    | cons r1 r2 =>
      unfold putF putD
      by_cases e : g = f
      · rw [if_pos e, if_pos e]
        exact ⟨by simp only [List.map_cons, h2], .cons hv r2⟩
      · rw [if_neg e, if_neg e]
        obtain ⟨i1, i2⟩ := fs_put hv h2 r2
        exact ⟨by simp only [List.map_cons, i1], .cons r1 i2⟩
theorem ds_fld {j n : Nat} {fs : List (Str × D)} {tpos : Pos} (hf : FldOk X.K ct n f) (he : DE X ct Γ μ e d μ1) (ho : DE X ct Γ μ1 o (.ptr j) μ2) (hm : μ2[j]? = some (.ins n fs)) (hz : fs.length < 1000) (hr : DSs X ct rest Γ (μ2.set j (.ins n (putD f d fs))) P)
    (hs : swapsWith e (some (.Attribute o f tpos)) pos.line X.env = pure false := by rfl) : DSs X ct (.Assign [.Attribute o f tpos] e pos :: rest) Γ μ P := by
  refine ds_cons (PS.imp (ps_fld ho he hs) fun D σ H ⟨F, A, r, q1, q2, q3, q4⟩ => ⟨F, A, r, fun v H1 F1 A1 e1 p1 r1 hv => ⟨F1, A1, r1, fun w H2 F2 A2 e2 p2 r2 hw => ?_⟩⟩)
  cases hw with
  | ptr s =>
    obtain ⟨fn, dx, vfs, hvs, k1, k2⟩ := r2.m.ok _ _ _ s hm
    obtain ⟨i1, i2⟩ := fs_put (f := f) (hv.mono e2 p2) k1 k2
    have hl : vfs.length = fs.length := by have := congrArg List.length k1; simpa using this
    exact ⟨_, _, _, vfs, rfl, hvs, hf.cl, hf.na, by omega, q1 _ _ _ _ F2 A2 (e1.trans e2) (p1.trans p2) ⟨r2.m.write s ‹_› (by simp) fn (c := .ins n (putD f d fs)) ⟨fn, dx, _, upd_same, i1, i2⟩, r2.s⟩ hr⟩
theorem ds_aug {op : Operator} {i : Nat} {u v z : Int} (g : Int → Int → Int) (hN : X.N.Nodup) (hΓ : Γ[i]? = some (some (.int u))) (ho : PIp X op (ipI g)) (he : DE X ct Γ μ e (.int v) μ1) (hr : DSs X ct rest (Γ.set i (some (.int (g u v)))) μ1 P) (hi : X.N[i]? = some x := by rfl) (hx : Loc X.env.scope x := by first | exact Or.inl rfl | exact Or.inr rfl) (hf : X.fn x = true ∨ X.env.scope.names.lookup x = some .local := by first | exact .inl rfl | exact .inr rfl) :
    DSs X ct (.AugAssign (.Name x p) op e pos :: rest) Γ μ P :=
  ds_cons (PS.imp (ps_aug hN hi hx he ho hf) fun D σ H ⟨F, A, r, q1, q2, q3, q4⟩ => by
    obtain ⟨w, hw, rep⟩ := r.s.get hΓ
    cases rep
    exact ⟨_, hw, F, A, r, fun y H1 F1 A1 e1 p1 r1 h1 => by
      cases h1
      exact ⟨u, v, rfl, rfl, q1 _ _ _ _ F1 A1 e1 p1 ⟨r1.m, r1.s.set (.int _) i⟩ hr⟩⟩)
end
end DL

namespace DL
open PySem PySem.Spec PyProof.Rows L2
section
variable {X : Cx} {ct : Nat → Addr} {Γ Γ1 Γ2 : Gm} {μ μ1 μ2 μ3 : Mu} {d da db dc : D} {ds xs l m : List D} {e a b c o tg elt iter : Expr} {es tgs : List Expr} {st : Stmt} {rest sa sb body : List Stmt} {pos p tp apos : Pos} {x f : Str} {k k' : Bool} {P P' : P4} {kds : List (Key × D)}
/-! ### a walk over a dict's keys: it is locked meanwhile -/
def keyDat : Key → D
  | .inl i => .int i
  | .inr s => .str s
theorem rep_key {K : PySem.W.Frag} {A : List Addr} {F : Hp} (k : Key) : Rep K ct A F (kV k) (keyDat k) := by cases k with
  | inl i => exact .int i
  | inr s => exact .str s
/-- an expression that gives a dict which stands already -/
structure DPath (X : Cx) (ct : Nat → Addr) (e : Expr) (Γ : Gm) (μ : Mu) (kds : List (Key × D)) : Prop where
  ex : ∃ t : TE, PE X e t ∧ ∀ σ H F A, Rl X.K ct Γ μ σ H F A → ∃ ad kvs, Rd F ad (.dK kvs) ∧ KD X.K ct A F kvs kds ∧ ∀ F' H' Q, LeR F F' → Sub F' H' → Q (.ref ad) H' → t σ H' Q
theorem dp_name (i : Nat) (hΓ : Γ[i]? = some (some (.dic kds)) := by rfl) (hN : X.N[i]? = some x := by rfl) (hv : Vis X.env.scope x := by first | exact Or.inl rfl | exact Or.inr (Or.inl rfl) | exact Or.inr (Or.inr rfl)) (hd : (x == ("__debug__" : Str)) = false := by decide)
    (hcd : (x == ("__classdict__" : Str)) = false := by decide) : DPath X ct (.Name x pos) Γ μ kds :=
  ⟨_, pe_var hN hv hd hcd, fun σ H F A r => by
    obtain ⟨v, hv, rep⟩ := r.s.get hΓ
    cases rep with
    | dic s k1 k2 => exact ⟨_, _, s, ⟨k1, k2⟩, fun F' H' Q _ _ q => ⟨_, hv, q⟩⟩⟩
theorem dp_ix {j : Int} {kk : Nat} {q1 q2 : Pos} (i : Nat) (h : atI l j = some (.dic kds)) (hΓ : Γ[i]? = some (some (.tup l)) := by rfl) (hN : X.N[i]? = some x := by rfl) (hv : Vis X.env.scope x := by first | exact Or.inl rfl | exact Or.inr (Or.inl rfl) | exact Or.inr (Or.inr rfl)) (hd : (x == ("__debug__" : Str)) = false := by decide)
    (hcd : (x == ("__classdict__" : Str)) = false := by decide) : DPath X ct (.Subscript (.Name x q1) (.Constant (.int j) kk q2) pos) Γ μ kds :=
  ⟨_, pe_ix ix_tup (pe_var hN hv hd hcd) pe_int (fun _ _ => rfl), fun σ H F A r => by
    obtain ⟨v, hv, rep⟩ := r.s.get hΓ
    cases rep with
    | tup s rr =>
      obtain ⟨w, hw, rw'⟩ := reps_at rr h
      cases rw' with
      | dic s2 k1 k2 => exact ⟨_, _, s2, ⟨k1, k2⟩, fun F' H' Q le sb q => ⟨_, hv, _, _, _, _, rfl, rfl, sqT_sub sb (le.t s), hw, q⟩⟩⟩
theorem walkD_keys {K : PySem.W.Frag} {ad : Addr} {od : Obj} {kvs : List (Key × V)} {F1 : Hp} {A1 : List Addr} (s : F1 ad = some (.frz od (.dK kvs))) (h : KD K ct A1 F1 kvs kds) : WalkD K ct (Itk ad od kvs) (kds.map fun kv => keyDat kv.1) F1 A1 where
  goes := fun i H F hi e sb => ⟨sb _ _ (e _ _ s), by rw [h.len]; simpa using hi⟩
  stops := fun H F e sb => ⟨sb _ _ (e _ _ s), by rw [h.len]; simp⟩
  yields := fun i H F A μ v H' d hd e p m y => by
    obtain ⟨rfl, k, w, hk, rfl⟩ := y
    have e1 : (kvs.map (·.1))[i]? = some k := by rw [List.getElem?_map, hk]; rfl
    rw [h.1, List.getElem?_map, Option.map_eq_some_iff] at e1
    obtain ⟨q, hq, rfl⟩ := e1
    rw [List.getElem?_map, hq] at hd
    cases hd
    exact ⟨F, .refl _, m, rep_key _⟩
theorem PS.or {t t' : TS} (h : PS X st t) (h' : PS X st t') : PS X st (fun D σ H => t D σ H ∨ t' D σ H) := ⟨fun pins s σ H D I q => q.elim (h.run pins s σ H D I) (h'.run pins s σ H D I)⟩
theorem PE.or {t t' : TE} (h : PE X e t) (h' : PE X e t') : PE X e (fun σ H Q => t σ H Q ∨ t' σ H Q) := ⟨fun pins s σ H Q I q => q.elim (h.run pins s σ H Q I) (h'.run pins s σ H Q I)⟩
/-- a frozen object gets or loses its lock -/
theorem Rl0.swap {K : PySem.W.Frag} {H F : Hp} {A : List Addr} {ad : Addr} {o1 o2 : HO} (r : Rl0 K ct μ H F A) (h : F ad = some o1) (le : LeR F (upd F ad o2)) (hm : unmark o2 = o2) : Rl0 K ct μ (upd H ad o2) (upd F ad o2) A where
  sub := fun a o e => by
    by_cases ha : a = ad
    · subst ha; rw [upd_same] at e ⊢; cases e; rw [hm]
    · rw [upd_ne ha] at e ⊢; exact r.sub a o e
  len := r.len
  nd := r.nd
  there := fun a ha => by
    by_cases e : a = ad
    · subst e; exact ⟨_, upd_same⟩
    · rw [upd_ne e]; exact r.there a ha
  ok := fun k a c ha hc => by
    have q := r.ok k a c ha hc
    by_cases ne : a = ad
    · subst ne
      cases c with
      | dead => trivial
      | lst l => have := q.1; rw [h] at this; cases this
      | dic l => have := q.1; rw [h] at this; cases this
      | ins n l => have := q.1; rw [h] at this; cases this
    · exact q.monoR le pr (fun f => by rw [upd_ne ne]; exact f) fun o ho _ => by rw [upd_ne ne]; exact ho
/-- the lock's end -/
theorem unlocked {K : PySem.W.Frag} {F H' F' : Hp} {A' : List Addr} {ad : Addr} {od : Obj} {kvs : List (Key × V)} (hF : F ad = some (.dK kvs)) (e : Le (upd F ad (.frz od (.dK kvs))) F') (r : Rl0 K ct μ H' F' A') :
    H' ad = some (.frz od (.dK kvs)) ∧ Le F (upd F' ad (.dK kvs)) ∧ LeR F' (upd F' ad (.dK kvs)) ∧ Rl0 K ct μ (upd H' ad (.dK kvs)) (upd F' ad (.dK kvs)) A' := by
  have h := e _ _ upd_same
  refine ⟨r.sub _ _ h, fun a o ho => ?_, .unlock h, r.swap h (.unlock h) rfl⟩
  by_cases ha : a = ad
  · subst ha; rw [upd_same]; rw [hF] at ho; exact ho
  · rw [upd_ne ha]; exact e a o (by rw [upd_ne ha]; exact ho)
theorem ds_forK (hp : PassesOwn (model X.prog X.w) X.A X.env X.xe) (hc : X.calm = true) (hz : kds.length ≤ sizeLine) (hi : DPath X ct iter Γ μ kds) (I : Nat → Gm → Mu → Prop) (h0 : ∃ Γ0, GLe Γ0 Γ ∧ I 0 Γ0 μ)
    (hs : ∀ i d Γ' μ', (kds.map fun kv => keyDat kv.1)[i]? = some d → I i Γ' μ' → ∃ l, DG X ct tg d l ∧ DSs X ct body (setG Γ' l) μ' { nx := fun Γ μ => ∃ Γ0, GLe Γ0 Γ ∧ I (i + 1) Γ0 μ, ct := fun Γ μ => ∃ Γ0, GLe Γ0 Γ ∧ I (i + 1) Γ0 μ, bk := fun Γ μ => DSs X ct rest Γ μ P, rt := P.rt })
    (hd : ∀ Γ' μ', I kds.length Γ' μ' → DSs X ct rest Γ' μ' P) (hfs : ∀ x, foldedSetIterable iter X.env x = pure x := by intro _; rfl) : DSs X ct (.For tg iter body [] pos :: rest) Γ μ P := by
  obtain ⟨t, ht, hp'⟩ := hi.ex
  have hlen : (kds.map fun kv => keyDat kv.1).length = kds.length := by simp
  refine ds_cons (PS.imp (PS.or (ps_for hp hc (pi_keys ht) pg_any pss_any hfs) (ps_lock (ps_for hp hc (pi_keys ht) pg_any pss_any hfs))) fun D σ H ⟨F, A, r, q1, q2, q3, q4⟩ => ?_)
  obtain ⟨ad, kvs, hrd, kd, hpath⟩ := hp' σ H F A r
  rcases hrd with hF | ⟨od, hF⟩
  · -- it is locked now
    have hH : H ad = some (.dK kvs) := r.m.sub _ _ hF
    refine .inr ⟨ad, .dK kvs, hH, trivial, fun od => ?_⟩
    have lk : LeR F (upd F ad (.frz od (.dK kvs))) := .lock hF ⟨_, rfl⟩
    have r1 : Rl X.K ct Γ μ σ (upd H ad (.frz od (.dK kvs))) (upd F ad (.frz od (.dK kvs))) A := ⟨r.m.swap hF lk rfl, r.s.monoR lk pr⟩
    refine tFor_D (P := { nx := fun Γ μ => DSs X ct rest Γ μ P, rt := P.rt }) (F := upd F ad (.frz od (.dK kvs))) (A := A) (μ1 := μ) (xs := kds.map fun kv => keyDat kv.1) (fun R kk => hpath _ _ _ lk r1.m.sub ⟨ad, od, rfl, .inl ⟨kvs, upd_same, kk _ _ _ A (.refl _) pr r1 (walkD_keys upd_same ⟨kd.1, kd.2.monoR lk pr⟩) (by rw [hlen]; exact hz)⟩⟩) I h0 (fun i d Γ' μ' hx hI _ => hs i d Γ' μ' hx hI) (fun Γ' μ' hI => hd Γ' μ' (by rw [hlen] at hI; exact hI)) ?_ ?_ (fun _ _ _ _ _ _ _ _ _ _ _ _ _ z => z.elim)
    · intro Γ' μ' σ' H' F' A' e p r' h
      obtain ⟨u1, u2, u3, u4⟩ := unlocked hF e r'.m
      exact ⟨u1, q1 Γ' μ' σ' _ _ A' u2 p ⟨u4, r'.s.monoR u3 pr⟩ h⟩
    · intro d μ' v H' F' A' e p r' rr h
      obtain ⟨u1, u2, u3, u4⟩ := unlocked hF e r'
      exact ⟨u1, q2 d μ' v _ _ A' u2 p u4 (rr.monoR u3 pr) h⟩
  · refine .inl (tFor_D (P := { nx := fun Γ μ => DSs X ct rest Γ μ P, rt := P.rt }) (F := F) (A := A) (μ1 := μ) (xs := kds.map fun kv => keyDat kv.1) (fun R kk => hpath _ _ _ (Le.refl F).r r.m.sub ⟨ad, od, rfl, .inl ⟨kvs, r.m.sub _ _ hF, kk _ H F A (.refl _) pr r (walkD_keys hF kd) (by rw [hlen]; exact hz)⟩⟩) I h0 (fun i d Γ' μ' hx hI _ => hs i d Γ' μ' hx hI) (fun Γ' μ' hI => hd Γ' μ' (by rw [hlen] at hI; exact hI)) q1 q2 (fun _ _ _ _ _ _ _ _ _ _ _ _ _ z => z.elim))
/-- [elt for tg in d if ..], elements that change nothing -/
theorem de_lcK {ifs : List Expr} {scope : Scope} (own : List (Str × Nat)) (pd : Key → Bool) (g : Key → D) (hc : X.calm = true) (hN : X.N.Nodup) (hz : kds.length ≤ sizeLine) (hi : DPath X ct iter Γ μ kds) (ok : BlkOk X.N X.env.scope scope own)
    (hs : ∀ kv ∈ kds, ∃ l, (∀ p ∈ l, p.1 ∈ own.map (·.2)) ∧ (∀ s H C cl fp, DG (Bk X scope s H C cl fp) ct tg (keyDat kv.1) l) ∧ (∀ s H C cl fp, DTs (Bk X scope s H C cl fp) ct ifs (setG (wipeG Γ (own.map (·.2))) l) μ (pd kv.1) μ) ∧
      (pd kv.1 = true → ∀ s H C cl fp, DE (Bk X scope s H C cl fp) ct (setG (wipeG Γ (own.map (·.2))) l) μ elt (g kv.1) μ)) (hfs : ∀ x, foldedSetIterable iter X.env x = pure x := by intro _; rfl) : DE X ct Γ μ (.ListComp elt [⟨tg, iter, ifs, 0⟩] scope pos) (.lst (((kds.map (·.1)).filter pd).map g)) μ := by
  obtain ⟨t, ht, hp'⟩ := hi.ex
  have hlen : (kds.map fun kv => keyDat kv.1).length = kds.length := by simp
  have h0 := pe_lc (elt := elt) (tg := tg) (ifs := ifs) (scope := scope) (pos := pos) (g := fun v σ H Q => ∃ t, (∀ s H C cl fp, PG (Bk X scope s H C cl fp) tg t) ∧ t v σ H Q) (tt := fun σ H Q => ∃ t, (∀ s H C cl fp, PTs (Bk X scope s H C cl fp) ifs t) ∧ t σ H Q) (te := fun σ H Q => ∃ t, (∀ s H C cl fp, PE (Bk X scope s H C cl fp) elt t) ∧ t σ H Q) hc hN (pi_keys (tg := tg) ht) ok
    (fun s H C cl fp => ⟨fun pins s' σ H' v u Q I r ⟨t, h, q⟩ => (h s H C cl fp).run pins s' σ H' v u Q I r q⟩) (fun s H C cl fp => ⟨fun pins s' σ H' Q I ⟨t, h, q⟩ => (h s H C cl fp).run pins s' σ H' Q I q⟩) (fun s H C cl fp => ⟨fun pins s' σ H' Q I ⟨t, h, q⟩ => (h s H C cl fp).run pins s' σ H' Q I q⟩) hfs
  have turn : ∀ i d acc μ', (kds.map fun kv => keyDat kv.1)[i]? = some d → (acc = (((kds.map (·.1)).take i).filter pd).map g ∧ μ' = μ) → ∃ l k μ2, (∀ p ∈ l, p.1 ∈ own.map (·.2)) ∧ (∀ v σ H Q, tG X.K ct d l v σ H Q → ∃ t, (∀ s H C cl fp, PG (Bk X scope s H C cl fp) tg t) ∧ t v σ H Q) ∧ (∀ σ H Q, tT X.K ct (setG (wipeG Γ (own.map (·.2))) l) μ' k μ2 σ H Q → ∃ t, (∀ s H C cl fp, PTs (Bk X scope s H C cl fp) ifs t) ∧ t σ H Q) ∧
      (k = true → ∃ y μ3, (∀ σ H Q, tD X.K ct (setG (wipeG Γ (own.map (·.2))) l) μ2 y μ3 σ H Q → ∃ t, (∀ s H C cl fp, PE (Bk X scope s H C cl fp) elt t) ∧ t σ H Q) ∧ (acc ++ [y] = (((kds.map (·.1)).take (i + 1)).filter pd).map g ∧ μ3 = μ)) ∧ (k = false → (acc = (((kds.map (·.1)).take (i + 1)).filter pd).map g ∧ μ2 = μ)) := by
    rintro i d acc μ' hx ⟨rfl, rfl⟩
    rw [List.getElem?_map, Option.map_eq_some_iff] at hx
    obtain ⟨kv, hkv, rfl⟩ := hx
    obtain ⟨l, h1, h2, h3, h4⟩ := hs kv (List.mem_of_getElem? hkv)
    have hk1 : (kds.map (·.1))[i]? = some kv.1 := by rw [List.getElem?_map, hkv]; rfl
    have et : (kds.map (·.1)).take (i + 1) = (kds.map (·.1)).take i ++ [kv.1] := by
      obtain ⟨hi, e⟩ := List.getElem?_eq_some_iff.mp hk1
      rw [List.take_succ_eq_append_getElem hi, e]
    refine ⟨l, pd kv.1, _, h1, fun v σ H Q q => ⟨_, h2, q⟩, fun σ H Q q => ⟨_, h3, q⟩, fun hk => ⟨g kv.1, _, fun σ H Q q => ⟨_, h4 hk, q⟩, ?_, rfl⟩, fun hk => ⟨?_, rfl⟩⟩
    · rw [et, List.filter_append, List.filter_cons, hk]; simp
    · rw [et, List.filter_append, List.filter_cons, hk]; simp
  have hle : ∀ (i : Nat) (acc : List D) (μ' : Mu), (acc = (((kds.map (·.1)).take i).filter pd).map g ∧ μ' = μ) → acc.length ≤ i := by
    rintro i acc μ' ⟨rfl, _⟩
    rw [List.length_map]
    exact Nat.le_trans (List.length_filter_le _ _) (by rw [List.length_take]; omega)
  have hend : ∀ (acc : List D) (μ' : Mu), (acc = (((kds.map (·.1)).take (kds.map fun kv => keyDat kv.1).length).filter pd).map g ∧ μ' = μ) → acc = ((kds.map (·.1)).filter pd).map g ∧ μ' = μ := by
    rintro acc μ' ⟨rfl, e⟩
    refine ⟨?_, e⟩
    rw [show (kds.map fun kv => keyDat kv.1).length = (kds.map (·.1)).length by simp, List.take_length]
  refine PE.imp (PE.or h0 (pe_lock h0)) fun σ H Q ⟨F, A, r, q⟩ => ?_
  obtain ⟨ad, kvs, hrd, kd, hpath⟩ := hp' σ H F A r
  rcases hrd with hF | ⟨od, hF⟩
  · have hH : H ad = some (.dK kvs) := r.m.sub _ _ hF
    refine .inr ⟨ad, .dK kvs, hH, trivial, fun od => ?_⟩
    have lk : LeR F (upd F ad (.frz od (.dK kvs))) := .lock hF ⟨_, rfl⟩
    have r1 : Rl X.K ct Γ μ σ (upd H ad (.frz od (.dK kvs))) (upd F ad (.frz od (.dK kvs))) A := ⟨r.m.swap hF lk rfl, r.s.monoR lk pr⟩
    refine tLc_D (μ1 := μ) (xs := kds.map fun kv => keyDat kv.1) (fun i acc μ' => acc = (((kds.map (·.1)).take i).filter pd).map g ∧ μ' = μ) ⟨rfl, rfl⟩ turn hle hend (F := upd F ad (.frz od (.dK kvs))) (A := A) (fun R kk => hpath _ _ _ lk r1.m.sub ⟨ad, od, rfl, .inl ⟨kvs, upd_same, kk _ _ _ A (.refl _) pr r1 (walkD_keys upd_same ⟨kd.1, kd.2.monoR lk pr⟩) (by rw [hlen]; exact hz)⟩⟩) ?_
    intro v H' F' A' e p r' rr
    obtain ⟨u1, u2, u3, u4⟩ := unlocked hF e r'.m
    exact ⟨u1, q v _ _ A' u2 p ⟨u4, r'.s.monoR u3 pr⟩ (rr.monoR u3 pr)⟩
  · exact .inl (tLc_D (μ1 := μ) (xs := kds.map fun kv => keyDat kv.1) (fun i acc μ' => acc = (((kds.map (·.1)).take i).filter pd).map g ∧ μ' = μ) ⟨rfl, rfl⟩ turn hle hend (F := F) (A := A) (fun R kk => hpath _ _ _ (Le.refl F).r r.m.sub ⟨ad, od, rfl, .inl ⟨kvs, r.m.sub _ _ hF, kk _ H F A (.refl _) pr r (walkD_keys hF kd) (by rw [hlen]; exact hz)⟩⟩) q)
end
end DL

namespace DL
open PySem PySem.Spec PyProof.Rows L2
/-! ### the head's facts: He's list, and one more Bool -/
def obsX (fa : List He.Fa) (fn : List He.DefD) (xb : PySem.W.Frag → Bool) (K : PySem.W.Frag) : He.AlD := ((fa.all fun f => f.ok K) && ((fn.all fun d => d.ok K) && xb K), fn.map fun d => He.fnW K d.at_)
def SaysX (fa : List He.Fa) (fn : List He.DefD) (xb : PySem.W.Frag → Bool) (K : PySem.W.Frag) : Prop := obsX fa fn xb K = He.valD fn
def obsXG (n : Nat) (fa : List He.Fa) (fn : List He.DefD) (xb : PySem.W.Frag → Bool) (g : Addr → Option Obj) : He.AlD := obsX fa fn xb (He.frG g (He.asD g n))
def hookX (n : Nat) (fa : List He.Fa) (fn : List He.DefD) (xb : PySem.W.Frag → Bool) : PySem.W.Hook where
  α := He.AlD
  obs := fun s => obsXG n fa fn xb s.heap.get?
  val := fun _ => He.valD fn
  says := fun _ h => ∃ K : PySem.W.Frag, K.In h ∧ SaysX fa fn xb K
  of := fun _ _ e => ⟨_, He.frG_in, e⟩
  keeps := fun _ _ _ ⟨K, hK, c⟩ k => ⟨K, PySem.W.Frag.In.keeps hK k, c⟩
theorem obsXG_eq {n : Nat} {fa : List He.Fa} {fn : List He.DefD} {xb : PySem.W.Frag → Bool} {g : Addr → Option Obj} {s : Shared} (h : ∀ a, g a = s.heap.get? a) : obsXG n fa fn xb g = (hookX n fa fn xb).obs s := by
  have e : g = s.heap.get? := funext h
  rw [e] <;> rfl
section
variable {fa : List He.Fa} {fn : List He.DefD} {xb : PySem.W.Frag → Bool} {K : PySem.W.Frag}
theorem SaysX.fact (c : SaysX fa fn xb K) (i : Nat) {f : He.Fa} (h : fa[i]? = some f := by rfl) : f.ok K = true := by
  have c1 := (He.ba (show ((fa.all fun f => f.ok K) && ((fn.all fun d => d.ok K) && xb K)) = true from congrArg (fun z : He.AlD => z.1) c)).1
  exact List.all_eq_true.mp c1 f (List.mem_of_getElem? h)
theorem SaysX.x (c : SaysX fa fn xb K) : xb K = true := (He.ba (He.ba (show ((fa.all fun f => f.ok K) && ((fn.all fun d => d.ok K) && xb K)) = true from congrArg (fun z : He.AlD => z.1) c)).2).2
theorem SaysX.def_ (c : SaysX fa fn xb K) (i : Nat) {d : He.DefD} (h : fn[i]? = some d := by rfl) : ∃ fd, FunD K d.name d.qual d.params d.body d.scope (d.dvs K) (d.kws K) (He.fAd K d.at_) fd := by
  have c2 := (He.ba (He.ba (show ((fa.all fun f => f.ok K) && ((fn.all fun d => d.ok K) && xb K)) = true from congrArg (fun z : He.AlD => z.1) c)).2).1
  have e : fn.map (fun d => He.fnW K d.at_) = fn.map He.DefD.val := congrArg (fun z : He.AlD => z.2) c
  have e2 : (fn.map fun d => He.fnW K d.at_)[i]? = (fn.map He.DefD.val)[i]? := by rw [e]
  rw [List.getElem?_map, List.getElem?_map, h] at e2
  exact He.DefD.funD (Option.some.inj e2) (List.all_eq_true.mp c2 d (List.mem_of_getElem? h))
end
theorem glc_tup {K : PySem.W.Frag} {ct : Nat → Addr} {mg : Str → Option Value} {x : Str} {dvs : List He.Dv} {ds : List D} (hm : mg x = some (.ref (He.ga K x))) (h : He.tupB K x dvs = true) (r : ∀ {A F}, Reps K ct A F (dvs.map (He.Dv.v K)) ds) : GlC K ct mg x (.tup ds) :=
  ⟨_, .ref (He.ga K x), hm, rfl, fun A F => .tup (He.tupB_ok h F) r⟩
/-! ### a def of the text keeps its promise -/
section
variable {P : Program} {w : World} {K : PySem.W.Frag} {mg : Str → Option Value} {base : Heap} {ct : Nat → Addr}
theorem fn_okF {x qual : Str} {params : Arguments} {body : List Stmt} {scope : Scope} {dvs : List V} {f : Addr} {fd : FuncData} {N ps : List Str} {k : Nat} {R : Rf} (F : FunD K x qual params body scope dvs [] f fd) (S : FnScope N ps scope) (hl : ∀ ds μ o μ', R ds μ o μ' → ds.length = ps.length)
    (hbody : ∀ (cdv : Value) (A : Around) (outer : List Env) (s : Shared) (H : Hp) (E : XK) (ds : List D) (μ : Mu) (o : Out) (μ' : Mu), Room k (A.deeper (envOfC qual scope s.heap.objs.size f cdv)) → R ds μ o μ' →
      ∃ d, o = .val d ∧ DSs (cxOf CX0 P w K mg base N qual scope f cdv A outer s H E).nox ct body (ds.map some ++ List.replicate (N.length - ds.length) none) μ
        { nx := fun _ μ2 => Ended μ.length d μ' .non μ2, rt := fun d2 μ2 => Ended μ.length d μ' d2 μ2 }) : FnOk P w K mg base CX0 (k + 1) f fd ps (spD K ct R) := by
  refine F.ok S (fun vs H Q E ⟨F, A, μ, ds, o, μ', r, rs, h, _⟩ => by rw [rs.len]; exact hl _ _ _ _ h) fun cdv A outer s H vs Q E hr ⟨F, A', μ, ds, o, μ', r, rs, h, q⟩ => ?_
  obtain ⟨d, rfl, hb⟩ := hbody cdv A outer s H E ds μ o μ' hr h
  refine ⟨_, PSs.nox hb, F, A', ⟨r, ?_⟩, fun Γ2 μ2 σ2 H2 F2 A2 e2 p2 r2 z => ended_go q e2 p2 r2.m .non r.len z, fun d2 μ2 v H2 F2 A2 e2 p2 r2 h2 z => ended_go q e2 p2 r2 h2 r.len z, fun _ _ _ _ _ _ _ _ _ z => z.elim, fun _ _ _ _ _ _ _ _ _ z => z.elim, fun _ _ _ _ _ _ _ _ _ _ _ _ _ z => z.elim⟩
  unfold L2.start
  rw [rs.len]
  exact Slots.start _ rs
/-- how arguments bind, no defaults -/
abbrev BindN (x qual : Str) (params : Arguments) (body : List Stmt) (scope : Scope) (ps : List Str) : Prop :=
  ∀ (kV doc pm : Value) (an : Option Addr) (cdv ct : Value) (us : List Value), us.length = ps.length → bindArgs (PySem.W.fnOf x qual params body scope .none kV doc pm an cdv ct) ⟨us, []⟩ = pure (ps.zip us)
theorem Fn.of {x : Str} {params : Arguments} {body : List Stmt} {scope : Scope} {N ps : List Str} {k : Nat} {R : Rf} (F : ∃ fd, FunD K x x params body scope [] [] (He.fAd K (x, none)) fd) (hm : mg x = some (.ref (He.ga K x))) (S : FnScope N ps scope) (hb : BindN x x params body scope ps)
    (hl : ∀ ds μ o μ', R ds μ o μ' → ds.length = ps.length)
    (hbody : ∀ (f : Addr) (cdv : Value) (A : Around) (outer : List Env) (s : Shared) (H : Hp) (E : XK) (ds : List D) (μ : Mu) (o : Out) (μ' : Mu), Room k (A.deeper (envOfC x scope s.heap.objs.size f cdv)) → R ds μ o μ' →
      ∃ d, o = .val d ∧ DSs (cxOf CX0 P w K mg base N x scope f cdv A outer s H E).nox ct body (ds.map some ++ List.replicate (N.length - ds.length) none) μ
        { nx := fun _ μ2 => Ended μ.length d μ' .non μ2, rt := fun d2 μ2 => Ended μ.length d μ' d2 μ2 }) : Fn P w K mg base ct x (k + 1) R := by
  obtain ⟨fd, F⟩ := F
  refine ⟨CX0, _, fd, ps, [], [], [], ?_, hm, F.kp, F.bindsN hb, .nil, fun _ _ => .nil, fun X _ _ => pass0⟩
  refine FnOk.imp (fn_okF F S hl (hbody _)) fun vs H Q E ⟨F, A, μ, ds, o, μ', r, rs, ⟨ds', e, h⟩, q⟩ => ?_
  rw [List.append_nil] at e
  subst e
  exact ⟨F, A, μ, ds, o, μ', r, rs, h, q⟩
theorem Me.of {n : Nat} {c m : Str} {qual : Str} {params : Arguments} {body : List Stmt} {scope : Scope} {N ps : List Str} {k : Nat} {R : Rf} (F : ∃ fd, FunD K m qual params body scope [] [] (He.fAd K (c, some m)) fd) (hc : ct n = He.ga K c) (cl : Cls K (He.ga K c)) (hm : Meth K (He.ga K c) m (He.ma K (He.ga K c) m)) (S : FnScope N ps scope) (hb : BindN m qual params body scope ps)
    (hl : ∀ ds μ o μ', R ds μ o μ' → ds.length = ps.length)
    (hbody : ∀ (f : Addr) (cdv : Value) (A : Around) (outer : List Env) (s : Shared) (H : Hp) (E : XK) (ds : List D) (μ : Mu) (o : Out) (μ' : Mu), Room k (A.deeper (envOfC qual scope s.heap.objs.size f cdv)) → R ds μ o μ' →
      ∃ d, o = .val d ∧ DSs (cxOf CX0 P w K mg base N qual scope f cdv A outer s H E).nox ct body (ds.map some ++ List.replicate (N.length - ds.length) none) μ
        { nx := fun _ μ2 => Ended μ.length d μ' .non μ2, rt := fun d2 μ2 => Ended μ.length d μ' d2 μ2 }) : Me P w K mg base ct n m (k + 1) R := by
  obtain ⟨fd, F⟩ := F
  exact ⟨hc ▸ cl, CX0, _, fd, ps, fn_okF F S hl (hbody _), hc ▸ hm, F.bindsN hb, fun X _ _ => pass0⟩
/-- a class's __init__ -/
theorem Mkr.of {n : Nat} {c : Str} {qual : Str} {params : Arguments} {body : List Stmt} {scope : Scope} {N ps : List Str} {k : Nat} {I : List D → Mu → List (Str × D) → Mu → Prop} {dvs : List V} (j : Nat) {dds : List D} (F : ∃ fd, FunD K "__init__" qual params body scope dvs [] (He.fAd K (c, some "__init__")) fd) (hc : ct n = He.ga K c) (hM : Mk K (He.ga K c) (He.ma K (He.ga K c) "__init__")) (hm : mg c = some (.ref (He.ga K c))) (S : FnScope N ps scope)
    (hb : ∀ fd, FunD K "__init__" qual params body scope dvs [] (He.fAd K (c, some "__init__")) fd → ∃ ds, Vals (dvs.drop j) ds ∧ Binds K fd ps ds) (hd : ∀ A F, Reps K ct A F (dvs.drop j) dds)
    (hl : ∀ as μ fs μ', I as μ fs μ' → as.length + dds.length + 1 = ps.length)
    (hbody : ∀ (f : Addr) (cdv : Value) (A : Around) (outer : List Env) (s : Shared) (H : Hp) (E : XK) (as : List D) (μ0 : Mu) (fs : List (Str × D)) (μ1 : Mu), Room k (A.deeper (envOfC qual scope s.heap.objs.size f cdv)) → I as μ0 fs μ1 →
      DSs (cxOf CX0 P w K mg base N qual scope f cdv A outer s H E).nox ct body ((.ptr μ0.length :: (as ++ dds)).map some ++ List.replicate (N.length - (as.length + dds.length + 1)) none) (μ0 ++ [.ins n []])
        { nx := fun _ μ2 => μ2 = μ0 ++ [.ins n fs] ++ μ1 }) : Mkr P w K mg base ct n c (k + 1) I := by
  obtain ⟨fd, F⟩ := F
  obtain ⟨dus, hv, hbd⟩ := hb fd F
  refine ⟨CX0, _, fd, ps, dvs.drop j, dus, dds, fn_okF F S (fun ds μ o μ' ⟨as, fs, μ0, μ1, e1, e2, h, e3, e4⟩ => ?_) fun cdv A outer s H E ds μ o μ' hr ⟨as, fs, μ0, μ1, e1, e2, h, e3, e4⟩ => ?_, hc ▸ hM, hc ▸ hm, hbd, hv, hd, fun X _ _ => pass0⟩
  · subst e2
    have := hl _ _ _ _ h
    simp only [List.length_cons, List.length_append]
    omega
  · subst e1 e2 e3 e4
    refine ⟨.non, rfl, ?_⟩
    have b := hbody _ cdv A outer s H E as μ0 fs μ1 hr h
    have el : (D.ptr μ0.length :: (as ++ dds)).length = as.length + dds.length + 1 := by simp
    rw [el]
    exact ds_imp b (fun Γ μ e => ⟨rfl, .inl e⟩) (fun _ _ z => z.elim) (fun _ _ z => z.elim) (fun _ _ z => z.elim)
end
end DL

namespace DL
open PySem PySem.Spec PyProof.Rows L2
section
variable {X : Cx} {ct : Nat → Addr} {Γ Γ1 Γ2 : Gm} {μ μ1 μ2 μ3 : Mu} {d da db dc : D} {ds xs l m : List D} {e a b c o tg elt iter : Expr} {es tgs : List Expr} {st : Stmt} {rest sa sb body : List Stmt} {pos p tp apos p1 : Pos} {x f : Str} {k k' : Bool} {P P' : P4}
/-! ### short words for calls of built-ins -/
theorem boot_bool' : bootBuiltins "bool" = some (.type "bool") := by decide +kernel
theorem boot_tuple' : bootBuiltins "tuple" = some (.type "tuple") := by decide +kernel
theorem boot_abs' : bootBuiltins "abs" = some (.builtin "abs") := by decide +kernel
theorem boot_max' : bootBuiltins "max" = some (.builtin "max") := by decide +kernel
theorem boot_min' : bootBuiltins "min" = some (.builtin "min") := by decide +kernel
theorem boot_sorted' : bootBuiltins "sorted" = some (.builtin "sorted") := by decide +kernel
theorem boot_any' : bootBuiltins "any" = some (.builtin "any") := by decide +kernel
theorem boot_all' : bootBuiltins "all" = some (.builtin "all") := by decide +kernel
theorem boot_repr' : bootBuiltins "repr" = some (.builtin "repr") := by decide +kernel
theorem de_tyint (hm : X.mg "int" = none) (hg : Gl X "int" := by rfl) : DE X ct Γ μ (.Name "int" p) (.raw (.ty "int")) μ := de_bltn hm boot_int rfl hg
theorem de_tybool (hm : X.mg "bool" = none) (hg : Gl X "bool" := by rfl) : DE X ct Γ μ (.Name "bool" p) (.raw (.ty "bool")) μ := de_bltn hm boot_bool' rfl hg
theorem de_tystr (hm : X.mg "str" = none) (hg : Gl X "str" := by rfl) : DE X ct Γ μ (.Name "str" p) (.raw (.ty "str")) μ := de_bltn hm boot_str rfl hg
theorem de_tytup (hm : X.mg "tuple" = none) (hg : Gl X "tuple" := by rfl) : DE X ct Γ μ (.Name "tuple" p) (.raw (.ty "tuple")) μ := de_bltn hm boot_tuple' rfl hg
theorem pe_tylist (hm : X.mg "list" = none) (hg : Gl X "list" := by rfl) : PE X (.Name "list" p) (tC (.ty "list")) := pe_bltn hg hm boot_list rfl (by decide) (by decide)
theorem pe_tytup (hm : X.mg "tuple" = none) (hg : Gl X "tuple" := by rfl) : PE X (.Name "tuple" p) (tC (.ty "tuple")) := pe_bltn hg hm boot_tuple' rfl (by decide) (by decide)
section
variable (hst : starEach [a] X.env = (false, eval a X.env) :: starEach [] X.env) (hpl : (backTo pos (starEach [] X.env)).any (·.1) = false)
theorem de_isi {T U : String} (hm : X.mg "isinstance" = none) (e : tyName d = some T) (h : kitB T U = some k) (he : DE X ct Γ μ a d μ1) (hb : DE X ct Γ μ1 b (.raw (.ty U)) μ1) (hg : Gl X "isinstance" := by rfl)
    (hs1 : starEach [a, b] X.env = (false, eval a X.env) :: starEach [b] X.env := by rfl) (hs2 : starEach [b] X.env = (false, eval b X.env) :: starEach [] X.env := by rfl) (hpl : (backTo pos (starEach [b] X.env)).any (·.1) = false := by rfl) :
    DE X ct Γ μ (.Call (.Name "isinstance" p) [a, b] [] pos) (.bl k) μ1 := de_callB (c1_isi e h) hm boot_isinstance (da_cons he (da_cons hb da_nil hs2) hs1) hg (by decide) (by decide) hs1 hpl
theorem de_len {n : Nat} (hm : X.mg "len" = none) (h : LenD μ1 d n) (he : DE X ct Γ μ a d μ1) (hg : Gl X "len" := by rfl) (hs1 : starEach [a] X.env = (false, eval a X.env) :: starEach [] X.env := by rfl) (hpl : (backTo pos (starEach [] X.env)).any (·.1) = false := by rfl) :
    DE X ct Γ μ (.Call (.Name "len" p) [a] [] pos) (.int n) μ1 := de_callB (c1_len h) hm boot_len (da_cons he da_nil hs1) hg (by decide) (by decide) hs1 hpl
theorem de_lenD {j : Nat} {kds : List (Key × D)} (hm : X.mg "len" = none) (he : DE X ct Γ μ a (.ptr j) μ1) (h : μ1[j]? = some (.dic kds)) (hg : Gl X "len" := by rfl) (hs1 : starEach [a] X.env = (false, eval a X.env) :: starEach [] X.env := by rfl) (hpl : (backTo pos (starEach [] X.env)).any (·.1) = false := by rfl) :
    DE X ct Γ μ (.Call (.Name "len" p) [a] [] pos) (.int kds.length) μ1 := de_callB (c1_lenD h) hm boot_len (da_cons he da_nil hs1) hg (by decide) (by decide) hs1 hpl
theorem de_abs {i : Int} (hm : X.mg "abs" = none) (he : DE X ct Γ μ a (.int i) μ1) (hg : Gl X "abs" := by rfl) (hs1 : starEach [a] X.env = (false, eval a X.env) :: starEach [] X.env := by rfl) (hpl : (backTo pos (starEach [] X.env)).any (·.1) = false := by rfl) :
    DE X ct Γ μ (.Call (.Name "abs" p) [a] [] pos) (.int (if i < 0 then -i else i)) μ1 := de_callB c1_abs hm boot_abs' (da_cons he da_nil hs1) hg (by decide) (by decide) hs1 hpl
theorem de_intc {i : Int} (hm : X.mg "int" = none) (he : DE X ct Γ μ a (.int i) μ1) (hg : Gl X "int" := by rfl) (hs1 : starEach [a] X.env = (false, eval a X.env) :: starEach [] X.env := by rfl) (hpl : (backTo pos (starEach [] X.env)).any (·.1) = false := by rfl) :
    DE X ct Γ μ (.Call (.Name "int" p) [a] [] pos) (.int i) μ1 := de_callT c1_int hm boot_int (da_cons he da_nil hs1) hg (by decide) (by decide) hs1 hpl
theorem de_strc {s : Str} (hm : X.mg "str" = none) (he : DE X ct Γ μ a (.str s) μ1) (hg : Gl X "str" := by rfl) (hs1 : starEach [a] X.env = (false, eval a X.env) :: starEach [] X.env := by rfl) (hpl : (backTo pos (starEach [] X.env)).any (·.1) = false := by rfl) :
    DE X ct Γ μ (.Call (.Name "str" p) [a] [] pos) (.str s) μ1 := de_callT c1_str hm boot_str (da_cons he da_nil hs1) hg (by decide) (by decide) hs1 hpl
theorem de_tuple (hm : X.mg "tuple" = none) (h : SeqM μ1 d l) (he : DE X ct Γ μ a d μ1) (hg : Gl X "tuple" := by rfl) (hs1 : starEach [a] X.env = (false, eval a X.env) :: starEach [] X.env := by rfl) (hpl : (backTo pos (starEach [] X.env)).any (·.1) = false := by rfl) :
    DE X ct Γ μ (.Call (.Name "tuple" p) [a] [] pos) (.tup l) μ1 := de_callT (c1_tuple h) hm boot_tuple' (da_cons he da_nil hs1) hg (by decide) (by decide) hs1 hpl
theorem de_list (hm : X.mg "list" = none) (h : SeqM μ1 d l) (he : DE X ct Γ μ a d μ1) (hg : Gl X "list" := by rfl) (hs1 : starEach [a] X.env = (false, eval a X.env) :: starEach [] X.env := by rfl) (hpl : (backTo pos (starEach [] X.env)).any (·.1) = false := by rfl) :
    DE X ct Γ μ (.Call (.Name "list" p) [a] [] pos) (.lst l) μ1 := de_callT (c1_list h) hm boot_list (da_cons he da_nil hs1) hg (by decide) (by decide) hs1 hpl
theorem de_sortI {ns : List Int} (hm : X.mg "sorted" = none) (h : SeqM μ1 d (ns.map .int)) (nt : ∀ z, d ≠ .tup z) (he : DE X ct Γ μ a d μ1) (hg : Gl X "sorted" := by rfl) (hs1 : starEach [a] X.env = (false, eval a X.env) :: starEach [] X.env := by rfl) (hpl : (backTo pos (starEach [] X.env)).any (·.1) = false := by rfl) :
    DE X ct Γ μ (.Call (.Name "sorted" p) [a] [] pos) (.lst ((sortI ns).map .int)) μ1 := de_callB (c1_sortI h nt) hm boot_sorted' (da_cons he da_nil hs1) hg (by decide) (by decide) hs1 hpl
theorem de_max {i j : Int} (hc : X.calm = true) (hm : X.mg "max" = none) (he : DE X ct Γ μ a (.int i) μ1) (hb : DE X ct Γ μ1 b (.int j) μ2) (hg : Gl X "max" := by rfl) (hs1 : starEach [a, b] X.env = (false, eval a X.env) :: starEach [b] X.env := by rfl) (hs2 : starEach [b] X.env = (false, eval b X.env) :: starEach [] X.env := by rfl) (hpl : (backTo pos (starEach [b] X.env)).any (·.1) = false := by rfl) :
    DE X ct Γ μ (.Call (.Name "max" p) [a, b] [] pos) (.int (max i j)) μ2 := de_callB (c1_max hc) hm boot_max' (da_cons he (da_cons hb da_nil hs2) hs1) hg (by decide) (by decide) hs1 hpl
theorem de_min {i j : Int} (hc : X.calm = true) (hm : X.mg "min" = none) (he : DE X ct Γ μ a (.int i) μ1) (hb : DE X ct Γ μ1 b (.int j) μ2) (hg : Gl X "min" := by rfl) (hs1 : starEach [a, b] X.env = (false, eval a X.env) :: starEach [b] X.env := by rfl) (hs2 : starEach [b] X.env = (false, eval b X.env) :: starEach [] X.env := by rfl) (hpl : (backTo pos (starEach [b] X.env)).any (·.1) = false := by rfl) :
    DE X ct Γ μ (.Call (.Name "min" p) [a, b] [] pos) (.int (min i j)) μ2 := de_callB (c1_min hc) hm boot_min' (da_cons he (da_cons hb da_nil hs2) hs1) hg (by decide) (by decide) hs1 hpl
end
/-! ### fields, `in`, whatever the kind -/
inductive FldD (K : PySem.W.Frag) (ct : Nat → Addr) (μ : Mu) : D → Str → D → Prop
  | ins {n : Nat} {fs : List (Str × D)} {f : Str} {d : D} (h : FldOk K ct n f) (l : fs.lookup f = some d) : FldD K ct μ (.ins n fs) f d
  | cell {j n : Nat} {fs : List (Str × D)} {f : Str} {d : D} (h : FldOk K ct n f) (hm : μ[j]? = some (.ins n fs)) (l : fs.lookup f = some d) : FldD K ct μ (.ptr j) f d
theorem de_attr (h : FldD X.K ct μ1 da f d) (he : DE X ct Γ μ e da μ1) (hb : attributeBase e f X.env (eval e X.env) = eval e X.env := by rfl) : DE X ct Γ μ (.Attribute e f pos) d μ1 := by
  cases h with
  | ins h l => exact de_fld h he l hb
  | cell h hm l => exact de_fldM h he hm l hb
inductive InD (μ : Mu) : D → D → Bool → Prop
  | seq {da db : D} {l : List D} (hl : isSeq db = some l) (fa : flatD da = true) (fl : l.all flatD = true) : InD μ da db (l.any fun y => eqF y da)
  | dic {da db : D} {k : Bool} (h : DicD μ da db k) : InD μ da db k
theorem de_in (h : InD μ2 da db k) (hu : X.A.units + 1 < cLine) (ha : DE X ct Γ μ a da μ1) (hb : DE X ct Γ μ1 b db μ2) (hm : behindInMarks .In b = false := by first | rfl | with_unfolding_all rfl) : DE X ct Γ μ (.Compare a [.In] [b] pos) (.bl k) μ2 := by
  cases h with
  | seq h1 h2 h3 => exact de_cmp (o2_in h1 h2 h3) ha hb hm
  | dic h => exact de_din h hu ha hb hm
theorem de_nin (h : InD μ2 da db k) (hu : X.A.units + 1 < cLine) (ha : DE X ct Γ μ a da μ1) (hb : DE X ct Γ μ1 b db μ2) (hm : behindInMarks .NotIn b = false := by first | rfl | with_unfolding_all rfl) : DE X ct Γ μ (.Compare a [.NotIn] [b] pos) (.bl (!k)) μ2 := by
  cases h with
  | seq h1 h2 h3 => exact de_cmp (o2_nin h1 h2 h3) ha hb hm
  | dic h => exact de_dnin h hu ha hb hm
theorem dt_in (h : InD μ2 da db k) (hu : X.A.units + 1 < cLine) (ha : DE X ct Γ μ a da μ1) (hb : DE X ct Γ μ1 b db μ2) (hm : behindInMarks .In b = false := by first | rfl | with_unfolding_all rfl) : DT X ct Γ μ (.Compare a [.In] [b] pos) k μ2 := by
  cases h with
  | seq h1 h2 h3 => exact dt_cmp (o2_in h1 h2 h3) ha hb hm
  | dic h => exact dt_din h hu ha hb hm
theorem dt_nin (h : InD μ2 da db k) (hu : X.A.units + 1 < cLine) (ha : DE X ct Γ μ a da μ1) (hb : DE X ct Γ μ1 b db μ2) (hm : behindInMarks .NotIn b = false := by first | rfl | with_unfolding_all rfl) : DT X ct Γ μ (.Compare a [.NotIn] [b] pos) (!k) μ2 := by
  cases h with
  | seq h1 h2 h3 => exact dt_cmp (o2_nin h1 h2 h3) ha hb hm
  | dic h => exact dt_dnin h hu ha hb hm
/-- ints in a list of ints -/
theorem any_int (i : Int) (ns : List Int) : ((ns.map D.int).any fun y => eqF y (.int i)) = decide (i ∈ ns) := by
  rw [Bool.eq_iff_iff]
  simp only [List.any_map, List.any_eq_true, decide_eq_true_eq, Function.comp]
  constructor
  · rintro ⟨x, hx, e⟩
    have e' : (x == i) = true := e
    rw [beq_iff_eq] at e'
    exact e' ▸ hx
  · intro h
    exact ⟨i, h, by show (i == i) = true; simp⟩
theorem InD.ints {i : Int} {ns : List Int} (hl : isSeq db = some (ns.map D.int)) : InD μ (.int i) db (decide (i ∈ ns)) := by
  rw [← any_int]
  exact .seq hl rfl (by rw [List.all_map]; exact List.all_eq_true.mpr fun _ _ => rfl)
theorem kit_bounds {n : Nat} (h : n ≤ 1000000) : n ≤ sizeLine := by rw [sizeLine_eq]; omega
/-! ### a class's instance made and frozen at once -/
theorem de_make {kk n : Nat} {I : List D → Mu → List (Str × D) → Mu → Prop} {fs : List (Str × D)} (G : Mkr X.prog X.w X.K X.mg X.base ct n x kk I) (hr : Room (kk + 1) X.A) (ha : DA X ct Γ μ (e :: es) ds μ1) (h : I ds μ1 fs []) (sc : Scoped μ1) (so : okFs μ1.length fs = true) (hΓ : ∀ d' ∈ Γ, ∀ d'', d' = some d'' → okD μ1.length d'' = true) (hl : μ.length ≤ μ1.length) (hg : Gl X x := by rfl)
    (hdb : (x == ("__debug__" : Str)) = false := by decide) (he : starEach (e :: es) X.env = (false, eval e X.env) :: starEach es X.env := by rfl) (hpl : (backTo pos (starEach es X.env)).any (·.1) = false := by rfl) : DE X ct Γ μ (.Call (.Name x p) (e :: es) [] pos) (.ins n fs) μ1 := by
  have g := de_makeM (pos := pos) (p := p) G hr ha h hg hdb he hpl
  rw [List.append_nil] at g
  exact de_fz g rfl sc so hΓ hl
end
end DL

/-! # A call is shown only the places it is given -/
namespace DL
open PySem PySem.Spec PyProof.Rows L2
mutual
def renD (ρ : Nat → Nat) : D → D
  | .ptr k => .ptr (ρ k)
  | .tup l => .tup (renDs ρ l)
  | .lst l => .lst (renDs ρ l)
  | .scr l => .scr (renDs ρ l)
  | .dic l => .dic (renKs ρ l)
  | .ins n l => .ins n (renFs ρ l)
  | .non => .non
  | .bl b => .bl b
  | .int i => .int i
  | .str s => .str s
  | .raw v => .raw v
def renDs (ρ : Nat → Nat) : List D → List D
  | [] => []
  | d :: l => renD ρ d :: renDs ρ l
def renKs (ρ : Nat → Nat) : List (Key × D) → List (Key × D)
  | [] => []
  | (k, d) :: l => (k, renD ρ d) :: renKs ρ l
def renFs (ρ : Nat → Nat) : List (Str × D) → List (Str × D)
  | [] => []
  | (k, d) :: l => (k, renD ρ d) :: renFs ρ l
end
def renC (ρ : Nat → Nat) : Cell → Cell
  | .dead => .dead
  | .lst l => .lst (renDs ρ l)
  | .dic l => .dic (renKs ρ l)
  | .ins n l => .ins n (renFs ρ l)
theorem renKs_k (ρ : Nat → Nat) : ∀ l : List (Key × D), (renKs ρ l).map (·.1) = l.map (·.1)
  | [] => by simp [renKs]
  | (_, _) :: l => by simp [renKs, renKs_k ρ l]
theorem renKs_v (ρ : Nat → Nat) : ∀ l : List (Key × D), (renKs ρ l).map (·.2) = renDs ρ (l.map (·.2))
  | [] => by simp [renKs, renDs]
  | (_, _) :: l => by simp [renKs, renDs, renKs_v ρ l]
theorem renFs_k (ρ : Nat → Nat) : ∀ l : List (Str × D), (renFs ρ l).map (·.1) = l.map (·.1)
  | [] => by simp [renFs]
  | (_, _) :: l => by simp [renFs, renFs_k ρ l]
theorem renFs_v (ρ : Nat → Nat) : ∀ l : List (Str × D), (renFs ρ l).map (·.2) = renDs ρ (l.map (·.2))
  | [] => by simp [renFs, renDs]
  | (_, _) :: l => by simp [renFs, renDs, renFs_v ρ l]
theorem okKs_v (n : Nat) : ∀ l : List (Key × D), okDs n (l.map (·.2)) = okKs n l
  | [] => by simp [okKs, okDs]
  | (_, _) :: l => by simp [okKs, okDs, okKs_v n l]
theorem okFs_v (n : Nat) : ∀ l : List (Str × D), okDs n (l.map (·.2)) = okFs n l
  | [] => by simp [okFs, okDs]
  | (_, _) :: l => by simp [okFs, okDs, okFs_v n l]
mutual
theorem ren0 (ρ : Nat → Nat) : ∀ d : D, okD 0 d = true → renD ρ d = d
  | .ptr k, e => by simp [okD] at e
  | .tup l, e => by simp only [okD] at e; simp only [renD, ren0s ρ l e]
  | .lst l, e => by simp only [okD] at e; simp only [renD, ren0s ρ l e]
  | .scr l, e => by simp only [okD] at e; simp only [renD, ren0s ρ l e]
  | .dic l, e => by simp only [okD] at e; simp only [renD, ren0k ρ l e]
  | .ins _ l, e => by simp only [okD] at e; simp only [renD, ren0f ρ l e]
  | .non, _ => by simp only [renD]
  | .bl _, _ => by simp only [renD]
  | .int _, _ => by simp only [renD]
  | .str _, _ => by simp only [renD]
  | .raw _, _ => by simp only [renD]
theorem ren0s (ρ : Nat → Nat) : ∀ d : List D, okDs 0 d = true → renDs ρ d = d
  | [], _ => by simp only [renDs]
  | d :: l, e => by
    simp only [okDs, Bool.and_eq_true] at e
    simp only [renDs, ren0 ρ d e.1, ren0s ρ l e.2]
theorem ren0k (ρ : Nat → Nat) : ∀ d : List (Key × D), okKs 0 d = true → renKs ρ d = d
  | [], _ => by simp only [renKs]
  | (_, d) :: l, e => by
    simp only [okKs, Bool.and_eq_true] at e
    simp only [renKs, ren0 ρ d e.1, ren0k ρ l e.2]
theorem ren0f (ρ : Nat → Nat) : ∀ d : List (Str × D), okFs 0 d = true → renFs ρ d = d
  | [], _ => by simp only [renFs]
  | (_, d) :: l, e => by
    simp only [okFs, Bool.and_eq_true] at e
    simp only [renFs, ren0 ρ d e.1, ren0f ρ l e.2]
end
theorem ren0c (ρ : Nat → Nat) (c : Cell) (e : okC 0 c = true) : renC ρ c = c := by
  cases c with
  | dead => rfl
  | lst l => show Cell.lst _ = _; rw [ren0s ρ l e]
  | dic l => show Cell.dic _ = _; rw [ren0k ρ l e]
  | ins n l => show Cell.ins n _ = _; rw [ren0f ρ l e]
section
variable {K : PySem.W.Frag} {ct : Nat → Addr} {A A2 : List Addr} {F F2 : Hp} {ρ : Nat → Nat} {n : Nat}
mutual
theorem Rep.ren (h : ∀ (k : Nat) (a : Addr), A[k]? = some a → A2[ρ k]? = some a) (e : LeR F F2) : ∀ {v : V} {d : D}, Rep K ct A F v d → Rep K ct A2 F2 v (renD ρ d)
  | _, _, .non => by simp only [renD]; exact .non
  | _, _, .bl b => by simp only [renD]; exact .bl b
  | _, _, .int i => by simp only [renD]; exact .int i
  | _, _, .str s => by simp only [renD]; exact .str s
  | _, _, .raw v => by simp only [renD]; exact .raw v
  | _, _, .tup h' r => by simp only [renD]; exact .tup (e.t h') (Reps.ren h e r)
  | _, _, .lst h' r => by simp only [renD]; exact .lst (e.lst _ _ h') (Reps.ren h e r)
  | _, _, .scr h' r => by simp only [renD]; exact .scr (e.l h') (Reps.ren h e r)
  | _, _, .dic h' k r => by simp only [renD]; exact .dic (e.rd _ _ rfl h') (by rw [renKs_k]; exact k) (by rw [renKs_v]; exact Reps.ren h e r)
  | _, _, .ins h' k r => by simp only [renD]; exact .ins (e.ins _ _ _ _ h') (by rw [renFs_k]; exact k) (by rw [renFs_v]; exact Reps.ren h e r)
  | _, _, .ptr h' => by simp only [renD]; exact .ptr (h _ _ h')
theorem Reps.ren (h : ∀ (k : Nat) (a : Addr), A[k]? = some a → A2[ρ k]? = some a) (e : LeR F F2) : ∀ {vs : List V} {ds : List D}, Reps K ct A F vs ds → Reps K ct A2 F2 vs (renDs ρ ds)
  | _, _, .nil => by simp only [renDs]; exact .nil
  | _, _, .cons a r => by simp only [renDs]; exact .cons (Rep.ren h e a) (Reps.ren h e r)
end
mutual
theorem Rep.unren (h : ∀ (k : Nat) (a : Addr), k < n → A[ρ k]? = some a → A2[k]? = some a) (e : LeR F F2) : ∀ {d : D} {v : V}, okD n d = true → Rep K ct A F v (renD ρ d) → Rep K ct A2 F2 v d
  | .non, v, _, r => by simp only [renD] at r; cases r; exact .non
  | .bl b, v, _, r => by simp only [renD] at r; cases r; exact .bl b
  | .int b, v, _, r => by simp only [renD] at r; cases r; exact .int b
  | .str b, v, _, r => by simp only [renD] at r; cases r; exact .str b
  | .raw b, v, _, r => by simp only [renD] at r; cases r; exact .raw _
  | .tup l, v, o, r => by simp only [renD] at r; simp only [okD] at o; cases r with | tup h' r => exact .tup (e.t h') (Reps.unren h e o r)
  | .lst l, v, o, r => by simp only [renD] at r; simp only [okD] at o; cases r with | lst h' r => exact .lst (e.lst _ _ h') (Reps.unren h e o r)
  | .scr l, v, o, r => by simp only [renD] at r; simp only [okD] at o; cases r with | scr h' r => exact .scr (e.l h') (Reps.unren h e o r)
  | .dic l, v, o, r => by
    simp only [renD] at r; simp only [okD] at o
    cases r with
    | dic h' k r => rw [renKs_k] at k; exact .dic (e.rd _ _ rfl h') k (Reps.unrenK h e o r)
  | .ins m l, v, o, r => by
    simp only [renD] at r; simp only [okD] at o
    cases r with
    | ins h' k r => rw [renFs_k] at k; exact .ins (e.ins _ _ _ _ h') k (Reps.unrenF h e o r)
  | .ptr k, v, o, r => by
    simp only [renD] at r
    simp only [okD, decide_eq_true_eq] at o
    cases r with
    | ptr h' => exact .ptr (h _ _ o h')
theorem Reps.unren (h : ∀ (k : Nat) (a : Addr), k < n → A[ρ k]? = some a → A2[k]? = some a) (e : LeR F F2) : ∀ {ds : List D} {vs : List V}, okDs n ds = true → Reps K ct A F vs (renDs ρ ds) → Reps K ct A2 F2 vs ds
  | [], vs, _, r => by simp only [renDs] at r; cases r; exact .nil
  | d :: ds, vs, o, r => by
    simp only [renDs] at r; simp only [okDs, Bool.and_eq_true] at o
    cases r with
    | cons a b => exact .cons (Rep.unren h e o.1 a) (Reps.unren h e o.2 b)
theorem Reps.unrenK (h : ∀ (k : Nat) (a : Addr), k < n → A[ρ k]? = some a → A2[k]? = some a) (e : LeR F F2) : ∀ {ds : List (Key × D)} {vs : List V}, okKs n ds = true → Reps K ct A F vs ((renKs ρ ds).map (·.2)) → Reps K ct A2 F2 vs (ds.map (·.2))
  | [], vs, _, r => by simp only [renKs, List.map_nil] at r; cases r; exact .nil
  | (_, d) :: ds, vs, o, r => by
    simp only [renKs, List.map_cons] at r; simp only [okKs, Bool.and_eq_true] at o
    cases r with
    | cons a b => exact .cons (Rep.unren h e o.1 a) (Reps.unrenK h e o.2 b)
theorem Reps.unrenF (h : ∀ (k : Nat) (a : Addr), k < n → A[ρ k]? = some a → A2[k]? = some a) (e : LeR F F2) : ∀ {ds : List (Str × D)} {vs : List V}, okFs n ds = true → Reps K ct A F vs ((renFs ρ ds).map (·.2)) → Reps K ct A2 F2 vs (ds.map (·.2))
  | [], vs, _, r => by simp only [renFs, List.map_nil] at r; cases r; exact .nil
  | (_, d) :: ds, vs, o, r => by
    simp only [renFs, List.map_cons] at r; simp only [okFs, Bool.and_eq_true] at o
    cases r with
    | cons a b => exact .cons (Rep.unren h e o.1 a) (Reps.unrenF h e o.2 b)
end
end
/-- where a callee's place lies in the caller's store -/
def ro (n : Nat) (sel : List Nat) (k : Nat) : Nat := match sel[k]? with
  | some i => i
  | none => n + (k - sel.length)
structure Sel (μ : Mu) (sel : List Nat) (μc : Mu) : Prop where
  len : sel.length = μc.length
  nd : sel.Nodup
  at_ : ∀ (p : Nat) (c : Cell), μc[p]? = some c → ∃ i, sel[p]? = some i ∧ μ[i]? = some (renC (ro μ.length sel) c)
  ok : ∀ c ∈ μc, c ≠ .dead ∧ okC sel.length c = true
structure Mrg (μ : Mu) (sel : List Nat) (μc' μ2 : Mu) : Prop where
  len : μ2.length = μ.length + (μc'.length - sel.length)
  old : ∀ i, i < μ.length → i ∉ sel → μ2[i]? = μ[i]?
  new : ∀ (k : Nat) (c : Cell), μc'[k]? = some c → μ2[ro μ.length sel k]? = some (renC (ro μ.length sel) c)
section
variable {K : PySem.W.Frag} {ct : Nat → Addr} {A : List Addr} {H F : Hp} {μ μc : Mu} {sel : List Nat}
open Classical in
/-- all else is marked -/
noncomputable def mk (F H : Hp) (A Ac : List Addr) : Hp := fun a => if a ∈ A ∧ a ∉ Ac ∧ F a = none then (H a).map mark else F a
open Classical in
noncomputable def unmk (F F' : Hp) (A Ac : List Addr) : Hp := fun a => if a ∈ A ∧ a ∉ Ac ∧ F a = none then none else F' a
theorem mk_le {Ac : List Addr} : Le F (mk F H A Ac) := fun a o e => by
  unfold mk
  rw [if_neg (by rintro ⟨_, _, z⟩; rw [e] at z; cases z)]
  exact e
theorem okC_ren (h : ∀ (k : Nat) (a : Addr) , True) : True := trivial
theorem CellOk.unren {Ac : List Addr} {Fc : Hp} {a : Addr} {c : Cell} {ρ : Nat → Nat} {n : Nat} (h : ∀ (k : Nat) (a : Addr), k < n → A[ρ k]? = some a → Ac[k]? = some a) (e : LeR F Fc) (hf : F a = none → Fc a = none) (o : okC n c = true) (r : CellOk K ct A F H a (renC ρ c)) : CellOk K ct Ac Fc H a c := by
  cases c with
  | dead => trivial
  | lst l => obtain ⟨f, vs, h1, h2⟩ := r; exact ⟨hf f, vs, h1, h2.unren h e o⟩
  | dic l => obtain ⟨f, vs, h1, h2, h3⟩ := r; rw [renKs_k] at h2; exact ⟨hf f, vs, h1, h2, h3.unrenK h e o⟩
  | ins m l => obtain ⟨f, dx, vs, h1, h2, h3⟩ := r; rw [renFs_k] at h2; exact ⟨hf f, dx, vs, h1, h2, h3.unrenF h e o⟩
theorem CellOk.ren {A2 : List Addr} {F2 : Hp} {a : Addr} {c : Cell} {ρ : Nat → Nat} (h : ∀ (k : Nat) (a : Addr), A[k]? = some a → A2[ρ k]? = some a) (e : LeR F F2) (hf : F a = none → F2 a = none) (r : CellOk K ct A F H a c) : CellOk K ct A2 F2 H a (renC ρ c) := by
  cases c with
  | dead => trivial
  | lst l => obtain ⟨f, vs, h1, h2⟩ := r; exact ⟨hf f, vs, h1, h2.ren h e⟩
  | dic l => obtain ⟨f, vs, h1, h2, h3⟩ := r; exact ⟨hf f, vs, h1, by rw [renKs_k]; exact h2, by rw [renKs_v]; exact h3.ren h e⟩
  | ins m l => obtain ⟨f, dx, vs, h1, h2, h3⟩ := r; exact ⟨hf f, dx, vs, h1, by rw [renFs_k]; exact h2, by rw [renFs_v]; exact h3.ren h e⟩
theorem renC_dead {ρ : Nat → Nat} {c : Cell} (h : renC ρ c = .dead) : c = .dead := by cases c <;> first | rfl | cases h
/-- what the callee is shown -/
theorem frame (r : Rl0 K ct μ H F A) (S : Sel μ sel μc) : ∃ (Fc : Hp) (Ac : List Addr), Rl0 K ct μc H Fc Ac ∧
    (∀ vs ds, okDs sel.length ds = true → Reps K ct A F vs (renDs (ro μ.length sel) ds) → Reps K ct Ac Fc vs ds) ∧
    ∀ (μc' : Mu) (H' F' : Hp) (A' : List Addr) (μ2 : Mu), Le Fc F' → Ac <+: A' → Rl0 K ct μc' H' F' A' → Mrg μ sel μc' μ2 →
      ∃ (F2 : Hp) (A2 : List Addr), Le F F2 ∧ A <+: A2 ∧ Rl0 K ct μ2 H' F2 A2 ∧ (∀ (k : Nat) (a : Addr), A'[k]? = some a → A2[ro μ.length sel k]? = some a) ∧ LeR F' F2 := by
  have lenA := r.len
  -- the places
  let Ac : List Addr := sel.map fun i => A.getD i default
  have acl : Ac.length = μc.length := by simp [Ac, S.len]
  have selp : ∀ (p i : Nat), sel[p]? = some i → ∃ c, μc[p]? = some c ∧ i < μ.length ∧ μ[i]? = some (renC (ro μ.length sel) c) := fun p i hp => by
    have hlt : p < μc.length := by rw [← S.len]; exact (List.getElem?_eq_some_iff.mp hp).1
    obtain ⟨i', h1, h2⟩ := S.at_ p _ (List.getElem?_eq_getElem hlt)
    rw [hp] at h1; cases h1
    exact ⟨_, List.getElem?_eq_getElem hlt, (List.getElem?_eq_some_iff.mp h2).1, h2⟩
  have acg : ∀ (p i : Nat), sel[p]? = some i → ∃ a, A[i]? = some a ∧ Ac[p]? = some a := fun p i hp => by
    obtain ⟨c, _, hi, _⟩ := selp p i hp
    have hi' : i < A.length := by rw [lenA]; exact hi
    refine ⟨A[i], List.getElem?_eq_getElem hi', ?_⟩
    show (sel.map _)[p]? = _
    rw [List.getElem?_map, hp]
    simp [List.getD, List.getElem?_eq_getElem hi']
  have acI : ∀ (p : Nat) (a : Addr), Ac[p]? = some a → ∃ i c, sel[p]? = some i ∧ A[i]? = some a ∧ μc[p]? = some c ∧ μ[i]? = some (renC (ro μ.length sel) c) := fun p a hp => by
    have hlt : p < sel.length := by rw [S.len, ← acl]; exact (List.getElem?_eq_some_iff.mp hp).1
    obtain ⟨a', h1, h2⟩ := acg p _ (List.getElem?_eq_getElem hlt)
    rw [hp] at h2; cases h2
    obtain ⟨c, h3, _, h4⟩ := selp p _ (List.getElem?_eq_getElem hlt)
    exact ⟨_, c, List.getElem?_eq_getElem hlt, h1, h3, h4⟩
  have live : ∀ (p : Nat) (c : Cell), μc[p]? = some c → renC (ro μ.length sel) c ≠ .dead := fun p c hp z => (S.ok c (List.mem_of_getElem? hp)).1 (renC_dead z)
  have acF : ∀ a ∈ Ac, F a = none := fun a ha => by
    obtain ⟨p, hp⟩ := List.getElem?_of_mem ha
    obtain ⟨i, c, h1, h2, h3, h4⟩ := acI p a hp
    exact (r.ok i a _ h2 h4).fr (live p c h3)
  have acA : ∀ a ∈ Ac, a ∈ A := fun a ha => by
    obtain ⟨p, hp⟩ := List.getElem?_of_mem ha
    obtain ⟨i, c, h1, h2, h3, h4⟩ := acI p a hp
    exact List.mem_of_getElem? h2
  let Fc : Hp := mk F H A Ac
  have le1 : Le F Fc := mk_le
  have fcn : ∀ a ∈ Ac, Fc a = none := fun a ha => by
    show mk F H A Ac a = none
    unfold mk
    rw [if_neg (by rintro ⟨_, z, _⟩; exact z ha)]
    exact acF a ha
  have rho : ∀ (k : Nat) (a : Addr), k < sel.length → A[ro μ.length sel k]? = some a → Ac[k]? = some a := fun k a hk h => by
    unfold ro at h
    rw [List.getElem?_eq_getElem hk] at h
    obtain ⟨a', h1, h2⟩ := acg k _ (List.getElem?_eq_getElem hk)
    simp only at h
    rw [h1] at h; cases h
    exact h2
  have rc : Rl0 K ct μc H Fc Ac := by
    refine ⟨fun a o e => ?_, acl, fun i j a c c' hi hj h1 h2 l1 l2 => ?_, fun a ha => r.there a (acA a ha), fun k a c ha hc => ?_⟩
    · change mk F H A Ac a = some o at e
      unfold mk at e
      by_cases hq : a ∈ A ∧ a ∉ Ac ∧ F a = none
      · rw [if_pos hq] at e
        cases q : H a with
        | none => rw [q] at e; cases e
        | some u => rw [q] at e; cases e; rfl
      · rw [if_neg hq] at e
        exact r.sub a o e
    · obtain ⟨i', ci, x1, x2, x3, x4⟩ := acI i a hi
      obtain ⟨j', cj, y1, y2, y3, y4⟩ := acI j a hj
      have e := r.nd i' j' a _ _ x2 y2 x4 y4 (live i ci x3) (live j cj y3)
      subst e
      have hi2 : i < sel.length := (List.getElem?_eq_some_iff.mp x1).1
      exact (List.getElem?_inj hi2 S.nd).mp (x1.trans y1.symm)
    · obtain ⟨i, c', x1, x2, x3, x4⟩ := acI k a ha
      rw [hc] at x3; cases x3
      exact (r.ok i a _ x2 x4).unren rho le1.r (fun _ => fcn a (List.mem_of_getElem? ha)) (S.ok c (List.mem_of_getElem? hc)).2
  refine ⟨Fc, Ac, rc, fun vs ds o h => h.unren rho le1.r o, fun μc' H' F' A' μ2 le p r' M => ?_⟩
  obtain ⟨T, rfl⟩ := p
  let F2 : Hp := unmk F F' A Ac
  have lenT : μc'.length = sel.length + T.length := by rw [← r'.len, List.length_append, acl, S.len]
  have len2 : μ2.length = μ.length + T.length := by rw [M.len, lenT]; omega
  have mkd : ∀ a, a ∈ A → a ∉ Ac → F a = none → ∃ u, H a = some u ∧ F' a = some (mark u) ∧ H' a = some u := fun a h1 h2 h3 => by
    obtain ⟨u, hu⟩ := r.there a h1
    have e : Fc a = some (mark u) := by
      show mk F H A Ac a = _
      unfold mk
      rw [if_pos ⟨h1, h2, h3⟩, hu]; rfl
    exact ⟨u, hu, le _ _ e, r'.sub _ _ (le _ _ e)⟩
  have f2le : ∀ a o, F2 a = some o → F' a = some o := fun a o e => by
    change unmk F F' A Ac a = some o at e
    unfold unmk at e
    by_cases hq : a ∈ A ∧ a ∉ Ac ∧ F a = none
    · rw [if_pos hq] at e; cases e
    · rw [if_neg hq] at e; exact e
  have f2of : ∀ a, ¬ (a ∈ A ∧ a ∉ Ac ∧ F a = none) → F2 a = F' a := fun a hq => by
    show unmk F F' A Ac a = _
    unfold unmk
    rw [if_neg hq]
  have f2no : ∀ a, (a ∈ A ∧ a ∉ Ac ∧ F a = none) → F2 a = none := fun a hq => by
    show unmk F F' A Ac a = _
    unfold unmk
    rw [if_pos hq]
  have le2 : Le F F2 := fun a o e => by
    rw [f2of a (by rintro ⟨_, _, z⟩; rw [e] at z; cases z)]
    exact le _ _ (le1 _ _ e)
  have ler : LeR F' F2 := by
    have key : ∀ a u, F' a = some u → (∀ w, u ≠ mark w) → F2 a = some u := fun a u e nm => by
      rw [f2of a (fun ⟨z1, z2, z3⟩ => by obtain ⟨w, _, e', _⟩ := mkd a z1 z2 z3; rw [e] at e'; cases e'; exact nm w rfl)]
      exact e
    refine ⟨fun a u du h => ?_, fun a C dx fs h => key a _ h (by intro w z; cases z), fun a xs h => key a _ h (by intro w z; cases z)⟩
    rcases h with h | ⟨o, h⟩
    · exact .inl (key a u h (by intro w z; subst z; cases du))
    · refine .inr ⟨o, key a _ h (fun w z => ?_)⟩
      unfold mark at z
      cases z
      cases du
  have pA : A <+: A ++ T := List.prefix_append _ _
  have rho2 : ∀ (k : Nat) (a : Addr), (Ac ++ T)[k]? = some a → (A ++ T)[ro μ.length sel k]? = some a := fun k a h => by
    by_cases hk : k < sel.length
    · rw [List.getElem?_append_left (by rw [acl, ← S.len]; exact hk)] at h
      obtain ⟨i, c, x1, x2, x3, x4⟩ := acI k a h
      unfold ro
      rw [x1]
      exact pre_get pA x2
    · rw [List.getElem?_append_right (by rw [acl, ← S.len]; omega)] at h
      have e0 : sel[k]? = none := List.getElem?_eq_none (by omega)
      unfold ro
      rw [e0]
      show (A ++ T)[μ.length + (k - sel.length)]? = some a
      rw [List.getElem?_append_right (by rw [lenA]; omega), lenA]
      rw [acl, ← S.len] at h
      rw [show μ.length + (k - sel.length) - μ.length = k - sel.length by omega]
      exact h
  -- where a place of the caller comes from
  have src : ∀ (i : Nat) (a : Addr) (c : Cell), (A ++ T)[i]? = some a → μ2[i]? = some c →
      (i < μ.length ∧ i ∉ sel ∧ A[i]? = some a ∧ μ[i]? = some c) ∨ ∃ k c', i = ro μ.length sel k ∧ (Ac ++ T)[k]? = some a ∧ μc'[k]? = some c' ∧ c = renC (ro μ.length sel) c' := fun i a c ha hc => by
    by_cases hi : i < μ.length
    · have ha' : A[i]? = some a := by rw [List.getElem?_append_left (by rw [lenA]; exact hi)] at ha; exact ha
      by_cases hs : i ∈ sel
      · obtain ⟨p, hp⟩ := List.getElem?_of_mem hs
        obtain ⟨a', x1, x2⟩ := acg p i hp
        rw [ha'] at x1; cases x1
        have hpl : p < μc'.length := by rw [lenT]; have := (List.getElem?_eq_some_iff.mp hp).1; omega
        have er : ro μ.length sel p = i := by unfold ro; rw [hp]
        have m := M.new p _ (List.getElem?_eq_getElem hpl)
        rw [er, hc] at m
        exact .inr ⟨p, _, er.symm, by rw [List.getElem?_append_left (List.getElem?_eq_some_iff.mp x2).1]; exact x2, List.getElem?_eq_getElem hpl, Option.some.inj m⟩
      · rw [M.old i hi hs] at hc
        exact .inl ⟨hi, hs, ha', hc⟩
    · have hlt : i < μ.length + T.length := by rw [← len2]; exact (List.getElem?_eq_some_iff.mp hc).1
      have hk : sel.length + (i - μ.length) < μc'.length := by rw [lenT]; omega
      have er : ro μ.length sel (sel.length + (i - μ.length)) = i := by
        unfold ro
        rw [List.getElem?_eq_none (by omega)]
        simp only
        omega
      have m := M.new _ _ (List.getElem?_eq_getElem hk)
      rw [er, hc] at m
      refine .inr ⟨_, _, er.symm, ?_, List.getElem?_eq_getElem hk, Option.some.inj m⟩
      rw [List.getElem?_append_right (by rw [lenA]; omega), lenA] at ha
      rw [List.getElem?_append_right (by rw [acl, ← S.len]; omega), acl, ← S.len, show sel.length + (i - μ.length) - sel.length = i - μ.length by omega]
      exact ha
  have noF : ∀ (k : Nat) (a : Addr) (c : Cell), (Ac ++ T)[k]? = some a → μc'[k]? = some c → c ≠ .dead → F' a = none := fun k a c h1 h2 h3 => (r'.ok k a c h1 h2).fr h3
  -- a caller's own live place is no place of the callee
  have apart : ∀ (i k : Nat) (a : Addr) (c c' : Cell), i ∉ sel → A[i]? = some a → μ[i]? = some c → c ≠ .dead → (Ac ++ T)[k]? = some a → μc'[k]? = some c' → c' ≠ .dead → False := fun i k a c c' hi h1 h2 h3 h4 h5 h6 => by
    have nf := noF k a c' h4 h5 h6
    have fa := (r.ok i a c h1 h2).fr h3
    by_cases hac : a ∈ Ac
    · obtain ⟨p, hp⟩ := List.getElem?_of_mem hac
      obtain ⟨i', cc, x1, x2, x3, x4⟩ := acI p a hp
      have := r.nd i i' a _ _ h1 x2 h2 x4 h3 (live p cc x3)
      subst this
      exact hi (List.mem_of_getElem? x1)
    · obtain ⟨u, _, e, _⟩ := mkd a (List.mem_of_getElem? h1) hac fa
      rw [nf] at e; cases e
  refine ⟨F2, A ++ T, le2, pA, ⟨fun a o e => r'.sub a o (f2le a o e), by rw [List.length_append, lenA, len2], fun i j a c c' hi hj h1 h2 l1 l2 => ?_, fun a ha => ?_, fun i a c ha hc => ?_⟩, rho2, ler⟩
  · rcases src i a c hi h1 with ⟨x1, x2, x3, x4⟩ | ⟨k, ck, x1, x2, x3, x4⟩ <;> rcases src j a c' hj h2 with ⟨y1, y2, y3, y4⟩ | ⟨m, cm, y1, y2, y3, y4⟩
    · exact r.nd i j a c c' x3 y3 x4 y4 l1 l2
    · exact (apart i m a c cm x2 x3 x4 l1 y2 y3 (fun z => l2 (by rw [y4, z]; rfl))).elim
    · exact (apart j k a c' ck y2 y3 y4 l2 x2 x3 (fun z => l1 (by rw [x4, z]; rfl))).elim
    · have := r'.nd k m a ck cm x2 y2 x3 y3 (fun z => l1 (by rw [x4, z]; rfl)) (fun z => l2 (by rw [y4, z]; rfl))
      rw [x1, y1, this]
  · rcases List.mem_append.mp ha with ha | ha
    · by_cases hac : a ∈ Ac
      · exact r'.there a (List.mem_append_left _ hac)
      · cases q : F a with
        | none => obtain ⟨u, _, _, h⟩ := mkd a ha hac q; exact ⟨u, h⟩
        | some o => exact ⟨_, r'.sub _ _ (le _ _ (le1 _ _ q))⟩
    · exact r'.there a (List.mem_append_right _ ha)
  · rcases src i a c ha hc with ⟨x1, x2, x3, x4⟩ | ⟨k, ck, x1, x2, x3, x4⟩
    · by_cases hd : c = .dead
      · subst hd; trivial
      have ok := r.ok i a c x3 x4
      have fa := ok.fr hd
      have hac : a ∉ Ac := fun z => by
        obtain ⟨p, hp⟩ := List.getElem?_of_mem z
        obtain ⟨i', cc, z1, z2, z3, z4⟩ := acI p a hp
        have := r.nd i i' a _ _ x3 z2 x4 z4 hd (live p cc z3)
        subst this
        exact x2 (List.mem_of_getElem? z1)
      have mem := List.mem_of_getElem? x3
      obtain ⟨u, e1, _, e3⟩ := mkd a mem hac fa
      refine ok.mono le2 pA (fun _ => f2no a ⟨mem, hac, fa⟩) fun o h _ => ?_
      rw [e1] at h; cases h
      exact e3
    · subst x4
      refine (r'.ok k a ck x2 x3).ren rho2 ler fun z => ?_
      cases q : F2 a with
      | none => rfl
      | some o => rw [f2le a o q] at z; cases z
theorem sel0 {μ : Mu} : Sel μ [] [] := ⟨rfl, List.nodup_nil, fun p c h => by simp at h, fun c h => by simp at h⟩
theorem mrg0 {μ : Mu} : Mrg μ [] [] μ := ⟨by simp, fun _ _ _ => rfl, fun k c h => by simp at h⟩
/-- a promise about few places is one about many -/
inductive Fr (R : Rf) : Rf
  | mk {ds : List D} {μ : Mu} {sel : List Nat} {μc μc' μ2 : Mu} {dsc : List D} {d : D} : Sel μ sel μc → ds = renDs (ro μ.length sel) dsc → okDs sel.length dsc = true → R dsc μc (.val d) μc' → Mrg μ sel μc' μ2 → Fr R ds μ (.val (renD (ro μ.length sel) d)) μ2
  | ex {ds : List D} {μ : Mu} {n : Nat} {fs : List (Str × D)} : okDs 0 ds = true → okDs 0 (fs.map (·.2)) = true → R ds [] (.exc n fs) [] → Fr R ds μ (.exc n fs) μ
theorem spD_fr {R : Rf} {vs : List V} {H : Hp} {Q : VK} {E : XK} (h : spD K ct (Fr R) vs H Q E) : spD K ct R vs H Q E := by
  obtain ⟨F, A, μ, ds, o, μ', r, rs, h, q⟩ := h
  cases h with
  | mk S e o h M =>
    subst e
    obtain ⟨Fc, Ac, rc, ar, k⟩ := frame r S
    refine ⟨Fc, Ac, _, _, _, _, rc, ar _ _ o rs, h, fun v H' F' A' le p r' hv => ?_⟩
    obtain ⟨F2, A2, l1, p1, r2, rn, le2⟩ := k _ H' F' A' _ le p r' M
    exact q v H' F2 A2 l1 p1 r2 (hv.ren rn le2)
  | ex o1 o2 h =>
    obtain ⟨Fc, Ac, rc, ar, k⟩ := frame r sel0
    refine ⟨Fc, Ac, _, ds, _, _, rc, ar _ _ o1 (by rw [ren0s _ _ o1]; exact rs), h, fun dd H' F' A' le p r' xo => ?_⟩
    obtain ⟨F2, A2, l1, p1, r2, rn, le2⟩ := k _ H' F' A' _ le p r' mrg0
    refine q dd H' F2 A2 l1 p1 r2 ?_
    rcases xo with xo | ⟨dx, vfs, x1, x2, x3, x4⟩
    · exact .inl xo
    · have := Reps.ren rn le2 x4
      rw [ren0s _ _ o2] at this
      exact .inr ⟨dx, vfs, x1, x2, x3, this⟩
end
end DL
namespace DL
open PySem PySem.Spec PyProof.Rows L2
mutual
theorem Rep.okn {K : PySem.W.Frag} {ct : Nat → Addr} {A : List Addr} {F : Hp} : ∀ {v : V} {d : D}, Rep K ct A F v d → okD A.length d = true
  | _, _, .non => by simp only [okD]
  | _, _, .bl b => by simp only [okD]
  | _, _, .int i => by simp only [okD]
  | _, _, .str s => by simp only [okD]
  | _, _, .raw v => by simp only [okD]
  | _, _, .tup h' r => by simp only [okD]; exact Reps.okn r
  | _, _, .lst h' r => by simp only [okD]; exact Reps.okn r
  | _, _, .scr h' r => by simp only [okD]; exact Reps.okn r
  | _, _, .dic h' k r => by simp only [okD]; rw [← okKs_v]; exact Reps.okn r
  | _, _, .ins h' k r => by simp only [okD]; rw [← okFs_v]; exact Reps.okn r
  | _, _, .ptr h' => by simp only [okD, decide_eq_true_eq]; exact (List.getElem?_eq_some_iff.mp h').1
theorem Reps.okn {K : PySem.W.Frag} {ct : Nat → Addr} {A : List Addr} {F : Hp} : ∀ {vs : List V} {ds : List D}, Reps K ct A F vs ds → okDs A.length ds = true
  | _, _, .nil => by simp only [okDs]
  | _, _, .cons h r => by simp only [okDs, Rep.okn h, Reps.okn r, Bool.and_self]
end
theorem renDs_app (ρ : Nat → Nat) : ∀ a b : List D, renDs ρ (a ++ b) = renDs ρ a ++ renDs ρ b
  | [], b => by simp [renDs]
  | d :: a, b => by simp [renDs, renDs_app ρ a b]
theorem okDs_app (n : Nat) : ∀ a b : List D, okDs n (a ++ b) = (okDs n a && okDs n b)
  | [], b => by simp [okDs]
  | d :: a, b => by simp [okDs, okDs_app n a b, Bool.and_assoc]
section
variable {P : Program} {w : World} {K : PySem.W.Frag} {mg : Str → Option Value} {base : Heap} {ct : Nat → Addr} {x : Str} {k : Nat} {R : Rf}
theorem Fn.fr (G : Fn P w K mg base ct x k R) : Fn P w K mg base ct x k (Fr R) := by
  obtain ⟨CX, f, fd, ps, dvs, dus, dds, F, hm, hk, hb, hv, hd, hx⟩ := G.ex
  have od : okDs 0 dds = true := (hd [] fun _ => none).okn
  refine ⟨CX, f, fd, ps, dvs, dus, dds, F.imp fun vs H Q E ⟨F, A, μ, ds, o, μ', r, rs, h, q⟩ => spD_fr ⟨F, A, μ, ds, o, μ', r, rs, ?_, q⟩, hm, hk, hb, hv, hd, hx⟩
  obtain ⟨ds', rfl, h⟩ := h
  cases h with
  | mk S e o h M => exact .mk S (dsc := _ ++ dds) (by rw [renDs_app, ren0s _ _ od, e]) (by rw [okDs_app, o, okDs_mono (Nat.zero_le _) _ od]; rfl) ⟨_, rfl, h⟩ M
  | ex o1 o2 h => exact .ex (by rw [okDs_app, o1, od]; rfl) o2 ⟨_, rfl, h⟩
theorem Me.fr {n : Nat} {m : Str} (G : Me P w K mg base ct n m k R) : Me P w K mg base ct n m k (Fr R) := by
  obtain ⟨CX, f, fd, ps, F, hm, hb, hx⟩ := G.ex
  exact ⟨G.cl, CX, f, fd, ps, F.imp fun vs H Q E h => spD_fr h, hm, hb, hx⟩
theorem Fn.imp {R' : Rf} (G : Fn P w K mg base ct x k R) (h : ∀ ds μ o μ', R' ds μ o μ' → R ds μ o μ') : Fn P w K mg base ct x k R' := by
  obtain ⟨CX, f, fd, ps, dvs, dus, dds, F, hm, hk, hb, hv, hd, hx⟩ := G.ex
  exact ⟨CX, f, fd, ps, dvs, dus, dds, F.imp fun vs H Q E ⟨F, A, μ, ds, o, μ', r, rs, ⟨ds', e, z⟩, q⟩ => ⟨F, A, μ, ds, o, μ', r, rs, ⟨ds', e, h _ _ _ _ z⟩, q⟩, hm, hk, hb, hv, hd, hx⟩
end
/-! ### the common shapes -/
theorem mrgN {μ μn : Mu} : Mrg μ [] μn (μ ++ μn.map (renC fun k => μ.length + k)) := by
  have e : ro μ.length [] = fun k => μ.length + k := by funext k; simp [ro]
  refine ⟨by simp, fun i hi _ => List.getElem?_append_left hi, fun k c h => ?_⟩
  rw [e, List.getElem?_append_right (by simp)]
  simp [h]
theorem sel1 {μ : Mu} {k : Nat} {c : Cell} (h : μ[k]? = some c) (l : c ≠ .dead) (o : okC 0 c = true) : Sel μ [k] [c] := by
  refine ⟨rfl, by simp, fun p c' hp => ?_, fun c' hc => ?_⟩
  · cases p with
    | zero => simp at hp; subst hp; exact ⟨k, rfl, by rw [ren0c _ _ o]; exact h⟩
    | succ p => simp at hp
  · simp at hc; subst hc; exact ⟨l, okC_mono (Nat.zero_le _) _ o⟩
theorem mrg1 {μ : Mu} {k : Nat} {c : Cell} (h : k < μ.length) (o : okC 0 c = true) : Mrg μ [k] [c] (μ.set k c) := by
  refine ⟨by simp, fun i hi hs => List.getElem?_set_ne (fun z => hs (by simp [z])), fun j c' hj => ?_⟩
  cases j with
  | zero => simp at hj; subst hj; rw [ren0c _ _ o]; exact List.getElem?_set_self h
  | succ p => simp at hj
theorem mrg1N {μ : Mu} {k : Nat} {c : Cell} {μn : Mu} (h : k < μ.length) (o : okC 0 c = true) (on : ∀ c ∈ μn, okC 0 c = true) : Mrg μ [k] (c :: μn) (μ.set k c ++ μn) := by
  refine ⟨by simp, fun i hi hs => ?_, fun j c' hj => ?_⟩
  · rw [List.getElem?_append_left (by simpa using hi)]
    exact List.getElem?_set_ne (fun z => hs (by simp [z]))
  · cases j with
    | zero =>
      simp at hj; subst hj
      rw [ren0c _ _ o, show ro μ.length [k] 0 = k from rfl, List.getElem?_append_left (by simpa using h)]
      exact List.getElem?_set_self h
    | succ p =>
      have hm : c' ∈ μn := List.mem_of_getElem? (by simpa using hj)
      rw [ren0c _ _ (on c' hm), show ro μ.length [k] (p + 1) = μ.length + p from rfl, List.getElem?_append_right (by simp)]
      simpa using hj
section
variable {ds : List D} {μ : Mu} {d : D} {R : Rf}
/-- a pure call -/
theorem Fr.p (o : okDs 0 ds = true) (od : okD 0 d = true) (h : R ds [] (.val d) []) : Fr R ds μ (.val d) μ := by
  have := Fr.mk (R := R) (μ := μ) (ds := ds) (dsc := ds) sel0 (by rw [ren0s _ _ o]) o h mrg0
  rw [ren0 _ _ od] at this
  exact this
/-- a new thing comes back -/
theorem Fr.n {c : Cell} (o : okDs 0 ds = true) (oc : okC 0 c = true) (h : R ds [] (.val (.ptr 0)) [c]) : Fr R ds μ (.val (.ptr μ.length)) (μ ++ [c]) := by
  have := Fr.mk (R := R) (μ := μ) (ds := ds) (dsc := ds) sel0 (by rw [ren0s _ _ o]) o h mrgN
  simp only [List.map_cons, List.map_nil, ren0c _ _ oc, renD] at this
  exact this
/-- one place is shown -/
theorem Fr.one {k : Nat} {c c' : Cell} (dsc : List D) (hk : μ[k]? = some c) (l : c ≠ .dead) (oc : okC 0 c = true) (e : renDs (ro μ.length [k]) dsc = ds) (o : okDs 1 dsc = true) (od : okD 0 d = true) (oc' : okC 0 c' = true) (h : R dsc [c] (.val d) [c']) : Fr R ds μ (.val d) (μ.set k c') := by
  have := Fr.mk (R := R) (μ := μ) (ds := ds) (dsc := dsc) (sel1 hk l oc) e.symm o h (mrg1 (List.getElem?_eq_some_iff.mp hk).1 oc')
  rw [ren0 _ _ od] at this
  exact this
end
end DL

/-! # Pure defs, and the rules in the order in which data become known -/
namespace DL
open PySem PySem.Spec PyProof.Rows L2
/-- a def from pure data to pure data -/
abbrev PuR {α : Type} (enc : α → List D) (pre : α → Prop) (out : α → D) : Rf := fun ds μ o μ' => ∃ a, ds = enc a ∧ pre a ∧ o = .val (out a) ∧ μ = [] ∧ μ' = []
structure PFn (P : Program) (w : World) (K : PySem.W.Frag) (mg : Str → Option Value) (base : Heap) (ct : Nat → Addr) (x : Str) (k : Nat) {α : Type} (enc : α → List D) (pre : α → Prop) (out : α → D) : Prop where
  fn : Fn P w K mg base ct x k (PuR enc pre out)
  ok : ∀ a, pre a → okDs 0 (enc a) = true ∧ okD 0 (out a) = true
structure PMe (P : Program) (w : World) (K : PySem.W.Frag) (mg : Str → Option Value) (base : Heap) (ct : Nat → Addr) (n : Nat) (m : Str) (k : Nat) {α : Type} (enc : α → List D) (pre : α → Prop) (out : α → D) : Prop where
  fn : Me P w K mg base ct n m k (PuR enc pre out)
  ok : ∀ a, pre a → okDs 0 (enc a) = true ∧ okD 0 (out a) = true
/-- a def on one thing (the first argument) and pure data: the thing changes -/
abbrev BoR {α β : Type} (cell : β → Cell) (enc : α → List D) (pre : α → β → Prop) (out : α → β → D) (nxt : α → β → β) : Rf := fun ds μ o μ' => ∃ a b, ds = .ptr 0 :: enc a ∧ pre a b ∧ o = .val (out a b) ∧ μ = [cell b] ∧ μ' = [cell (nxt a b)]
structure BFn (P : Program) (w : World) (K : PySem.W.Frag) (mg : Str → Option Value) (base : Heap) (ct : Nat → Addr) (x : Str) (k : Nat) {α β : Type} (cell : β → Cell) (enc : α → List D) (pre : α → β → Prop) (out : α → β → D) (nxt : α → β → β) : Prop where
  fn : Fn P w K mg base ct x k (BoR cell enc pre out nxt)
  ok : ∀ a b, pre a b → okDs 0 (enc a) = true ∧ okD 0 (out a b) = true
  okc : ∀ b, okC 0 (cell b) = true ∧ cell b ≠ .dead
theorem scoped_of {K : PySem.W.Frag} {ct : Nat → Addr} {μ : Mu} {H F : Hp} {A : List Addr} (r : Rl0 K ct μ H F A) : Scoped μ := fun c hc => by
  obtain ⟨k, hk⟩ := List.getElem?_of_mem hc
  have hlt : k < A.length := by rw [r.len]; exact (List.getElem?_eq_some_iff.mp hk).1
  have h := r.ok k _ c (List.getElem?_eq_getElem hlt) hk
  rw [← r.len]
  cases c with
  | dead => rfl
  | lst l => obtain ⟨_, vs, _, h⟩ := h; exact h.okn
  | dic l => obtain ⟨_, vs, _, _, h⟩ := h; have := h.okn; rw [okKs_v] at this; exact this
  | ins n l => obtain ⟨_, dx, vs, _, _, h⟩ := h; have := h.okn; rw [okFs_v] at this; exact this
theorem Slots.okn {K : PySem.W.Frag} {ct : Nat → Addr} {F : Hp} {A : List Addr} : ∀ {Γ : Gm} {σ : L2.St}, Slots K ct A F Γ σ → ∀ d' ∈ Γ, ∀ d'', d' = some d'' → okD A.length d'' = true
  | _, _, .nil, _, h, _, _ => by cases h
  | _, _, .any r, d', h, d'', e => by
    rcases List.mem_cons.mp h with h | h
    · subst h; cases e
    · exact Slots.okn r d' h d'' e
  | _, _, .cons q r, d', h, d'', e => by
    rcases List.mem_cons.mp h with h | h
    · subst h; cases e; exact q.okn
    · exact Slots.okn r d' h d'' e
/-- a class whose instances are made of pure data and not changed again -/
structure PMk (P : Program) (w : World) (K : PySem.W.Frag) (mg : Str → Option Value) (base : Heap) (ct : Nat → Addr) (n : Nat) (x : Str) (k : Nat) {α : Type} (enc : α → List D) (pre : α → Prop) (out : α → List (Str × D)) : Prop where
  fn : Mkr P w K mg base ct n x k (fun as μ0 fs μ1 => ∃ a, as = enc a ∧ pre a ∧ fs = out a ∧ μ0 = [] ∧ μ1 = [])
  ok : ∀ a, pre a → okDs 0 (enc a) = true ∧ okFs 0 (out a) = true
section
variable {X : Cx} {ct : Nat → Addr} {Γ Γ1 Γ2 : Gm} {μ μ1 μ2 μ3 : Mu} {d da db dc : D} {ds : List D} {e a b c o : Expr} {es : List Expr} {st : Stmt} {rest sa sb : List Stmt} {pos p tp apos : Pos} {x f m : Str} {k k' : Bool} {P P' : P4}
theorem q_op {op : Operator} (ha : DE X ct Γ μ a da μ1) (hb : DE X ct Γ μ1 b db μ2) (o : O2 X ct (binaryOp op) μ2 da db d) : DE X ct Γ μ (.BinOp a op b pos) d μ2 := de_op o ha hb
theorem q_cmp {op : CmpOp} (ha : DE X ct Γ μ a da μ1) (hb : DE X ct Γ μ1 b db μ2) (o : O2 X ct (compareOp op) μ2 da db d) (hm : behindInMarks op b = false := by first | exact nomark _ | rfl | with_unfolding_all rfl) : DE X ct Γ μ (.Compare a [op] [b] pos) d μ2 := de_cmp o ha hb hm
theorem qt_cmp {op : CmpOp} (ha : DE X ct Γ μ a da μ1) (hb : DE X ct Γ μ1 b db μ2) (o : O2 X ct (compareOp op) μ2 da db (.bl k)) (hm : behindInMarks op b = false := by first | exact nomark _ | rfl | with_unfolding_all rfl) : DT X ct Γ μ (.Compare a [op] [b] pos) k μ2 := dt_cmp o ha hb hm
theorem q_in (ha : DE X ct Γ μ a da μ1) (hb : DE X ct Γ μ1 b db μ2) (h : InD μ2 da db k) (hu : X.A.units + 1 < cLine := by exact hu_of ‹Room _ _›) (hm : behindInMarks .In b = false := by first | rfl | with_unfolding_all rfl) : DE X ct Γ μ (.Compare a [.In] [b] pos) (.bl k) μ2 := de_in h hu ha hb hm
theorem q_nin (ha : DE X ct Γ μ a da μ1) (hb : DE X ct Γ μ1 b db μ2) (h : InD μ2 da db k) (hu : X.A.units + 1 < cLine := by exact hu_of ‹Room _ _›) (hm : behindInMarks .NotIn b = false := by first | rfl | with_unfolding_all rfl) : DE X ct Γ μ (.Compare a [.NotIn] [b] pos) (.bl (!k)) μ2 := de_nin h hu ha hb hm
theorem qt_in (ha : DE X ct Γ μ a da μ1) (hb : DE X ct Γ μ1 b db μ2) (h : InD μ2 da db k) (hu : X.A.units + 1 < cLine := by exact hu_of ‹Room _ _›) (hm : behindInMarks .In b = false := by first | rfl | with_unfolding_all rfl) : DT X ct Γ μ (.Compare a [.In] [b] pos) k μ2 := dt_in h hu ha hb hm
theorem qt_nin (ha : DE X ct Γ μ a da μ1) (hb : DE X ct Γ μ1 b db μ2) (h : InD μ2 da db k) (hu : X.A.units + 1 < cLine := by exact hu_of ‹Room _ _›) (hm : behindInMarks .NotIn b = false := by first | rfl | with_unfolding_all rfl) : DT X ct Γ μ (.Compare a [.NotIn] [b] pos) (!k) μ2 := dt_nin h hu ha hb hm
theorem q_ix (ha : DE X ct Γ μ a da μ1) (hb : DE X ct Γ μ1 b db μ2) (h : IxD μ2 da db d) (hu : X.A.units + 1 < cLine := by exact hu_of ‹Room _ _›) (hs : PlainIx b := by intro _ _; rfl) (hs' : NoSl b := by intro _ _; rfl) : DE X ct Γ μ (.Subscript a b pos) d μ2 := de_ix h hu ha hb hs hs'
theorem q_attr (he : DE X ct Γ μ e da μ1) (h : FldD X.K ct μ1 da f d) (hb : attributeBase e f X.env (eval e X.env) = eval e X.env := by rfl) : DE X ct Γ μ (.Attribute e f pos) d μ1 := de_attr h he hb
theorem q_len {n : Nat} (hm : X.mg "len" = none) (he : DE X ct Γ μ a d μ1) (h : LenD μ1 d n) (hg : Gl X "len" := by rfl) (hs1 : starEach [a] X.env = (false, eval a X.env) :: starEach [] X.env := by rfl) : DE X ct Γ μ (.Call (.Name "len" p) [a] [] pos) (.int n) μ1 := de_len hm h he hg hs1
theorem q_tuple {l : List D} (hm : X.mg "tuple" = none) (he : DE X ct Γ μ a d μ1) (h : SeqM μ1 d l) (hg : Gl X "tuple" := by rfl) (hs1 : starEach [a] X.env = (false, eval a X.env) :: starEach [] X.env := by rfl) : DE X ct Γ μ (.Call (.Name "tuple" p) [a] [] pos) (.tup l) μ1 := de_tuple hm h he hg hs1
theorem q_list {l : List D} (hm : X.mg "list" = none) (he : DE X ct Γ μ a d μ1) (h : SeqM μ1 d l) (hg : Gl X "list" := by rfl) (hs1 : starEach [a] X.env = (false, eval a X.env) :: starEach [] X.env := by rfl) : DE X ct Γ μ (.Call (.Name "list" p) [a] [] pos) (.lst l) μ1 := de_list hm h he hg hs1
theorem q_call {kk : Nat} {α : Type} {enc : α → List D} {pre : α → Prop} {out : α → D} (G : PFn X.prog X.w X.K X.mg X.base ct x kk enc pre out) (ha : DA X ct Γ μ (e :: es) ds μ1) (z : α) (h : ds = enc z) (hp : pre z) (hr : Room kk X.A := by first | exact ‹Room _ _› | exact Room.mono ‹Room _ _› (by decide)) (hg : Gl X x := by rfl)
    (hdb : (x == ("__debug__" : Str)) = false := by decide) (he : starEach (e :: es) X.env = (false, eval e X.env) :: starEach es X.env := by rfl) (hpl : (backTo pos (starEach es X.env)).any (·.1) = false := by rfl) : DE X ct Γ μ (.Call (.Name x p) (e :: es) [] pos) (out z) μ1 := by
  subst h
  exact de_call G.fn.fr hr ha (Fr.p (G.ok z hp).1 (G.ok z hp).2 ⟨z, rfl, hp, rfl, rfl, rfl⟩) hg hdb he hpl
theorem q_call0 {kk : Nat} {α : Type} {enc : α → List D} {pre : α → Prop} {out : α → D} (G : PFn X.prog X.w X.K X.mg X.base ct x kk enc pre out) (z : α) (h : [] = enc z) (hp : pre z) (hr : Room kk X.A := by first | exact ‹Room _ _› | exact Room.mono ‹Room _ _› (by decide)) (hg : Gl X x := by rfl)
    (hdb : (x == ("__debug__" : Str)) = false := by decide) : DE X ct Γ μ (.Call (.Name x p) [] [] pos) (out z) μ :=
  de_call0 G.fn.fr hr (Fr.p (ds := []) rfl (G.ok z hp).2 ⟨z, h, hp, rfl, rfl, rfl⟩) hg hdb
theorem q_meth {kk n : Nat} {α : Type} {enc : α → List D} {pre : α → Prop} {out : α → D} {fs : List (Str × D)} {pl : Sem Bool} (G : PMe X.prog X.w X.K X.mg X.base ct n m kk enc pre out) (ho : DE X ct Γ μ o (.ins n fs) μ1) (ha : DA X ct Γ μ1 (e :: es) ds μ2) (z : α) (h : .ins n fs :: ds = enc z) (hp : pre z) (hl : fs.lookup m = none := by rfl) (hr : Room kk X.A := by first | exact ‹Room _ _› | exact Room.mono ‹Room _ _› (by decide))
    (hst : starEach (e :: es) X.env = (false, eval e X.env) :: starEach es X.env := by rfl) (hpl : (backTo pos (starEach es X.env)).any (·.1) = false := by rfl)
    (ht : eval (.Call (.Attribute o m apos) (e :: es) [] pos) X.env = (do
      let ov ← eval o X.env
      standAt apos.atName
      let (f, first) ← holding [ov] (getMethod ov m pl)
      callWith pos f first (backTo pos (starEach (e :: es) X.env)) (backToKw pos (keywordEach [] X.env))) := by rfl) : DE X ct Γ μ (.Call (.Attribute o m apos) (e :: es) [] pos) (out z) μ2 :=
  de_meth G.fn.fr hr ho .ins hl ha (Fr.p (by rw [h]; exact (G.ok z hp).1) (G.ok z hp).2 ⟨z, h, hp, rfl, rfl, rfl⟩) hst hpl ht
theorem q_meth0 {kk n : Nat} {α : Type} {enc : α → List D} {pre : α → Prop} {out : α → D} {fs : List (Str × D)} {pl : Sem Bool} (G : PMe X.prog X.w X.K X.mg X.base ct n m kk enc pre out) (ho : DE X ct Γ μ o (.ins n fs) μ1) (z : α) (h : [.ins n fs] = enc z) (hp : pre z) (hl : fs.lookup m = none := by rfl) (hr : Room kk X.A := by first | exact ‹Room _ _› | exact Room.mono ‹Room _ _› (by decide))
    (ht : eval (.Call (.Attribute o m apos) [] [] pos) X.env = (do
      let ov ← eval o X.env
      standAt apos.atName
      let (f, first) ← holding [ov] (getMethod ov m pl)
      callWith pos f first (backTo pos (starEach [] X.env)) (backToKw pos (keywordEach [] X.env))) := by rfl) : DE X ct Γ μ (.Call (.Attribute o m apos) [] [] pos) (out z) μ1 :=
  de_meth0 G.fn.fr hr ho .ins hl (Fr.p (by rw [h]; exact (G.ok z hp).1) (G.ok z hp).2 ⟨z, h, hp, rfl, rfl, rfl⟩) ht
/-- a def that changes one thing -/
theorem q_box {kk : Nat} {α β : Type} {cell : β → Cell} {enc : α → List D} {pre : α → β → Prop} {out : α → β → D} {nxt : α → β → β} (G : BFn X.prog X.w X.K X.mg X.base ct x kk cell enc pre out nxt) {j : Nat} (ha : DA X ct Γ μ (e :: es) (.ptr j :: ds) μ1) (z : α) (y : β) (h : ds = enc z) (hm : μ1[j]? = some (cell y)) (hp : pre z y) (hr : Room kk X.A := by first | exact ‹Room _ _› | exact Room.mono ‹Room _ _› (by decide)) (hg : Gl X x := by rfl)
    (hdb : (x == ("__debug__" : Str)) = false := by decide) (he : starEach (e :: es) X.env = (false, eval e X.env) :: starEach es X.env := by rfl) (hpl : (backTo pos (starEach es X.env)).any (·.1) = false := by rfl) : DE X ct Γ μ (.Call (.Name x p) (e :: es) [] pos) (out z y) (μ1.set j (cell (nxt z y))) := by
  subst h
  have o := G.ok z y hp
  exact de_call G.fn.fr hr ha (Fr.one (.ptr 0 :: enc z) hm (G.okc y).2 (G.okc y).1 (by simp only [renDs, renD, ren0s _ _ o.1]; rfl) (by simp only [okDs, okD, okDs_mono (Nat.zero_le 1) _ o.1]; rfl) o.2 (G.okc _).1 ⟨z, y, rfl, hp, rfl, rfl, rfl⟩) hg hdb he hpl
/-- a new frozen instance -/
theorem q_make {kk n : Nat} {α : Type} {enc : α → List D} {pre : α → Prop} {out : α → List (Str × D)} (G : PMk X.prog X.w X.K X.mg X.base ct n x kk enc pre out) (ha : DA X ct Γ μ (e :: es) ds μ1) (z : α) (h : ds = enc z) (hp : pre z) (hr : Room (kk + 1) X.A := by first | exact ‹Room _ _› | exact Room.mono ‹Room _ _› (by decide)) (hg : Gl X x := by rfl)
    (hdb : (x == ("__debug__" : Str)) = false := by decide) (he : starEach (e :: es) X.env = (false, eval e X.env) :: starEach es X.env := by rfl) (hpl : (backTo pos (starEach es X.env)).any (·.1) = false := by rfl) : DE X ct Γ μ (.Call (.Name x p) (e :: es) [] pos) (.ins n (out z)) μ1 := by
  subst h
  obtain ⟨o1, o2⟩ := G.ok z hp
  obtain ⟨CX, f, fd, ps, dvs, dus, dds, F, hM, hm, hb, hv, hd, hx⟩ := G.fn.ex
  have od : okDs 0 dds = true := (hd [] fun _ => none).okn
  refine PE.imp (pe_make hM F hr hg hm hb hv (hx X rfl rfl) ha hdb he hpl) fun σ H Q ⟨F, A, r, q⟩ => ?_
  refine ⟨F, A, r, fun vs H1 F1 A1 e1 p1 r1 h1 y dx ny nd ne => ?_⟩
  have ny2 : upd H1 dx (.own y) y = none := by rw [upd_ne (Ne.symm ne)]; exact ny
  have g1 := r1.m.grow nd (.own y)
  have le1 : Le F1 (upd F1 dx (.own y)) := r1.m.le_grow nd _
  have g2 := g1.push (o := .ins (ct n) dx []) (c := .ins n []) ny2 ⟨g1.sub.free ny2, dx, [], upd_same, rfl, .nil⟩
  have len1 := r1.m.len
  have py : (A1 ++ [y])[μ1.length]? = some y := by rw [← len1, List.getElem?_append_right (Nat.le_refl _), Nat.sub_self]; rfl
  refine spD_fr ⟨_, _, μ1 ++ [.ins n []], .ptr μ1.length :: (enc z ++ dds), .val .non, μ1 ++ [.ins n (out z)], g2, .cons (.ptr py) ((h1.mono le1 (List.prefix_append _ _)).app (hd _ _)), ?_, fun v H2 F2 A2 e2 p2 r2 h2 => ⟨by cases h2; rfl, ?_⟩⟩
  · have hg1 : (μ1 ++ [Cell.ins n []])[μ1.length]? = some (.ins n []) := by rw [List.getElem?_append_right (Nat.le_refl _), Nat.sub_self]; rfl
    have := Fr.one (R := fun ds μ o μ' => ∃ as fs μ0 μ1, μ = μ0 ++ [.ins n []] ∧ ds = .ptr μ0.length :: (as ++ dds) ∧ (∃ a, as = enc a ∧ pre a ∧ fs = out a ∧ μ0 = [] ∧ μ1 = []) ∧ o = .val .non ∧ μ' = μ0 ++ [.ins n fs] ++ μ1) (μ := μ1 ++ [.ins n []]) (d := .non) (k := μ1.length) (c := .ins n []) (c' := .ins n (out z)) (.ptr 0 :: (enc z ++ dds)) hg1 (by simp) rfl rfl (by simp only [okDs, okD, okDs_app, okDs_mono (Nat.zero_le 1) _ o1, okDs_mono (Nat.zero_le 1) _ od]; rfl) rfl o2 ⟨enc z, out z, [], [], rfl, rfl, ⟨z, rfl, hp, rfl, rfl, rfl⟩, rfl, rfl⟩
    simp only [renDs, renD, renDs_app, ren0s _ _ o1, ren0s _ _ od] at this
    rw [List.set_append_right _ _ (Nat.le_refl _), Nat.sub_self] at this
    exact this
  · have py2 := pre_get p2 py
    obtain ⟨u, hu, hf, hmm, hl', rep⟩ := freeze_rep r2 py2 (List.getElem?_concat_length ..) (rfl : frozen (.ins n (out z)) = some (.ins n (out z)))
    obtain ⟨le, r3⟩ := freeze r2 py2 hu hf hmm (List.getElem?_concat_length ..) hl'
    rw [List.set_append_right _ _ (Nat.le_refl _), Nat.sub_self] at r3
    have sc := scoped_of r1.m
    have r4 := Rl0.cut r3 sc
    have pA : A1 <+: A2 := (List.prefix_append _ _).trans p2
    refine q _ H2 _ _ (e1.trans (le1.trans (e2.trans le))) (pre_take (p1.trans pA) (by rw [← len1]; exact p1.length_le)) ⟨r4, ?_⟩ (rep.cut (by simp only [okD]; exact okFs_mono (Nat.zero_le _) _ o2))
    have s1 := (r1.s.mono (le1.trans (e2.trans le)) pA).cut (n := μ1.length) fun d' hd' d'' e' => by rw [← len1]; exact r1.s.okn d' hd' d'' e'
    exact s1
end
/-! ### a pure def keeps its promise -/
section
variable {P : Program} {w : World} {K : PySem.W.Frag} {mg : Str → Option Value} {base : Heap} {ct : Nat → Addr}
theorem PFn.of {α : Type} {enc : α → List D} {pre : α → Prop} {out : α → D} {x : Str} {params : Arguments} {body : List Stmt} {scope : Scope} {N ps : List Str} {k : Nat} (F : ∃ fd, FunD K x x params body scope [] [] (He.fAd K (x, none)) fd) (hm : mg x = some (.ref (He.ga K x))) (S : FnScope N ps scope) (hb : BindN x x params body scope ps)
    (hl : ∀ a, (enc a).length = ps.length) (ok : ∀ a, pre a → okDs 0 (enc a) = true ∧ okD 0 (out a) = true)
    (hbody : ∀ (f : Addr) (cdv : Value) (A : Around) (outer : List Env) (s : Shared) (H : Hp) (E : XK) (a : α), Room k (A.deeper (envOfC x scope s.heap.objs.size f cdv)) → pre a →
      DSs (cxOf CX0 P w K mg base N x scope f cdv A outer s H E).nox ct body ((enc a).map some ++ List.replicate (N.length - ps.length) none) []
        { nx := fun _ _ => D.non = out a, rt := fun d2 _ => d2 = out a }) : PFn P w K mg base ct x (k + 1) enc pre out := by
  refine ⟨Fn.of F hm S hb (fun ds μ o μ' ⟨a, e, _⟩ => by subst e; exact hl a) fun f cdv A outer s H E ds μ o μ' hr ⟨a, e1, hp, e2, e3, e4⟩ => ?_, ok⟩
  subst e1 e2 e3 e4
  refine ⟨_, rfl, ?_⟩
  have b := hbody f cdv A outer s H E a hr hp
  rw [hl a]
  refine ds_imp b (fun _ μ h => ⟨h, .inr ⟨Nat.le_refl _, (ok a hp).2, .nil, μ, rfl⟩⟩) (fun d μ h => ⟨h, .inr ⟨Nat.le_refl _, (ok a hp).2, .nil, μ, rfl⟩⟩) (fun _ _ z => z) (fun _ _ z => z)
theorem PMe.of {α : Type} {enc : α → List D} {pre : α → Prop} {out : α → D} {n : Nat} {c m : Str} {qual : Str} {params : Arguments} {body : List Stmt} {scope : Scope} {N ps : List Str} {k : Nat} (F : ∃ fd, FunD K m qual params body scope [] [] (He.fAd K (c, some m)) fd) (hc : ct n = He.ga K c) (cl : Cls K (He.ga K c)) (hm : Meth K (He.ga K c) m (He.ma K (He.ga K c) m)) (S : FnScope N ps scope) (hb : BindN m qual params body scope ps)
    (hl : ∀ a, (enc a).length = ps.length) (ok : ∀ a, pre a → okDs 0 (enc a) = true ∧ okD 0 (out a) = true)
    (hbody : ∀ (f : Addr) (cdv : Value) (A : Around) (outer : List Env) (s : Shared) (H : Hp) (E : XK) (a : α), Room k (A.deeper (envOfC qual scope s.heap.objs.size f cdv)) → pre a →
      DSs (cxOf CX0 P w K mg base N qual scope f cdv A outer s H E).nox ct body ((enc a).map some ++ List.replicate (N.length - ps.length) none) []
        { nx := fun _ _ => D.non = out a, rt := fun d2 _ => d2 = out a }) : PMe P w K mg base ct n m (k + 1) enc pre out := by
  refine ⟨Me.of F hc cl hm S hb (fun ds μ o μ' ⟨a, e, _⟩ => by subst e; exact hl a) fun f cdv A outer s H E ds μ o μ' hr ⟨a, e1, hp, e2, e3, e4⟩ => ?_, ok⟩
  subst e1 e2 e3 e4
  refine ⟨_, rfl, ?_⟩
  have b := hbody f cdv A outer s H E a hr hp
  rw [hl a]
  refine ds_imp b (fun _ μ h => ⟨h, .inr ⟨Nat.le_refl _, (ok a hp).2, .nil, μ, rfl⟩⟩) (fun d μ h => ⟨h, .inr ⟨Nat.le_refl _, (ok a hp).2, .nil, μ, rfl⟩⟩) (fun _ _ z => z) (fun _ _ z => z)
theorem BFn.of {α β : Type} {cell : β → Cell} {enc : α → List D} {pre : α → β → Prop} {out : α → β → D} {nxt : α → β → β} {x : Str} {params : Arguments} {body : List Stmt} {scope : Scope} {N ps : List Str} {k : Nat} (F : ∃ fd, FunD K x x params body scope [] [] (He.fAd K (x, none)) fd) (hm : mg x = some (.ref (He.ga K x))) (S : FnScope N ps scope) (hb : BindN x x params body scope ps)
    (hl : ∀ a, (enc a).length + 1 = ps.length) (ok : ∀ a b, pre a b → okDs 0 (enc a) = true ∧ okD 0 (out a b) = true) (okc : ∀ b, okC 0 (cell b) = true ∧ cell b ≠ .dead)
    (hbody : ∀ (f : Addr) (cdv : Value) (A : Around) (outer : List Env) (s : Shared) (H : Hp) (E : XK) (a : α) (b : β), Room k (A.deeper (envOfC x scope s.heap.objs.size f cdv)) → pre a b →
      DSs (cxOf CX0 P w K mg base N x scope f cdv A outer s H E).nox ct body ((.ptr 0 :: enc a).map some ++ List.replicate (N.length - ps.length) none) [cell b]
        { nx := fun _ μ => D.non = out a b ∧ ∃ ex, μ = cell (nxt a b) :: ex, rt := fun d2 μ => d2 = out a b ∧ ∃ ex, μ = cell (nxt a b) :: ex }) : BFn P w K mg base ct x (k + 1) cell enc pre out nxt := by
  have sc : ∀ b, Scoped [cell b] := fun b c hc => by
    rw [List.mem_singleton] at hc
    subst hc
    exact okC_mono (Nat.zero_le _) _ (okc b).1
  refine ⟨Fn.of F hm S hb (fun ds μ o μ' ⟨a, b, e, _⟩ => by subst e; exact hl a) fun f cdv A outer s H E ds μ o μ' hr ⟨a, b, e1, hp, e2, e3, e4⟩ => ?_, ok, okc⟩
  subst e1 e2 e3 e4
  refine ⟨_, rfl, ?_⟩
  have bd := hbody f cdv A outer s H E a b hr hp
  rw [show (D.ptr 0 :: enc a).length = ps.length from hl a]
  refine ds_imp bd (fun _ μ ⟨h, ex, e⟩ => ⟨h, .inr ⟨Nat.le_refl _, okD_mono (Nat.zero_le _) _ (ok a b hp).2, sc _, ex, e⟩⟩) (fun d μ ⟨h, ex, e⟩ => ⟨h, .inr ⟨Nat.le_refl _, okD_mono (Nat.zero_le _) _ (ok a b hp).2, sc _, ex, e⟩⟩) (fun _ _ z => z) (fun _ _ z => z)
end
end DL
namespace DL
open PySem PySem.Spec PyProof.Rows L2
theorem sz_small {n : Nat} (h : n ≤ 1000) : n ≤ sizeLine := Nat.le_trans h (by decide)
theorem hu64 {A : Around} {k : Nat} (h : Room k A) : A.units + 64 < cLine := h.units
end DL

namespace DL
open PySem PySem.Spec PyProof.Rows L2
section
variable {X : Cx} {ct : Nat → Addr} {Γ Γ1 Γ2 : Gm} {μ μ1 μ2 μ3 : Mu} {d da db dc : D} {ds : List D} {e a b c o : Expr} {es : List Expr} {pos p : Pos} {x f m : Str} {k k' : Bool}
theorem q_ifI {i j : Int} (hc : DT X ct Γ μ c k μ1) (ha : k = true → DE X ct Γ μ1 a (.int i) μ2) (hb : k = false → DE X ct Γ μ1 b (.int j) μ2) : DE X ct Γ μ (.IfExp c a b pos) (.int (bif k then i else j)) μ2 := by
  refine de_if' hc ?_ ?_ <;> intro h <;> subst h
  · exact ha rfl
  · exact hb rfl
theorem q_ifL {i j : List D} (hc : DT X ct Γ μ c k μ1) (ha : k = true → DE X ct Γ μ1 a (.lst i) μ2) (hb : k = false → DE X ct Γ μ1 b (.lst j) μ2) : DE X ct Γ μ (.IfExp c a b pos) (.lst (bif k then i else j)) μ2 := by
  refine de_if' hc ?_ ?_ <;> intro h <;> subst h
  · exact ha rfl
  · exact hb rfl
theorem q_ifB {i j : Bool} (hc : DT X ct Γ μ c k μ1) (ha : k = true → DE X ct Γ μ1 a (.bl i) μ2) (hb : k = false → DE X ct Γ μ1 b (.bl j) μ2) : DE X ct Γ μ (.IfExp c a b pos) (.bl (bif k then i else j)) μ2 := by
  refine de_if' hc ?_ ?_ <;> intro h <;> subst h
  · exact ha rfl
  · exact hb rfl
theorem q_ifS {i j : Str} (hc : DT X ct Γ μ c k μ1) (ha : k = true → DE X ct Γ μ1 a (.str i) μ2) (hb : k = false → DE X ct Γ μ1 b (.str j) μ2) : DE X ct Γ μ (.IfExp c a b pos) (.str (bif k then i else j)) μ2 := by
  refine de_if' hc ?_ ?_ <;> intro h <;> subst h
  · exact ha rfl
  · exact hb rfl
end
end DL

namespace DL
open PySem PySem.Spec PyProof.Rows L2
theorem upto_map (lo : Int) (n : Nat) : upto lo n = (List.range n).map (fun i => D.int (lo + (i : Nat))) := by
  apply List.ext_getElem?
  intro i
  by_cases h : i < n
  · have : i < (upto lo n).length := by rw [upto_len]; exact h
    obtain ⟨_, e⟩ := upto_get (List.getElem?_eq_getElem this)
    rw [List.getElem?_eq_getElem this, e]
    simp [h]
  · rw [List.getElem?_eq_none (by rw [upto_len]; omega), List.getElem?_eq_none (by simp; omega)]
theorem di_rangeM {X : Cx} {ct : Nat → Addr} {Γ : Gm} {μ μ1 : Mu} {a tg : Expr} {p tpos : Pos} {n : Int} (hm : X.mg "range" = none) (ha : DE X ct Γ μ a (.int n) μ1) (h1 : 0 ≤ n) (h2 : n ≤ 16777216) (hg : Gl X "range" := by rfl) (hs1 : starEach [a] X.env = [(false, eval a X.env)] := by rfl) : DI X ct tg (.Call (.Name "range" tpos) [a] [] p) Γ μ ((List.range n.toNat).map (fun i => D.int (i : Nat))) μ1 := by
  have h := di_range1 (tg := tg) (p := tpos) (pos := p) hm (da_cons ha da_nil hs1) (by omega) h2 hg hs1
  rw [upto_map] at h
  simpa using h
end DL

namespace DL
open PySem PySem.Spec PyProof.Rows L2
section
variable {X : Cx} {ct : Nat → Addr} {Γ Γ1 Γ2 : Gm} {μ μ1 μ2 μ3 : Mu} {d da db dc : D} {ds : List D} {e a b c o tg iter elt : Expr} {es : List Expr} {pos p : Pos} {x f m : Str} {k k' : Bool}
theorem q_isi {T U : String} (hm : X.mg "isinstance" = none) (he : DE X ct Γ μ a d μ1) (hb : DE X ct Γ μ1 b (.raw (.ty U)) μ1) (e : tyName d = some T) (h : kitB T U = some k) (hg : Gl X "isinstance" := by rfl)
    (hs1 : starEach [a, b] X.env = (false, eval a X.env) :: starEach [b] X.env := by rfl) (hs2 : starEach [b] X.env = (false, eval b X.env) :: starEach [] X.env := by rfl) (hpl : (backTo pos (starEach [b] X.env)).any (·.1) = false := by rfl) :
    DE X ct Γ μ (.Call (.Name "isinstance" p) [a, b] [] pos) (.bl k) μ1 := de_isi hm e h he hb hg hs1 hs2 hpl
/-- a comprehension without a condition -/
theorem de_lcU {α : Type} {scope : Scope} (own : List (Str × Nat)) (as : List α) (enc : α → D) (g : α → D) (hc : X.calm = true) (hN : X.N.Nodup) (hi : DI X ct tg iter Γ μ (as.map enc) μ1) (ok : BlkOk X.N X.env.scope scope own)
    (hs : ∀ z ∈ as, ∃ l, (∀ p ∈ l, p.1 ∈ own.map (·.2)) ∧ (∀ s H C cl fp, DG (Bk X scope s H C cl fp) ct tg (enc z) l) ∧
      (∀ s H C cl fp, DE (Bk X scope s H C cl fp) ct (setG (wipeG Γ (own.map (·.2))) l) μ1 elt (g z) μ1)) (hfs : ∀ x, foldedSetIterable iter X.env x = pure x := by intro _; rfl) : DE X ct Γ μ (.ListComp elt [⟨tg, iter, [], 0⟩] scope pos) (.lst (as.map g)) μ1 := by
  have h := de_lcP (pos := pos) (ifs := []) own as enc (fun _ => true) g hc hN hi ok (fun z hz => by
    obtain ⟨l, h1, h2, h3⟩ := hs z hz
    exact ⟨l, h1, h2, fun s H C cl fp => dts_nil, fun _ => h3⟩) hfs
  rw [List.filter_eq_self.mpr fun _ _ => rfl] at h
  exact h
end
end DL

namespace DL
open PySem PySem.Spec PyProof.Rows L2
theorem kit_t {T U : String} (h : kitB T U = some true) : kitB T U = some true := h
theorem kit_f {T U : String} (h : kitB T U = some false) : kitB T U = some false := h
end DL

namespace DL
open PySem PySem.Spec PyProof.Rows L2
/-- a def from pure data to a new thing -/
structure NFn (P : Program) (w : World) (K : PySem.W.Frag) (mg : Str → Option Value) (base : Heap) (ct : Nat → Addr) (x : Str) (k : Nat) {α : Type} (enc : α → List D) (pre : α → Prop) (cell : α → Cell) : Prop where
  fn : Fn P w K mg base ct x k (fun ds μ o μ' => ∃ a, ds = enc a ∧ pre a ∧ o = .val (.ptr 0) ∧ μ = [] ∧ μ' = [cell a])
  ok : ∀ a, pre a → okDs 0 (enc a) = true ∧ okC 0 (cell a) = true
section
variable {X : Cx} {ct : Nat → Addr} {Γ Γ1 Γ2 : Gm} {μ μ1 μ2 μ3 : Mu} {d da db dc : D} {ds : List D} {e a b c o tg iter : Expr} {es : List Expr} {body rest : List Stmt} {pos p : Pos} {x f m : Str} {k k' : Bool} {P : P4}
theorem q_new {kk : Nat} {α : Type} {enc : α → List D} {pre : α → Prop} {cell : α → Cell} (G : NFn X.prog X.w X.K X.mg X.base ct x kk enc pre cell) (ha : DA X ct Γ μ (e :: es) ds μ1) (z : α) (h : ds = enc z) (hp : pre z) (hr : Room kk X.A := by first | exact ‹Room _ _› | exact Room.mono ‹Room _ _› (by decide)) (hg : Gl X x := by rfl)
    (hdb : (x == ("__debug__" : Str)) = false := by decide) (he : starEach (e :: es) X.env = (false, eval e X.env) :: starEach es X.env := by rfl) (hpl : (backTo pos (starEach es X.env)).any (·.1) = false := by rfl) : DE X ct Γ μ (.Call (.Name x p) (e :: es) [] pos) (.ptr μ1.length) (μ1 ++ [cell z]) := by
  subst h
  exact de_call G.fn.fr hr ha (Fr.n (G.ok z hp).1 (G.ok z hp).2 ⟨z, rfl, hp, rfl, rfl, rfl⟩) hg hdb he hpl
/-- a loop over a list, its state s: J tells of what is left and the state -/
theorem ds_forJ {α S : Type} (enc : α → D) (as : List α) (Gf : S → Gm) (Mf : S → Mu) (J : List α → S → Prop) (hi : DI X ct tg iter Γ μ (as.map enc) μ1) (h0 : ∃ s0, GLe (Gf s0) Γ ∧ μ1 = Mf s0 ∧ J as s0)
    (hs : ∀ a r s, J (a :: r) s → ∃ l, DG X ct tg (enc a) l ∧ DSs X ct body (setG (Gf s) l) (Mf s) { nx := fun Γ μ => ∃ s', GLe (Gf s') Γ ∧ μ = Mf s' ∧ J r s', ct := fun Γ μ => ∃ s', GLe (Gf s') Γ ∧ μ = Mf s' ∧ J r s', bk := fun Γ μ => DSs X ct rest Γ μ P, rt := P.rt, ex := P.ex })
    (hd : ∀ s, J [] s → DSs X ct rest (Gf s) (Mf s) P) (hc : X.calm = true := by rfl) (hp : PassesOwn (model X.prog X.w) X.A X.env X.xe := by exact PassesOwn.never) (hfs : ∀ x, foldedSetIterable iter X.env x = pure x := by intro _; rfl) : DSs X ct (.For tg iter body [] pos :: rest) Γ μ P := by
  refine ds_for hp hc hi (fun i Γ' μ' => ∃ s, Γ' = Gf s ∧ μ' = Mf s ∧ J (as.drop i) s) ?_ (fun i d Γ' μ' hx hI hz => ?_) (fun Γ' μ' hI => ?_) hfs
  · obtain ⟨s0, g, rfl, j⟩ := h0
    exact ⟨_, g, s0, rfl, rfl, j⟩
  · obtain ⟨s, rfl, rfl, j⟩ := hI
    rw [List.getElem?_map, Option.map_eq_some_iff] at hx
    obtain ⟨z, hz, rfl⟩ := hx
    obtain ⟨hlt, e⟩ := List.getElem?_eq_some_iff.mp hz
    rw [List.drop_eq_getElem_cons hlt, e] at j
    obtain ⟨l, g, b⟩ := hs z _ s j
    exact ⟨l, g, ds_imp b (fun Γ μ ⟨s', h1, h2, h3⟩ => ⟨_, h1, s', rfl, h2, h3⟩) (fun _ _ h => h) (fun _ _ h => h) (fun Γ μ ⟨s', h1, h2, h3⟩ => ⟨_, h1, s', rfl, h2, h3⟩)⟩
  · obtain ⟨s, rfl, rfl, j⟩ := hI
    rw [List.length_map, List.drop_length] at j
    exact hd s j
end
section
variable {P : Program} {w : World} {K : PySem.W.Frag} {mg : Str → Option Value} {base : Heap} {ct : Nat → Addr}
theorem NFn.of {α : Type} {enc : α → List D} {pre : α → Prop} {cell : α → Cell} {x : Str} {params : Arguments} {body : List Stmt} {scope : Scope} {N ps : List Str} {k : Nat} (F : ∃ fd, FunD K x x params body scope [] [] (He.fAd K (x, none)) fd) (hm : mg x = some (.ref (He.ga K x))) (S : FnScope N ps scope) (hb : BindN x x params body scope ps)
    (hl : ∀ a, (enc a).length = ps.length) (ok : ∀ a, pre a → okDs 0 (enc a) = true ∧ okC 0 (cell a) = true)
    (hbody : ∀ (f : Addr) (cdv : Value) (A : Around) (outer : List Env) (s : Shared) (H : Hp) (E : XK) (a : α), Room k (A.deeper (envOfC x scope s.heap.objs.size f cdv)) → pre a →
      DSs (cxOf CX0 P w K mg base N x scope f cdv A outer s H E).nox ct body ((enc a).map some ++ List.replicate (N.length - ps.length) none) []
        { rt := fun d2 μ => d2 = .ptr 0 ∧ μ = [cell a] }) : NFn P w K mg base ct x (k + 1) enc pre cell := by
  refine ⟨Fn.of F hm S hb (fun ds μ o μ' ⟨a, e, _⟩ => by subst e; exact hl a) fun f cdv A outer s H E ds μ o μ' hr ⟨a, e1, hp, e2, e3, e4⟩ => ?_, ok⟩
  subst e1 e2 e3 e4
  refine ⟨_, rfl, ?_⟩
  have b := hbody f cdv A outer s H E a hr hp
  rw [hl a]
  exact ds_imp b (fun _ _ z => z.elim) (fun d μ ⟨h, e⟩ => ⟨h, .inl e⟩) (fun _ _ z => z) (fun _ _ z => z)
theorem PMk.of {α : Type} {enc : α → List D} {pre : α → Prop} {out : α → List (Str × D)} {n : Nat} {c : Str} {qual : Str} {params : Arguments} {body : List Stmt} {scope : Scope} {N ps : List Str} {k : Nat} {dvs : List V} (j : Nat) {dds : List D} (F : ∃ fd, FunD K "__init__" qual params body scope dvs [] (He.fAd K (c, some "__init__")) fd) (hc : ct n = He.ga K c) (hM : Mk K (He.ga K c) (He.ma K (He.ga K c) "__init__")) (hm : mg c = some (.ref (He.ga K c))) (S : FnScope N ps scope)
    (hb : ∀ fd, FunD K "__init__" qual params body scope dvs [] (He.fAd K (c, some "__init__")) fd → ∃ ds, Vals (dvs.drop j) ds ∧ Binds K fd ps ds) (hd : ∀ A F, Reps K ct A F (dvs.drop j) dds)
    (hl : ∀ a, (enc a).length + dds.length + 1 = ps.length) (ok : ∀ a, pre a → okDs 0 (enc a) = true ∧ okFs 0 (out a) = true)
    (hbody : ∀ (f : Addr) (cdv : Value) (A : Around) (outer : List Env) (s : Shared) (H : Hp) (E : XK) (a : α), Room k (A.deeper (envOfC qual scope s.heap.objs.size f cdv)) → pre a →
      DSs (cxOf CX0 P w K mg base N qual scope f cdv A outer s H E).nox ct body ((.ptr 0 :: (enc a ++ dds)).map some ++ List.replicate (N.length - ps.length) none) [.ins n []]
        { nx := fun _ μ2 => μ2 = [.ins n (out a)] }) : PMk P w K mg base ct n c (k + 1) enc pre out := by
  refine ⟨Mkr.of j F hc hM hm S hb hd (fun as μ fs μ' ⟨a, e, _⟩ => by subst e; exact hl a) fun f cdv A outer s H E as μ0 fs μ1 hr ⟨a, e1, hp, e2, e3, e4⟩ => ?_, ok⟩
  subst e1 e2 e3 e4
  have b := hbody f cdv A outer s H E a hr hp
  rw [hl a]
  exact b
end
end DL

/-! # Texts sorted; targets that change the store -/
namespace DL
open PySem PySem.Spec PyProof.Rows L2
def leS (a b : Str) : Bool := !ltCps b.cps.toList a.cps.toList
theorem leS_iff {a b : Str} : leS a b = true ↔ a.cps.toList ≤ b.cps.toList := by
  unfold leS
  rw [ltCps_eq]
  simp
theorem str_ext {a b : Str} (h : a.cps.toList = b.cps.toList) : a = b := by
  cases a; cases b
  simp only [Str.mk.injEq]
  exact Array.toList_inj.mp h
theorem leS_total (a b : Str) : leS a b = true ∨ leS b a = true := by
  rw [leS_iff, leS_iff]; exact Std.Total.total _ _
theorem leS_trans {a b c : Str} (h : leS a b = true) (h' : leS b c = true) : leS a c = true := by
  rw [leS_iff] at *; exact List.le_trans h h'
theorem leS_anti {a b : Str} (h : leS a b = true) (h' : leS b a = true) : a = b := by
  rw [leS_iff] at *; exact str_ext (List.le_antisymm h h')
def insS (x : Str) : List Str → List Str
  | [] => [x]
  | y :: l => bif leS x y then x :: y :: l else y :: insS x l
def sortS : List Str → List Str
  | [] => []
  | x :: l => insS x (sortS l)
theorem insS_perm (x : Str) : ∀ l, (insS x l).Perm (x :: l)
  | [] => .refl _
  | y :: l => by
    unfold insS
    cases leS x y
    · exact ((insS_perm x l).cons y).trans (.swap x y l)
    · exact .refl _
theorem sortS_perm : ∀ l, (sortS l).Perm l
  | [] => .refl _
  | x :: l => (insS_perm x (sortS l)).trans ((sortS_perm l).cons x)
theorem insS_sorted (x : Str) : ∀ l : List Str, l.Pairwise (fun a b => leS a b = true) → (insS x l).Pairwise (fun a b => leS a b = true)
  | [], _ => by unfold insS; simp
  | y :: l, h => by
    unfold insS
    rw [List.pairwise_cons] at h
    cases hxy : leS x y
    · show (y :: insS x l).Pairwise _
      rw [List.pairwise_cons]
      refine ⟨fun z hz => ?_, insS_sorted x l h.2⟩
      rcases List.mem_cons.mp ((insS_perm x l).mem_iff.mp hz) with rfl | hz
      · rcases leS_total y z with e | e
        · exact e
        · rw [e] at hxy; cases hxy
      · exact h.1 z hz
    · show (x :: y :: l).Pairwise _
      rw [List.pairwise_cons]
      refine ⟨fun z hz => ?_, by rw [List.pairwise_cons]; exact h⟩
      rcases List.mem_cons.mp hz with rfl | hz
      · exact hxy
      · exact leS_trans hxy (h.1 z hz)
theorem sortS_sorted : ∀ l : List Str, (sortS l).Pairwise (fun a b => leS a b = true)
  | [] => .nil
  | x :: l => insS_sorted x _ (sortS_sorted l)
theorem rising_pw : ∀ (p : Str) (l : List Str), risingS p l = true → (p :: l).Pairwise (fun a b => leS a b = true)
  | p, [], _ => by simp
  | p, x :: r, h => by
    have h' : (!ltCps x.cps.toList p.cps.toList && risingS x r) = true := h
    rw [Bool.and_eq_true] at h'
    have ih := rising_pw x r h'.2
    rw [List.pairwise_cons]
    refine ⟨fun z hz => ?_, ih⟩
    rcases List.mem_cons.mp hz with rfl | hz
    · exact h'.1
    · exact leS_trans (b := x) h'.1 ((List.pairwise_cons.mp ih).1 z hz)
theorem sortedS_pw {l : List Str} (h : sortedS l = true) : l.Pairwise (fun a b => leS a b = true) := by
  cases l with
  | nil => exact .nil
  | cons x r => exact rising_pw x r h
theorem sortS_eq {l m : List Str} (p : m.Perm l) (h : sortedS m = true) : m = sortS l :=
  List.Perm.eq_of_pairwise (fun a b _ _ h1 h2 => leS_anti h1 h2) (sortedS_pw h) (sortS_sorted l) (p.trans (sortS_perm l).symm)
section
variable {X : Cx} {ct : Nat → Addr} {Γ Γ1 Γ2 Γ3 : Gm} {μ μ1 μ2 μ3 μ4 : Mu} {d da db dc d1 d2 : D} {ds l : List D} {e a b c o o2 a2 tg iter : Expr} {es tgs : List Expr} {body rest : List Stmt} {pos p pt : Pos} {x f m : Str} {k k' : Bool} {P : P4}
theorem c1_sortS {ns : List Str} (hl : SeqM μ d (ns.map .str)) (nt : ∀ z, d ≠ .tup z) (hz : ns.length < 64) : C1 X ct (.builtin "sorted") μ [d] (.lst ((sortS ns).map .str)) := c1_of cr_sortedS fun xs H F A Q m r k => by
  obtain ⟨v, rfl, h⟩ := reps1 r
  obtain ⟨a, vs, rfl, s, rr⟩ := hl.list nt m h
  rw [rr.of_strs] at s
  refine ⟨a, ns, rfl, s, hz, fun ns' p hp hs hn => ?_⟩
  rw [sortS_eq hp hs]
  exact new_lst m (.strs _) k p hn
theorem q_sortS {ns : List Str} (hm : X.mg "sorted" = none) (he : DE X ct Γ μ a d μ1) (h : SeqM μ1 d (ns.map .str)) (nt : ∀ z, d ≠ .tup z) (hz : ns.length < 64) (hg : Gl X "sorted" := by rfl) (hs1 : starEach [a] X.env = (false, eval a X.env) :: starEach [] X.env := by rfl) (hpl : (backTo pos (starEach [] X.env)).any (·.1) = false := by rfl) :
    DE X ct Γ μ (.Call (.Name "sorted" p) [a] [] pos) (.lst ((sortS ns).map .str)) μ1 := de_callB (c1_sortS h nt hz) hm boot_sorted (da_cons he da_nil hs1) hg (by decide) (by decide) hs1 hpl
/-- three names at once -/
theorem ds_par3 (i j n : Nat) {y z : Str} {px py pz : Pos} {kt k2 pt2} (hc : X.calm = true) (hN : X.N.Nodup) (ha : DA X ct Γ μ [a, b, c] [da, db, dc] μ1) (hr : DSs X ct rest (((Γ.set i (some da)).set j (some db)).set n (some dc)) μ1 P) (hi : X.N[i]? = some x := by rfl) (hj : X.N[j]? = some y := by rfl) (hn : X.N[n]? = some z := by rfl) (hij : i ≠ j := by decide) (hin : i ≠ n := by decide) (hjn : j ≠ n := by decide)
    (hx : X.env.scope.names.lookup x = some .local := by rfl) (hy : X.env.scope.names.lookup y = some .local := by rfl) (hz : X.env.scope.names.lookup z = some .local := by rfl)
    (hw : swappedStores [.Tuple [.Name x px, .Name y py, .Name z pz] kt pt] (.Tuple [a, b, c] k2 pt2) X.env = pure (some [x, y, z]) := by rfl)
    (hs : swapsWithSole [.Tuple [.Name x px, .Name y py, .Name z pz] kt pt] (.Tuple [a, b, c] k2 pt2) pos.line X.env = pure false := by rfl) : DSs X ct (.Assign [.Tuple [.Name x px, .Name y py, .Name z pz] kt pt] (.Tuple [a, b, c] k2 pt2) pos :: rest) Γ μ P :=
  ds_cons (PS.imp (ps_par3 hc hN hi hj hn hij hin hjn hx hy hz ha hw hs) fun D σ H ⟨F, A, r, q1, q2, q3, q4⟩ => ⟨F, A, r, fun vs H' F' A' e p r' rr => by
    cases rr with
    | cons h1 t => cases t with
      | cons h2 t => cases t with
        | cons h3 t => cases t with
          | nil => exact ⟨_, _, _, rfl, q1 _ μ1 _ H' F' A' e p ⟨r'.m, ((r'.s.set h1 i).set h2 j).set h3 n⟩ hr⟩⟩)
/-! targets over the store -/
abbrev GM (X : Cx) (ct : Nat → Addr) (tg : Expr) (d : D) (Γ : Gm) (μ : Mu) (Γ' : Gm) (μ' : Mu) : Prop :=
  PG X tg fun v σ H Q => ∃ F A, Rl X.K ct Γ μ σ H F A ∧ Rep X.K ct A F v d ∧ ∀ σ' H' F' A', Le F F' → A <+: A' → Rl X.K ct Γ' μ' σ' H' F' A' → Q σ' H'
abbrev GMs (X : Cx) (ct : Nat → Addr) (tgs : List Expr) (ds : List D) (Γ : Gm) (μ : Mu) (Γ' : Gm) (μ' : Mu) : Prop :=
  PGs X tgs fun vs σ H Q => ∃ F A, Rl X.K ct Γ μ σ H F A ∧ Reps X.K ct A F vs ds ∧ ∀ σ' H' F' A', Le F F' → A <+: A' → Rl X.K ct Γ' μ' σ' H' F' A' → Q σ' H'
theorem PG.imp' {e : Expr} {t t' : TG} (h : PG X e t) (k : ∀ v σ H Q, t' v σ H Q → t v σ H Q) : PG X e t' := ⟨fun pins s σ H v u Q I rv q => h.run pins s σ H v u Q I rv (k _ _ _ _ q)⟩
theorem PGs.imp' {e : List Expr} {t t' : TGs} (h : PGs X e t) (k : ∀ v σ H Q, t' v σ H Q → t v σ H Q) : PGs X e t' := ⟨fun pins s σ H v u Q I rv q => h.run pins s σ H v u Q I rv (k _ _ _ _ q)⟩
theorem gm_name (i : Nat) (hN : X.N.Nodup) (hi : X.N[i]? = some x := by rfl) (hx : Loc X.env.scope x := by first | exact Or.inl rfl | exact Or.inr rfl) (hf : X.fn x = true ∨ X.env.scope.names.lookup x = some .local := by first | exact .inl rfl | exact .inr rfl) : GM X ct (.Name x pos) d Γ μ (Γ.set i (some d)) μ :=
  PG.imp' (pg_name hN hi hx hf) fun v σ H Q ⟨F, A, r, rv, q⟩ => q _ H F A (.refl _) pr ⟨r.m, r.s.set rv i⟩
theorem gm_put {j : Nat} {i : Int} (ho : DE X ct Γ μ o (.ptr j) μ1) (hi : DE X ct Γ μ1 a (.int i) μ2) (hm : μ2[j]? = some (.lst l)) {n : Nat} (hn : ixN l.length i = some n)
    (ha : ∀ v, assign (.Subscript o a pos) X.env v = (do
      let ov ← holding [v] (eval o X.env)
      let iv ← holding [v, ov] (eval a X.env)
      standAt pos
      holding [v, ov, iv] (setItem ov iv v)
      release [v, ov, iv] []) := by intro _; rfl) : GM X ct (.Subscript o a pos) d Γ μ Γ (μ2.set j (.lst (l.set n d))) :=
  PG.imp' (pg_sub ho hi set_list ha) fun v σ H Q ⟨F, A, r, hv, q⟩ => ⟨F, A, r, fun w H2 F2 A2 e2 p2 r2 hw => ⟨F2, A2, r2, fun u H3 F3 A3 e3 p3 r3 hu => by
    cases hw with
    | ptr s =>
      cases hu
      have s3 := pre_get p3 s
      obtain ⟨fn, vs, hvs, rr⟩ := r3.m.ok _ _ _ s3 hm
      exact ⟨_, vs, i, n, rfl, rfl, hvs, by rw [rr.len]; exact hn, q _ _ F3 A3 (e2.trans e3) (p2.trans p3) ⟨r3.m.write s3 hm (by simp) fn (c := .lst (l.set n d)) ⟨fn, _, upd_same, Reps.set (hv.mono (e2.trans e3) (p2.trans p3)) n rr⟩, r3.s⟩⟩⟩⟩
theorem gm_dput {j : Nat} {key : Key} {kds : List (Key × D)} (hu : X.A.units + 1 < cLine) (ho : DE X ct Γ μ o (.ptr j) μ1) (hi : DE X ct Γ μ1 a da μ2) (hk : KeyD da key) (hm : μ2[j]? = some (.dic kds)) (hz : kds.length < sizeLine)
    (ha : ∀ v, assign (.Subscript o a pos) X.env v = (do
      let ov ← holding [v] (eval o X.env)
      let iv ← holding [v, ov] (eval a X.env)
      standAt pos
      holding [v, ov, iv] (setItem ov iv v)
      release [v, ov, iv] []) := by intro _; rfl) : GM X ct (.Subscript o a pos) d Γ μ Γ (μ2.set j (.dic (dput kds key d))) :=
  PG.imp' (pg_sub ho hi (set_dict hu) ha) fun v σ H Q ⟨F, A, r, hv, q⟩ => ⟨F, A, r, fun w H2 F2 A2 e2 p2 r2 hw => ⟨F2, A2, r2, fun u H3 F3 A3 e3 p3 r3 hu => by
    cases hw with
    | ptr s =>
      have s3 := pre_get p3 s
      obtain ⟨fn, kvs, hvs, k1, k2⟩ := r3.m.ok _ _ _ s3 hm
      have kd : KD X.K ct A3 F3 kvs kds := ⟨k1, k2⟩
      have kp := kd.put key (hv.mono (e2.trans e3) (p2.trans p3))
      have eu := hk.rep hu
      subst eu
      exact ⟨_, _, rfl, DPut.k hvs (by rw [kd.len]; exact hz), q _ _ F3 A3 (e2.trans e3) (p2.trans p3) ⟨r3.m.write s3 hm (by simp) fn (c := .dic (dput kds key d)) ⟨fn, _, upd_same, kp.1, kp.2⟩, r3.s⟩⟩⟩⟩
theorem gm_nil : GMs X ct [] [] Γ μ Γ μ := PGs.imp' pgs_nil fun vs σ H Q ⟨F, A, r, rv, q⟩ => by cases rv; exact ⟨rfl, q _ H F A (.refl _) pr r⟩
theorem gm_cons (h1 : GM X ct e d Γ μ Γ1 μ1) (h2 : GMs X ct es ds Γ1 μ1 Γ2 μ2) (hs : (assignEach (e :: es) X.env).map (·.2) = assign e X.env :: (assignEach es X.env).map (·.2) := by rfl) : GMs X ct (e :: es) (d :: ds) Γ μ Γ2 μ2 :=
  PGs.imp' (pgs_cons h1 h2 hs) fun vs σ H Q ⟨F, A, r, rv, q⟩ => by
    cases rv with
    | cons a b => exact ⟨_, _, rfl, F, A, r, a, fun σ' H' F' A' e p r' => ⟨F', A', r', b.mono e p, fun σ2 H2 F2 A2 e2 p2 r2 => q _ _ _ _ (e.trans e2) (p.trans p2) r2⟩⟩
theorem gm_tup {kk n : Nat} (hc : X.calm = true) (h : GMs X ct es ds Γ μ Γ1 μ1) (hz : ds.length = n := by rfl) (hn : (assignEach es X.env).length = n := by rfl) (hst : (assignEach es X.env).findIdx? (·.1) = none := by rfl) : GM X ct (.Tuple es kk pos) (.tup ds) Γ μ Γ1 μ1 :=
  PG.imp' (pg_tup hc h hn hst) fun v σ H Q ⟨F, A, r, rep, q⟩ => by
    cases rep with
    | tup h1 h2 => exact ⟨_, _, rfl, sqT_sub r.m.sub h1, by rw [h2.len]; exact hz, F, A, r, h2, q⟩
theorem ds_asgM (he : DE X ct Γ μ e d μ1) (hg : GM X ct tg d Γ μ1 Γ2 μ2) (hr : DSs X ct rest Γ2 μ2 P) (hs : swapsWithSole [tg] e pos.line X.env = pure false := by rfl) (hw : swappedStores [tg] e X.env = pure none := by rfl)
    (h1 : (assignEach [tg] X.env).map (·.2) = [assign tg X.env] := by rfl) : DSs X ct (.Assign [tg] e pos :: rest) Γ μ P :=
  ds_cons (PS.imp (ps_asg he hg hs hw h1) fun D σ H ⟨F, A, r, q1, q2, q3, q4⟩ => ⟨F, A, r, fun v H' F' A' e p r' rr => ⟨F', A', r', rr, fun σ2 H2 F2 A2 e2 p2 r2 => q1 _ μ2 _ H2 F2 A2 (e.trans e2) (p.trans p2) r2 hr⟩⟩)
end
end DL

/-! # name = [..] on one line -/
namespace DL
open PySem PySem.Spec PyProof.Rows L2
section
variable {X : Cx} {ct : Nat → Addr} {Γ Γ1 Γ2 : Gm} {μ μ1 μ2 μ3 : Mu} {d da db dc : D} {ds xs : List D} {e a b c o tg iter elt : Expr} {es : List Expr} {body rest : List Stmt} {pos p spos py : Pos} {x f m : Str} {k k' : Bool} {P : P4} {kds : List (Key × D)}
theorem ds_setLc {ifs : List Expr} {scope : Scope} {res : List D} (n : Nat) (own : List (Str × Nat)) (hc : X.calm = true) (hN : X.N.Nodup) (hi : DI X ct tg iter Γ μ xs μ1) (ok : BlkOk X.N X.env.scope scope own) (I : Nat → List D → Mu → Prop) (h0 : I 0 [] μ1)
    (hs : ∀ i d acc μ', xs[i]? = some d → I i acc μ' → ∃ l k μ2, (∀ p ∈ l, p.1 ∈ own.map (·.2)) ∧ (∀ s H C cl fp, DG (Bk X scope s H C cl fp) ct tg d l) ∧ (∀ s H C cl fp, DTs (Bk X scope s H C cl fp) ct ifs (setG (wipeG Γ (own.map (·.2))) l) μ' k μ2) ∧
      (k = true → ∃ y μ3, (∀ s H C cl fp, DE (Bk X scope s H C cl fp) ct (setG (wipeG Γ (own.map (·.2))) l) μ2 elt y μ3) ∧ I (i + 1) (acc ++ [y]) μ3) ∧ (k = false → I (i + 1) acc μ2))
    (hl : ∀ i acc μ', I i acc μ' → acc.length ≤ i) (hd : ∀ acc μ', I xs.length acc μ' → acc = res ∧ μ' = μ2) (hr : DSs X ct rest (Γ.set n (some (.lst res))) μ2 P)
    (hy : X.N[n]? = some x) (hyl : X.env.scope.names.lookup x = some .local) (hsw : swapsWith (.ListComp elt [⟨tg, iter, ifs, 0⟩] scope pos) (some (.Name x py)) spos.line X.env = pure true) (hfs : ∀ x, foldedSetIterable iter X.env x = pure x) :
    DSs X ct (.Assign [.Name x py] (.ListComp elt [⟨tg, iter, ifs, 0⟩] scope pos) spos :: rest) Γ μ P := by
  refine ds_cons (PS.imp (ps_setLc (g := fun v σ H Q => ∃ t, (∀ s H C cl fp, PG (Bk X scope s H C cl fp) tg t) ∧ t v σ H Q) (tt := fun σ H Q => ∃ t, (∀ s H C cl fp, PTs (Bk X scope s H C cl fp) ifs t) ∧ t σ H Q) (te := fun σ H Q => ∃ t, (∀ s H C cl fp, PE (Bk X scope s H C cl fp) elt t) ∧ t σ H Q) hc hN hy hyl hsw hi ok
    (fun s H C cl fp => ⟨fun pins s' σ H' v u Q I r ⟨t, h, q⟩ => (h s H C cl fp).run pins s' σ H' v u Q I r q⟩) (fun s H C cl fp => ⟨fun pins s' σ H' Q I ⟨t, h, q⟩ => (h s H C cl fp).run pins s' σ H' Q I q⟩) (fun s H C cl fp => ⟨fun pins s' σ H' Q I ⟨t, h, q⟩ => (h s H C cl fp).run pins s' σ H' Q I q⟩) hfs) fun D σ H ⟨F, A, r, q1, q2, q3, q4⟩ => ?_)
  refine tLc_D (res := res) (μ2 := μ2) I h0 (fun i d acc μ' hx hI => ?_) hl hd (fun R k => ⟨F, A, r, k⟩) (fun v H' F' A' e p r' rr => q1 _ μ2 _ H' F' A' e p ⟨r'.m, r'.s.set rr n⟩ hr)
  obtain ⟨l, k, μ3, h1, h2, h3, h4, h5⟩ := hs i d acc μ' hx hI
  refine ⟨l, k, μ3, h1, fun v σ H Q q => ⟨_, h2, q⟩, fun σ H Q q => ⟨_, h3, q⟩, fun hk => ?_, h5⟩
  obtain ⟨y, μ4, h6, h7⟩ := h4 hk
  exact ⟨y, μ4, fun σ H Q q => ⟨_, h6, q⟩, h7⟩
theorem ds_setLcP {α : Type} {ifs : List Expr} {scope : Scope} (n : Nat) (own : List (Str × Nat)) (as : List α) (enc : α → D) (pd : α → Bool) (g : α → D) (hN : X.N.Nodup) (hi : DI X ct tg iter Γ μ (as.map enc) μ1) (ok : BlkOk X.N X.env.scope scope own)
    (hs : ∀ z ∈ as, ∃ l, (∀ p ∈ l, p.1 ∈ own.map (·.2)) ∧ (∀ s H C cl fp, DG (Bk X scope s H C cl fp) ct tg (enc z) l) ∧ (∀ s H C cl fp, DTs (Bk X scope s H C cl fp) ct ifs (setG (wipeG Γ (own.map (·.2))) l) μ1 (pd z) μ1) ∧
      (pd z = true → ∀ s H C cl fp, DE (Bk X scope s H C cl fp) ct (setG (wipeG Γ (own.map (·.2))) l) μ1 elt (g z) μ1)) (hr : DSs X ct rest (Γ.set n (some (.lst ((as.filter pd).map g)))) μ1 P) (hc : X.calm = true := by rfl) (hy : X.N[n]? = some x := by rfl) (hyl : X.env.scope.names.lookup x = some .local := by rfl) (hsw : swapsWith (.ListComp elt [⟨tg, iter, ifs, 0⟩] scope pos) (some (.Name x py)) spos.line X.env = pure true := by rfl) (hfs : ∀ x, foldedSetIterable iter X.env x = pure x := by intro _; rfl) :
    DSs X ct (.Assign [.Name x py] (.ListComp elt [⟨tg, iter, ifs, 0⟩] scope pos) spos :: rest) Γ μ P := by
  refine ds_setLc n own hc hN hi ok (fun i acc μ' => acc = ((as.take i).filter pd).map g ∧ μ' = μ1) ⟨rfl, rfl⟩ (fun i d acc μ' hx ⟨e1, e2⟩ => ?_) (fun i acc μ' ⟨e1, e2⟩ => ?_) (fun acc μ' ⟨e1, e2⟩ => ?_) hr hy hyl hsw hfs
  · subst e1; subst e2
    rw [List.getElem?_map, Option.map_eq_some_iff] at hx
    obtain ⟨z, hz, rfl⟩ := hx
    obtain ⟨l, h1, h2, h3, h4⟩ := hs z (List.mem_of_getElem? hz)
    have et : as.take (i + 1) = as.take i ++ [z] := by
      obtain ⟨hi, e⟩ := List.getElem?_eq_some_iff.mp hz
      rw [List.take_succ_eq_append_getElem hi, e]
    refine ⟨l, pd z, _, h1, h2, h3, fun hk => ⟨g z, _, h4 hk, ?_, rfl⟩, fun hk => ⟨?_, rfl⟩⟩
    · rw [et, List.filter_append, List.filter_cons, hk]; simp
    · rw [et, List.filter_append, List.filter_cons, hk]; simp
  · subst e1
    rw [List.length_map]
    exact Nat.le_trans (List.length_filter_le _ _) (by rw [List.length_take]; omega)
  · rw [List.length_map, List.take_length] at e1
    exact ⟨e1, e2⟩
theorem ds_setLcU {α : Type} {scope : Scope} (n : Nat) (own : List (Str × Nat)) (as : List α) (enc : α → D) (g : α → D) (hN : X.N.Nodup) (hi : DI X ct tg iter Γ μ (as.map enc) μ1) (ok : BlkOk X.N X.env.scope scope own)
    (hs : ∀ z ∈ as, ∃ l, (∀ p ∈ l, p.1 ∈ own.map (·.2)) ∧ (∀ s H C cl fp, DG (Bk X scope s H C cl fp) ct tg (enc z) l) ∧ (∀ s H C cl fp, DE (Bk X scope s H C cl fp) ct (setG (wipeG Γ (own.map (·.2))) l) μ1 elt (g z) μ1)) (hr : DSs X ct rest (Γ.set n (some (.lst (as.map g)))) μ1 P) (hc : X.calm = true := by rfl) (hy : X.N[n]? = some x := by rfl) (hyl : X.env.scope.names.lookup x = some .local := by rfl) (hsw : swapsWith (.ListComp elt [⟨tg, iter, [], 0⟩] scope pos) (some (.Name x py)) spos.line X.env = pure true := by rfl) (hfs : ∀ x, foldedSetIterable iter X.env x = pure x := by intro _; rfl) :
    DSs X ct (.Assign [.Name x py] (.ListComp elt [⟨tg, iter, [], 0⟩] scope pos) spos :: rest) Γ μ P := by
  refine ds_setLcP (ifs := []) n own as enc (fun _ => true) g hN hi ok (fun z hz => ?_) ?_ hc hy hyl hsw hfs
  · obtain ⟨l, h1, h2, h3⟩ := hs z hz
    exact ⟨l, h1, h2, fun s H C cl fp => dts_nil, fun _ => h3⟩
  · rw [List.filter_eq_self.mpr fun _ _ => rfl]
    exact hr
theorem ds_setLcK {ifs : List Expr} {scope : Scope} (n : Nat) (own : List (Str × Nat)) (pd : Key → Bool) (g : Key → D) (hN : X.N.Nodup) (hz : kds.length ≤ sizeLine) (hi : DPath X ct iter Γ μ kds) (ok : BlkOk X.N X.env.scope scope own)
    (hs : ∀ kv ∈ kds, ∃ l, (∀ p ∈ l, p.1 ∈ own.map (·.2)) ∧ (∀ s H C cl fp, DG (Bk X scope s H C cl fp) ct tg (keyDat kv.1) l) ∧ (∀ s H C cl fp, DTs (Bk X scope s H C cl fp) ct ifs (setG (wipeG Γ (own.map (·.2))) l) μ (pd kv.1) μ) ∧
      (pd kv.1 = true → ∀ s H C cl fp, DE (Bk X scope s H C cl fp) ct (setG (wipeG Γ (own.map (·.2))) l) μ elt (g kv.1) μ)) (hr : DSs X ct rest (Γ.set n (some (.lst (((kds.map (·.1)).filter pd).map g)))) μ P) (hc : X.calm = true := by rfl) (hy : X.N[n]? = some x := by rfl) (hyl : X.env.scope.names.lookup x = some .local := by rfl) (hsw : swapsWith (.ListComp elt [⟨tg, iter, ifs, 0⟩] scope pos) (some (.Name x py)) spos.line X.env = pure true := by rfl) (hfs : ∀ x, foldedSetIterable iter X.env x = pure x := by intro _; rfl) :
    DSs X ct (.Assign [.Name x py] (.ListComp elt [⟨tg, iter, ifs, 0⟩] scope pos) spos :: rest) Γ μ P := by
  obtain ⟨t, ht, hp'⟩ := hi.ex
  have hlen : (kds.map fun kv => keyDat kv.1).length = kds.length := by simp
  have h0 := ps_setLc (elt := elt) (tg := tg) (ifs := ifs) (scope := scope) (pos := pos) (py := py) (spos := spos) (g := fun v σ H Q => ∃ t, (∀ s H C cl fp, PG (Bk X scope s H C cl fp) tg t) ∧ t v σ H Q) (tt := fun σ H Q => ∃ t, (∀ s H C cl fp, PTs (Bk X scope s H C cl fp) ifs t) ∧ t σ H Q) (te := fun σ H Q => ∃ t, (∀ s H C cl fp, PE (Bk X scope s H C cl fp) elt t) ∧ t σ H Q) hc hN hy hyl hsw (pi_keys (tg := tg) ht) ok
    (fun s H C cl fp => ⟨fun pins s' σ H' v u Q I r ⟨t, h, q⟩ => (h s H C cl fp).run pins s' σ H' v u Q I r q⟩) (fun s H C cl fp => ⟨fun pins s' σ H' Q I ⟨t, h, q⟩ => (h s H C cl fp).run pins s' σ H' Q I q⟩) (fun s H C cl fp => ⟨fun pins s' σ H' Q I ⟨t, h, q⟩ => (h s H C cl fp).run pins s' σ H' Q I q⟩) hfs
  have turn : ∀ i d acc μ', (kds.map fun kv => keyDat kv.1)[i]? = some d → (acc = (((kds.map (·.1)).take i).filter pd).map g ∧ μ' = μ) → ∃ l k μ2, (∀ p ∈ l, p.1 ∈ own.map (·.2)) ∧ (∀ v σ H Q, tG X.K ct d l v σ H Q → ∃ t, (∀ s H C cl fp, PG (Bk X scope s H C cl fp) tg t) ∧ t v σ H Q) ∧ (∀ σ H Q, tT X.K ct (setG (wipeG Γ (own.map (·.2))) l) μ' k μ2 σ H Q → ∃ t, (∀ s H C cl fp, PTs (Bk X scope s H C cl fp) ifs t) ∧ t σ H Q) ∧
      (k = true → ∃ y μ3, (∀ σ H Q, tD X.K ct (setG (wipeG Γ (own.map (·.2))) l) μ2 y μ3 σ H Q → ∃ t, (∀ s H C cl fp, PE (Bk X scope s H C cl fp) elt t) ∧ t σ H Q) ∧ (acc ++ [y] = (((kds.map (·.1)).take (i + 1)).filter pd).map g ∧ μ3 = μ)) ∧ (k = false → (acc = (((kds.map (·.1)).take (i + 1)).filter pd).map g ∧ μ2 = μ)) := by
    rintro i d acc μ' hx ⟨rfl, rfl⟩
    rw [List.getElem?_map, Option.map_eq_some_iff] at hx
    obtain ⟨kv, hkv, rfl⟩ := hx
    obtain ⟨l, h1, h2, h3, h4⟩ := hs kv (List.mem_of_getElem? hkv)
    have hk1 : (kds.map (·.1))[i]? = some kv.1 := by rw [List.getElem?_map, hkv]; rfl
    have et : (kds.map (·.1)).take (i + 1) = (kds.map (·.1)).take i ++ [kv.1] := by
      obtain ⟨hi, e⟩ := List.getElem?_eq_some_iff.mp hk1
      rw [List.take_succ_eq_append_getElem hi, e]
    refine ⟨l, pd kv.1, _, h1, fun v σ H Q q => ⟨_, h2, q⟩, fun σ H Q q => ⟨_, h3, q⟩, fun hk => ⟨g kv.1, _, fun σ H Q q => ⟨_, h4 hk, q⟩, ?_, rfl⟩, fun hk => ⟨?_, rfl⟩⟩
    · rw [et, List.filter_append, List.filter_cons, hk]; simp
    · rw [et, List.filter_append, List.filter_cons, hk]; simp
  have hle : ∀ (i : Nat) (acc : List D) (μ' : Mu), (acc = (((kds.map (·.1)).take i).filter pd).map g ∧ μ' = μ) → acc.length ≤ i := by
    rintro i acc μ' ⟨rfl, _⟩
    rw [List.length_map]
    exact Nat.le_trans (List.length_filter_le _ _) (by rw [List.length_take]; omega)
  have hend : ∀ (acc : List D) (μ' : Mu), (acc = (((kds.map (·.1)).take (kds.map fun kv => keyDat kv.1).length).filter pd).map g ∧ μ' = μ) → acc = ((kds.map (·.1)).filter pd).map g ∧ μ' = μ := by
    rintro acc μ' ⟨rfl, e⟩
    refine ⟨?_, e⟩
    rw [show (kds.map fun kv => keyDat kv.1).length = (kds.map (·.1)).length by simp, List.take_length]
  refine ds_cons (PS.imp (PS.or h0 (ps_lock h0)) fun D σ H ⟨F, A, r, q1, q2, q3, q4⟩ => ?_)
  obtain ⟨ad, kvs, hrd, kd, hpath⟩ := hp' σ H F A r
  rcases hrd with hF | ⟨od, hF⟩
  · have hH : H ad = some (.dK kvs) := r.m.sub _ _ hF
    refine .inr ⟨ad, .dK kvs, hH, trivial, fun od => ?_⟩
    have lk : LeR F (upd F ad (.frz od (.dK kvs))) := .lock hF ⟨_, rfl⟩
    have r1 : Rl X.K ct Γ μ σ (upd H ad (.frz od (.dK kvs))) (upd F ad (.frz od (.dK kvs))) A := ⟨r.m.swap hF lk rfl, r.s.monoR lk pr⟩
    refine tLc_D (μ1 := μ) (xs := kds.map fun kv => keyDat kv.1) (fun i acc μ' => acc = (((kds.map (·.1)).take i).filter pd).map g ∧ μ' = μ) ⟨rfl, rfl⟩ turn hle hend (F := upd F ad (.frz od (.dK kvs))) (A := A) (fun R kk => hpath _ _ _ lk r1.m.sub ⟨ad, od, rfl, .inl ⟨kvs, upd_same, kk _ _ _ A (.refl _) pr r1 (walkD_keys upd_same ⟨kd.1, kd.2.monoR lk pr⟩) (by rw [hlen]; exact hz)⟩⟩) ?_
    intro v H' F' A' e p r' rr
    obtain ⟨u1, u2, u3, u4⟩ := unlocked hF e r'.m
    exact ⟨u1, q1 _ μ _ _ _ A' u2 p ⟨u4, (r'.s.monoR u3 pr).set (rr.monoR u3 pr) n⟩ hr⟩
  · exact .inl (tLc_D (μ1 := μ) (xs := kds.map fun kv => keyDat kv.1) (fun i acc μ' => acc = (((kds.map (·.1)).take i).filter pd).map g ∧ μ' = μ) ⟨rfl, rfl⟩ turn hle hend (F := F) (A := A) (fun R kk => hpath _ _ _ (Le.refl F).r r.m.sub ⟨ad, od, rfl, .inl ⟨kvs, r.m.sub _ _ hF, kk _ H F A (.refl _) pr r (walkD_keys hF kd) (by rw [hlen]; exact hz)⟩⟩) (fun v H' F' A' e p r' rr => q1 _ μ _ H' F' A' e p ⟨r'.m, r'.s.set rr n⟩ hr))
end
end DL

/-! # Walks over a list of the store, which stays as it is meanwhile -/
namespace DL
open PySem PySem.Spec PyProof.Rows L2
def rem (F : Hp) (a : Addr) : Hp := fun b => if b = a then none else F b
theorem rem_same {F : Hp} {a : Addr} : rem F a a = none := by unfold rem; rw [if_pos rfl]
theorem rem_ne {F : Hp} {a b : Addr} (h : b ≠ a) : rem F a b = F b := by unfold rem; rw [if_neg h]
theorem LeR.rem {F : Hp} {d : Addr} {u : HO} (h : F d = some (mark u)) : LeR F (DL.rem F d) := by
  refine ⟨fun a w dw r => ?_, fun a C dx fs e => ?_, fun a xs e => ?_⟩
  · by_cases ha : a = d
    · subst ha
      rcases r with r | ⟨o, r⟩
      · rw [h] at r; cases r; cases dw
      · rw [h] at r; cases r; cases dw
    · exact r.elim (fun r => .inl (by rw [rem_ne ha]; exact r)) fun ⟨o, r⟩ => .inr ⟨o, by rw [rem_ne ha]; exact r⟩
  · rw [rem_ne (ne_of e h (by intro z; cases z))]; exact e
  · rw [rem_ne (ne_of e h (by intro z; cases z))]; exact e
section
variable {K : PySem.W.Frag} {ct : Nat → Addr} {μ : Mu} {H F : Hp} {A : List Addr} {j : Nat} {l : List D}
theorem mark_cell (r : Rl0 K ct μ H F A) (hm : μ[j]? = some (.lst l)) : ∃ a vs, A[j]? = some a ∧ H a = some (.lst vs) ∧ F a = none ∧ Reps K ct A (upd F a (mark (.lst vs))) vs l ∧ Rl0 K ct (μ.set j .dead) H (upd F a (mark (.lst vs))) A := by
  have hj : j < A.length := by rw [r.len]; exact (List.getElem?_eq_some_iff.mp hm).1
  have ha : A[j]? = some A[j] := List.getElem?_eq_getElem hj
  obtain ⟨f, vs, h1, h2⟩ := r.ok j _ _ ha hm
  have le : Le F (upd F A[j] (mark (.lst vs))) := .new f
  refine ⟨_, vs, ha, h1, f, h2.mono le pr, ⟨fun b o e => ?_, by simp [r.len], fun i i' b c c' hi hi' q1 q2 l1 l2 => ?_, r.there, fun i b c hb hc => ?_⟩⟩
  · by_cases h : b = A[j]
    · rw [h] at e ⊢; rw [upd_same] at e; cases e; exact h1
    · rw [upd_ne h] at e; exact r.sub b o e
  · have key : ∀ (n : Nat) (c' : Cell), (μ.set j .dead)[n]? = some c' → c' ≠ .dead → μ[n]? = some c' := fun n c' hn hl => by
      by_cases e : n = j
      · subst e
        rw [List.getElem?_set_self (List.getElem?_eq_some_iff.mp hm).1] at hn
        cases hn; exact absurd rfl hl
      · rw [List.getElem?_set_ne (Ne.symm e)] at hn; exact hn
    exact r.nd i i' b c c' hi hi' (key i c q1 l1) (key i' c' q2 l2) l1 l2
  · by_cases h : i = j
    · subst h
      rw [List.getElem?_set_self (List.getElem?_eq_some_iff.mp hm).1] at hc
      cases hc; trivial
    · rw [List.getElem?_set_ne (Ne.symm h)] at hc
      by_cases hd : c = .dead
      · subst hd; trivial
      have ne : b ≠ A[j] := fun e => h (r.nd i j b c _ hb (by rw [e]; exact ha) hc hm hd (by simp))
      exact (r.ok i b c hb hc).mono le pr (fun f => by rw [upd_ne ne]; exact f) fun o h _ => h
theorem unmark_cell {F0 : Hp} {a : Addr} {vs : List V} {A0 : List Addr} (r : Rl0 K ct (μ.set j .dead) H F A) (hm : μ[j]? = some (.lst l)) (ha : A0[j]? = some a) (p : A0 <+: A) (f0 : F0 a = none) (e : Le (upd F0 a (mark (.lst vs))) F) (rs : Reps K ct A F vs l) :
    Le F0 (rem F a) ∧ LeR F (rem F a) ∧ Rl0 K ct μ H (rem F a) A := by
  have fa : F a = some (mark (.lst vs)) := e _ _ upd_same
  have le : LeR F (rem F a) := .rem fa
  have ha' := pre_get p ha
  refine ⟨fun b o h => ?_, le, ⟨fun b o h => ?_, by have := r.len; simpa using this, fun i i' b c c' hi hi' q1 q2 l1 l2 => ?_, r.there, fun i b c hb hc => ?_⟩⟩
  · have ne : b ≠ a := fun z => by subst z; rw [f0] at h; cases h
    rw [rem_ne ne]; exact e _ _ (by rw [upd_ne ne]; exact h)
  · by_cases ne : b = a
    · subst ne; rw [rem_same] at h; cases h
    · rw [rem_ne ne] at h; exact r.sub b o h
  · have key : ∀ (n : Nat) (c' : Cell), n ≠ j → μ[n]? = some c' → (μ.set j .dead)[n]? = some c' := fun n c' hn h => by rw [List.getElem?_set_ne (Ne.symm hn)]; exact h
    have no : ∀ (n : Nat) (c' : Cell), n ≠ j → A[n]? = some a → μ[n]? = some c' → c' ≠ .dead → False := fun n c' hn h1 h2 h3 => by
      have := (r.ok n a c' h1 (key n c' hn h2)).fr h3
      rw [fa] at this; cases this
    by_cases h1 : i = j
    · by_cases h2 : i' = j
      · rw [h1, h2]
      · subst h1
        rw [ha'] at hi; cases hi
        exact (no i' c' h2 hi' q2 l2).elim
    · by_cases h2 : i' = j
      · subst h2
        rw [ha'] at hi'; cases hi'
        exact (no i c h1 hi q1 l1).elim
      · exact r.nd i i' b c c' hi hi' (key i c h1 q1) (key i' c' h2 q2) l1 l2
  · by_cases h : i = j
    · subst h
      rw [ha'] at hb; cases hb
      rw [hm] at hc; cases hc
      exact ⟨rem_same, vs, r.sub _ _ fa, rs.monoR le pr⟩
    · by_cases hd : c = .dead
      · subst hd; trivial
      have hc' : (μ.set j .dead)[i]? = some c := by rw [List.getElem?_set_ne (Ne.symm h)]; exact hc
      have ok := r.ok i b c hb hc'
      exact ok.monoR le pr (fun f => by
        by_cases ne : b = a
        · subst ne; exact rem_same
        · rw [rem_ne ne]; exact f) fun o h _ => h
theorem walkD_listM {ad : Addr} {vs : List V} {F1 : Hp} {A1 : List Addr} {xs : List D} (s : F1 ad = some (mark (.lst vs))) (r : Reps K ct A1 F1 vs xs) : WalkD K ct (Itl K ad) xs F1 A1 where
  goes := fun i H F hi e sb => ⟨vs, vs[i]'(by rw [r.len]; exact hi), SqL.of (sb _ _ (e _ _ s)), by simp [r.len, hi]⟩
  stops := fun H F e sb => ⟨vs, SqL.of (sb _ _ (e _ _ s)), Nat.le_of_eq r.len⟩
  yields := fun i H F A μ v H' d hd e p m y => by
    obtain ⟨rfl, y⟩ := y
    obtain ⟨w, hw, rw'⟩ := r.get hd
    have := y vs (SqL.of (m.sub _ _ (e _ _ s)))
    rw [hw] at this
    cases this
    exact ⟨F, .refl _, m, rw'.mono e p⟩
theorem walkD_enumM {ad : Addr} {vs : List V} {F1 : Hp} {A1 : List Addr} {xs : List D} (s : F1 ad = some (mark (.lst vs))) (r : Reps K ct A1 F1 vs xs) : WalkD K ct (Ite K ad) (enumD xs) F1 A1 where
  goes := fun i H F hi e sb => by
    rw [enumD_len, ← r.len] at hi
    exact ⟨vs, vs[i], SqL.of (sb _ _ (e _ _ s)), by simp [hi]⟩
  stops := fun H F e sb => ⟨vs, SqL.of (sb _ _ (e _ _ s)), by rw [enumD_len, r.len]; exact Nat.le_refl _⟩
  yields := fun i H F A μ v H' d hd e p m y => by
    obtain ⟨T, x, rfl, hT, rfl, hx⟩ := y
    obtain ⟨y, hy, rfl⟩ := enumD_get hd
    obtain ⟨w, hw, rw'⟩ := r.get hy
    have := hx vs (SqL.of (m.sub _ _ (e _ _ s)))
    rw [hw] at this
    cases this
    have le := m.le_grow hT (.tup [V.int (i : Nat), x])
    exact ⟨upd F T (.tup [V.int (i : Nat), x]), le, m.grow hT _, .tup (SqT.of upd_same) (.cons (.int _) (.cons (rw'.mono (e.trans le) p) .nil))⟩
end
def tIm (K : PySem.W.Frag) (ct : Nat → Addr) (Γ : Gm) (μ : Mu) (j : Nat) (l xs : List D) : TI := fun σ H R => ∃ F A a vs, A[j]? = some a ∧ F a = some (mark (.lst vs)) ∧ Reps K ct A F vs l ∧ Rl K ct Γ μ σ H F A ∧ ∀ J H1 F1 A1, Le F F1 → A <+: A1 → Rl K ct Γ μ σ H1 F1 A1 → WalkD K ct J xs F1 A1 → xs.length ≤ sizeLine → R J H1
abbrev DIm (X : Cx) (ct : Nat → Addr) (tg iter : Expr) (Γ : Gm) (μ : Mu) (j : Nat) (l xs : List D) : Prop := PI X tg iter (tIm X.K ct Γ μ j l xs)
section
variable {X : Cx} {ct : Nat → Addr} {Γ Γ1 Γ2 : Gm} {μ μ1 μ2 μ3 : Mu} {d da db dc : D} {ds xs l : List D} {e a b c o tg iter elt : Expr} {es : List Expr} {body rest : List Stmt} {pos p spos py : Pos} {x f m : Str} {k k' : Bool} {P : P4} {j : Nat}
theorem di_seqM (h : DE X ct Γ μ e (.ptr j) μ) : DIm X ct tg e Γ μ j l l :=
  PI.imp (pi_list (PE.bd h)) fun σ H R ⟨F, A, a, vs, ha, hf, rs, r, q⟩ => ⟨F, A, r, fun v H' F' A' e' p' r' rr bd => by
    cases rr with
    | ptr s =>
      have s' := pre_get p' ha
      rw [s] at s'
      cases s'
      have hH := r'.m.sub _ _ (e' _ _ hf)
      exact ⟨_, rfl, ⟨_, SqL.of hH⟩, q _ H' F' A' e' p' r' (walkD_listM (e' _ _ hf) (rs.mono e' p')) (by rw [← rs.len]; exact bd _ _ (.inl (SqL.of hH)))⟩⟩
theorem di_enumM {tpos : Pos} {elts : List Expr} {kk : Nat} (hm : X.mg "enumerate" = none) (h : DE X ct Γ μ e (.ptr j) μ) (hg : Gl X "enumerate" := by rfl) (hs : starEach [e] X.env = [(false, eval e X.env)] := by rfl) :
    DIm X ct (.Tuple elts kk tpos) (.Call (.Name "enumerate" p) [e] [] pos) Γ μ j l (enumD l) :=
  PI.imp (pi_enum hg hm (PA.bd (da_cons h da_nil hs)) hs) fun σ H R ⟨F, A, a, vs, ha, hf, rs, r, q⟩ => ⟨F, A, r, fun v H' F' A' e' p' r' rr bd => by
    obtain ⟨w, rfl, h2⟩ := reps1 rr
    cases h2 with
    | ptr s =>
      have s' := pre_get p' ha
      rw [s] at s'
      cases s'
      have hH := r'.m.sub _ _ (e' _ _ hf)
      exact ⟨_, _, rfl, SqL.of hH, q _ H' F' A' e' p' r' (walkD_enumM (e' _ _ hf) (rs.mono e' p')) (by rw [enumD_len, ← rs.len]; exact bd _ _ (.inl (SqL.of hH)))⟩⟩
theorem lcM_sem {α : Type} {ifs : List Expr} {scope : Scope} {own : List (Str × Nat)} {as : List α} {enc : α → D} {pd : α → Bool} {gg : α → D} (hm : μ[j]? = some (.lst l))
    (hs : ∀ z ∈ as, ∃ l', (∀ p ∈ l', p.1 ∈ own.map (·.2)) ∧ (∀ s H C cl fp, DG (Bk X scope s H C cl fp) ct tg (enc z) l') ∧ (∀ s H C cl fp, DTs (Bk X scope s H C cl fp) ct ifs (setG (wipeG Γ (own.map (·.2))) l') (μ.set j .dead) (pd z) (μ.set j .dead)) ∧
      (pd z = true → ∀ s H C cl fp, DE (Bk X scope s H C cl fp) ct (setG (wipeG Γ (own.map (·.2))) l') (μ.set j .dead) elt (gg z) (μ.set j .dead))) {σ : L2.St} {H F : Hp} {A : List Addr} {Q : VK} (r : Rl X.K ct Γ μ σ H F A)
    (q : ∀ v H' F' A', Le F F' → A <+: A' → Rl X.K ct Γ μ σ H' F' A' → Rep X.K ct A' F' v (.lst ((as.filter pd).map gg)) → Q v H') :
    tLc (tIm X.K ct Γ (μ.set j .dead) j l (as.map enc)) (fun v σ H Q => ∃ t, (∀ s H C cl fp, PG (Bk X scope s H C cl fp) tg t) ∧ t v σ H Q) (fun σ H Q => ∃ t, (∀ s H C cl fp, PTs (Bk X scope s H C cl fp) ifs t) ∧ t σ H Q) (fun σ H Q => ∃ t, (∀ s H C cl fp, PE (Bk X scope s H C cl fp) elt t) ∧ t σ H Q) (own.map (·.2)) σ H Q := by
  obtain ⟨a, vs, ha, hH, hf, rs, rm⟩ := mark_cell r.m hm
  have le0 : Le F (upd F a (mark (.lst vs))) := .new hf
  refine tLc_D (F := upd F a (mark (.lst vs))) (A := A) (μ1 := μ.set j .dead) (μ2 := μ.set j .dead) (xs := as.map enc) (res := (as.filter pd).map gg) (fun i acc μ' => acc = ((as.take i).filter pd).map gg ∧ μ' = μ.set j .dead) ⟨rfl, rfl⟩ (fun i d acc μ' hx ⟨e1, e2⟩ => ?_) (fun i acc μ' ⟨e1, e2⟩ => ?_) (fun acc μ' ⟨e1, e2⟩ => ?_)
    (fun R kk => ⟨_, A, a, vs, ha, upd_same, rs, ⟨rm, r.s.mono le0 pr⟩, kk⟩) (fun v H' F' A' e' p' r' rr => ?_)
  · subst e1; subst e2
    rw [List.getElem?_map, Option.map_eq_some_iff] at hx
    obtain ⟨z, hz, rfl⟩ := hx
    obtain ⟨l, h1, h2, h3, h4⟩ := hs z (List.mem_of_getElem? hz)
    have et : as.take (i + 1) = as.take i ++ [z] := by
      obtain ⟨hi, e⟩ := List.getElem?_eq_some_iff.mp hz
      rw [List.take_succ_eq_append_getElem hi, e]
    refine ⟨l, pd z, _, h1, fun v σ H Q q => ⟨_, h2, q⟩, fun σ H Q q => ⟨_, h3, q⟩, fun hk => ⟨gg z, _, fun σ H Q q => ⟨_, h4 hk, q⟩, ?_, rfl⟩, fun hk => ⟨?_, rfl⟩⟩
    · rw [et, List.filter_append, List.filter_cons, hk]; simp
    · rw [et, List.filter_append, List.filter_cons, hk]; simp
  · subst e1
    rw [List.length_map]
    exact Nat.le_trans (List.length_filter_le _ _) (by rw [List.length_take]; omega)
  · rw [List.length_map, List.take_length] at e1
    exact ⟨e1, e2⟩
  · obtain ⟨u1, u2, u3⟩ := unmark_cell r'.m hm ha p' hf e' (rs.mono e' p')
    exact q v H' _ A' u1 p' ⟨u3, r'.s.monoR u2 pr⟩ (rr.monoR u2 pr)
theorem ds_setLcM {α : Type} {ifs : List Expr} {scope : Scope} (n : Nat) (own : List (Str × Nat)) (as : List α) (enc : α → D) (pd : α → Bool) (gg : α → D) (hN : X.N.Nodup) (hm : μ[j]? = some (.lst l)) (hi : DIm X ct tg iter Γ (μ.set j .dead) j l (as.map enc)) (ok : BlkOk X.N X.env.scope scope own)
    (hs : ∀ z ∈ as, ∃ l', (∀ p ∈ l', p.1 ∈ own.map (·.2)) ∧ (∀ s H C cl fp, DG (Bk X scope s H C cl fp) ct tg (enc z) l') ∧ (∀ s H C cl fp, DTs (Bk X scope s H C cl fp) ct ifs (setG (wipeG Γ (own.map (·.2))) l') (μ.set j .dead) (pd z) (μ.set j .dead)) ∧
      (pd z = true → ∀ s H C cl fp, DE (Bk X scope s H C cl fp) ct (setG (wipeG Γ (own.map (·.2))) l') (μ.set j .dead) elt (gg z) (μ.set j .dead))) (hr : DSs X ct rest (Γ.set n (some (.lst ((as.filter pd).map gg)))) μ P) (hc : X.calm = true := by rfl) (hy : X.N[n]? = some x := by rfl) (hyl : X.env.scope.names.lookup x = some .local := by rfl) (hsw : swapsWith (.ListComp elt [⟨tg, iter, ifs, 0⟩] scope pos) (some (.Name x py)) spos.line X.env = pure true := by rfl) (hfs : ∀ x, foldedSetIterable iter X.env x = pure x := by intro _; rfl) :
    DSs X ct (.Assign [.Name x py] (.ListComp elt [⟨tg, iter, ifs, 0⟩] scope pos) spos :: rest) Γ μ P := by
  refine ds_cons (PS.imp (ps_setLc (g := fun v σ H Q => ∃ t, (∀ s H C cl fp, PG (Bk X scope s H C cl fp) tg t) ∧ t v σ H Q) (tt := fun σ H Q => ∃ t, (∀ s H C cl fp, PTs (Bk X scope s H C cl fp) ifs t) ∧ t σ H Q) (te := fun σ H Q => ∃ t, (∀ s H C cl fp, PE (Bk X scope s H C cl fp) elt t) ∧ t σ H Q) hc hN hy hyl hsw hi ok
    (fun s H C cl fp => ⟨fun pins s' σ H' v u Q I r ⟨t, h, q⟩ => (h s H C cl fp).run pins s' σ H' v u Q I r q⟩) (fun s H C cl fp => ⟨fun pins s' σ H' Q I ⟨t, h, q⟩ => (h s H C cl fp).run pins s' σ H' Q I q⟩) (fun s H C cl fp => ⟨fun pins s' σ H' Q I ⟨t, h, q⟩ => (h s H C cl fp).run pins s' σ H' Q I q⟩) hfs) fun D σ H ⟨F, A, r, q1, q2, q3, q4⟩ => ?_)
  exact lcM_sem hm hs r fun v H' F' A' e p r' rr => q1 _ μ _ H' F' A' e p ⟨r'.m, r'.s.set rr n⟩ hr
theorem de_lcM {α : Type} {ifs : List Expr} {scope : Scope} (own : List (Str × Nat)) (as : List α) (enc : α → D) (pd : α → Bool) (gg : α → D) (hN : X.N.Nodup) (hm : μ[j]? = some (.lst l)) (hi : DIm X ct tg iter Γ (μ.set j .dead) j l (as.map enc)) (ok : BlkOk X.N X.env.scope scope own)
    (hs : ∀ z ∈ as, ∃ l', (∀ p ∈ l', p.1 ∈ own.map (·.2)) ∧ (∀ s H C cl fp, DG (Bk X scope s H C cl fp) ct tg (enc z) l') ∧ (∀ s H C cl fp, DTs (Bk X scope s H C cl fp) ct ifs (setG (wipeG Γ (own.map (·.2))) l') (μ.set j .dead) (pd z) (μ.set j .dead)) ∧
      (pd z = true → ∀ s H C cl fp, DE (Bk X scope s H C cl fp) ct (setG (wipeG Γ (own.map (·.2))) l') (μ.set j .dead) elt (gg z) (μ.set j .dead))) (hc : X.calm = true := by rfl) (hfs : ∀ x, foldedSetIterable iter X.env x = pure x := by intro _; rfl) :
    DE X ct Γ μ (.ListComp elt [⟨tg, iter, ifs, 0⟩] scope pos) (.lst ((as.filter pd).map gg)) μ := by
  refine PE.imp (pe_lc (g := fun v σ H Q => ∃ t, (∀ s H C cl fp, PG (Bk X scope s H C cl fp) tg t) ∧ t v σ H Q) (tt := fun σ H Q => ∃ t, (∀ s H C cl fp, PTs (Bk X scope s H C cl fp) ifs t) ∧ t σ H Q) (te := fun σ H Q => ∃ t, (∀ s H C cl fp, PE (Bk X scope s H C cl fp) elt t) ∧ t σ H Q) hc hN hi ok
    (fun s H C cl fp => ⟨fun pins s' σ H' v u Q I r ⟨t, h, q⟩ => (h s H C cl fp).run pins s' σ H' v u Q I r q⟩) (fun s H C cl fp => ⟨fun pins s' σ H' Q I ⟨t, h, q⟩ => (h s H C cl fp).run pins s' σ H' Q I q⟩) (fun s H C cl fp => ⟨fun pins s' σ H' Q I ⟨t, h, q⟩ => (h s H C cl fp).run pins s' σ H' Q I q⟩) hfs) fun σ H Q ⟨F, A, r, q⟩ => ?_
  exact lcM_sem hm hs r q
end
end DL

/-! # A dict written out -/
namespace DL
open PySem PySem.Spec PyProof.Rows L2
def mergeD (kds more : List (Key × D)) : List (Key × D) := more.foldl (fun acc kv => dput acc kv.1 kv.2) kds
theorem KD.merge {K : PySem.W.Frag} {ct : Nat → Addr} {A : List Addr} {F : Hp} : ∀ {more : List (Key × V)} {ms : List (Key × D)} {kvs : List (Key × V)} {kds : List (Key × D)}, KD K ct A F more ms → KD K ct A F kvs kds → KD K ct A F (mergeK kvs more) (mergeD kds ms)
  | [], [], _, _, _, h => h
  | [], _ :: _, _, _, h, _ => by have := h.len; simp at this
  | _ :: _, [], _, _, h, _ => by have := h.len; simp at this
  | p :: more, q :: ms, kvs, kds, h, h' => by
    obtain ⟨e, r, t⟩ := h.cons_inv
    show KD K ct A F (mergeK (putK kvs p.1 p.2) more) (mergeD (dput kds q.1 q.2) ms)
    rw [← e]
    exact KD.merge t (h'.put p.1 r)
section
variable {X : Cx} {ct : Nat → Addr} {Γ : Gm} {μ : Mu} {d da db : D} {e a b : Expr} {pos p : Pos}
/-- pairs written out, which change nothing -/
structure DPs (X : Cx) (ct : Nat → Addr) (pos : Pos) (keys : List (Option Expr)) (values : List Expr) (Γ : Gm) (μ : Mu) (kds : List (Key × D)) : Prop where
  ex : ∃ trs, PPs X pos keys values trs ∧ ∀ (σ : L2.St) (H F : Hp) (A : List Addr) (k : List (V × V) → Hp → Prop), Rl X.K ct Γ μ σ H F A →
    (∀ (kvs : List (Key × V)) (H' F' : Hp) (A' : List Addr), Le F F' → A <+: A' → Rl X.K ct Γ μ σ H' F' A' → KD X.K ct A' F' kvs kds → k (kvs.map fun kv => (kV kv.1, kv.2)) H') → tPairs trs σ H k
theorem dps_nil : DPs X ct pos [] [] Γ μ [] := ⟨[], pps_nil, fun σ H F A k r q => q [] H F A (.refl _) pr r .nil⟩
theorem dps_cons {ks : List (Option Expr)} {vs : List Expr} {key : Key} {kds : List (Key × D)} (hk : DE X ct Γ μ a da μ) (hv : DE X ct Γ μ b db μ) (kd : KeyD da key) (h : DPs X ct pos ks vs Γ μ kds) : DPs X ct pos (some a :: ks) (b :: vs) Γ μ ((key, db) :: kds) := by
  obtain ⟨trs, h1, h2⟩ := h.ex
  refine ⟨_, pps_cons hk hv h1, fun σ H F A k r q => ?_⟩
  exact ⟨F, A, r, fun v1 H1 F1 A1 e1 p1 r1 q1 => ⟨F1, A1, r1, fun v2 H2 F2 A2 e2 p2 r2 q2 => h2 σ H2 F2 A2 _ r2 fun kvs H3 F3 A3 e3 p3 r3 q3 => by
    have ek := kd.rep q1
    subst ek
    exact q ((key, v2) :: kvs) H3 F3 A3 (e1.trans (e2.trans e3)) (p1.trans (p2.trans p3)) r3 (.cons rfl (q2.mono e3 p3) q3)⟩⟩
theorem de_disp {keys : List (Option Expr)} {values : List Expr} {kds : List (Key × D)} (h : DPs X ct pos keys values Γ μ kds) (hall : keys.all (·.isSome) = true := by rfl) (hl : keys.length = values.length := by rfl) (h0 : keys ≠ [] := by intro z; cases z)
    (h15 : keys.length ≤ 15 := by decide) (h15' : kds.length ≤ 15 := by exact Nat.le_of_ble_eq_true rfl) : DE X ct Γ μ (.Dict keys values pos) (.dic (mergeD [] kds)) μ := by
  obtain ⟨trs, h1, h2⟩ := h.ex
  refine PE.imp (pe_disp h1 hall hl h0 h15) fun σ H Q ⟨F, A, r, q⟩ p hp => ?_
  -- the new dict is marked while the pairs are made
  have fp := r.m.sub.free hp
  have le0 : Le F (upd F p (mark (.dK []))) := .new fp
  have r1 : Rl X.K ct Γ μ σ (upd H p (.dK [])) (upd F p (mark (.dK []))) A := by
    refine ⟨⟨fun a o h => ?_, r.m.len, r.m.nd, fun a ha => ?_, fun k a c ha hc => ?_⟩, r.s.mono le0 pr⟩
    · by_cases ha : a = p
      · subst ha; rw [upd_same] at h ⊢; cases h; rfl
      · rw [upd_ne ha] at h ⊢; exact r.m.sub a o h
    · obtain ⟨o, ho⟩ := r.m.there a ha
      exact ⟨o, by rw [upd_ne (ne_of_none ho hp)]; exact ho⟩
    · obtain ⟨o, ho⟩ := r.m.there a (List.mem_of_getElem? ha)
      have ne := ne_of_none ho hp
      exact (r.m.ok k a c ha hc).mono le0 pr (fun f => by rw [upd_ne ne]; exact f) fun o ho _ => by rw [upd_ne ne]; exact ho
  refine h2 σ _ _ A _ r1 fun kvs H' F' A' e' p' r' kd => ?_
  have fp' := e' _ _ upd_same
  refine ⟨r'.m.sub _ _ fp', kvs, rfl, by rw [kd.len]; exact h15', ?_⟩
  have le : LeR F' (upd F' p (.dK (mergeK [] kvs))) := .remark fp'
  have le1 : Le F (upd F' p (.dK (mergeK [] kvs))) := fun a o h => by
    have ne := ne_of_none h fp
    rw [upd_ne ne]; exact e' _ _ (by rw [upd_ne ne]; exact h)
  refine q _ _ (upd F' p (.dK (mergeK [] kvs))) A' le1 p' ⟨⟨fun a o h => ?_, r'.m.len, r'.m.nd, fun a ha => ?_, fun k a c ha hc => ?_⟩, r'.s.monoR le pr⟩ ?_
  · by_cases ha : a = p
    · subst ha; rw [upd_same] at h ⊢; cases h; rfl
    · rw [upd_ne ha] at h ⊢; exact r'.m.sub a o h
  · by_cases z : a = p
    · subst z; exact ⟨_, upd_same⟩
    · rw [upd_ne z]; exact r'.m.there a ha
  · by_cases hd : c = .dead
    · subst hd; trivial
    have ne := r'.m.ne ha hc hd fp'
    exact (r'.m.ok k a c ha hc).monoR le pr (fun f => by rw [upd_ne ne]; exact f) fun o ho _ => by rw [upd_ne ne]; exact ho
  · have kd2 : KD X.K ct A' (upd F' p (.dK (mergeK [] kvs))) (mergeK [] kvs) (mergeD [] kds) := KD.merge ⟨kd.1, kd.2.monoR le pr⟩ .nil
    exact .dic (.inl upd_same) kd2.1 kd2.2
end
end DL

/-! # sorted(list of tuples of whole numbers) -/
namespace DL
open PySem PySem.Spec PyProof.Rows PyProof.Rows.G L2
theorem out_sorted {κ : KeyKind} {vs : List Value} {arr : Array Keyed} (hp : arr.Perm (pairsOf vs)) (hs : SortedToK κ arr (pairsOf vs).size) :
    (arr.map (·.2)).toList.Perm vs ∧ (arr.map (·.2)).toList.Pairwise (fun u v => κ.kle ((κ.keyOf u).getD κ.dflt) ((κ.keyOf v).getD κ.dflt)) := by
  have hp' : arr.toList.Perm (vs.zip vs) := by have := hp.toList; rwa [pairsOf_toList] at this
  have eq : ∀ p ∈ arr.toList, p.1 = p.2 := fun p h => (mem_zip_self (hp'.mem_iff.mp h)).1
  have sz : arr.size = (pairsOf vs).size := by have := hp'.length_eq; simp [pairsOf_size] at this ⊢; exact this
  refine ⟨?_, ?_⟩
  · rw [Array.toList_map]
    have := hp'.map (·.2)
    rwa [List.map_snd_zip (Nat.le_refl _)] at this
  · rw [Array.toList_map, List.pairwise_iff_getElem]
    intro i j hi hj hij
    rw [List.length_map] at hi hj
    have h := hs i j (Nat.le_of_lt hij) (by rw [← sz]; simpa using hj)
    unfold KK at h
    have hi' : i < arr.size := by simpa using hi
    have hj' : j < arr.size := by simpa using hj
    rw [Array.getElem?_eq_getElem hi', Array.getElem?_eq_getElem hj'] at h
    simp only [List.getElem_map]
    have e1 := eq arr.toList[i] (List.getElem_mem _)
    have e2 := eq arr.toList[j] (List.getElem_mem _)
    rw [← e1, ← e2]
    exact h
theorem tupItems_ints : ∀ {ns : List Int} {its : List Value} {i : Nat}, Vals (ns.map V.int) its → tupItems (fun _ => false) i its = some (ns.map Sum.inl)
  | [], _, i, .nil => rfl
  | n :: ns, _, i, .cons h r => by
    obtain ⟨t, rfl⟩ := h
    unfold tupItems
    rw [if_neg (by simp), tupItems_ints r]
    rfl
/-- the order of tuples of whole numbers -/
def leT (a b : List Int) : Prop := (listOrd itemOrd).kle (a.map Sum.inl) (b.map Sum.inl)
def rSortedTI (K : PySem.W.Frag) : List V → Hp → VK → Prop := fun vs H Q => ∃ (a : Addr) (xs : List V) (k : V → List Int), vs = [V.ref a] ∧ SqL K H a xs ∧ (∀ x ∈ xs, k x ≠ [] ∧ ∃ t, x = V.ref t ∧ SqT K H t ((k x).map V.int)) ∧
  ∀ ys p, ys.Perm xs → ys.Pairwise (fun x y => leT (k x) (k y)) → H p = none → Q (.ref p) (upd H p (.lst ys))
theorem cr_sortedTI {X : Cx} : CallR X (.builtin "sorted") (rSortedTI X.K) := by
  intro pins s σ H vs us Q I r h
  obtain ⟨a, xs, k, rfl, hs, hx, q⟩ := h
  obtain ⟨its, rv, hl, hz⟩ := I.list hs
  obtain ⟨u, rfl, ru⟩ := vals1 r
  obtain rfl : u = Value.ref a := ru
  obtain ⟨e1, e2⟩ := refs_back rv fun x m => by
    obtain ⟨_, t, e, _⟩ := hx x m
    exact ⟨t, e⟩
  have one : ∀ v ∈ its, ∃ t its2, v = Value.ref t ∧ V.ref t ∈ xs ∧ IsTup s.heap t (List.toArray its2) ∧ Vals ((k (V.ref t)).map V.int) its2 ∧ k (V.ref t) ≠ [] := by
    intro v hv
    obtain ⟨t, rfl⟩ := e2 v hv
    have hm : V.ref t ∈ xs := by rw [e1]; exact List.mem_map.mpr ⟨_, hv, rfl⟩
    obtain ⟨hk, t', e, ht⟩ := hx _ hm
    cases e
    obtain ⟨its2, r2, it2, _⟩ := I.tuple ht
    exact ⟨t, its2, rfl, hm, it2, r2, hk⟩
  have hkey : ∀ v ∈ its, ∃ t, v = Value.ref t ∧ tupKeyC s.heap (fun _ => false) v = some ((k (V.ref t)).map Sum.inl) := by
    intro v hv
    obtain ⟨t, its2, rfl, hm, ⟨o, ho, hc, n, hd⟩, r2, _⟩ := one v hv
    refine ⟨t, rfl, ?_⟩
    unfold tupKeyC isTupObj tupKey
    simp only [ho, hc, hd, beq_self_eq_true, if_true]
    exact tupItems_ints r2
  have htup : ∀ l : List Value, (∀ v ∈ l, v ∈ its) → ∃ fs, TupsOf s.heap (fun _ => false) l fs := by
    intro l
    induction l with
    | nil => intro _; exact ⟨[], .nil⟩
    | cons v l ih =>
      intro hin
      obtain ⟨fs, hfs⟩ := ih fun w hw => hin w (List.mem_cons_of_mem _ hw)
      obtain ⟨t, its2, rfl, hm, ⟨o, ho, hc, n, hd⟩, r2, hne⟩ := one v (hin v List.mem_cons_self)
      cases hk : k (V.ref t) with
      | nil => exact absurd hk hne
      | cons i is =>
        rw [hk, List.map_cons] at r2
        cases r2 with
        | @cons _ w _ ws h1 h2 =>
          obtain ⟨tk, rfl⟩ := h1
          exact ⟨_ :: fs, .cons ⟨t, o, _, n, rfl, ho, hc, hd, rfl, fun _ => ⟨_, _, rfl⟩, fun z => by simp at z⟩ hfs⟩
  obtain ⟨fs, hfs⟩ := htup its fun _ h => h
  refine sorted_tups (shape := fun _ => false) hl.isList hfs (fun v hv => ?_) (by rw [← rv.length]; exact hz) fun st' p1 p2 p3 => ?_
  · obtain ⟨t, _, h⟩ := hkey v hv
    exact ⟨_, h⟩
  · obtain ⟨o1, o2⟩ := out_sorted p1 p2
    obtain ⟨n, hn⟩ := sortedAll_at s.heap its ((arrOf st').map (·.2))
    have h3 : ∀ u ∈ ((arrOf st').map (·.2)).toList, ∃ a, u = Value.ref a := fun u hu => e2 u (o1.mem_iff.mp hu)
    have hd : s.heap.objs.size ≤ s.heap.objs.size + 1 := Nat.le_succ _
    have pm : (((arrOf st').map (·.2)).toList.map backV).Perm xs := by rw [e1]; exact o1.map backV
    have hn' : (sortedAll s.heap its ((arrOf st').map (·.2))).get? (s.heap.objs.size + 1) = some (seqObj "list" (((arrOf st').map (·.2)).toList.toArray) n) := by rw [hn]
    refine ⟨.ref (s.heap.objs.size + 1), upd H (s.heap.objs.size + 1) (.lst (((arrOf st').map (·.2)).toList.map backV)), I.laid (t' := s.toks) (fun b o e => sortedAll_old e) hd ⟨by rw [pm.length_eq]; exact hz, _, n, vals_back h3, hn'⟩, rfl, q _ _ pm ?_ (I.hok.fresh hd)⟩
    rw [List.pairwise_map]
    refine o2.imp_of_mem fun {u v} hu hv h => ?_
    obtain ⟨t1, rfl, k1⟩ := hkey u (o1.mem_iff.mp hu)
    obtain ⟨t2, rfl, k2⟩ := hkey v (o1.mem_iff.mp hv)
    have e1' : (tupKindC s.heap fun _ => false).keyOf (Value.ref t1) = some ((k (V.ref t1)).map Sum.inl) := k1
    have e2' : (tupKindC s.heap fun _ => false).keyOf (Value.ref t2) = some ((k (V.ref t2)).map Sum.inl) := k2
    rw [e1', e2'] at h
    exact h
inductive TupsAt (K : PySem.W.Frag) (H : Hp) : List V → List (List Int) → Prop
  | nil : TupsAt K H [] []
  | cons {t : Addr} {ns : List Int} {xs : List V} {ls : List (List Int)} : SqT K H t (ns.map V.int) → ns ≠ [] → TupsAt K H xs ls → TupsAt K H (.ref t :: xs) (ns :: ls)
def rSortedTL (K : PySem.W.Frag) : List V → Hp → VK → Prop := fun vs H Q => ∃ (a : Addr) (xs : List V) (ls : List (List Int)), vs = [V.ref a] ∧ SqL K H a xs ∧ TupsAt K H xs ls ∧
  ∀ (zs : List (V × List Int)) p, zs.Perm (xs.zip ls) → (zs.map (·.2)).Pairwise leT → H p = none → Q (.ref p) (upd H p (.lst (zs.map (·.1))))
theorem cr_sortedTL {X : Cx} : CallR X (.builtin "sorted") (rSortedTL X.K) := by
  intro pins s σ H vs us Q I r h
  obtain ⟨a, xs, ls, rfl, hs, ht, q⟩ := h
  have inj : ∀ {t : Addr} {ns ms : List Int}, SqT X.K H t (ns.map V.int) → SqT X.K H t (ms.map V.int) → ns = ms := fun h1 h2 => by
    have := I.tuple_inj h1 h2
    exact List.map_inj_right (fun a b e => V.int.inj e) |>.mp this
  have ex : ∃ k : V → List Int, (∀ x ∈ xs, k x ≠ [] ∧ ∃ t, x = V.ref t ∧ SqT X.K H t ((k x).map V.int)) ∧ xs.map (fun x => (x, k x)) = xs.zip ls := by
    clear hs q r
    induction ht with
    | nil => exact ⟨fun _ => [], fun x h => by simp at h, rfl⟩
    | @cons t ns xs ls h1 h2 _ ih =>
      obtain ⟨k, hk, hz⟩ := ih
      classical
      refine ⟨fun x => if x = .ref t then ns else k x, fun x hx => ?_, ?_⟩
      · by_cases e : x = .ref t
        · simp only [if_pos e]; exact ⟨h2, t, e, h1⟩
        · simp only [if_neg e]
          rcases List.mem_cons.mp hx with z | z
          · exact absurd z e
          · exact hk x z
      · rw [List.map_cons, List.zip_cons_cons]
        congr 1
        · simp
        · rw [← hz]
          apply List.map_congr_left
          intro x hx
          by_cases e : x = .ref t
          · simp only [if_pos e]
            obtain ⟨_, t', e', h'⟩ := hk x hx
            rw [e] at e'; cases e'
            rw [inj h1 h']
          · simp only [if_neg e]
  obtain ⟨k, hk, hz⟩ := ex
  refine cr_sortedTI pins s σ H _ us Q I r ⟨a, xs, k, rfl, hs, hk, fun ys p h1 h2 h3 => ?_⟩
  have := q (ys.map fun y => (y, k y)) p (by rw [← hz]; exact h1.map _) (by rw [List.map_map, List.pairwise_map]; exact h2) h3
  rw [List.map_map, show ((fun x : V × List Int => x.1) ∘ fun y => (y, k y)) = id from rfl, List.map_id] at this
  exact this
/-! ### the order of tuples of whole numbers, told by a Bool -/
def leTb (a b : List Int) : Bool := !lexLt itemOrd (b.map Sum.inl) (a.map Sum.inl)
theorem leTb_iff {a b : List Int} : leTb a b = true ↔ leT a b := by
  unfold leTb leT
  show (!_) = true ↔ lexLt itemOrd _ _ = false
  simp
theorem leTb_total (a b : List Int) : leTb a b = true ∨ leTb b a = true := by
  rw [leTb_iff, leTb_iff]
  unfold leT
  cases h : (listOrd itemOrd).blt (a.map Sum.inl) (b.map Sum.inl) with
  | true => exact .inl (KeyOrd.kle_of_klt h)
  | false => exact .inr h
theorem leTb_trans {a b c : List Int} (h : leTb a b = true) (h' : leTb b c = true) : leTb a c = true := by
  rw [leTb_iff] at *; exact KeyOrd.kle_trans h h'
theorem leTb_anti {a b : List Int} (h : leTb a b = true) (h' : leTb b a = true) : a = b := by
  rw [leTb_iff] at h h'
  have := KeyOrd.kle_antisymm h h'
  exact List.map_inj_right (fun a b e => Sum.inl.inj e) |>.mp this
section
variable {α : Type} (k : α → List Int)
def insK (x : α) : List α → List α
  | [] => [x]
  | y :: l => bif leTb (k x) (k y) then x :: y :: l else y :: insK x l
def sortK : List α → List α
  | [] => []
  | x :: l => insK k x (sortK l)
theorem insK_perm (x : α) : ∀ l, (insK k x l).Perm (x :: l)
  | [] => .refl _
  | y :: l => by
    unfold insK
    cases leTb (k x) (k y)
    · exact ((insK_perm x l).cons y).trans (.swap x y l)
    · exact .refl _
theorem sortK_perm : ∀ l, (sortK k l).Perm l
  | [] => .refl _
  | x :: l => (insK_perm k x (sortK k l)).trans ((sortK_perm l).cons x)
abbrev SrtK (l : List α) : Prop := l.Pairwise fun a b => leTb (k a) (k b) = true
theorem insK_sorted (x : α) : ∀ l : List α, SrtK k l → SrtK k (insK k x l)
  | [], _ => by unfold insK; simp [SrtK]
  | y :: l, h => by
    unfold insK
    have h' := List.pairwise_cons.mp h
    cases hxy : leTb (k x) (k y)
    · refine List.pairwise_cons.mpr ⟨fun z hz => ?_, insK_sorted x l h'.2⟩
      rcases List.mem_cons.mp ((insK_perm k x l).mem_iff.mp hz) with rfl | hz
      · exact (leTb_total (k y) (k z)).resolve_right (by rw [hxy]; decide)
      · exact h'.1 z hz
    · refine List.pairwise_cons.mpr ⟨fun z hz => ?_, h⟩
      rcases List.mem_cons.mp hz with rfl | hz
      · exact hxy
      · exact leTb_trans hxy (h'.1 z hz)
theorem sortK_sorted : ∀ l : List α, SrtK k (sortK k l)
  | [] => .nil
  | x :: l => insK_sorted k x _ (sortK_sorted l)
theorem sortK_len (l : List α) : (sortK k l).length = l.length := (sortK_perm k l).length_eq
/-- one sorted list of one bag, where the key tells all -/
theorem srtK_eq (hk : ∀ a b, k a = k b → a = b) {l m : List α} (p : l.Perm m) (h : SrtK k l) (h' : SrtK k m) : l = m :=
  List.Perm.eq_of_pairwise (fun a b _ _ h1 h2 => hk _ _ (leTb_anti h1 h2)) h h' p
def tupK (x : α) : D := .tup ((k x).map .int)
end
section
variable {K : PySem.W.Frag} {ct : Nat → Addr} {A : List Addr} {F H : Hp} {μ : Mu} {α : Type} {k : α → List Int}
theorem tups_at (sb : Sub F H) : ∀ {l : List α} {vs : List V}, Reps K ct A F vs (l.map (tupK k)) → (∀ x ∈ l, k x ≠ []) → TupsAt K H vs (l.map k)
  | [], _, .nil, _ => .nil
  | x :: l, _, .cons (.tup h r) t, hk => by
    have e := r.of_ints
    subst e
    exact .cons (sqT_sub sb h) (hk x List.mem_cons_self) (tups_at sb t fun y hy => hk y (List.mem_cons_of_mem _ hy))
theorem reps_pairs : ∀ {l : List α} {vs : List V}, Reps K ct A F vs (l.map (tupK k)) → ∀ z ∈ vs.zip (l.map k), Rep K ct A F z.1 (.tup (z.2.map .int))
  | [], _, .nil, z, hz => by simp at hz
  | x :: l, _, .cons h t, z, hz => by
    rw [List.map_cons, List.zip_cons_cons] at hz
    rcases List.mem_cons.mp hz with rfl | hz
    · exact h
    · exact reps_pairs t z hz
theorem reps_of_pairs : ∀ {zs : List (V × List Int)}, (∀ z ∈ zs, Rep K ct A F z.1 (.tup (z.2.map .int))) → Reps K ct A F (zs.map (·.1)) (zs.map fun z => D.tup (z.2.map .int))
  | [], _ => .nil
  | z :: zs, h => .cons (h z List.mem_cons_self) (reps_of_pairs fun y hy => h y (List.mem_cons_of_mem _ hy))
end
section
variable {X : Cx} {ct : Nat → Addr} {Γ : Gm} {μ μ1 : Mu} {d : D} {a : Expr} {pos p : Pos}
theorem c1_sortK {α : Type} (k : α → List Int) {l : List α} (hl : SeqM μ d (l.map (tupK k))) (nt : ∀ z, d ≠ .tup z) (hk : ∀ x ∈ l, k x ≠ []) : C1 X ct (.builtin "sorted") μ [d] (.lst ((sortK k l).map (tupK k))) := c1_of cr_sortedTL fun xs H F A Q m r q => by
  obtain ⟨v, rfl, h⟩ := reps1 r
  obtain ⟨a, vs, rfl, s, rr⟩ := hl.list nt m h
  refine ⟨a, vs, l.map k, rfl, s, tups_at m.sub rr hk, fun zs p hp hs hn => ?_⟩
  have e : zs.map (·.2) = (sortK k l).map k := by
    have len := rr.len
    have p1 : (zs.map (·.2)).Perm (l.map k) := by
      have := hp.map (·.2)
      rwa [List.map_snd_zip (by rw [len]; simp)] at this
    refine List.Perm.eq_of_pairwise (le := fun a b => leTb a b = true) (fun a b _ _ h1 h2 => leTb_anti h1 h2) (hs.imp fun h => leTb_iff.mpr h) ?_ (p1.trans ((sortK_perm k l).map k).symm)
    exact List.pairwise_map.mpr (sortK_sorted k l)
  have e2 : (zs.map fun z => D.tup (z.2.map .int)) = (sortK k l).map (tupK k) := by
    have := congrArg (List.map fun ns : List Int => D.tup (ns.map .int)) e
    rw [List.map_map, List.map_map] at this
    exact this
  have rp := reps_of_pairs (zs := zs) fun z hz => reps_pairs rr z (hp.mem_iff.mp hz)
  rw [e2] at rp
  exact new_lst m rp q p hn
theorem q_sortK {α : Type} (k : α → List Int) {l : List α} (hm : X.mg "sorted" = none) (he : DE X ct Γ μ a d μ1) (h : SeqM μ1 d (l.map (tupK k))) (nt : ∀ z, d ≠ .tup z) (hk : ∀ x ∈ l, k x ≠ []) (hg : Gl X "sorted" := by rfl) (hs1 : starEach [a] X.env = (false, eval a X.env) :: starEach [] X.env := by rfl) (hpl : (backTo pos (starEach [] X.env)).any (·.1) = false := by rfl) :
    DE X ct Γ μ (.Call (.Name "sorted" p) [a] [] pos) (.lst ((sortK k l).map (tupK k))) μ1 := de_callB (c1_sortK k h nt hk) hm boot_sorted' (da_cons he da_nil hs1) hg (by decide) (by decide) hs1 hpl
end
end DL

/-! # Things told within things; one thing changed at any place; texts of data; a law's call with nothing under way -/
namespace DL
open PySem PySem.Spec PyProof.Rows L2
/-! ### a place of the store that is frozen stands within a list -/
mutual
def subD (j : Nat) (e : D) : D → D
  | .ptr k => if k = j then e else .ptr k
  | .tup l => .tup (subDs j e l)
  | .lst l => .lst (subDs j e l)
  | .scr l => .scr (subDs j e l)
  | .non => .non
  | .bl b => .bl b
  | .int i => .int i
  | .str s => .str s
  | .dic l => .dic l
  | .ins n fs => .ins n fs
  | .raw v => .raw v
def subDs (j : Nat) (e : D) : List D → List D
  | [] => []
  | d :: l => subD j e d :: subDs j e l
end
section
variable {K : PySem.W.Frag} {ct : Nat → Addr} {A : List Addr} {F F' : Hp} {j : Nat} {a : Addr} {e : D}
mutual
theorem Rep.sub (ha : A[j]? = some a) (le : Le F F') (he : Rep K ct A F' (.ref a) e) : ∀ {v : V} {d : D}, Rep K ct A F v d → Rep K ct A F' v (subD j e d)
  | _, _, .non => .non
  | _, _, .bl b => .bl b
  | _, _, .int i => .int i
  | _, _, .str s => .str s
  | _, _, .raw v => .raw v
  | _, _, .tup h r => .tup (le.t h) (Reps.sub ha le he r)
  | _, _, .lst h r => .lst (le _ _ h) (Reps.sub ha le he r)
  | _, _, .scr h r => .scr (le.l h) (Reps.sub ha le he r)
  | _, _, .dic h k r => (Rep.dic h k r).mono le pr
  | _, _, .ins h k r => (Rep.ins h k r).mono le pr
  | _, _, @Rep.ptr _ _ _ _ b k h => by
    unfold subD
    by_cases q : k = j
    · subst q
      rw [ha] at h; cases h
      rw [if_pos rfl]; exact he
    · rw [if_neg q]; exact .ptr h
theorem Reps.sub (ha : A[j]? = some a) (le : Le F F') (he : Rep K ct A F' (.ref a) e) : ∀ {vs : List V} {ds : List D}, Reps K ct A F vs ds → Reps K ct A F' vs (subDs j e ds)
  | _, _, .nil => .nil
  | _, _, .cons h r => .cons (Rep.sub ha le he h) (Reps.sub ha le he r)
end
end
section
variable {X : Cx} {ct : Nat → Addr} {Γ Γ1 Γ2 : Gm} {μ μ1 μ2 μ3 : Mu} {d da db dc : D} {ds l : List D} {e a b c o : Expr} {es : List Expr} {sa rest : List Stmt} {pos p : Pos} {x f m : Str} {k k' : Bool} {P : P4}
theorem ds_fzIn (i : Nat) {j : Nat} {cl : Cell} {dj : D} (hi : Γ[i]? = some (some d)) (hc : μ[j]? = some cl) (hd : frozen cl = some dj) (h : DSs X ct sa (Γ.set i (some (subD j dj d))) (μ.set j .dead) P) : DSs X ct sa Γ μ P :=
  PSs.imp h fun D σ H ⟨F, A, r, q1, q2, q3, q4⟩ => by
    have hj : j < A.length := by rw [r.m.len]; exact (List.getElem?_eq_some_iff.mp hc).1
    have ha := List.getElem?_eq_getElem hj
    obtain ⟨u, hu, hf, hm, hl, rep⟩ := freeze_rep r.m ha hc hd
    obtain ⟨le, r'⟩ := freeze r.m ha hu hf hm hc hl
    obtain ⟨v, hv, rv⟩ := r.s.get hi
    have rv2 := Rep.sub ha le rep rv
    have same : σ.set i (some v) = σ := by
      apply List.ext_getElem?
      intro n
      by_cases hn : n = i
      · subst hn
        rw [List.getElem?_set_self (List.getElem?_eq_some_iff.mp hv).1, hv]
      · rw [List.getElem?_set_ne (Ne.symm hn)]
    have s := (r.s.mono le pr).set rv2 i
    rw [same] at s
    exact tS.go (σ := σ) (H := H) le pr ⟨r', s⟩ q1 q2 q3 q4
def ptrs (i : Nat) : Nat → List D
  | 0 => []
  | n + 1 => .ptr i :: ptrs (i + 1) n
theorem subDs_ins (j : Nat) (e : D) : ∀ l : List (Nat × List (Str × D)), subDs j e (l.map fun q => D.ins q.1 q.2) = l.map fun q => D.ins q.1 q.2
  | [] => rfl
  | q :: l => by simp only [List.map_cons, subDs, subD, subDs_ins j e l]
theorem subDs_app (j : Nat) (e : D) : ∀ l m : List D, subDs j e (l ++ m) = subDs j e l ++ subDs j e m
  | [], m => rfl
  | q :: l, m => by simp only [List.cons_append, subDs, subDs_app j e l m]
theorem subDs_ptrs (j : Nat) (e : D) : ∀ (n i : Nat), j < i → subDs j e (ptrs i n) = ptrs i n
  | 0, _, _ => rfl
  | n + 1, i, h => by simp only [ptrs, subDs, subD, if_neg (show ¬ i = j by omega), subDs_ptrs j e n (i + 1) (by omega)]
/-- a list of things at the store's first places is frozen, all of it -/
theorem ds_fzL (i : Nat) {tl : Mu} : ∀ (cs pre : List (Nat × List (Str × D))) (Γ : Gm) (μ : Mu), Γ[i]? = some (some (.lst (pre.map (fun q => D.ins q.1 q.2) ++ ptrs pre.length cs.length))) → μ = List.replicate pre.length .dead ++ (cs.map fun q => Cell.ins q.1 q.2) ++ tl →
    DSs X ct sa (Γ.set i (some (.lst ((pre ++ cs).map fun q => D.ins q.1 q.2)))) (List.replicate (pre.length + cs.length) .dead ++ tl) P → DSs X ct sa Γ μ P
  | [], pre, Γ, μ, hi, hm, h => by
    simp only [List.length_nil, ptrs, List.append_nil, List.map_nil, Nat.add_zero] at hi hm h
    have e : Γ.set i (some (.lst (pre.map fun q => D.ins q.1 q.2))) = Γ := by
      apply List.ext_getElem?
      intro n
      by_cases hn : n = i
      · subst hn
        rw [List.getElem?_set_self (List.getElem?_eq_some_iff.mp hi).1, hi]
      · rw [List.getElem?_set_ne (Ne.symm hn)]
    rw [e] at h
    rw [hm]; exact h
  | c :: cs, pre, Γ, μ, hi, hm, h => by
    have hc : μ[pre.length]? = some (.ins c.1 c.2) := by
      rw [hm, List.append_assoc, List.getElem?_append_right (by simp)]
      simp
    have il := (List.getElem?_eq_some_iff.mp hi).1
    refine ds_fzIn i hi hc (rfl : frozen (.ins c.1 c.2) = some (.ins c.1 c.2)) ?_
    refine ds_fzL i (tl := tl) cs (pre ++ [c]) _ _ ?_ ?_ ?_
    · rw [List.getElem?_set_self il]
      simp only [subD, subDs_app, subDs_ins, List.length_cons, ptrs, subDs, if_pos, subDs_ptrs _ _ cs.length (pre.length + 1) (Nat.lt_succ_self _), List.map_append, List.length_append, List.map_cons, List.map_nil, List.length_nil, Nat.zero_add, List.append_assoc, List.cons_append, List.nil_append]
    · rw [hm]
      rw [List.append_assoc, List.set_append_right _ _ (by simp)]
      simp [List.replicate_succ', List.append_assoc]
    · rw [List.set_set]
      have e1 : pre ++ [c] ++ cs = pre ++ c :: cs := by simp
      have e2 : (pre ++ [c]).length + cs.length = pre.length + (c :: cs).length := by simp; omega
      rw [e1, e2]
      exact h
/-! ### a def that changes one thing, given at any place -/
structure CFn (P : Program) (w : World) (K : PySem.W.Frag) (mg : Str → Option Value) (base : Heap) (ct : Nat → Addr) (x : Str) (k : Nat) {α β : Type} (cell : β → Cell) (enc : α → List D) (pre : α → β → Prop) (out : α → β → D) (nxt : α → β → β) : Prop where
  fn : Fn P w K mg base ct x k (fun ds μ o μ' => ∃ a b, ds = enc a ∧ pre a b ∧ o = .val (out a b) ∧ μ = [cell b] ∧ μ' = [cell (nxt a b)])
  ok : ∀ a b, pre a b → okDs 1 (enc a) = true ∧ okD 0 (out a b) = true
  okc : ∀ b, okC 0 (cell b) = true ∧ cell b ≠ .dead
theorem q_cell {kk : Nat} {α β : Type} {cell : β → Cell} {enc : α → List D} {pre : α → β → Prop} {out : α → β → D} {nxt : α → β → β} (G : CFn X.prog X.w X.K X.mg X.base ct x kk cell enc pre out nxt) (j : Nat) (ha : DA X ct Γ μ (e :: es) ds μ1) (z : α) (y : β) (h : renDs (ro μ1.length [j]) (enc z) = ds) (hm : μ1[j]? = some (cell y)) (hp : pre z y) (hr : Room kk X.A := by first | exact ‹Room _ _› | exact Room.mono ‹Room _ _› (by decide)) (hg : Gl X x := by rfl)
    (hdb : (x == ("__debug__" : Str)) = false := by decide) (he : starEach (e :: es) X.env = (false, eval e X.env) :: starEach es X.env := by rfl) (hpl : (backTo pos (starEach es X.env)).any (·.1) = false := by rfl) : DE X ct Γ μ (.Call (.Name x p) (e :: es) [] pos) (out z y) (μ1.set j (cell (nxt z y))) := by
  have o := G.ok z y hp
  exact de_call G.fn.fr hr ha (Fr.one (enc z) hm (G.okc y).2 (G.okc y).1 h o.1 o.2 (G.okc _).1 ⟨z, y, rfl, hp, rfl, rfl, rfl⟩) hg hdb he hpl
end
section
variable {P : Program} {w : World} {K : PySem.W.Frag} {mg : Str → Option Value} {base : Heap} {ct : Nat → Addr}
theorem CFn.of {α β : Type} {cell : β → Cell} {enc : α → List D} {pre : α → β → Prop} {out : α → β → D} {nxt : α → β → β} {x : Str} {params : Arguments} {body : List Stmt} {scope : Scope} {N ps : List Str} {k : Nat} (F : ∃ fd, FunD K x x params body scope [] [] (He.fAd K (x, none)) fd) (hm : mg x = some (.ref (He.ga K x))) (S : FnScope N ps scope) (hb : BindN x x params body scope ps)
    (hl : ∀ a, (enc a).length = ps.length) (ok : ∀ a b, pre a b → okDs 1 (enc a) = true ∧ okD 0 (out a b) = true) (okc : ∀ b, okC 0 (cell b) = true ∧ cell b ≠ .dead)
    (hbody : ∀ (f : Addr) (cdv : Value) (A : Around) (outer : List Env) (s : Shared) (H : Hp) (E : XK) (a : α) (b : β), Room k (A.deeper (envOfC x scope s.heap.objs.size f cdv)) → pre a b →
      DSs (cxOf CX0 P w K mg base N x scope f cdv A outer s H E).nox ct body ((enc a).map some ++ List.replicate (N.length - ps.length) none) [cell b]
        { nx := fun _ μ => D.non = out a b ∧ ∃ ex, μ = cell (nxt a b) :: ex, rt := fun d2 μ => d2 = out a b ∧ ∃ ex, μ = cell (nxt a b) :: ex }) : CFn P w K mg base ct x (k + 1) cell enc pre out nxt := by
  have sc : ∀ b, Scoped [cell b] := fun b c hc => by
    rw [List.mem_singleton] at hc
    subst hc
    exact okC_mono (Nat.zero_le _) _ (okc b).1
  refine ⟨Fn.of F hm S hb (fun ds μ o μ' ⟨a, b, e, _⟩ => by subst e; exact hl a) fun f cdv A outer s H E ds μ o μ' hr ⟨a, b, e1, hp, e2, e3, e4⟩ => ?_, ok, okc⟩
  subst e1 e2 e3 e4
  refine ⟨_, rfl, ?_⟩
  have bd := hbody f cdv A outer s H E a b hr hp
  rw [show (enc a).length = ps.length from hl a]
  refine ds_imp bd (fun _ μ ⟨h, ex, e⟩ => ⟨h, .inr ⟨Nat.le_refl _, okD_mono (Nat.zero_le _) _ (ok a b hp).2, sc _, ex, e⟩⟩) (fun d μ ⟨h, ex, e⟩ => ⟨h, .inr ⟨Nat.le_refl _, okD_mono (Nat.zero_le _) _ (ok a b hp).2, sc _, ex, e⟩⟩) (fun _ _ z => z) (fun _ _ z => z)
end
/-! ### the text of data -/
section
variable {X : Cx} {ct : Nat → Addr} {Γ : Gm} {μ μ1 : Mu} {d : D} {l : List D} {a : Expr} {pos p : Pos}
theorem c1_repr {y : PyData} (hg : X.A.guards = some []) (hu : X.A.units + (y.depth + 1) < cLine) (hl : isSeq d = some l) (ea : toPy d = some y) (hs : y.showable = true) (hd : y.hasDict = false) (hz : y.shown.length ≤ sizeLine) : C1 X ct (.builtin "repr") μ [d] (.str y.shown) := by
  intro pins s σ H vs us Q I r ⟨F, A, m, rs, k⟩
  obtain ⟨v, rfl, h⟩ := reps1 rs
  obtain ⟨u, rfl, ru⟩ := vals1 r
  obtain ⟨b, _, rfl, _, _⟩ := rep_seq h hl
  obtain ⟨as, rd⟩ := Dp.reads I y (.ref b) u (h.dp m.sub ea) ru
  obtain rfl : u = Value.ref b := ru
  exact repr_of_reads' rd hs (fun z => by rw [hd] at z; cases z) hg hu (fun _ _ e => e) (fun h' u' tk hk => ⟨.str y.shown, H, I.kept hk, ⟨_, rfl⟩, k _ H F (.refl _) m (.str _)⟩) hz
theorem q_repr {y : PyData} (hm : X.mg "repr" = none) (he : DE X ct Γ μ a d μ1) (hG : X.A.guards = some []) (hu : X.A.units + (y.depth + 1) < cLine) (hl : isSeq d = some l) (ea : toPy d = some y) (hs : y.showable = true) (hd : y.hasDict = false) (hz : y.shown.length ≤ sizeLine) (hg : Gl X "repr" := by rfl) (hs1 : starEach [a] X.env = (false, eval a X.env) :: starEach [] X.env := by rfl) (hpl : (backTo pos (starEach [] X.env)).any (·.1) = false := by rfl) :
    DE X ct Γ μ (.Call (.Name "repr" p) [a] [] pos) (.str y.shown) μ1 := de_callB (c1_repr hG hu hl ea hs hd hz) hm boot_repr' (da_cons he da_nil hs1) hg (by decide) (by decide) hs1 hpl
end
end DL

/-! # A law's call where all that is under way is known -/
namespace DL
open PySem PySem.Spec PyProof.Rows L2
section
variable {P : Program} {w : World} {K : PySem.W.Frag} {mg mb : Str → Option Value} {base : Heap} {ct : Nat → Addr} {x qual : Str} {params : Arguments} {body : List Stmt} {scope : Scope} {N ps : List Str} {f : Addr} {fd : FuncData}
/-- a call of a def of the text, whatever is under way given -/
theorem here {k : Nat} {A : Around} {outer : List Env} {st : Shared} {G : Hp} {ar : Args} {us : List Value} {vs : List V} {Q : VK} (F : FunD K x qual params body scope [] [] f fd) (S : FnScope N ps scope) (room : Room (k + 1) A) (e0 : Env0 P w K mg base A outer st G) (bind : BindsTo st fd ar (ps.zip us)) (rel : Vals vs us) (len : vs.length = ps.length)
    (go : ∀ cdv, ∃ t, PSs (cxOf CX0 P w K mg base N qual scope f cdv A outer st G fun _ _ _ => False) body t ∧ t { nx := fun _ G' => Q .non G', rt := Q } (start N vs) G) :
    codeAny (model P w) A (.call (.ref f) ar) (CR CX0 outer P w G st Q fun _ _ _ => False) st := by
  obtain ⟨_, _, _, _, _, _, _, cd, _, _, rfl, at_, code, _, _⟩ := F.ex
  have keep : ∀ b o, base.get? b = some o → st.heap.get? b = some o := fun b o q => (e0.bs b o q).1
  have inH := e0.mod.kin.keeps keep
  have kinds : ∀ y ∈ ps.zip us, scope.names.lookup y.1 = some .local ∨ (scope.names.lookup y.1 = some .cell ∧ ((cellsFrom (st.heap.objs.size + 1) scope.names []).lookup y.1).isSome = true) := by
    rintro ⟨n, z⟩ hy
    exact (S.par n (List.of_mem_zip hy).1).imp id fun q => ⟨q, PySem.W.cellsFrom_some _ _ _ (.inl q)⟩
  refine codeAny_call_function room.depth (inH _ _ at_) rfl S.co S.gen rfl (PySem.W.codeRec_of inH code) (bind _ _ _ _ (wpAny_newFunctionEnv_cells S.kind kinds ?_))
  rintro _ rfl st1 call
  refine ⟨(e0.mod.nolimit.keeps keep).keeps call.toInCall.keep, codeAny_func ?_⟩
  obtain ⟨t, run, q⟩ := go cd
  have J0 := inv_start (CX := CX0) (E := fun _ _ _ => False) S room.hd e0 len rel call
  refine wpAny_mono (run.run [] st1 (start N vs) G _ J0 q) (fun fl st2 done => ?_) fun _ _ z => z
  rcases fl with _ | _ | _ | u
  · obtain ⟨σ, G2, J, q2⟩ := done
    exact ⟨.non, G2, J.os, J.bare, J.base, J.hok, rfl, q2⟩
  all_goals first
    | (obtain ⟨_, _, _, q2⟩ := done; exact False.elim q2)
    | (obtain ⟨v, σ, G2, J, rv, q2⟩ := done; exact ⟨v, G2, J.os, J.bare, J.base, J.hok, rv, q2⟩)
/-- the law's call, as the judge makes it -/
theorem law_here {k : Nat} {a : Addr} {st : Shared} {vs : List Value} {ns : List Int} {xp : Str} (inH : K.In st.heap) (main : st.heap.Ns mainGlobals mg) (bl : st.heap.Ns builtinsNs mb) (boot : ∀ y : Str, y ≠ "__name__" → mb y = bootBuiltins y) (lim : st.heap.NoLimit) (gen : st.gens = #[])
    (obj : st.heap.get? a = some { cls := .type "list", data := .seq vs.toArray }) (nums : IntsAre vs ns) (small : ns.length ≤ sizeLine) (room : Room (k + 1) callerA)
    (F : FunD K x qual params body scope [] [] f fd) (S : FnScope N [xp] scope) (bind : ∀ (s : Shared) (u : Value), BindsTo s fd ⟨[u], []⟩ [(xp, u)])
    (go : ∀ (base : Heap) (cdv : Value) (s : Shared) (H : Hp), DSs (cxOf CX0 P w K mg base N qual scope f cdv callerA [] s H fun _ _ _ => False).nox ct body (([D.scr (ns.map .int)] : List D).map some ++ List.replicate (N.length - 1) none) [] { nx := fun _ _ => False, rt := fun d _ => d = .bl true }) :
    codeAny (model P w) callerA (.call (.ref f) ⟨[.ref a], []⟩) (fun r s' => r = .ok (.ret (.bool true)) ∧ OldK st.heap s'.heap ∧ s'.os = st.os ∧ AllBare s'.gens) st := by
  obtain ⟨G, own, seq, good⟩ : ∃ G : Hp, (∀ b, G b = none ∨ (b = a ∧ K.lookup a = none ∧ G b = some (.frz { cls := .type "list", data := .seq vs.toArray } (.lst (ns.map V.int))))) ∧ SqL K G a (ns.map V.int) ∧ HOk P w G st.heap := by
    cases look : K.lookup a with
    | some o =>
      have e := obj.symm.trans (inH a o look)
      cases e
      exact ⟨fun _ => none, fun _ => .inl rfl, .inr ⟨_, vs.toArray, _, look, rfl, rfl, rfl, by rw [List.size_toArray, nums.length]; exact small, by simpa using vals_ints nums⟩, fun b u z => by cases z⟩
    | none =>
      refine ⟨fun b => if b = a then some (.frz { cls := .type "list", data := .seq vs.toArray } (.lst (ns.map V.int))) else none, fun b => ?_, .inl (.inr ⟨{ cls := .type "list", data := .seq vs.toArray }, if_pos rfl⟩), fun b u z => ?_⟩
      · by_cases q : b = a
        · exact .inr ⟨q, rfl, if_pos q⟩
        · exact .inl (if_neg q)
      · by_cases q : b = a
        · subst q
          have z' := (if_pos rfl).symm.trans z
          cases z'
          exact ⟨obj, by rw [List.length_map]; exact small, vs, _, vals_ints nums, obj⟩
        · exact absurd ((if_neg q).symm.trans z) (by simp)
  have hid : ∀ {b : Addr} {o : Obj}, st.heap.get? b = some o → G b = none → (hidT st.heap G).get? b = some o := fun q n => hidT_get q n
  have dict : ∀ {b : Addr} {o : Obj} {en : Array DictEntry} {n : Nat}, st.heap.get? b = some o → o.data = .dict en n → G b = none := by
    intro b o en n q dd
    rcases own b with z | ⟨rfl, _, _⟩
    · exact z
    · rw [obj] at q; cases q
      have dd' : Data.seq vs.toArray _ = Data.dict en n := dd
      cases dd'
  have names : ∀ {b : Addr} {m : Str → Option Value}, st.heap.Ns b m → (hidT st.heap G).Ns b m := by
    rintro b m ⟨o, en, n, q, dd, rest⟩
    exact ⟨o, en, n, hid q (dict q dd), dd, rest⟩
  have inB : K.In (hidT st.heap G) := by
    intro b o q
    refine hid (inH b o q) ?_
    rcases own b with z | ⟨rfl, no, _⟩
    · exact z
    · rw [no] at q; cases q
  have modu : Mod K mg (hidT st.heap G) := ⟨inB, names main, ⟨mb, names bl, boot⟩, let ⟨mc, h1, h2⟩ := lim; ⟨mc, names h1, h2⟩⟩
  have env : Env0 P w K mg (hidT st.heap G) callerA [] st G := ⟨rfl, modu, fun b o q => of_hidT q, Nat.le_of_eq (hidT_size _ _), trivial, (fun b z => nomatch z), good, .of_eq gen⟩
  have sub : Sub G G := fun b o q => by
    rcases own b with z | ⟨_, _, z⟩
    · rw [z] at q; cases q
    · rw [z] at q; cases q
      exact z
  refine codeAny_mono (here (Q := fun v _ => v = .bl true) (us := [.ref a]) F S room env (bind st (.ref a)) (.cons rfl .nil : Vals [V.ref a] [Value.ref a]) rfl fun cdv => ⟨_, PSs.nox (go (hidT st.heap G) cdv st G), G, [], ⟨⟨sub, rfl, fun i j a c c' h _ _ _ _ _ => by simp at h, fun a h => by simp at h, fun k a c h _ => by simp at h⟩, ?_⟩, fun _ _ _ _ _ _ _ _ _ z => z.elim, fun d2 μ2 v H2 F2 A2 e2 p2 r2 h2 z => ?_, fun _ _ _ _ _ _ _ _ _ z => z.elim, fun _ _ _ _ _ _ _ _ _ z => z.elim, fun _ _ _ _ _ _ _ _ _ _ _ _ _ z => z.elim⟩) fun r s' hq => ?_
  · exact Slots.start _ (.cons (.scr seq (.ints ns)) .nil)
  · subst z; cases h2; rfl
  · rcases r with _ | fl
    · exact False.elim hq
    rcases fl with _ | _ | _ | u
    all_goals try exact False.elim hq
    obtain ⟨v, G2, os, bare, un, good2, rel, q⟩ := hq
    have q' : v = .bl true := q
    subst q'
    obtain rfl : u = Value.bool true := rel
    refine ⟨rfl, OldK.of_keep fun b o e => ?_, os, bare⟩
    rcases own b with z | ⟨_, _, z⟩
    · exact un.keep b o e z (by intro z; cases z) (by intro z; cases z)
    · have e1 := (good b _ z).1
      rw [e] at e1
      cases e1
      exact (good2 b _ (un.frzs b _ _ z)).1
end
end DL

/-! # New things that may change; the last thing of the store; a text among texts -/
namespace DL
open PySem PySem.Spec PyProof.Rows L2
section
variable {P : Program} {w : World} {K : PySem.W.Frag} {mg : Str → Option Value} {base : Heap} {ct : Nat → Addr}
theorem PMk.mkr {kk n : Nat} {x : Str} {α : Type} {enc : α → List D} {pre : α → Prop} {out : α → List (Str × D)} (G : PMk P w K mg base ct n x kk enc pre out) : Mkr P w K mg base ct n x kk (fun as μ0 fs μ1 => ∃ a, as = enc a ∧ pre a ∧ fs = out a ∧ μ1 = []) := by
  obtain ⟨CX, f, fd, ps, dvs, dus, dds, F, hM, hm, hb, hv, hd, hx⟩ := G.fn.ex
  have od : okDs 0 dds = true := (hd [] fun _ => none).okn
  refine ⟨CX, f, fd, ps, dvs, dus, dds, FnOk.imp F fun vs H Q E ⟨F', A, μ, ds, o, μ', r, rs, ⟨as, fs, μ0, μ1, e1, e2, ⟨a, e3, hp, e4, e5⟩, e6, e7⟩, q⟩ => ?_, hM, hm, hb, hv, hd, hx⟩
  subst e1 e2 e3 e4 e5 e6 e7
  obtain ⟨o1, o2⟩ := G.ok a hp
  refine spD_fr ⟨F', A, _, _, .val .non, _, r, rs, ?_, q⟩
  have hg1 : (μ0 ++ [Cell.ins n []])[μ0.length]? = some (.ins n []) := by rw [List.getElem?_append_right (Nat.le_refl _), Nat.sub_self]; rfl
  have := Fr.one (R := fun ds μ o μ' => ∃ as fs μ0 μ1, μ = μ0 ++ [.ins n []] ∧ ds = .ptr μ0.length :: (as ++ dds) ∧ (∃ a, as = enc a ∧ pre a ∧ fs = out a ∧ μ0 = [] ∧ μ1 = []) ∧ o = .val .non ∧ μ' = μ0 ++ [.ins n fs] ++ μ1) (μ := μ0 ++ [.ins n []]) (d := .non) (k := μ0.length) (c := .ins n []) (c' := .ins n (out a)) (.ptr 0 :: (enc a ++ dds)) hg1 (by simp) rfl rfl (by simp only [okDs, okD, okDs_app, okDs_mono (Nat.zero_le 1) _ o1, okDs_mono (Nat.zero_le 1) _ od]; rfl) rfl o2 ⟨enc a, out a, [], [], rfl, rfl, ⟨a, rfl, hp, rfl, rfl, rfl⟩, rfl, rfl⟩
  simp only [renDs, renD, renDs_app, ren0s _ _ o1, ren0s _ _ od] at this
  rw [List.set_append_right _ _ (Nat.le_refl _), Nat.sub_self] at this
  rw [List.append_nil]
  exact this
end
section
variable {X : Cx} {ct : Nat → Addr} {Γ : Gm} {μ : Mu} {ds : List D} {e : Expr} {es : List Expr} {x : Str} {p pos : Pos}
theorem set_last {μ : Mu} {c c' : Cell} : (μ ++ [c]).set μ.length c' = μ ++ [c'] := by rw [List.set_append_right _ _ (Nat.le_refl _), Nat.sub_self]; rfl
theorem q_boxL {kk : Nat} {α β : Type} {cell : β → Cell} {enc : α → List D} {pre : α → β → Prop} {out : α → β → D} {nxt : α → β → β} (G : BFn X.prog X.w X.K X.mg X.base ct x kk cell enc pre out nxt) {y : β} (ha : DA X ct Γ (μ ++ [cell y]) (e :: es) (.ptr μ.length :: ds) (μ ++ [cell y])) (z : α) (h : ds = enc z) (hp : pre z y) (hr : Room kk X.A := by first | exact ‹Room _ _› | exact Room.mono ‹Room _ _› (by decide)) (hg : Gl X x := by rfl)
    (hdb : (x == ("__debug__" : Str)) = false := by decide) (he : starEach (e :: es) X.env = (false, eval e X.env) :: starEach es X.env := by rfl) (hpl : (backTo pos (starEach es X.env)).any (·.1) = false := by rfl) : DE X ct Γ (μ ++ [cell y]) (.Call (.Name x p) (e :: es) [] pos) (out z y) (μ ++ [cell (nxt z y)]) := by
  have := q_box (pos := pos) (p := p) G ha z y h (List.getElem?_concat_length ..) hp hr hg hdb he hpl
  rw [set_last] at this
  exact this
end
theorem InD.strs {μ : Mu} {s : Str} {db : D} {ns : List Str} (hl : isSeq db = some (ns.map .str)) : InD μ (.str s) db (decide (s ∈ ns)) := by
  have h : InD μ (.str s) db ((ns.map D.str).any fun y => eqF y (.str s)) := .seq hl rfl (by rw [List.all_map]; simp [flatD])
  have e : ((ns.map D.str).any fun y => eqF y (.str s)) = decide (s ∈ ns) := by
    rw [List.any_map, Bool.eq_iff_iff, List.any_eq_true, decide_eq_true_eq]
    constructor
    · rintro ⟨x, hx, q⟩
      have : x = s := by
        have q' : (x == s) = true := q
        exact of_decide_eq_true (by simpa using q')
      exact this ▸ hx
    · intro hs
      exact ⟨s, hs, by show (s == s) = true; simp⟩
  rw [e] at h
  exact h
end DL

/-! # Small data: their texts, == on them -/
namespace DL
open PySem PySem.Spec PyProof.Rows L2
mutual
/-- small data: small numbers, short texts -/
def smD : D → Bool
  | .non => true
  | .bl _ => true
  | .int i => decide (i.natAbs < 1024)
  | .str s => PyData.strOk s && decide (s.cps.size ≤ 20)
  | .tup l => smDs l
  | .lst l => smDs l
  | .scr l => smDs l
  | .dic _ => false
  | .ins _ _ => false
  | .ptr _ => false
  | .raw _ => false
def smDs : List D → Bool
  | [] => true
  | d :: l => smD d && smDs l
end
mutual
def dpD : D → Nat
  | .tup l => dpDs l + 1
  | .lst l => dpDs l + 1
  | .scr l => dpDs l + 1
  | _ => 0
def dpDs : List D → Nat
  | [] => 0
  | d :: l => max (dpD d) (dpDs l)
end
mutual
def wtD : D → Nat
  | .int _ => 20
  | .str _ => 20
  | .tup l => wtDs l
  | .lst l => wtDs l
  | .scr l => wtDs l
  | _ => 0
def wtDs : List D → Nat
  | [] => 0
  | d :: l => wtD d + 1 + wtDs l
end
structure SmallP (d : D) (p : PyData) : Prop where
  py : toPy d = some p
  lay : p.canLay0 = true
  sh : p.showable = true
  nd : p.hasDict = false
  sl : p.intsShort 13 = true
  dp : p.depth ≤ dpD d
  wt : p.weight ≤ wtD d
structure SmallPs (l : List D) (ps : List PyData) : Prop where
  py : toPys l = some ps
  lay : PyData.canLayAll0 ps = true
  sh : PyData.showableAll ps = true
  nd : PyData.hasDictAll ps = false
  sl : PyData.intsShortAll 13 ps = true
  dp : PyData.depthAll ps ≤ dpDs l
  wt : PyData.weightAll ps ≤ wtDs l
theorem log_small {i : Int} (h : i.natAbs < 1024) : i.natAbs.log2 < 10 := by
  by_cases z : i.natAbs = 0
  · rw [z]; decide
  · exact (Nat.log2_lt z).mpr h
mutual
theorem small : ∀ d : D, smD d = true → ∃ p, SmallP d p
  | .non, _ => ⟨.none, by simp only [toPy], by simp only [PyData.canLay0], by simp only [PyData.showable], by simp only [PyData.hasDict], by simp only [PyData.intsShort], by simp only [PyData.depth]; exact Nat.zero_le _, by simp only [PyData.weight]; exact Nat.zero_le _⟩
  | .bl b, _ => ⟨.bool b, by simp only [toPy], by simp only [PyData.canLay0], by simp only [PyData.showable], by simp only [PyData.hasDict], by simp only [PyData.intsShort], by simp only [PyData.depth]; exact Nat.zero_le _, by simp only [PyData.weight]; exact Nat.zero_le _⟩
  | .int i, h => by
    have h' : i.natAbs < 1024 := by simpa [smD] using h
    have hl := log_small h'
    refine ⟨.int i, by simp only [toPy], by simp only [PyData.canLay0], ?_, by simp only [PyData.hasDict], ?_, by simp only [PyData.depth]; exact Nat.zero_le _, ?_⟩
    · simp only [PyData.showable, decide_eq_true_eq]; omega
    · simp only [PyData.intsShort, decide_eq_true_eq]
      exact PyData.shown_int_le (by omega)
    · simp only [PyData.weight, wtD]
      split <;> omega
  | .str s, h => by
    have h' : PyData.strOk s = true ∧ s.cps.size ≤ 20 := by simpa [smD] using h
    refine ⟨.str s, by simp only [toPy], by simp only [PyData.canLay0]; exact h'.1, by simp only [PyData.showable], by simp only [PyData.hasDict], by simp only [PyData.intsShort], by simp only [PyData.depth]; exact Nat.zero_le _, ?_⟩
    simp only [PyData.weight, wtD]; exact h'.2
  | .tup l, h => by
    obtain ⟨ps, q⟩ := smalls l (by simpa [smD] using h)
    refine ⟨.tuple ps, by simp only [toPy, q.py]; rfl, by simp only [PyData.canLay0]; exact q.lay, by simp only [PyData.showable]; exact q.sh, by simp only [PyData.hasDict]; exact q.nd, by simp only [PyData.intsShort]; exact q.sl, ?_, ?_⟩
    · have := q.dp; simp only [PyData.depth, dpD]; omega
    · have := q.wt; simp only [PyData.weight, wtD]; omega
  | .lst l, h => by
    obtain ⟨ps, q⟩ := smalls l (by simpa [smD] using h)
    refine ⟨.list ps, by simp only [toPy, q.py]; rfl, by simp only [PyData.canLay0]; exact q.lay, by simp only [PyData.showable]; exact q.sh, by simp only [PyData.hasDict]; exact q.nd, by simp only [PyData.intsShort]; exact q.sl, ?_, ?_⟩
    · have := q.dp; simp only [PyData.depth, dpD]; omega
    · have := q.wt; simp only [PyData.weight, wtD]; omega
  | .scr l, h => by
    obtain ⟨ps, q⟩ := smalls l (by simpa [smD] using h)
    refine ⟨.list ps, by simp only [toPy, q.py]; rfl, by simp only [PyData.canLay0]; exact q.lay, by simp only [PyData.showable]; exact q.sh, by simp only [PyData.hasDict]; exact q.nd, by simp only [PyData.intsShort]; exact q.sl, ?_, ?_⟩
    · have := q.dp; simp only [PyData.depth, dpD]; omega
    · have := q.wt; simp only [PyData.weight, wtD]; omega
  | .dic _, h => by simp [smD] at h
  | .ins _ _, h => by simp [smD] at h
  | .ptr _, h => by simp [smD] at h
  | .raw _, h => by simp [smD] at h
theorem smalls : ∀ l : List D, smDs l = true → ∃ ps, SmallPs l ps
  | [], _ => ⟨[], by simp only [toPys], by simp only [PyData.canLayAll0], by simp only [PyData.showableAll], by simp only [PyData.hasDictAll], by simp only [PyData.intsShortAll], by simp only [PyData.depthAll]; exact Nat.zero_le _, by simp only [PyData.weightAll]; exact Nat.zero_le _⟩
  | d :: l, h => by
    have h' : smD d = true ∧ smDs l = true := by simpa [smDs] using h
    obtain ⟨p, a⟩ := small d h'.1
    obtain ⟨ps, b⟩ := smalls l h'.2
    refine ⟨p :: ps, by simp only [toPys, a.py, b.py], by simp only [PyData.canLayAll0, a.lay, b.lay]; rfl, by simp only [PyData.showableAll, a.sh, b.sh]; rfl, by simp only [PyData.hasDictAll, a.nd, b.nd]; rfl, by simp only [PyData.intsShortAll, a.sl, b.sl]; rfl, ?_, ?_⟩
    · have := a.dp; have := b.dp; simp only [PyData.depthAll, dpDs]; omega
    · have := a.wt; have := b.wt; simp only [PyData.weightAll, wtDs]; omega
end
/-- what repr tells -/
def shownD (d : D) : Str := match toPy d with
  | some p => p.shown
  | none => ""
theorem smDs_map {α : Type} (f : α → D) {l : List α} (h : ∀ x ∈ l, smD (f x) = true) : smDs (l.map f) = true := by
  induction l with
  | nil => rfl
  | cons x l ih =>
    simp only [List.map_cons, smDs, Bool.and_eq_true]
    exact ⟨h x List.mem_cons_self, ih fun y hy => h y (List.mem_cons_of_mem _ hy)⟩
theorem dpDs_map {α : Type} (f : α → D) {l : List α} {n : Nat} (h : ∀ x ∈ l, dpD (f x) ≤ n) : dpDs (l.map f) ≤ n := by
  induction l with
  | nil => exact Nat.zero_le _
  | cons x l ih =>
    simp only [List.map_cons, dpDs]
    exact Nat.max_le.mpr ⟨h x List.mem_cons_self, ih fun y hy => h y (List.mem_cons_of_mem _ hy)⟩
theorem wtDs_map {α : Type} (f : α → D) {l : List α} {n : Nat} (h : ∀ x ∈ l, wtD (f x) ≤ n) : wtDs (l.map f) ≤ (n + 1) * l.length := by
  induction l with
  | nil => exact Nat.zero_le _
  | cons x l ih =>
    have h1 := h x List.mem_cons_self
    have h2 := ih fun y hy => h y (List.mem_cons_of_mem _ hy)
    simp only [List.map_cons, wtDs, List.length_cons, Nat.mul_add, Nat.mul_one]
    omega
structure Sm (d : D) : Prop where
  sm : smD d = true
  dp : dpD d ≤ 60
  wt : wtD d ≤ 2 ^ 20
section
variable {X : Cx} {ct : Nat → Addr} {Γ : Gm} {μ μ1 : Mu} {d : D} {l : List D} {a : Expr} {pos p : Pos}
theorem q_reprS (hm : X.mg "repr" = none) (he : DE X ct Γ μ a d μ1) (hG : X.A.guards = some []) (hu : X.A.units + 64 < cLine) (hl : isSeq d = some l) (s : Sm d) (hg : Gl X "repr" := by rfl) (hs1 : starEach [a] X.env = (false, eval a X.env) :: starEach [] X.env := by rfl) (hpl : (backTo pos (starEach [] X.env)).any (·.1) = false := by rfl) :
    DE X ct Γ μ (.Call (.Name "repr" p) [a] [] pos) (.str (shownD d)) μ1 := by
  obtain ⟨y, q⟩ := small d s.sm
  have e : shownD d = y.shown := by unfold shownD; rw [q.py]
  rw [e]
  have := q.dp
  have := s.dp
  have lay : y.layable0 = true := by
    show (PyData.canLay0 y && decide (PyData.depth y ≤ 64) && decide (PyData.weight y ≤ 2 ^ 20)) = true
    have := q.wt
    have := s.wt
    simp only [Bool.and_eq_true, decide_eq_true_eq]
    exact ⟨⟨q.lay, by omega⟩, by omega⟩
  exact q_repr hm he hG (by omega) hl q.py q.sh q.nd (PyData.shown_fits_of_layable0 (B := 13) (by decide) (by decide) lay q.sl) hg hs1 hpl
theorem o2_same (hu : X.A.units + 64 < cLine) (s : Sm d) : O2 X ct (compareOp .Eq) μ d d (.bl true) ∧ O2 X ct (compareOp .NotEq) μ d d (.bl false) := by
  obtain ⟨y, q⟩ := small d s.sm
  have := q.dp
  have := s.dp
  have sh : SeqAt.shaped y = true := by
    show (PyData.canLay0 y && decide (PyData.depth y ≤ 64)) = true
    simp only [Bool.and_eq_true, decide_eq_true_eq]
    exact ⟨q.lay, by omega⟩
  have r : PyData.eqv y y = true := SeqAt.eqv_refl y q.lay
  have h1 := o2_eqD (X := X) (ct := ct) (μ := μ) hu q.py q.py sh sh
  have h2 := o2_neD (X := X) (ct := ct) (μ := μ) hu q.py q.py sh sh
  rw [r] at h1 h2
  exact ⟨h1, h2⟩
end
end DL

/-! # Exceptions over data -/
namespace DL
open PySem PySem.Spec PyProof.Rows L2
/-- an expression that raises -/
def tX (X : Cx) (ct : Nat → Addr) (Γ : Gm) (μ : Mu) (n : Nat) (fs : List (Str × D)) (μ' : Mu) : TE := fun σ H _ => ∃ F A, Rl X.K ct Γ μ σ H F A ∧
  ∀ dd H' F' A', Le F F' → A <+: A' → Rl X.K ct Γ μ' σ H' F' A' → XOk X.K ct A' F' H' dd fs → XW X (.ref (ct n)) dd σ H'
abbrev DX (X : Cx) (ct : Nat → Addr) (Γ : Gm) (μ : Mu) (e : Expr) (n : Nat) (fs : List (Str × D)) (μ' : Mu) : Prop := PE X e (tX X ct Γ μ n fs μ')
section
variable {X : Cx} {ct : Nat → Addr} {Γ Γ1 Γ2 : Gm} {μ μ1 μ2 μ3 : Mu} {d da db dc : D} {ds l : List D} {e a b c o : Expr} {es : List Expr} {sa rest : List Stmt} {st : Stmt} {pos p : Pos} {x f m : Str} {k k' : Bool} {P : P4} {n : Nat} {fs : List (Str × D)}
theorem ixr_none : IxR X (fun _ _ _ _ => False) := fun _ _ _ _ _ _ _ _ _ _ _ _ _ _ z _ => False.elim z
theorem dx_ix (h : DX X ct Γ μ a n fs μ1) (hs : PlainIx b := by intro _ _; rfl) : DX X ct Γ μ (.Subscript a b pos) n fs μ1 := PE.imp (pe_ix (ixr_none (X := X)) h (pe_triv (e := b)) hs) fun σ H Q h => h
theorem ds_exprX (h : DX X ct Γ μ e n fs μ1) (hp : P.ex n fs Γ μ1) (hs : swapsWith e none pos.line X.env = pure false := by rfl) : DSs X ct (.Expr e pos :: rest) Γ μ P :=
  ds_cons (PS.imp (ps_expr h hs) fun D σ H ⟨F, A, r, q1, q2, q3, q4⟩ => ⟨F, A, r, fun dd H' F' A' e p r' x => q4.2 n fs dd Γ μ1 σ H' F' A' e p r' x hp⟩)
theorem ds_retX (h : DX X ct Γ μ e n fs μ1) (hp : P.ex n fs Γ μ1) : DSs X ct (.Return (some e) pos :: rest) Γ μ P :=
  ds_cons (PS.imp (ps_ret h) fun D σ H ⟨F, A, r, q1, q2, q3, q4⟩ => ⟨F, A, r, fun dd H' F' A' e p r' x => q4.2 n fs dd Γ μ1 σ H' F' A' e p r' x hp⟩)
theorem pa_oneX (h : DX X ct Γ μ e n fs μ1) (hs : starEach (e :: es) X.env = (false, eval e X.env) :: starEach es X.env := by rfl) : PA X (e :: es) (fun σ H _ => tX X ct Γ μ n fs μ1 σ H fun _ _ => False) :=
  PA.imp (pa_cons h (⟨fun _ _ _ _ _ _ _ z => z.elim⟩ : PA X es fun _ _ _ => False) hs) fun σ H Q h => h
theorem cr_none {g : Value} : CallR X g (fun _ _ _ => False) := fun _ _ _ _ _ _ _ _ _ z => z.elim
theorem dx_callT {T : String} (hm : X.mg x = none) (hv : bootBuiltins x = some (.type T)) (h : DX X ct Γ μ e n fs μ1) (hg : Gl X x := by rfl) (hn : x ≠ "__name__" := by decide) (hdb : (x == ("__debug__" : Str)) = false := by decide)
    (he : starEach (e :: es) X.env = (false, eval e X.env) :: starEach es X.env := by rfl) (hpl : (backTo pos (starEach es X.env)).any (·.1) = false := by rfl) : DX X ct Γ μ (.Call (.Name x p) (e :: es) [] pos) n fs μ1 :=
  PE.imp (pe_callTy (cr_none (X := X) (g := .type T)) hg hm hv (pa_oneX h he) hn hdb he hpl) fun σ H Q h => h
theorem pi_x {tg : Expr} (h : DX X ct Γ μ e n fs μ1) : PI X tg e (fun σ H _ => tX X ct Γ μ n fs μ1 σ H fun _ _ => False) :=
  ⟨fun pins s σ H R I q => thn (h.run pins s σ H (fun _ _ => False) I q) fun u s1 ⟨_, _, _, _, z⟩ => z.elim⟩
/-- a comprehension over what raises -/
theorem dx_lc {tg iter elt : Expr} {ifs : List Expr} {scope : Scope} (own : List (Str × Nat)) (hc : X.calm = true) (hN : X.N.Nodup) (h : DX X ct Γ μ iter n fs μ1) (ok : BlkOk X.N X.env.scope scope own) (hfs : ∀ x, foldedSetIterable iter X.env x = pure x := by intro _; rfl) : DX X ct Γ μ (.ListComp elt [⟨tg, iter, ifs, 0⟩] scope pos) n fs μ1 :=
  PE.imp (pe_lc (g := fun _ _ _ _ => False) (tt := fun _ _ _ => False) (te := fun _ _ _ => False) hc hN (pi_x h) ok (fun s H C cl fp => ⟨fun _ _ _ _ _ _ _ _ _ z => z.elim⟩) (fun s H C cl fp => ⟨fun _ _ _ _ _ _ z => z.elim⟩) (fun s H C cl fp => ⟨fun _ _ _ _ _ _ z => z.elim⟩) hfs) fun σ H Q h => h
end
/-! ### defs that may raise -/
structure XFn (P : Program) (w : World) (K : PySem.W.Frag) (mg : Str → Option Value) (base : Heap) (ct : Nat → Addr) (x : Str) (k : Nat) (R : Rf) : Prop where
  ex : ∃ (f : Addr) (fd : FuncData) (ps : List Str), FnOk P w K mg base (L2.CX P w) k f fd ps (spD K ct R) ∧ mg x = some (.ref f) ∧ PySem.W.keepIn K (.ref f) = true ∧ Binds K fd ps []
theorem passX {P : Program} {w : World} {X : Cx} : Passes (L2.CX P w) X E0 := fun _ _ _ _ _ _ _ ⟨_, _, _, _, _, _, _, _, _, _, _, _, z⟩ => z.elim
section
variable {P : Program} {w : World} {K : PySem.W.Frag} {mg : Str → Option Value} {base : Heap} {ct : Nat → Addr} {x : Str} {kk : Nat} {R : Rf}
theorem XFn.fn (G : XFn P w K mg base ct x kk R) : Fn P w K mg base ct x kk R := by
  obtain ⟨f, fd, ps, F, hm, hk, hb⟩ := G.ex
  refine ⟨_, f, fd, ps, [], [], [], FnOk.imp F fun vs H Q E ⟨F, A, μ, ds, o, μ', r, rs, ⟨ds', e, h⟩, q⟩ => ?_, hm, hk, hb, .nil, fun _ _ => .nil, fun X _ _ => passX⟩
  rw [List.append_nil] at e
  subst e
  exact ⟨F, A, μ, ds, o, μ', r, rs, h, q⟩
theorem XFn.fr (G : XFn P w K mg base ct x kk R) : XFn P w K mg base ct x kk (Fr R) := by
  obtain ⟨f, fd, ps, F, hm, hk, hb⟩ := G.ex
  exact ⟨f, fd, ps, FnOk.imp F fun vs H Q E q => spD_fr q, hm, hk, hb⟩
end
section
variable {X : Cx} {ct : Nat → Addr} {Γ : Gm} {μ μ1 μ2 : Mu} {ds : List D} {e : Expr} {es : List Expr} {x : Str} {p pos : Pos} {n : Nat} {fs : List (Str × D)}
/-- f(..), which raises -/
theorem dx_call {kk : Nat} {R : Rf} (G : XFn X.prog X.w X.K X.mg X.base ct x kk R) (hr : Room kk X.A) (ha : DA X ct Γ μ (e :: es) ds μ1) (h : R ds μ1 (.exc n fs) μ2) (hg : Gl X x := by rfl)
    (hdb : (x == ("__debug__" : Str)) = false := by decide) (he : starEach (e :: es) X.env = (false, eval e X.env) :: starEach es X.env := by rfl) (hpl : (backTo pos (starEach es X.env)).any (·.1) = false := by rfl) : DX X ct Γ μ (.Call (.Name x p) (e :: es) [] pos) n fs μ2 := by
  obtain ⟨f, fd, ps, ok, named, keep, bind⟩ := G.ex
  refine ⟨fun pins st σ H0 Q J ⟨F0, A0, r0, q⟩ => ?_⟩
  refine wpAny_Call_Name_kw (ld_glob J hg named (PySem.W.callWith_K (h₀ := X.base) J.ok.mod.kin keep (thn (ha.run pos pins st σ H0 (fun vs H1 => spD X.K ct R vs H1 Q fun cls dd H2 => XW X cls dd σ H2) J ?_) fun us st1 ⟨vs, H1, J1, rel, promise⟩ => ⟨J1.kIn, ?_⟩) he hpl) hdb)
  · exact ⟨F0, A0, r0, fun vs H1 F1 A1 e1 p1 r1 h1 => ⟨F1, A1, μ1, ds, .exc n fs, μ2, r1.m, h1, h, fun dd H2 F2 A2 e2 p2 r2 xo => q dd H2 F2 A2 (e1.trans e2) (p1.trans p2) ⟨r2, r1.s.mono e2 p2⟩ xo⟩⟩
  · have len : us.length = ps.length := by rw [← rel.length]; exact ok.len _ _ _ _ promise
    have bd := bind st1 us J1.kIn (by simpa using len)
    rw [List.append_nil] at bd
    refine wpAny_call (codeAny_mono (ok.run X.A X.stack st1 H1 ⟨us, []⟩ us vs Q _ hr J1.env0 bd rel promise) fun res st2 end_ => ?_)
    rcases res with er | fl
    · exact takes_XW X er st2 (XE.of_call J1 (W := XW X) (fun _ _ _ z => z) end_)
    · rcases fl with _ | _ | _ | u
      all_goals first
        | exact False.elim end_
        | exact J1.after end_
end
/-! ### how a body that may raise ends -/
def EndedX (n : Nat) (fs : List (Str × D)) (μ' : Mu) (fs2 : List (Str × D)) (μ2 : Mu) : Prop := fs2 = fs ∧ (μ2 = μ' ∨ (n ≤ μ'.length ∧ okFs μ'.length fs = true ∧ Scoped μ' ∧ ∃ ex, μ2 = μ' ++ ex))
def endP (n : Nat) (μ' : Mu) : Out → P4
  | .val d => { nx := fun _ μ2 => Ended n d μ' .non μ2, rt := fun d2 μ2 => Ended n d μ' d2 μ2 }
  | .exc m fs => { ex := fun m2 fs2 _ μ2 => m2 = m ∧ EndedX n fs μ' fs2 μ2 }
theorem okFs_vals (n : Nat) : ∀ fs : List (Str × D), okFs n fs = okDs n (fs.map (·.2))
  | [] => rfl
  | p :: fs => by simp only [List.map_cons, okFs, okDs, okFs_vals n fs]
theorem XOk.cut {K : PySem.W.Frag} {ct : Nat → Addr} {A : List Addr} {F H : Hp} {dd : Option Addr} {fs : List (Str × D)} {n : Nat} (h : XOk K ct A F H dd fs) (ok : okFs n fs = true) : XOk K ct (A.take n) F H dd fs := by
  rcases h with h | ⟨dx, vfs, e1, e2, e4, e5⟩
  · exact .inl h
  · exact .inr ⟨dx, vfs, e1, e2, e4, e5.cut (by rw [← okFs_vals]; exact ok)⟩
section
variable {P : Program} {w : World} {K : PySem.W.Frag} {mg : Str → Option Value} {base : Heap} {ct : Nat → Addr}
theorem fn_okX {x qual : Str} {params : Arguments} {body : List Stmt} {scope : Scope} {dvs : List V} {f : Addr} {fd : FuncData} {N ps : List Str} {k : Nat} {R : Rf} (F : FunD K x qual params body scope dvs [] f fd) (S : FnScope N ps scope) (hl : ∀ ds μ o μ', R ds μ o μ' → ds.length = ps.length)
    (hbody : ∀ (cdv : Value) (A : Around) (outer : List Env) (s : Shared) (H : Hp) (E : XK) (ds : List D) (μ : Mu) (o : Out) (μ' : Mu), Room k (A.deeper (envOfC qual scope s.heap.objs.size f cdv)) → R ds μ o μ' →
      DSs (cxOf (L2.CX P w) P w K mg base N qual scope f cdv A outer s H E) ct body (ds.map some ++ List.replicate (N.length - ds.length) none) μ (endP μ.length μ' o)) : FnOk P w K mg base (L2.CX P w) (k + 1) f fd ps (spD K ct R) := by
  refine F.ok S (fun vs H Q E ⟨F, A, μ, ds, o, μ', r, rs, h, _⟩ => by rw [rs.len]; exact hl _ _ _ _ h) fun cdv A outer s H vs Q E hr ⟨F, A', μ, ds, o, μ', r, rs, h, q⟩ => ?_
  refine ⟨_, hbody cdv A outer s H E ds μ o μ' hr h, F, A', ⟨r, ?_⟩, ?_⟩
  · unfold L2.start
    rw [rs.len]
    exact Slots.start _ rs
  cases o with
  | val d => exact ⟨fun Γ2 μ2 σ2 H2 F2 A2 e2 p2 r2 z => ended_go q e2 p2 r2.m .non r.len z, fun d2 μ2 v H2 F2 A2 e2 p2 r2 h2 z => ended_go q e2 p2 r2 h2 r.len z, fun _ _ _ _ _ _ _ _ _ z => z.elim, fun _ _ _ _ _ _ _ _ _ z => z.elim, fun _ _ _ _ _ _ _ _ _ _ _ _ _ z => z.elim⟩
  | exc m fs =>
    refine ⟨fun _ _ _ _ _ _ _ _ _ z => z.elim, fun _ _ _ _ _ _ _ _ _ _ z => z.elim, fun _ _ _ _ _ _ _ _ _ z => z.elim, fun _ _ _ _ _ _ _ _ _ z => z.elim, fun m2 fs2 dd Γ2 μ2 σ2 H2 F2 A2 e2 p2 r2 xo ⟨em, efs, z⟩ => ?_⟩
    subst em efs
    refine XW_of (W := fun cls d _ H => E cls d H) (takes_of (E := E) rfl rfl rfl rfl) ?_
    rcases z with rfl | ⟨h1, h2, h3, ex, rfl⟩
    · exact q dd H2 F2 A2 e2 p2 r2.m xo
    · exact q dd H2 F2 _ e2 (pre_take p2 (by rw [r.len]; exact h1)) (Rl0.cut r2.m h3) (xo.cut h2)
/-- pure data in; a datum or an exception out -/
structure EFn (P : Program) (w : World) (K : PySem.W.Frag) (mg : Str → Option Value) (base : Heap) (ct : Nat → Addr) (x : Str) (k : Nat) {α : Type} (enc : α → List D) (pre : α → Prop) (out : α → Out) : Prop where
  fn : XFn P w K mg base ct x k (fun ds μ o μ' => ∃ a, ds = enc a ∧ pre a ∧ o = out a ∧ μ = [] ∧ μ' = [])
  ok : ∀ a, pre a → okDs 0 (enc a) = true ∧ (match out a with | .val d => okD 0 d = true | .exc _ fs => okFs 0 fs = true)
def outP : Out → P4
  | .val d => { nx := fun _ _ => D.non = d, rt := fun d2 _ => d2 = d }
  | .exc m fs => { ex := fun m2 fs2 _ _ => m2 = m ∧ fs2 = fs }
theorem EFn.of {α : Type} {enc : α → List D} {pre : α → Prop} {out : α → Out} {x : Str} {params : Arguments} {body : List Stmt} {scope : Scope} {N ps : List Str} {k : Nat} (F : ∃ fd, FunD K x x params body scope [] [] (He.fAd K (x, none)) fd) (hm : mg x = some (.ref (He.ga K x))) (S : FnScope N ps scope) (hb : BindN x x params body scope ps)
    (hl : ∀ a, (enc a).length = ps.length) (ok : ∀ a, pre a → okDs 0 (enc a) = true ∧ (match out a with | .val d => okD 0 d = true | .exc _ fs => okFs 0 fs = true))
    (hbody : ∀ (f : Addr) (cdv : Value) (A : Around) (outer : List Env) (s : Shared) (H : Hp) (E : XK) (a : α), Room k (A.deeper (envOfC x scope s.heap.objs.size f cdv)) → pre a →
      DSs (cxOf (L2.CX P w) P w K mg base N x scope f cdv A outer s H E) ct body ((enc a).map some ++ List.replicate (N.length - ps.length) none) [] (outP (out a))) : EFn P w K mg base ct x (k + 1) enc pre out := by
  obtain ⟨fd, F⟩ := F
  refine ⟨⟨_, fd, ps, fn_okX F S (fun ds μ o μ' ⟨a, e, _⟩ => by subst e; exact hl a) fun cdv A outer s H E ds μ o μ' hr ⟨a, e1, hp, e2, e3, e4⟩ => ?_, hm, F.kp, F.bindsN hb⟩, ok⟩
  subst e1 e2 e3 e4
  have bd := hbody _ cdv A outer s H E a hr hp
  have o2 := (ok a hp).2
  rw [hl a]
  cases q : out a with
  | val d =>
    rw [q] at bd o2
    exact ds_imp bd (fun _ μ h => ⟨h, .inr ⟨Nat.le_refl _, o2, .nil, μ, rfl⟩⟩) (fun d μ h => ⟨h, .inr ⟨Nat.le_refl _, o2, .nil, μ, rfl⟩⟩) (fun _ _ z => z) (fun _ _ z => z) (fun _ _ _ _ z => z)
  | exc m fs =>
    rw [q] at bd o2
    exact ds_imp bd (fun _ μ h => h) (fun d μ h => h) (fun _ _ z => z) (fun _ _ z => z) (fun n fs2 _ μ ⟨h1, h2⟩ => ⟨h1, h2, .inr ⟨Nat.le_refl _, o2, .nil, μ, rfl⟩⟩)
end
section
variable {X : Cx} {ct : Nat → Addr} {Γ : Gm} {μ μ1 : Mu} {ds : List D} {e : Expr} {es : List Expr} {x : Str} {p pos : Pos} {n : Nat} {fs : List (Str × D)} {d : D}
theorem q_ecall {kk : Nat} {α : Type} {enc : α → List D} {pre : α → Prop} {out : α → Out} (G : EFn X.prog X.w X.K X.mg X.base ct x kk enc pre out) (ha : DA X ct Γ μ (e :: es) ds μ1) (z : α) (h : ds = enc z) (hp : pre z) (ho : out z = .val d) (hr : Room kk X.A := by first | exact ‹Room _ _› | exact Room.mono ‹Room _ _› (by decide)) (hg : Gl X x := by rfl)
    (hdb : (x == ("__debug__" : Str)) = false := by decide) (he : starEach (e :: es) X.env = (false, eval e X.env) :: starEach es X.env := by rfl) (hpl : (backTo pos (starEach es X.env)).any (·.1) = false := by rfl) : DE X ct Γ μ (.Call (.Name x p) (e :: es) [] pos) d μ1 := by
  subst h
  have o := G.ok z hp
  rw [ho] at o
  exact de_call G.fn.fn.fr hr ha (Fr.p o.1 o.2 ⟨z, rfl, hp, ho.symm, rfl, rfl⟩) hg hdb he hpl
end
end DL
namespace DL
open PySem PySem.Spec PyProof.Rows L2
section
variable {X : Cx} {ct : Nat → Addr} {Γ : Gm} {μ μ1 : Mu} {ds : List D} {e : Expr} {es : List Expr} {x f : Str} {p pos : Pos} {n : Nat} {fs : List (Str × D)} {d : D}
theorem q_ecallX {kk : Nat} {α : Type} {enc : α → List D} {pre : α → Prop} {out : α → Out} (G : EFn X.prog X.w X.K X.mg X.base ct x kk enc pre out) (ha : DA X ct Γ μ (e :: es) ds μ1) (z : α) (h : ds = enc z) (hp : pre z) (ho : out z = .exc n fs) (hr : Room kk X.A := by first | exact ‹Room _ _› | exact Room.mono ‹Room _ _› (by decide)) (hg : Gl X x := by rfl)
    (hdb : (x == ("__debug__" : Str)) = false := by decide) (he : starEach (e :: es) X.env = (false, eval e X.env) :: starEach es X.env := by rfl) (hpl : (backTo pos (starEach es X.env)).any (·.1) = false := by rfl) : DX X ct Γ μ (.Call (.Name x p) (e :: es) [] pos) n fs μ1 := by
  subst h
  have o := G.ok z hp
  rw [ho] at o
  exact dx_call G.fn.fr hr ha (.ex o.1 (by rw [← okFs_vals]; exact o.2) ⟨z, rfl, hp, ho.symm, rfl, rfl⟩) hg hdb he hpl
/-- Parent.__init__(self, ..), Parent an own class that takes ValueError's -/
theorem pe_upinit {S : Addr} {mc : Value} {ta : TA} {p1 p2 : Pos} {pl : Sem Bool} (hg : Gl X x) (hm : X.mg x = some (.ref S)) (rd : ClX.CRead X.K S mc) (at_ : PySem.W.findCls X.K (.ref S) mc "__init__" = some (.val (.builtin "ValueError.__init__"))) (ha : PA X (e :: es) ta) (hdb : (x == ("__debug__" : Str)) = false := by decide)
    (hc : eval (.Call (.Attribute (.Name x p1) "__init__" p2) (e :: es) [] pos) X.env = (do
      let ov ← eval (.Name x p1) X.env
      standAt p2.atName
      let (f, first) ← holding [ov] (getMethod ov "__init__" pl)
      callWith pos f first (backTo pos (starEach (e :: es) X.env)) (backToKw pos (keywordEach [] X.env))) := by rfl)
    (he : starEach (e :: es) X.env = (false, eval e X.env) :: starEach es X.env := by rfl) (hpl : (backTo pos (starEach es X.env)).any (·.1) = false := by rfl) :
    PE X (.Call (.Attribute (.Name x p1) "__init__" p2) (e :: es) [] pos) (tVeI X.K ta) := by
  refine ⟨fun pins st σ H Q J want => PySem.W.methodCall_KW (ld_glob J hg hm (PySem.W.method_cls J.kIn rd.ga (PySem.W.cls_value J.kIn rd.rd at_ rfl ?_)) hdb) hc⟩
  refine PyProof.Rows.callWith_method1 (thn (ha.run pos pins _ σ H _ (J.tok _) want) fun us st1 ⟨vs, H1, J1, rel, a, C, ws, ev, few, T, at2, q⟩ => ?_) he hpl
  subst ev
  rcases rel with _ | ⟨first, others⟩
  obtain rfl := (first : _ = Value.ref a)
  exact oinit_ok T J1 at2 (by rw [← others.length]; exact Nat.le_trans few (by decide)) fun st2 J2 => ⟨.non, H1, J2, rfl, q⟩
/-- what the __init__ of an exception with one field does -/
def spExc (K : PySem.W.Frag) (C : Addr) (f : Str) : Sp := fun vs H Q _ => ∃ (a : Addr) (y : V), vs = [.ref a, y] ∧ OexC K C ∧ PySem.W.findIn K (.ref C) f = some none ∧ H a = some (exo a C none) ∧
  ∀ dx, H dx = none → dx ≠ a → Q .non (upd (upd H dx (exd dx [(f, y)])) a (exo a C (some dx)))
/-- raise C(e), C an own exception with one field -/
theorem ds_raise {C fI : Addr} {k : Nat} {fd : FuncData} {ps : List Str} {rest : List Stmt} {P : P4} {pos' : Pos} (hC : ct n = C) (T : OexC X.K C) (no : PySem.W.findIn X.K (.ref C) f = some none) (iC : PySem.W.findIn X.K (.ref C) "__init__" = some (some (.ref fI))) (tI : PySem.W.typeIn X.K (.ref fI) = some (.type "function"))
    (F1 : FnOk X.prog X.w X.K X.mg X.base CX0 k fI fd ps (spExc X.K C f)) (hb : Binds X.K fd ps []) (hm : X.mg x = some (.ref C)) (ha : DA X ct Γ μ [e] [d] μ1) (hp : P.ex n [(f, d)] Γ μ1) (hr : Room (k + 1) X.A := by first | exact ‹Room _ _› | exact Room.mono ‹Room _ _› (by decide)) (hc : X.calm = true := by rfl) (hg : Gl X x := by rfl)
    (hdb : (x == ("__debug__" : Str)) = false := by decide) (he : starEach [e] X.env = (false, eval e X.env) :: starEach [] X.env := by rfl) (hpl : (backTo pos (starEach [] X.env)).any (·.1) = false := by rfl) : DSs X ct (.Raise (some (.Call (.Name x p) [e] [] pos)) none pos' :: rest) Γ μ P := by
  refine ds_cons (PS.imp (ps_raise hc (takes_XW X) (pmk_oex (dvs := []) T iC tI F1 hr hb .nil pass0 hg hm ha hdb he hpl)) fun D σ H ⟨F, A, r, q1, q2, q3, q4⟩ => ?_)
  refine ⟨F, A, r, fun vs H1 F1 A1 e1 p1 r1 h1 => ?_⟩
  obtain ⟨y, rfl, ry⟩ := reps1 h1
  refine ⟨by simp, fun a ha => ⟨a, y, rfl, T, no, upd_same, fun dx nd ne => ⟨rfl, dx, [(f, y)], upd_same, by rw [upd_ne ne, upd_same], ?_, ?_⟩⟩⟩
  · rw [upd_ne ne] at nd; exact nd
  · have nd1 : H1 dx = none := by rw [upd_ne ne] at nd; exact nd
    have eq : upd (del (upd (upd (upd H1 a (exo a C none)) dx (exd dx [(f, y)])) a (exo a C (some dx))) a) dx (.xd [(f, y)]) = upd H1 dx (.xd [(f, y)]) := by
      funext b
      by_cases h1 : b = dx
      · subst h1; rw [upd_same, upd_same]
      · rw [upd_ne h1, upd_ne h1]
        by_cases h2 : b = a
        · subst h2; rw [del_same, ha]
        · rw [del_ne h2, upd_ne h2, upd_ne h1, upd_ne h2]
    rw [eq, ← hC]
    have le := r1.m.le_grow nd1 (.xd [(f, y)])
    exact q4.2 n [(f, d)] (some dx) Γ μ1 σ _ _ A1 (e1.trans le) p1 ⟨r1.m.grow nd1 _, r1.s.mono le pr⟩ (.inr ⟨dx, [(f, y)], rfl, upd_same, rfl, .cons (ry.mono le pr) .nil⟩) hp
end
end DL
namespace DL
open PySem PySem.Spec PyProof.Rows L2
theorem Slots.forget {K : PySem.W.Frag} {ct : Nat → Addr} {A : List Addr} {F : Hp} : ∀ {Γ : Gm} {σ : L2.St} (i : Nat), Slots K ct A F Γ σ → Slots K ct A F (Γ.set i none) (σ.set i none)
  | _, _, _, .nil => .nil
  | _, _, 0, .any r => .any r
  | _, _, 0, .cons _ r => .any r
  | _, _, i + 1, .any r => .any (Slots.forget i r)
  | _, _, i + 1, .cons h r => .cons h (Slots.forget i r)
section
variable {X : Cx} {ct : Nat → Addr} {Γ : Gm} {μ : Mu} {x nm : Str} {np pos pos' : Pos} {body suite rest : List Stmt} {b₀ : Stmt} {P : P4} {m : Nat}
/-- what a body may end in, W the wish about exceptions -/
def tB (X : Cx) (ct : Nat → Addr) (W : WX) (Γ : Gm) (μ : Mu) (P : P4) : TS := fun D σ H => ∃ F A, Rl X.K ct Γ μ σ H F A ∧
  (∀ Γ' μ' σ' H' F' A', Le F F' → A <+: A' → Rl X.K ct Γ' μ' σ' H' F' A' → P.nx Γ' μ' → D.nx σ' H') ∧
  (∀ d μ' v H' F' A', Le F F' → A <+: A' → Rl0 X.K ct μ' H' F' A' → Rep X.K ct A' F' v d → P.rt d μ' → D.rt v H') ∧
  (∀ Γ' μ' σ' H' F' A', Le F F' → A <+: A' → Rl X.K ct Γ' μ' σ' H' F' A' → P.bk Γ' μ' → D.bk σ' H') ∧
  (∀ Γ' μ' σ' H' F' A', Le F F' → A <+: A' → Rl X.K ct Γ' μ' σ' H' F' A' → P.ct Γ' μ' → D.ct σ' H') ∧
   ∀ n fs dd Γ' μ' σ' H' F' A', Le F F' → A <+: A' → Rl X.K ct Γ' μ' σ' H' F' A' → XOk X.K ct A' F' H' dd fs → P.ex n fs Γ' μ' → W (.ref (ct n)) dd σ' H'
/-- the suite of 'except x as nm', at the slots Γ' -/
def SuiteA (X : Cx) (ct : Nat → Addr) (i : Nat) (sts rest : List Stmt) (P : P4) (n : Nat) (fs : List (Str × D)) (Γ' : Gm) (μ' : Mu) : Prop :=
  ∀ a oe dd pn, Zc (.ref (ct n)) dd oe → (∃ vs, oe.data = .fields vs) → ∃ t, PSs (X.suite a ((a, oe) :: pn)) sts t ∧
    ∀ D σ H F A, Rl X.K ct Γ' μ' σ H F A → H a = none → XOk X.K ct A F H dd fs →
      (∀ Γ3 μ3 σ3 H3 F3 A3, Le F F3 → A <+: A3 → Rl X.K ct Γ3 μ3 σ3 H3 F3 A3 → DSs X ct rest (Γ3.set i none) μ3 P → D.nx σ3 H3) → t D (σ.set i (some (.ref a))) H
theorem ds_tryA (i : Nat) (hs : X.stack = X.env :: X.outer) (hf : X.env.frame = some X.env.locals) (hN : X.N.Nodup) (hi : X.N[i]? = some nm) (hln : X.env.kindOf nm = some .local) (hc : Names X x (.ref (ct m)))
    (hb : ∀ (pn : List (Addr × Obj)) (xe : Value → Shared → Prop), PassesOwn (model X.prog X.w) X.A X.env xe → DSs (X.tr pn xe) ct body Γ μ { P with nx := fun Γ' μ' => DSs X ct rest Γ' μ' P, ex := fun n fs Γ' μ' => PySem.W.exmOne X.K (.ref (ct n)) (.ref (ct m)) = some true ∧ SuiteA X ct i (b₀ :: suite) rest P n fs Γ' μ' }) :
    DSs X ct (.Try body [.ExceptHandler (some (.Name x np)) (some nm) (b₀ :: suite) pos'] [] [] pos :: rest) Γ μ P := by
  refine ds_cons (PS.imp (ps_try_as (Wout := XW X) (tb := fun W => tB X ct W Γ μ { P with nx := fun Γ' μ' => DSs X ct rest Γ' μ' P, ex := fun n fs Γ' μ' => PySem.W.exmOne X.K (.ref (ct n)) (.ref (ct m)) = some true ∧ SuiteA X ct i (b₀ :: suite) rest P n fs Γ' μ' })
    (ts := fun a cls d D σ H => ∀ oe pn, Zc cls d oe → (∃ vs, oe.data = .fields vs) → ∃ t, PSs (X.suite a ((a, oe) :: pn)) (b₀ :: suite) t ∧ t D σ H) hs hf hN hi hln hc (takes_XW X)
    (fun W pn xe tk po => PSs.imp (hb pn xe po) fun D σ H ⟨F, A, r, q1, q2, q3, q4, q5⟩ => ⟨F, A, r, q1, q2, q3, q4, fun n fs dd Γ' μ' σ' H' F' A' e p r' xo h => XW_of tk (q5 n fs dd Γ' μ' σ' H' F' A' e p r' xo h)⟩)
    (fun a oe cls d pn hz hd => ⟨fun pins s σ H D I h => by obtain ⟨t, ht, q⟩ := h oe pn hz hd; exact ht.run pins s σ H D I q⟩)) fun D σ H ⟨F, A, r, q1, q2, q3, q4⟩ => ?_)
  refine ⟨F, A, r, q1, q2, q3, q4.1, fun n fs dd Γ' μ' σ' H' F' A' e p r' xo ⟨hx, su⟩ => ⟨true, hx, fun _ a na oe pn hz hd => ?_, fun z => by cases z⟩⟩
  obtain ⟨t, ht, q⟩ := su a oe dd pn hz hd
  exact ⟨t, ht, q _ σ' H' F' A' r' na xo fun Γ3 μ3 σ3 H3 F3 A3 e3 p3 r3 h3 => q1 (Γ3.set i none) μ3 _ H3 F3 A3 (e.trans e3) (p.trans p3) ⟨r3.m, r3.s.forget i⟩ h3⟩
/-- 'except x' without a name: the suite over data -/
def SuiteO (X : Cx) (ct : Nat → Addr) (sts rest : List Stmt) (P : P4) (Γ' : Gm) (μ' : Mu) : Prop := ∀ a oe pn, DSs (X.suite a ((a, oe) :: pn)) ct sts Γ' μ' { nx := fun Γ3 μ3 => DSs X ct rest Γ3 μ3 P }
theorem ds_tryO (hs : X.stack = X.env :: X.outer) (hf : X.env.frame = some X.env.locals) (hc : Names X x (.ref (ct m)))
    (hb : ∀ (pn : List (Addr × Obj)) (xe : Value → Shared → Prop), PassesOwn (model X.prog X.w) X.A X.env xe → DSs (X.tr pn xe) ct body Γ μ { P with nx := fun Γ' μ' => DSs X ct rest Γ' μ' P, ex := fun n fs Γ' μ' => PySem.W.exmOne X.K (.ref (ct n)) (.ref (ct m)) = some true ∧ SuiteO X ct (b₀ :: suite) rest P Γ' μ' }) :
    DSs X ct (.Try body [.ExceptHandler (some (.Name x np)) none (b₀ :: suite) pos'] [] [] pos :: rest) Γ μ P := by
  refine ds_cons (PS.imp (ps_try_only (Wout := XW X) (tb := fun W => tB X ct W Γ μ { P with nx := fun Γ' μ' => DSs X ct rest Γ' μ' P, ex := fun n fs Γ' μ' => PySem.W.exmOne X.K (.ref (ct n)) (.ref (ct m)) = some true ∧ SuiteO X ct (b₀ :: suite) rest P Γ' μ' })
    (ts := fun a cls d D σ H => ∀ oe pn, Zc cls d oe → (∃ vs, oe.data = .fields vs) → ∃ t, PSs (X.suite a ((a, oe) :: pn)) (b₀ :: suite) t ∧ t D σ H) hs hf hc (takes_XW X)
    (fun W pn xe tk po => PSs.imp (hb pn xe po) fun D σ H ⟨F, A, r, q1, q2, q3, q4, q5⟩ => ⟨F, A, r, q1, q2, q3, q4, fun n fs dd Γ' μ' σ' H' F' A' e p r' xo h => XW_of tk (q5 n fs dd Γ' μ' σ' H' F' A' e p r' xo h)⟩)
    (fun a oe cls d pn hz hd => ⟨fun pins s σ H D I h => by obtain ⟨t, ht, q⟩ := h oe pn hz hd; exact ht.run pins s σ H D I q⟩)) fun D σ H ⟨F, A, r, q1, q2, q3, q4⟩ => ?_)
  refine ⟨F, A, r, q1, q2, q3, q4.1, fun n fs dd Γ' μ' σ' H' F' A' e p r' xo ⟨hx, su⟩ => ⟨true, hx, fun _ a na oe pn hz hd => ?_, fun z => by cases z⟩⟩
  exact ⟨_, su a oe pn, F', A', r', fun Γ3 μ3 σ3 H3 F3 A3 e3 p3 r3 h3 => q1 Γ3 μ3 σ3 H3 F3 A3 (e.trans e3) (p.trans p3) r3 h3, fun _ _ _ _ _ _ _ _ _ _ z => z.elim, fun _ _ _ _ _ _ _ _ _ z => z.elim, fun _ _ _ _ _ _ _ _ _ z => z.elim, fun _ _ _ _ _ _ _ _ _ _ _ _ _ z => z.elim⟩
/-! ### reading the caught exception -/
/-- the place of a caught exception, as a datum -/
theorem pe_excName {a : Addr} {oe : Obj} {pn : List (Addr × Obj)} {i : Nat} {p : Pos} (hN : X.N[i]? = some x) (hv : Vis X.env.scope x := by first | exact Or.inl rfl | exact Or.inr (Or.inl rfl) | exact Or.inr (Or.inr rfl)) (hd : (x == ("__debug__" : Str)) = false := by decide) (hcd : (x == ("__classdict__" : Str)) = false := by decide) : PE (X.suite a ((a, oe) :: pn)) (.Name x p) (fun σ H Q => σ[i]? = some (some (.ref a)) ∧ Q (.ref a) H) :=
  PE.imp (pe_var (X := X.suite a ((a, oe) :: pn)) hN hv hd hcd) fun σ H Q ⟨h, q⟩ => ⟨.ref a, h, q⟩
end
end DL

/-! # What the head must tell of an exception's class -/
namespace DL
open PySem PySem.Spec PyProof.Rows L2
/-- the class's object -/
def oexB (K : PySem.W.Frag) (C : Addr) : Bool := match K.lookup C with
  | some ⟨.type "type", _, .cls cd, sl⟩ => (match cd.mro, sl.toList with
    | .ref C2 :: up, [_, _, _, _, some (.builtin new), _] => decide (C2 = C) && (decide (new = "ValueError.__new__") && (!cd.hasDel && (cd.hasDict && PySem.HandSPX.refsVE up)))
    | _, _ => false)
  | _ => false
theorem oexB_cls {K : PySem.W.Frag} {C : Addr} (q : oexB K C = true) : ∃ nm q N bs bm sn sub ab col dd k0 k1 k2 k3 k5, K.lookup C = some (excClassObj nm q C N bs bm true sn sub ab col dd k0 k1 k2 k3 k5 "ValueError.__new__") ∧ PySem.HandSPX.refsVE bm = true := by
  unfold oexB at q
  split at q
  case h_2 => cases q
  rename_i dd cd sl found
  split at q
  case h_2 => cases q
  rename_i C2 up k0 k1 k2 k3 new k5 mro slots
  simp only [Bool.and_eq_true, decide_eq_true_eq, Bool.not_eq_true'] at q
  obtain ⟨rfl, rfl, noDel, hasD, refs⟩ := q
  obtain ⟨nm, bs, mro', ns, qn, hd, sn, sub, ab, col, del⟩ := cd
  dsimp only at mro noDel hasD
  subst mro noDel hasD
  obtain ⟨l⟩ := sl
  have : l = [k0, k1, k2, k3, some (.builtin "ValueError.__new__"), k5] := slots
  subst this
  exact ⟨nm, qn, ns, bs, up, sn, sub, ab, col, dd, k0, k1, k2, k3, k5, found, refs⟩
/-- the facts of the class x over S, whose __init__ stores f -/
def exB (K : PySem.W.Frag) (x S f : Str) : Bool :=
  oexB K (He.ga K x) && (He.eqO (PySem.W.findIn K (.ref (He.ga K x)) "__setattr__") (some (some (.builtin "object.__setattr__"))) && (decide (PySem.W.subIn K (.ref (He.ga K x)) (.type "BaseException") = some true) &&
  (decide (PySem.W.typeIn K (.ref (He.ga K x)) = some (.type "type")) && (PySem.W.keepIn K (.ref (He.ga K x)) && (He.eqO (PySem.W.findIn K (.ref (He.ga K x)) f) (some none) &&
  (He.eqO (PySem.W.findIn K (.ref (He.ga K x)) "__init__") (some (some (.ref (He.ma K (He.ga K x) "__init__")))) && (decide (PySem.W.typeIn K (.ref (He.ma K (He.ga K x) "__init__")) = some (.type "function")) &&
  (PySem.W.readsIn K (He.ga K S) (.type "type") && (He.eqO (PySem.W.specialIn K (.ref (He.ga K S)) "__getattribute__") (some (some (.builtin "type.__getattribute__"))) &&
  ((match PySem.W.findCls K (.ref (He.ga K S)) (.type "type") "__init__" with | some (.val (.builtin n)) => decide (n = "ValueError.__init__") | _ => false) && (xfB K (He.ga K x) && decide (PySem.W.exmOne K (.ref (He.ga K x)) (.ref (He.ga K x)) = some true))))))))))))
structure ExF (K : PySem.W.Frag) (x S f : Str) : Prop where
  o : OexC K (He.ga K x)
  no : PySem.W.findIn K (.ref (He.ga K x)) f = some none
  ini : PySem.W.findIn K (.ref (He.ga K x)) "__init__" = some (some (.ref (He.ma K (He.ga K x) "__init__")))
  fun_ : PySem.W.typeIn K (.ref (He.ma K (He.ga K x) "__init__")) = some (.type "function")
  rd : ClX.CRead K (He.ga K S) (.type "type")
  up : PySem.W.findCls K (.ref (He.ga K S)) (.type "type") "__init__" = some (.val (.builtin "ValueError.__init__"))
  xf : XfC K (He.ga K x)
  hit : PySem.W.exmOne K (.ref (He.ga K x)) (.ref (He.ga K x)) = some true
theorem exF_of {K : PySem.W.Frag} {x S f : Str} (h : exB K x S f = true) : ExF K x S f := by
  unfold exB at h
  obtain ⟨h1, h⟩ := Bool.and_eq_true_iff.mp h
  obtain ⟨h2, h⟩ := Bool.and_eq_true_iff.mp h
  obtain ⟨h3, h⟩ := Bool.and_eq_true_iff.mp h
  obtain ⟨h4, h⟩ := Bool.and_eq_true_iff.mp h
  obtain ⟨h5, h⟩ := Bool.and_eq_true_iff.mp h
  obtain ⟨h6, h⟩ := Bool.and_eq_true_iff.mp h
  obtain ⟨h7, h⟩ := Bool.and_eq_true_iff.mp h
  obtain ⟨h8, h⟩ := Bool.and_eq_true_iff.mp h
  obtain ⟨h9, h⟩ := Bool.and_eq_true_iff.mp h
  obtain ⟨h10, h⟩ := Bool.and_eq_true_iff.mp h
  obtain ⟨h11, h⟩ := Bool.and_eq_true_iff.mp h
  obtain ⟨h12, h13⟩ := Bool.and_eq_true_iff.mp h
  refine ⟨⟨oexB_cls h1, He.eqO_ok h2, of_decide_eq_true h3, of_decide_eq_true h4, h5⟩, He.eqO_ok h6, He.eqO_ok h7, of_decide_eq_true h8, ⟨h9, He.eqO_ok h10⟩, ?_, xfB_ok h12, of_decide_eq_true h13⟩
  cases q : PySem.W.findCls K (.ref (He.ga K S)) (.type "type") "__init__" with
  | none => rw [q] at h11; cases h11
  | some c =>
    rw [q] at h11
    cases c with
    | get _ _ _ _ => cases h11
    | val v =>
      cases v <;> first
        | (have h := of_decide_eq_true h11; subst h; rfl)
        | cases h11
/-- isinstance(e, T), e of the class x -/
def isB (K : PySem.W.Frag) (x T : Str) (b : Bool) : Bool :=
  (PySem.W.clsIn K (He.ga K x)).isSome && (He.eqO (PySem.W.findIn K (.ref (He.ga K x)) "__getattribute__") (some (some (.builtin "BaseException.__getattribute__"))) && (He.eqO (PySem.W.findIn K (.ref (He.ga K x)) "__getattr__") (some none) &&
  (decide (PySem.W.subIn K (.ref (He.ga K x)) (.type "BaseException") = some true) && (He.eqO (PySem.W.findIn K (.ref (He.ga K x)) "__class__") (some (some (.builtin "object.__class__"))) &&
  (He.eqO (PySem.W.specialIn K (.builtin "object.__class__") "__get__") (some (some (.builtin "getset_descriptor.__get__"))) && (decide (PySem.W.takesIn K (.builtin "object.__class__") = some true) &&
  (decide (PySem.W.mroIn K (He.ga K x) (.type "object") = some true) && decide (PySem.W.kitOne K (.ref (He.ga K x)) (.ref (He.ga K T)) = some b))))))))
/-! ### isinstance(x, (list, tuple)), x an own instance too -/
def insB (K : PySem.W.Frag) (x : Str) : Bool :=
  He.eqO (PySem.W.findIn K (.ref (He.ga K x)) "__class__") (some (some (.builtin "object.__class__"))) && (He.eqO (PySem.W.specialIn K (.builtin "object.__class__") "__get__") (some (some (.builtin "getset_descriptor.__get__"))) && (decide (PySem.W.takesIn K (.builtin "object.__class__") = some true) &&
  (decide (PySem.W.mroIn K (He.ga K x) (.type "object") = some true) && (decide (PySem.W.kitOne K (.ref (He.ga K x)) (.type "list") = some false) && decide (PySem.W.kitOne K (.ref (He.ga K x)) (.type "tuple") = some false)))))
structure InsF (K : PySem.W.Frag) (C : Addr) : Prop where
  cls : Cls K C
  ha : PySem.W.findIn K (.ref C) "__class__" = some (some (.builtin "object.__class__"))
  hn : PySem.W.specialIn K (.builtin "object.__class__") "__get__" = some (some (.builtin "getset_descriptor.__get__"))
  htk : PySem.W.takesIn K (.builtin "object.__class__") = some true
  hm : PySem.W.mroIn K C (.type "object") = some true
  l : PySem.W.kitOne K (.ref C) (.type "list") = some false
  t : PySem.W.kitOne K (.ref C) (.type "tuple") = some false
theorem insF_of {K : PySem.W.Frag} {x : Str} (cl : Cls K (He.ga K x)) (h : insB K x = true) : InsF K (He.ga K x) := by
  unfold insB at h
  obtain ⟨h1, h⟩ := Bool.and_eq_true_iff.mp h
  obtain ⟨h2, h⟩ := Bool.and_eq_true_iff.mp h
  obtain ⟨h3, h⟩ := Bool.and_eq_true_iff.mp h
  obtain ⟨h4, h⟩ := Bool.and_eq_true_iff.mp h
  obtain ⟨h5, h6⟩ := Bool.and_eq_true_iff.mp h
  exact ⟨cl, He.eqO_ok h1, He.eqO_ok h2, of_decide_eq_true h3, of_decide_eq_true h4, of_decide_eq_true h5, of_decide_eq_true h6⟩
inductive TyD (K : PySem.W.Frag) (ct : Nat → Addr) : D → Value → Prop
  | ty {d : D} {T : String} (e : tyName d = some T) : TyD K ct d (.type T)
  | ins {n : Nat} {fs : List (Str × D)} (h : InsF K (ct n)) : TyD K ct (.ins n fs) (.ref (ct n))
theorem rep_tyG {K : PySem.W.Frag} {ct : Nat → Addr} {H F : Hp} {A : List Addr} {μ : Mu} {v : V} {d : D} {t : Value} (m : Rl0 K ct μ H F A) (h : Rep K ct A F v d) (e : TyD K ct d t) : TyX K H v t := by
  cases e with
  | ty e => exact rep_ty m h e
  | ins g =>
    cases h with
    | ins e _ _ => exact .base (.ins (m.sub _ _ e) g.cls g.ha g.hn g.htk g.hm)
theorem de_isi2G {X : Cx} {ct : Nat → Addr} {Γ : Gm} {μ μ1 : Mu} {d : D} {a b c : Expr} {p pos : Pos} {t : Value} {U V' : String} {k1 k2 : Bool} {q1 : Pos} {kk : Nat} (hm : X.mg "isinstance" = none) (e : TyD X.K ct d t) (h1 : PySem.W.kitOne X.K t (.type U) = some k1) (h2 : PySem.W.kitOne X.K t (.type V') = some k2) (he : DE X ct Γ μ a d μ1)
    (hb : PE X b (tC (.ty U))) (hc : PE X c (tC (.ty V'))) (hg : Gl X "isinstance" := by rfl) (hs1 : starEach [a, .Tuple [b, c] kk q1] X.env = (false, eval a X.env) :: starEach [.Tuple [b, c] kk q1] X.env := by rfl)
    (hs2 : starEach [.Tuple [b, c] kk q1] X.env = (false, eval (.Tuple [b, c] kk q1) X.env) :: starEach [] X.env := by rfl) (hs3 : starEach [b, c] X.env = (false, eval b X.env) :: starEach [c] X.env := by rfl) (hs4 : starEach [c] X.env = (false, eval c X.env) :: starEach [] X.env := by rfl)
    (hpl : (backTo pos (starEach [.Tuple [b, c] kk q1] X.env)).any (·.1) = false := by rfl) : DE X ct Γ μ (.Call (.Name "isinstance" p) [a, .Tuple [b, c] kk q1] [] pos) (.bl (k1 || k2)) μ1 := by
  refine PE.imp (pe_callB call_isiT hg hm boot_isinstance (pa_cons he (pa_cons (pe_tup (pa_cons hb (pa_cons hc pa_nil hs4) hs3)) pa_nil hs2) hs1) (by decide) (by decide) hs1 hpl) fun σ H Q ⟨F, A, r, q⟩ => ⟨F, A, r, fun v H1 F1 A1 e1 p1 r1 h1' => ⟨by show 2 ≤ sizeLine; decide, fun pp hp => ?_⟩⟩
  have g := r1.m.grow hp (.tup [.ty U, .ty V'])
  have le := r1.m.le_grow hp (.tup [.ty U, .ty V'])
  exact ⟨v, pp, _, _, _, k1 || k2, rfl, upd_same, .cons (.ty U) (.cons (.ty V') .nil), rep_tyG g (h1'.mono le pr) e, kitAny_cons h1 (fun z => kitAny_cons (b := k2) (r := k1 || k2) h2 (fun z2 => by rw [z, z2]; exact kitAny_nil) (fun z2 => by rw [z2]; simp)) (fun z => by rw [z]; rfl), q _ _ _ A1 (e1.trans le) p1 ⟨g, r1.s.mono le pr⟩ (.bl _)⟩
/-! ### isinstance of a caught exception with fields -/
structure IsF (K : PySem.W.Frag) (C T : Addr) (b : Bool) : Prop where
  cl : (PySem.W.clsIn K C).isSome = true
  ga : PySem.W.findIn K (.ref C) "__getattribute__" = some (some (.builtin "BaseException.__getattribute__"))
  gt : PySem.W.findIn K (.ref C) "__getattr__" = some none
  sub : PySem.W.subIn K (.ref C) (.type "BaseException") = some true
  ha : PySem.W.findIn K (.ref C) "__class__" = some (some (.builtin "object.__class__"))
  hn : PySem.W.specialIn K (.builtin "object.__class__") "__get__" = some (some (.builtin "getset_descriptor.__get__"))
  tk : PySem.W.takesIn K (.builtin "object.__class__") = some true
  hm : PySem.W.mroIn K C (.type "object") = some true
  kit : PySem.W.kitOne K (.ref C) (.ref T) = some b
theorem isF_of {K : PySem.W.Frag} {x T : Str} {b : Bool} (h : isB K x T b = true) : IsF K (He.ga K x) (He.ga K T) b := by
  unfold isB at h
  obtain ⟨h1, h⟩ := Bool.and_eq_true_iff.mp h
  obtain ⟨h2, h⟩ := Bool.and_eq_true_iff.mp h
  obtain ⟨h3, h⟩ := Bool.and_eq_true_iff.mp h
  obtain ⟨h4, h⟩ := Bool.and_eq_true_iff.mp h
  obtain ⟨h5, h⟩ := Bool.and_eq_true_iff.mp h
  obtain ⟨h6, h⟩ := Bool.and_eq_true_iff.mp h
  obtain ⟨h7, h⟩ := Bool.and_eq_true_iff.mp h
  obtain ⟨h8, h9⟩ := Bool.and_eq_true_iff.mp h
  exact ⟨h1, He.eqO_ok h2, He.eqO_ok h3, of_decide_eq_true h4, He.eqO_ok h5, He.eqO_ok h6, of_decide_eq_true h7, of_decide_eq_true h8, of_decide_eq_true h9⟩
def rIsEd (K : PySem.W.Frag) (D a dd : Addr) : List V → Hp → VK → Prop := fun xs H Q => ∃ (C : Addr) (b : Bool) (fs : List (Str × V)), xs = [.ref a, .ref C] ∧ IsF K D C b ∧ H dd = some (.xd fs) ∧ Q (.bl b) H
theorem call_isEd {X : Cx} {a D dd : Addr} {oe : Obj} {pn : List (Addr × Obj)} (hz : Zc (.ref D) (some dd) oe) (hf : ∃ vs, oe.data = .fields vs) : CallR (X.suite a ((a, oe) :: pn)) (.builtin "isinstance") (rIsEd X.K D a dd) := by
  intro pins s σ H xs us Q I r h
  obtain ⟨C, b, fs, rfl, f, hd, q⟩ := h
  obtain ⟨u1, u2, rfl, r1, r2⟩ := vals2 r
  obtain rfl : u1 = Value.ref a := r1
  obtain rfl : u2 = Value.ref C := r2
  obtain ⟨ha, _⟩ := I.pin (a, oe) (List.mem_append_left _ List.mem_cons_self)
  obtain ⟨vs, hv⟩ := hf
  have hx : ObjOk X.prog X.w H s.heap dd (.xd fs) := I.hok dd _ hd
  obtain ⟨mA, hns, hr⟩ := hx
  obtain ⟨od, ho, hl⟩ := lookIn_ns hns
  have J : PySem.W.InstAt s.heap a oe D (some od) := ⟨ha, hz.1, by unfold PySem.W.notCls; rw [hv] <;> rfl, by rw [hz.2]; exact ho⟩
  exact PySem.W.kia_one (PySem.W.kitx_exc f.cl f.ga f.gt f.sub f.ha f.hn f.tk f.hm) I.kIn J f.kit (fun z => nomatch z) fun tk => ⟨.bl b, H, I.tok tk, rfl, q⟩
/-! ### an instance made without arguments; a default () -/
section
variable {X : Cx} {ct : Nat → Addr} {Γ : Gm} {μ : Mu} {x : Str} {p pos : Pos}
theorem q_make0 {kk n : Nat} {α : Type} {enc : α → List D} {pre : α → Prop} {out : α → List (Str × D)} (G : PMk X.prog X.w X.K X.mg X.base ct n x kk enc pre out) (z : α) (h : [] = enc z) (hp : pre z) (hr : Room (kk + 1) X.A := by first | exact ‹Room _ _› | exact Room.mono ‹Room _ _› (by decide)) (hg : Gl X x := by rfl)
    (hdb : (x == ("__debug__" : Str)) = false := by decide) : DE X ct Γ μ (.Call (.Name x p) [] [] pos) (.ins n (out z)) μ := by
  obtain ⟨o1, o2⟩ := G.ok z hp
  obtain ⟨CX, f, fd, ps, dvs, dus, dds, F, hM, hm, hb, hv, hd, hx⟩ := G.fn.ex
  have od : okDs 0 dds = true := (hd [] fun _ => none).okn
  refine PE.imp (pe_make0 hM F hr hg hm hb hv (hx X rfl rfl) hdb) fun σ H1 Q ⟨F1, A1, r1, q⟩ => ?_
  intro y dx ny nd ne
  have ny2 : upd H1 dx (.own y) y = none := by rw [upd_ne (Ne.symm ne)]; exact ny
  have g1 := r1.m.grow nd (.own y)
  have le1 : Le F1 (upd F1 dx (.own y)) := r1.m.le_grow nd _
  have g2 := g1.push (o := .ins (ct n) dx []) (c := .ins n []) ny2 ⟨g1.sub.free ny2, dx, [], upd_same, rfl, .nil⟩
  have len1 := r1.m.len
  have py : (A1 ++ [y])[μ.length]? = some y := by rw [← len1, List.getElem?_append_right (Nat.le_refl _), Nat.sub_self]; rfl
  refine spD_fr ⟨_, _, μ ++ [.ins n []], .ptr μ.length :: (enc z ++ dds), .val .non, μ ++ [.ins n (out z)], g2, .cons (.ptr py) (by rw [← h]; exact hd _ _), ?_, fun v H2 F2 A2 e2 p2 r2 h2 => ⟨by cases h2; rfl, ?_⟩⟩
  · have hg1 : (μ ++ [Cell.ins n []])[μ.length]? = some (.ins n []) := by rw [List.getElem?_append_right (Nat.le_refl _), Nat.sub_self]; rfl
    have := Fr.one (R := fun ds μ o μ' => ∃ as fs μ0 μ1, μ = μ0 ++ [.ins n []] ∧ ds = .ptr μ0.length :: (as ++ dds) ∧ (∃ a, as = enc a ∧ pre a ∧ fs = out a ∧ μ0 = [] ∧ μ1 = []) ∧ o = .val .non ∧ μ' = μ0 ++ [.ins n fs] ++ μ1) (μ := μ ++ [.ins n []]) (d := .non) (k := μ.length) (c := .ins n []) (c' := .ins n (out z)) (.ptr 0 :: (enc z ++ dds)) hg1 (by simp) rfl rfl (by simp only [okDs, okD, okDs_app, okDs_mono (Nat.zero_le 1) _ o1, okDs_mono (Nat.zero_le 1) _ od]; rfl) rfl o2 ⟨enc z, out z, [], [], rfl, rfl, ⟨z, rfl, hp, rfl, rfl, rfl⟩, rfl, rfl⟩
    simp only [renDs, renD, renDs_app, ren0s _ _ o1, ren0s _ _ od] at this
    rw [List.set_append_right _ _ (Nat.le_refl _), Nat.sub_self] at this
    exact this
  · have py2 := pre_get p2 py
    obtain ⟨u, hu, hf, hmm, hl', rep⟩ := freeze_rep r2 py2 (List.getElem?_concat_length ..) (rfl : frozen (.ins n (out z)) = some (.ins n (out z)))
    obtain ⟨le, r3⟩ := freeze r2 py2 hu hf hmm (List.getElem?_concat_length ..) hl'
    rw [List.set_append_right _ _ (Nat.le_refl _), Nat.sub_self] at r3
    have sc := scoped_of r1.m
    have r4 := Rl0.cut r3 sc
    have pA : A1 <+: A2 := (List.prefix_append _ _).trans p2
    refine q _ H2 _ _ (le1.trans (e2.trans le)) (pre_take pA (by rw [← len1]; exact Nat.le_refl _)) ⟨r4, ?_⟩ (rep.cut (by simp only [okD]; exact okFs_mono (Nat.zero_le _) _ o2))
    have s1 := (r1.s.mono (le1.trans (e2.trans le)) pA).cut (n := μ.length) fun d' hd' d'' e' => by rw [← len1]; exact r1.s.okn d' hd' d'' e'
    exact s1
end
def dtB (K : PySem.W.Frag) (x : Str) : Bool := match K.lookup (He.dflAt (x, some "__init__") 0 K) with
  | some ⟨.type n, _, .seq its _, _⟩ => decide (n = "tuple") && decide (its.size = 0)
  | _ => false
theorem dtB_ok {K : PySem.W.Frag} {x : Str} (h : dtB K x = true) (F : Hp) : SqT K F (He.dflAt (x, some "__init__") 0 K) [] := by
  unfold dtB at h
  split at h
  case h_2 => cases h
  rename_i n dd its m sl found
  obtain ⟨h1, h2⟩ := Bool.and_eq_true_iff.mp h
  have h1 := of_decide_eq_true h1
  have h2 := of_decide_eq_true h2
  subst h1
  refine .inr ⟨_, its, m, found, rfl, rfl, by rw [h2]; exact Nat.zero_le _, ?_⟩
  have : its.toList = [] := by
    apply List.eq_nil_of_length_eq_zero
    simpa using h2
  rw [this]
  exact .nil
/-! ### the head's facts, with the interpreter's own statics in sight (readsIn looks there) -/
def obsYG (n : Nat) (fa : List He.Fa) (fn : List He.DefD) (xb : PySem.W.Frag → Bool) (g : Addr → Option Obj) : He.AlD := obsX fa fn xb (He.frG g (He.asD g n ++ [cStatics]))
def hookY (n : Nat) (fa : List He.Fa) (fn : List He.DefD) (xb : PySem.W.Frag → Bool) : PySem.W.Hook where
  α := He.AlD
  obs := fun s => obsYG n fa fn xb s.heap.get?
  val := fun _ => He.valD fn
  says := fun _ h => ∃ K : PySem.W.Frag, K.In h ∧ SaysX fa fn xb K
  of := fun _ _ e => ⟨_, He.frG_in, e⟩
  keeps := fun _ _ _ ⟨K, hK, c⟩ k => ⟨K, PySem.W.Frag.In.keeps hK k, c⟩
theorem obsYG_eq {n : Nat} {fa : List He.Fa} {fn : List He.DefD} {xb : PySem.W.Frag → Bool} {g : Addr → Option Obj} {s : Shared} (h : ∀ a, g a = s.heap.get? a) : obsYG n fa fn xb g = (hookY n fa fn xb).obs s := by
  have e : g = s.heap.get? := funext h
  rw [e] <;> rfl
end DL

/-! # zip of two tuples of one length, strict=True -/
namespace ZS
open PySem PySem.Spec PyProof.Rows
/-- the zip object at z over the tuples at a and b: its iterators at p and q stand at i, its own pair at t holds (u, v) -/
structure On (h : Heap) (z r t p q a b : Addr) (i : Nat) (own u v : Value) : Prop where
  rec_ : h.get? z = some { cls := .type "zip", dict := none, data := .fields #[own, .bool false, .bool true, .ref r, .ref t], slots := #[] }
  its : IsPair h r (.ref p) (.ref q)
  pair : IsPair h t u v
  one : h.IsTupleIter p a i
  two : h.IsTupleIter q b i
/-- what no turn touches -/
def Rest (z t p q : Addr) (h h' : Heap) : Prop := ∀ c o, c ≠ z → c ≠ t → c ≠ p → c ≠ q → h.get? c = some o → h'.get? c = some o
theorem Rest.trans {z t p q : Addr} {h1 h2 h3 : Heap} (x : Rest z t p q h1 h2) (y : Rest z t p q h2 h3) : Rest z t p q h1 h3 := fun c o e1 e2 e3 e4 e => y c o e1 e2 e3 e4 (x c o e1 e2 e3 e4 e)
theorem Rest.of {z t p q x : Addr} {h h' : Heap} (e : Heap.ExtBut x h h') (hx : x = z ∨ x = t ∨ x = p ∨ x = q) : Rest z t p q h h' := fun c o e1 e2 e3 e4 f => e c o (by rcases hx with r | r | r | r <;> rw [r] <;> assumption) f
theorem Rest.more {z t p q : Addr} {h h' : Heap} (k : ∀ c o, h.get? c = some o → h'.get? c = some o) : Rest z t p q h h' := fun c o _ _ _ _ e => k c o e
section
variable {prog : Program} {w : World} {A : Around} {E : Value → Shared → Prop} {s : Shared}
/-- one draw of a tuple's iterator, told or ended -/
theorem draw {it l : Addr} {i : Nat} {items : Array Value} {Q : Option Value → Shared → Prop} (no : A.handled = none) (hi : s.heap.IsTupleIter it l i) (hl : s.heap.IsTuple l items)
    (some_ : ∀ x h', items[i]? = some x → h'.IsTupleIter it l (i + 1) → Heap.SameBut it s.heap h' → Q (some x) { s with heap := h' })
    (none_ : ∀ h', items[i]? = none → Heap.ExtBut it s.heap h' → Q none { s with heap := h' }) : wpAny (model prog w) A (Builtin.SmallTypes.nextOrEnd (.ref it)) Q E s := by
  unfold Builtin.SmallTypes.nextOrEnd
  cases e : items[i]? with
  | some x => exact wpAny_bind (wpAny_attempt (RZ.nextOf_tuple_item hi hl e fun h' j k => wpAny_pure (some_ x h' e j k)))
  | none =>
    refine wpAny_bind (wpAny_attempt (RZ.nextOf_tuple_end no hi hl e fun h' x k ⟨o, ho, hc⟩ => ?_))
    exact wpAny_bind (wpAny_isInstance (T := "StopIteration") (b := true) ⟨o, ho, hc⟩ isSubtype_stop (wpAny_pure (none_ h' e k)))
theorem stopped {α : Type} {Q : α → Shared → Prop} (no : A.handled = none) (out : ∀ h' x, (∀ c o, s.heap.get? c = some o → h'.get? c = some o) → (∃ o, h'.get? x = some o ∧ o.cls = .type "StopIteration") → E (.ref x) { s with heap := h' }) :
    wpAny (model prog w) A (Builtin.SmallTypes.stopIteration (α := α)) Q E s := by
  unfold Builtin.SmallTypes.stopIteration
  refine wpAny_bind ?_
  simp only [newExc, newTuple]
  refine wpAny_bind (wpAny_newObj_type (wpAny_bind (m := firstArgMember _ _) (wpAny_of_eq (a := Value.none) (by first | rfl | (simp only [firstArgMember]; rfl)) (wpAny_newObj_type ?_ (by size_fits)))) (by size_fits))
  simp only [raiseNew]
  refine wpAny_bind (wpAny_handled ?_)
  rw [no]
  exact wpAny_bind (wpAny_pure (wpAny_throw (out _ _ (fun c o e => Heap.get?_push_of_some _ (Heap.get?_push_of_some _ e)) ⟨_, Heap.get?_push_size _ rfl, rfl⟩)))
variable {z r t p q a b : Addr} {i : Nat} {u v : Value} {xs ys : Array Value}
/-- the turn: a new pair is told, or all is at its end -/
theorem turn (no : A.handled = none) (D : ZipApart z r t p q a b) (S : On s.heap z r t p q a b i .none u v) (ha : s.heap.IsTuple a xs) (hb : s.heap.IsTuple b ys) (len : xs.size = ys.size) {Q : PySem.Fin → Shared → Prop}
    (go : ∀ x y h', xs[i]? = some x → ys[i]? = some y → On h' z r t p q a b (i + 1) (rawInt s.heap.objs.size) x y → IsPair h' s.heap.objs.size x y → h'.objs.size = s.heap.objs.size + 1 → Rest z t p q s.heap h' → Q (.done (.ret (.ref s.heap.objs.size))) { s with heap := h' })
    (stop : ∀ h' e, xs.size ≤ i → Rest z t p q s.heap h' → (∃ o, h'.get? e = some o ∧ o.cls = .type "StopIteration") → E (.ref e) { s with heap := h' }) : wpAny (model prog w) A (Builtin.«zip.__next__» ⟨[.ref z], []⟩) Q E s := by
  refine wpAny_bind (m := field (.ref z) 2) (wpAny_field S.rec_ rfl (x := .bool true) rfl ?_)
  refine wpAny_bind (m := field (.ref z) 3) (wpAny_field S.rec_ rfl (x := .ref r) rfl (wpAny_bind (wpAny_seqItems S.its rfl ?_)))
  refine wpAny_bind (m := Builtin.SmallTypes.ownedTupleIsFree (.ref z)) (wpAny_bind (m := field (.ref z) 0) (wpAny_field S.rec_ rfl (x := .none) rfl (wpAny_pure ?_)))
  simp only [if_true]
  refine wpAny_bind (wpAny_rule (wpAny_bind (wpAny_field S.rec_ rfl (x := .ref t) rfl (wpAny_bind (wpAny_setField_rec S.rec_ (by simp) fun g1 z1 k1 => ?_)))))
  have S1 : On g1 z r t p q a b i .ellipsis u v := ⟨z1, k1.extBut _ _ D.TIz S.its, k1.extBut _ _ D.TOz S.pair, S.one.extBut k1.extBut D.i1z, S.two.extBut k1.extBut D.i2z⟩
  have a1 := ha.extBut k1.extBut D.l1z
  have b1 := hb.extBut k1.extBut D.l2z
  have r1 : Rest z t p q s.heap g1 := .of k1.extBut (.inl rfl)
  refine wpAny_bind ?_
  simp only [List.zipIdx_cons, List.zipIdx_nil, List.forIn_cons, List.forIn_nil]
  refine wpAny_bind (wpAny_bind (wpAny_onRaise ?_))
  refine draw no S1.one a1 (fun x g2 hx p2 k2 => ?_) (fun g2 hx k2 => ?_)
  · have t2 : IsPair g2 t u v := k2.extBut _ _ D.TOi1 S1.pair
    refine wpAny_bind (wpAny_seqItems t2 rfl (wpAny_bind (wpAny_updateSeq_pair t2 fun g3 t3 k3 => wpAny_bind (wpAny_letGo (wpAny_pure ?_)))))
    replace t3 : IsPair g3 t x v := t3
    refine wpAny_bind (wpAny_bind (wpAny_onRaise ?_))
    refine draw no ((S1.two.extBut k2.extBut D.i12.symm).extBut k3.extBut D.TOi2.symm) ((b1.extBut k2.extBut D.l2i1).extBut k3.extBut D.l2TO) (fun y g4 hy q4 k4 => ?_) (fun g4 hy k4 => ?_)
    · have t4 : IsPair g4 t x v := k4.extBut _ _ D.TOi2 t3
      refine wpAny_bind (wpAny_seqItems t4 rfl (wpAny_bind (wpAny_updateSeq_pair t4 fun g5 t5 k5 => wpAny_bind (wpAny_letGo (wpAny_pure (wpAny_pure ?_))))))
      replace t5 : IsPair g5 t x y := t5
      refine wpAny_bind (wpAny_seqItems t5 rfl (wpAny_bind (wpAny_newTuple ?_)))
      have size5 : g5.objs.size = s.heap.objs.size := by rw [k5.1, k4.1, k3.1, k2.1, k1.1]
      have z5 : g5.get? z = _ := k5.extBut _ _ D.TOz.symm (k4.extBut _ _ D.i2z.symm (k3.extBut _ _ D.TOz.symm (k2.extBut _ _ D.i1z.symm S1.rec_)))
      have r5 : Rest z t p q s.heap g5 := r1.trans ((Rest.of k2.extBut (.inr (.inr (.inl rfl)))).trans ((Rest.of k3.extBut (.inr (.inl rfl))).trans ((Rest.of k4.extBut (.inr (.inr (.inr rfl)))).trans (Rest.of k5.extBut (.inr (.inl rfl))))))
      have p5 : g5.IsTupleIter p a (i + 1) := ((p2.extBut k3.extBut D.TOi1.symm).extBut k4.extBut D.i12).extBut k5.extBut D.TOi1.symm
      have q5 : g5.IsTupleIter q b (i + 1) := q4.extBut k5.extBut D.TOi2.symm
      have below : z < g5.objs.size := Heap.lt_size z5
      refine wpAny_bind (m := Builtin.SmallTypes.ownedTupleHandOut (.ref z) (.ref g5.objs.size)) ?_
      unfold Builtin.SmallTypes.ownedTupleHandOut
      have zp : (g5.push { cls := .type "tuple", data := .seq #[x, y] }).get? z = _ := Heap.get?_push_of_some _ z5
      refine wpAny_bind (wpAny_setField_rec zp (by simp) fun g6 z6 k6 => wpAny_setField_rec z6 (by simp) fun g7 z7 k7 => wpAny_pure ?_)
      have up : ∀ c o, c ≠ z → (g5.push { cls := .type "tuple", data := .seq #[x, y] }).get? c = some o → g7.get? c = some o := fun c o n e => k7.extBut _ _ n (k6.extBut _ _ n e)
      have upk : ∀ c o, c ≠ z → g5.get? c = some o → g7.get? c = some o := fun c o n e => up c o n (Heap.get?_push_of_some _ e)
      have size7 : g7.objs.size = s.heap.objs.size + 1 := by rw [k7.1, k6.1, Heap.size_push, size5]
      have new : IsPair g7 g5.objs.size x y := up _ _ (Nat.ne_of_gt below) (Heap.get?_push_size _ rfl)
      have z8 : g7.get? z = some { cls := .type "zip", dict := none, data := .fields #[rawInt g5.objs.size, .bool false, .bool true, .ref r, .ref t], slots := #[] } := z7
      have its5 : IsPair g5 r (.ref p) (.ref q) := k5.extBut _ _ D.TITO (k4.extBut _ _ D.TIi2 (k3.extBut _ _ D.TITO (k2.extBut _ _ D.TIi1 S1.its)))
      rw [size5] at new z8
      show Q (.done (.ret (.ref g5.objs.size))) _
      rw [size5]
      exact go x y g7 hx hy ⟨z8, upk _ _ D.TIz its5, upk _ _ D.TOz t5, p5.at fun o e => upk _ o D.i1z e, q5.at fun o e => upk _ o D.i2z e⟩ new size7 (r5.trans fun c o n _ _ _ e => upk c o n e)
    · have h1 : i < xs.size := by
        by_cases h : i < xs.size
        · exact h
        · rw [Array.getElem?_eq_none (by omega)] at hx; cases hx
      rw [Array.getElem?_eq_getElem (by omega)] at hy
      cases hy
  · have z2 : g2.get? z = _ := k2 _ _ D.i1z.symm S1.rec_
    have short : xs.size ≤ i := by
      by_cases h : i < xs.size
      · rw [Array.getElem?_eq_getElem h] at hx; cases hx
      · omega
    refine wpAny_bind (wpAny_setField_rec z2 (by simp) fun g3 z3 k3 => wpAny_bind (wpAny_bind ?_))
    simp only [List.drop_succ_cons, List.drop_zero, List.zipIdx_cons, List.zipIdx_nil, List.forIn_cons, List.forIn_nil]
    refine wpAny_bind (wpAny_bind (draw no ((S1.two.extBut k2 D.i12.symm).extBut k3.extBut D.i2z) ((b1.extBut k2 D.l2i1).extBut k3.extBut D.l2z) (fun y g4 hy q4 k4 => ?_) (fun g4 hy k4 => ?_)))
    · rw [Array.getElem?_eq_none (by omega)] at hy
      cases hy
    simp only [Option.isSome_none, Bool.false_eq_true, if_false]
    refine wpAny_pure (wpAny_pure (wpAny_bind (wpAny_rule (stopped no fun g5 e k5 he => ?_))))
    exact stop g5 e short (r1.trans ((Rest.of k2 (.inr (.inr (.inl rfl)))).trans ((Rest.of k3.extBut (.inl rfl)).trans ((Rest.of k4 (.inr (.inr (.inr rfl)))).trans (Rest.more k5))))) he
theorem pyNext_ (no : A.handled = none) (D : ZipApart z r t p q a b) (S : On s.heap z r t p q a b i .none u v) (ha : s.heap.IsTuple a xs) (hb : s.heap.IsTuple b ys) (len : xs.size = ys.size) {Q : Option Value → Shared → Prop}
    (go : ∀ x y h', xs[i]? = some x → ys[i]? = some y → On h' z r t p q a b (i + 1) (rawInt s.heap.objs.size) x y → IsPair h' s.heap.objs.size x y → h'.objs.size = s.heap.objs.size + 1 → Rest z t p q s.heap h' → Q (some (.ref s.heap.objs.size)) { s with heap := h' })
    (stop : ∀ h', xs.size ≤ i → Rest z t p q s.heap h' → Q none { s with heap := h' }) : wpAny (model prog w) A (pyNext (.ref z)) Q E s := by
  have ty : s.TypeIs (.ref z) "zip" := ⟨_, S.rec_, rfl⟩
  unfold pyNext
  refine wpAny_bind (wpAny_attempt (wpAny_callSpecial?_slot (name := Str.ofString "__next__") ty F.slot_zip_next (wpAny_call_entry F.slot_zip_next ty F.entry_zip_next
    (turn (A := A.in1) (show A.in1.handled = none from no) D S ha hb len (fun x y h' e1 e2 o n k m => ⟨_, rfl, wpAny_pure (go x y h' e1 e2 o n k m)⟩) fun h' e sh m ⟨o, ho, hc⟩ => ?_) (F.args_zip_next_1 _))))
  exact wpAny_bind (wpAny_isInstance (T := "StopIteration") (b := true) ⟨o, ho, hc⟩ isSubtype_stop (wpAny_pure (stop h' sh m)))
/-- the pair is let go -/
theorem letGo_ {elts : List Expr} {k : Nat} {pos : Pos} {T : Addr} {Q : Unit → Shared → Prop} (S : On s.heap z r t p q a b i (rawInt T) u v) (D : ZipApart z r t p q a b)
    (h : ∀ h', On h' z r t p q a b i .none u v → Heap.SameBut z s.heap h' → Q () { s with heap := h' }) : wpAny (model prog w) A (letOwnedTupleGo (.Tuple elts k pos) (.ref z) (.ref T)) Q E s := by
  unfold letOwnedTupleGo
  refine wpAny_bind (wpAny_load S.rec_ ?_)
  have yes : (["enumerate", "zip", "dict_itemiterator", "dict_reverseitemiterator", "odict_iterator", "itertools.zip_longest", "itertools.pairwise"].contains "zip" && (#[rawInt T, .bool false, .bool true, .ref r, .ref t] : Array Value)[0]? == some (rawInt T)) = true := by simp
  refine (show wpAny _ _ (if (["enumerate", "zip", "dict_itemiterator", "dict_reverseitemiterator", "odict_iterator", "itertools.zip_longest", "itertools.pairwise"].contains "zip" && (#[rawInt T, .bool false, .bool true, .ref r, .ref t] : Array Value)[0]? == some (rawInt T)) = true then _ else _) Q E s from ?_)
  rw [if_pos yes]
  refine wpAny_bind (wpAny_rule ?_)
  refine (show wpAny _ _ (setField (.ref z) 0 .none) Q E s from wpAny_setField_rec S.rec_ (by simp) fun h' z' k => h h' ⟨z', k.extBut _ _ D.TIz S.its, k.extBut _ _ D.TOz S.pair, S.one.extBut k.extBut D.i1z, S.two.extBut k.extBut D.i2z⟩ k)
theorem iter_ {own : Value} {Q : Value → Shared → Prop} (S : On s.heap z r t p q a b i own u v) (h : Q (.ref z) s) : wpAny (model prog w) A (pyIter (.ref z)) Q E s := by
  have ty : s.TypeIs (.ref z) "zip" := ⟨_, S.rec_, rfl⟩
  exact wpAny_pyIter_slot ty F.slot_zip_iter (wpAny_call_entry F.slot_zip_iter ty F.entry_zip_iter (wpAny_pure (a := PySem.Fin.done (.ret (.ref z))) ⟨_, rfl, "zip", _, ty, F.slot_zip_next.lookup, h⟩) (F.args_zip_iter_1 _))
end
/-! ### the call -/
abbrev kw1 : List (Str × Value) := [("strict", .bool true)]
theorem typeCall_ (a b : Value) : checkTypeCall "zip" ⟨[a, b], kw1⟩ = pure () := by kernel_rfl
theorem newCall_ (a b : Value) : checkBuiltinCall "zip.__new__" ⟨[.type "zip", a, b], kw1⟩ = pure () := by kernel_rfl
theorem initCall_ (o a b : Value) : argsOk "object.__init__" ⟨[o, a, b], kw1⟩ := by
  unfold argsOk; rw [signature?_of (id := "object.__init__") (n := ['_', '_', 't', 'i', 'n', 'i', '_', '_']) (o := ['t', 'c', 'e', 'j', 'b', 'o']) (by kernel_rfl) F.owner_object]; kernel_rfl
theorem init_ {o a b : Value} : Meets (Builtin.«object.__init__» ⟨[o, a, b], kw1⟩) (fun _ R s => s.TypeIs o "zip" ∧ R (.ok (.ret .none)) s) := by
  refine Meets.of_wp fun prog w A R s ⟨ty, h⟩ => ?_
  have hl := F.called_zip.init.lookup
  have hm := F.called_zip.made
  repeat (any_goals (first | assumption | wp_step))
  exact ⟨_, rfl, h⟩
/-- what zip(a, b, strict=True) lays, one by one -/
abbrev lay1 (h : Heap) (a : Addr) : Heap := h.push { cls := .type "tuple_iterator", data := .fields #[.ref a, .int 0 0] }
abbrev lay2 (h : Heap) (a b : Addr) : Heap := lay1 (lay1 h a) b
abbrev lay3 (h : Heap) (a b : Addr) : Heap := (lay2 h a b).push { cls := .type "tuple", data := .seq #[.ref h.objs.size, .ref (lay1 h a).objs.size] }
abbrev lay4 (h : Heap) (a b : Addr) : Heap := (lay3 h a b).push { cls := .type "tuple", data := .seq #[.none, .none] }
abbrev lay5 (h : Heap) (a b : Addr) : Heap := (lay4 h a b).push { cls := .type "zip", data := .fields #[.none, .bool false, .bool true, .ref (lay2 h a b).objs.size, .ref (lay3 h a b).objs.size] }
theorem new_ (a b : Addr) (xs ys : Array Value) : Meets (Builtin.«zip.__new__» ⟨[.type "zip", .ref a, .ref b], kw1⟩) (fun _ R s => s.heap.IsTuple a xs ∧ s.heap.IsTuple b ys ∧ R (.ok (.ret (.ref (lay4 s.heap a b).objs.size))) { s with heap := lay5 s.heap a b }) :=
  .of_wp fun prog w A R s ⟨h1, h2, h⟩ => by
    obtain ⟨hp, g, d, tk, os⟩ := s
    have sub := sub_zip
    have L1 : Heap.IsTuple (Shared.heap ⟨hp, g, d, tk, os⟩) a xs := h1
    have L2 : Heap.IsTuple (Shared.heap ⟨lay1 hp a, g, d, tk, os⟩) b ys := Heap.IsTuple.push h2 _
    wp_walk using wpAny_pyIter_tuple L1, wpAny_pyIter_tuple L2
    exact ⟨_, rfl, h⟩
theorem laid {h : Heap} {a b : Addr} : On (lay5 h a b) (h.objs.size + 4) (h.objs.size + 2) (h.objs.size + 3) h.objs.size (h.objs.size + 1) a b 0 .none .none .none ∧ (lay4 h a b).objs.size = h.objs.size + 4 ∧ (∀ c o, h.get? c = some o → (lay5 h a b).get? c = some o) := by
  have n1 : (lay1 h a).objs.size = h.objs.size + 1 := Heap.size_push ..
  have n2 : (lay2 h a b).objs.size = h.objs.size + 2 := by rw [Heap.size_push, n1]
  have n3 : (lay3 h a b).objs.size = h.objs.size + 3 := by rw [Heap.size_push, n2]
  have n4 : (lay4 h a b).objs.size = h.objs.size + 4 := by rw [Heap.size_push, n3]
  have o4 : (lay5 h a b).get? (lay4 h a b).objs.size = some _ := Heap.get?_push_size _ rfl
  have o3 : (lay5 h a b).get? (lay3 h a b).objs.size = some _ := Heap.get?_push_of_some _ (Heap.get?_push_size _ rfl)
  have o2 : (lay5 h a b).get? (lay2 h a b).objs.size = some _ := Heap.get?_push_of_some _ (Heap.get?_push_of_some _ (Heap.get?_push_size _ rfl))
  have o1 : (lay5 h a b).get? (lay1 h a).objs.size = some _ := Heap.get?_push_of_some _ (Heap.get?_push_of_some _ (Heap.get?_push_of_some _ (Heap.get?_push_size _ rfl)))
  have o0 : (lay5 h a b).get? h.objs.size = some _ := Heap.get?_push_of_some _ (Heap.get?_push_of_some _ (Heap.get?_push_of_some _ (Heap.get?_push_of_some _ (Heap.get?_push_size _ rfl))))
  rw [n4, n2, n3] at o4
  rw [n3] at o3
  rw [n2, n1] at o2
  rw [n1] at o1
  exact ⟨⟨o4, o2, o3, ⟨_, o0, rfl, rfl⟩, ⟨_, o1, rfl, rfl⟩⟩, n4, fun c o e => Heap.get?_push_of_some _ (Heap.get?_push_of_some _ (Heap.get?_push_of_some _ (Heap.get?_push_of_some _ (Heap.get?_push_of_some _ e))))⟩
section
variable {prog : Program} {w : World} {A : Around} {E : Value → Shared → Prop} {s : Shared} {a b : Addr} {xs ys : Array Value}
theorem call_ {Q : Value → Shared → Prop} (ha : s.heap.IsTuple a xs) (hb : s.heap.IsTuple b ys)
    (h : ∀ h', On h' (s.heap.objs.size + 4) (s.heap.objs.size + 2) (s.heap.objs.size + 3) s.heap.objs.size (s.heap.objs.size + 1) a b 0 .none .none .none → (∀ c o, s.heap.get? c = some o → h'.get? c = some o) → Q (.ref (s.heap.objs.size + 4)) { s with heap := h' }) :
    wpAny (model prog w) A (call (.type "zip") [.ref a, .ref b] kw1) Q E s := by
  have C := F.called_zip
  obtain ⟨c, tl, hmro⟩ := C.mro
  have hmade := C.made
  have hsub := C.sub
  have h1 := C.notType
  have h2 := C.canCreate
  have hct := typeCall_ (.ref a) (.ref b)
  refine wpAny_call (codeAny_of_tree (show wpAny _ _ (callAny (.type "zip") _) _ _ _ from wpAny_pure ⟨Code.quiet_builtin _ (by decide +kernel), codeAny_builtin F.entry_type_call ?_⟩))
  rw [Around.under_plain (weight_type_call_type "zip" _ kw1) (units_type_call_type "zip" _ kw1)]
  repeat (any_goals (first | assumption | wp_step))
  have told : wants (fun o s1 => s1.TypeIs o "zip" ∧ Q o s1) E (.ok (.ret (.ref (lay4 s.heap a b).objs.size))) { s with heap := lay5 s.heap a b } := by
    obtain ⟨S, n, k⟩ := laid (h := s.heap) (a := a) (b := b)
    rw [n]
    exact ⟨⟨_, S.rec_, rfl⟩, h _ S k⟩
  refine codeAny_mono (codeAny_call_builtin C.plain F.entry_zip_new (wpAny_of_eq (newCall_ _ _) (new_ a b xs ys prog w A.in1 (wants (fun o s1 => s1.TypeIs o "zip" ∧ Q o s1) E) s ⟨ha, hb, told⟩))) fun res s1 end_ => ?_
  rcases res with e | fl
  · exact end_
  rcases fl with _ | _ | _ | o
  all_goals first
    | exact False.elim end_
    | skip
  obtain ⟨ty, q⟩ := end_
  have hli := C.init.lookup
  have hbi := C.init.bind o
  repeat (any_goals (first | assumption | wp_step))
  refine codeAny_mono (codeAny_call_builtin C.init.plain F.entry_object_init (C.init.check _ _ _ _ _ _ _ _ ty (initCall_ _ _ _) (init_ prog w A.in1 (wants (fun v s2 => v = .none ∧ Q o s2) E) s1 ⟨ty, rfl, q⟩))) fun res s2 end_ => ?_
  rcases res with e | fl
  · exact end_
  rcases fl with _ | _ | _ | v
  all_goals first
    | exact False.elim end_
    | skip
  obtain ⟨rfl, q⟩ := end_
  repeat (any_goals (first | assumption | wp_step))
end
/-! ### the loop -/
open L2
/-- the tuples at a and b, of one length; the items come in new pairs -/
def It2 (K : PySem.W.Frag) (a b : Addr) : It :=
  ⟨fun i H => ∃ (xs ys : List V) (x y : V), SqT K H a xs ∧ SqT K H b ys ∧ xs.length = ys.length ∧ xs[i]? = some x ∧ ys[i]? = some y,
    fun i H o H' => ∃ T x y, o = .ref T ∧ H T = none ∧ H' = upd H T (.tup [x, y]) ∧ (∀ xs, SqT K H a xs → xs[i]? = some x) ∧ ∀ ys, SqT K H b ys → ys[i]? = some y,
    fun i H => ∃ xs ys : List V, SqT K H a xs ∧ SqT K H b ys ∧ xs.length = ys.length ∧ xs.length ≤ i⟩
theorem On.mem {h : Heap} {z r t p q a b c : Addr} {i : Nat} {own u v : Value} (S : On h z r t p q a b i own u v) (hc : c ∈ [z, r, t, p, q]) : ∃ o, h.get? c = some o ∧ ∀ v, o.data ≠ .cell v := by
  have e : c = z ∨ c = r ∨ c = t ∨ c = p ∨ c = q := by simpa using hc
  obtain ⟨o1, e1, -, d1⟩ := S.one
  obtain ⟨o2, e2, -, d2⟩ := S.two
  rcases e with rfl | rfl | rfl | rfl | rfl
  · exact ⟨_, S.rec_, fun v x => nomatch x⟩
  · exact ⟨_, S.its, fun v x => nomatch x⟩
  · exact ⟨_, S.pair, fun v x => nomatch x⟩
  · exact ⟨o1, e1, fun v x => by rw [d1] at x; cases x⟩
  · exact ⟨o2, e2, fun v x => by rw [d2] at x; cases x⟩
theorem turns {P : Program} {w : World} {K : PySem.W.Frag} {elts : List Expr} {kk : Nat} {tpos : Pos} {a b z r t p q : Addr} (D : ZipApart z r t p q a b) :
    Turn P w K (.Tuple elts kk tpos) (It2 K a b) [z, r, t, p, q] z (fun i h => ∃ u v, On h z r t p q a b i .none u v) where
  mem := List.mem_cons_self
  obj := fun i h ⟨u, v, S⟩ c hc => S.mem hc
  keep := fun i h h' ⟨u, v, S⟩ k => ⟨u, v, k z (by simp) _ S.rec_, k r (by simp) _ S.its, k t (by simp) _ S.pair, S.one.at fun o e => k p (by simp) o e, S.two.at fun o e => k q (by simp) o e⟩
  item := by
    rintro X rfl rfl rfl hc i pins s σ H E I hf ⟨u, v, S⟩ ⟨xs, ys, x, y, hx, hy, len, ex, ey⟩
    obtain ⟨its, rv, pa, _⟩ := I.tuple hx
    obtain ⟨its2, rv2, pb, _⟩ := I.tuple hy
    obtain ⟨cx, hcx, rx⟩ := rv.get ex
    obtain ⟨cy, hcy, ry⟩ := rv2.get ey
    have l1 := rv.length
    have l2 := rv2.length
    refine pyNext_ (I.ok.hd hc) D S pa pb (by simp; omega) (fun x' y' h' e1 e2 S' new sz rest => ?_) (fun h' sh _ => ?_)
    · rw [show its.toArray[i]? = its[i]? by simp, hcx] at e1
      rw [show its2.toArray[i]? = its2[i]? by simp, hcy] at e2
      cases e1
      cases e2
      refine ⟨_, rfl, letGo_ (s := { s with heap := h' }) S' D fun h'' S'' k => ?_⟩
      have below : ∀ c ∈ [z, r, t, p, q], c < s.heap.objs.size := fun c hcm => by
        obtain ⟨o, ho, _⟩ := S.mem hcm
        exact Heap.lt_size ho
      have nT : h''.get? s.heap.objs.size = some { cls := .type "tuple", data := .seq #[cx, cy] } := (k.2 _ (Nat.ne_of_gt (below z (by simp)))).trans new
      have ok2 : ObjOk X.prog X.w (upd H s.heap.objs.size (.tup [x, y])) h'' s.heap.objs.size (.tup [x, y]) := ⟨by show 2 ≤ sizeLine; decide, [cx, cy], .cons rx (.cons ry .nil), ⟨_, nT, rfl, _, rfl⟩⟩
      have J : Inv X pins σ (upd H s.heap.objs.size (.tup [x, y])) { s with heap := h'' } := I.turnedNew (t' := s.toks) (ch := [z, r, t, p, q]) (fun c o out e => by
        have n : c ≠ z ∧ c ≠ t ∧ c ≠ p ∧ c ≠ q := ⟨fun f => out (by simp [f]), fun f => out (by simp [f]), fun f => out (by simp [f]), fun f => out (by simp [f])⟩
        exact (k.2 c n.1).trans (rest c o n.1 n.2.1 n.2.2.1 n.2.2.2 e)) hf (Nat.le_refl _) ok2
      exact ⟨.ref s.heap.objs.size, _, J, rfl, ⟨_, x, y, rfl, I.hok.fresh (Nat.le_refl _), rfl, fun l hl => by rw [I.tuple_inj hl hx]; exact ex, fun l hl => by rw [I.tuple_inj hl hy]; exact ey⟩, ⟨_, _, S''⟩, fun c hcm => by
        rw [upd_ne (Nat.ne_of_lt (below c hcm))]
        exact (hf c hcm).1⟩
    · exfalso
      have := (List.getElem?_eq_some_iff.mp ex).1
      simp at sh
      omega
  done := by
    rintro X rfl rfl rfl hc i pins s σ H E I hf ⟨u, v, S⟩ ⟨xs, ys, hx, hy, len, over⟩
    obtain ⟨its, rv, pa, _⟩ := I.tuple hx
    obtain ⟨its2, rv2, pb, _⟩ := I.tuple hy
    have l1 := rv.length
    have l2 := rv2.length
    refine pyNext_ (I.ok.hd hc) D S pa pb (by simp; omega) (fun x' y' h' e1 e2 S' new sz rest => ?_) (fun h' sh rest => ⟨rfl, I.turnedL (t' := s.toks) (ch := [z, r, t, p, q]) (fun c o out e => ?_) hf⟩)
    · exfalso
      rw [show its.toArray[i]? = its[i]? by simp, List.getElem?_eq_none (by omega)] at e1
      cases e1
    · exact rest c o (fun f => out (by simp [f])) (fun f => out (by simp [f])) (fun f => out (by simp [f])) (fun f => out (by simp [f])) e
  self := fun A i s Q E ⟨u, v, S⟩ h => iter_ S h
def tI2 (K : PySem.W.Frag) (ta : TA) : TI := fun σ H R => ta σ H fun vs H1 => ∃ a b xs ys, vs = [.ref a, .ref b] ∧ SqT K H1 a xs ∧ SqT K H1 b ys ∧ R (It2 K a b) H1
/-- zip(a, b, strict=True) -/
theorem pi_ {X : Cx} {e e2 : Expr} {ta : TA} {p pos tpos kp cp : Pos} {elts : List Expr} {kk j : Nat} (hg : Gl X "zip") (hm : X.mg "zip" = none) (ha : PA X [e, e2] ta) (hs : starEach [e, e2] X.env = (false, eval e X.env) :: starEach [e2] X.env := by rfl)
    (hpl : ((backTo pos (starEach [e, e2] X.env)).any (·.1) || (backToKw pos (keywordEach [⟨some "strict", .Constant (.bool true) j cp, kp⟩] X.env)).any (·.1.isNone)) = false := by rfl) :
    PI X (.Tuple elts kk tpos) (.Call (.Name "zip" p) [e, e2] [⟨some "strict", .Constant (.bool true) j cp, kp⟩] pos) (tI2 X.K ta) := by
  refine ⟨fun pins s σ H R I h => ?_⟩
  refine wpAny_Call_Name_kw (ld_blt I hg hm PyProof.Rows.boot_zip (PySem.W.callWith_of (P := fun _ => True) hpl (fun _ _ => ⟨.machine, .inr (.inl rfl), PySem.W.Looks.of_pure rfl⟩) (evalArgs_kw2 rfl (thn (ha.run pos pins s σ H _ I h) fun us s1 ⟨vs, H1, I1, r1, a, b, xs, ys, ev, hx, hy, q⟩ => ?_) hs)))
  subst ev
  refine kws_cons (pe_bl.run (X := X) pins s1 σ H1 (fun x H2 => x = .bl true ∧ H2 = H1) I1 ⟨rfl, rfl⟩ |> fun g => thn g fun v s2 ⟨x, H2, I2, rx, ex, eh⟩ => ?_)
  subst ex eh
  obtain rfl : v = Value.bool true := rx
  refine kws_nil ⟨trivial, ?_⟩
  cases r1 with
  | cons ra rr =>
    cases rr with
    | cons rb rr =>
      cases rr
      cases ra
      cases rb
      obtain ⟨its, rv, pa, _⟩ := I2.tuple hx
      obtain ⟨its2, rv2, pb, _⟩ := I2.tuple hy
      obtain ⟨o1, ho1, _⟩ := id pa
      obtain ⟨o2, ho2, _⟩ := id pb
      refine call_ (show s2.heap.IsTuple a its.toArray from pa) (show s2.heap.IsTuple b its2.toArray from pb) fun h' S k => iter_ S ?_
      refine ⟨_, [s2.heap.objs.size + 4, s2.heap.objs.size + 2, s2.heap.objs.size + 3, s2.heap.objs.size, s2.heap.objs.size + 1], _, _, _, rfl, I2.kept (t' := s2.toks) k, turns (PySem.W.ktu_apart s2.heap.objs.size a b (Heap.lt_size ho1) (Heap.lt_size ho2)), ⟨_, _, S⟩, fun c hcm => ?_, q⟩
      have up : s2.heap.objs.size ≤ c := by
        have e' : c = s2.heap.objs.size + 4 ∨ c = s2.heap.objs.size + 2 ∨ c = s2.heap.objs.size + 3 ∨ c = s2.heap.objs.size ∨ c = s2.heap.objs.size + 1 := by simpa using hcm
        rcases e' with f | f | f | f | f <;> rw [f] <;> first | exact Nat.le_add_right _ _ | exact Nat.le_refl _
      exact I2.fpOk up (I2.hok.fresh up)
end ZS
namespace DL
open PySem PySem.Spec PyProof.Rows L2
def zipD : List D → List D → List D
  | x :: xs, y :: ys => .tup [x, y] :: zipD xs ys
  | _, _ => []
theorem zipD_len : ∀ {xs ys : List D}, xs.length = ys.length → (zipD xs ys).length = xs.length
  | [], [], _ => rfl
  | _ :: _, _ :: _, h => congrArg (· + 1) (zipD_len (Nat.succ.inj h))
theorem zipD_get : ∀ {xs ys : List D} {i : Nat} {d : D}, (zipD xs ys)[i]? = some d → ∃ x y, xs[i]? = some x ∧ ys[i]? = some y ∧ d = .tup [x, y]
  | [], _, _, _, h => by simp [zipD] at h
  | _ :: _, [], _, _, h => by simp [zipD] at h
  | x :: _, y :: _, 0, _, h => ⟨x, y, rfl, rfl, (Option.some.inj h).symm⟩
  | _ :: xs, _ :: ys, i + 1, _, h => zipD_get (xs := xs) (ys := ys) (i := i) h
section
variable {X : Cx} {ct : Nat → Addr} {Γ : Gm} {μ μ1 : Mu} {xs ys : List D} {e e2 : Expr} {p pos : Pos}
theorem walkD_zip {K : PySem.W.Frag} {a b : Addr} {vs ws : List V} {F1 : Hp} {A1 : List Addr} (s : SqT K F1 a vs) (r : Reps K ct A1 F1 vs xs) (s2 : SqT K F1 b ws) (r2 : Reps K ct A1 F1 ws ys) (len : xs.length = ys.length) : WalkD K ct (ZS.It2 K a b) (zipD xs ys) F1 A1 where
  goes := fun i H F hi e sb => by
    rw [zipD_len len] at hi
    have h1 : i < vs.length := by rw [r.len]; exact hi
    have h2 : i < ws.length := by rw [r2.len, ← len]; exact hi
    exact ⟨vs, ws, vs[i], ws[i], sqT_sub sb (e.t s), sqT_sub sb (e.t s2), by rw [r.len, r2.len]; exact len, by simp [h1], by simp [h2]⟩
  stops := fun H F e sb => ⟨vs, ws, sqT_sub sb (e.t s), sqT_sub sb (e.t s2), by rw [r.len, r2.len]; exact len, by rw [zipD_len len, r.len]; exact Nat.le_refl _⟩
  yields := fun i H F A μ v H' d hd e p m y => by
    obtain ⟨T, x, y, rfl, hT, rfl, hx, hy⟩ := y
    obtain ⟨dx, dy, h1, h2, rfl⟩ := zipD_get hd
    obtain ⟨u1, hu1, ru1⟩ := r.get h1
    obtain ⟨u2, hu2, ru2⟩ := r2.get h2
    have e1 := hx vs (sqT_sub m.sub (e.t s))
    have e2 := hy ws (sqT_sub m.sub (e.t s2))
    rw [hu1] at e1
    rw [hu2] at e2
    cases e1
    cases e2
    exact ⟨_, m.le_grow hT _, m.grow hT _, .tup (SqT.of upd_same) (.cons (ru1.mono (e.trans (m.le_grow hT _)) p) (.cons (ru2.mono (e.trans (m.le_grow hT _)) p) .nil))⟩
theorem di_zip {tpos kp cp : Pos} {elts : List Expr} {kk j : Nat} (hm : X.mg "zip" = none) (ha : DA X ct Γ μ [e, e2] [.tup xs, .tup ys] μ1) (len : xs.length = ys.length) (hg : Gl X "zip" := by rfl) (hs : starEach [e, e2] X.env = (false, eval e X.env) :: starEach [e2] X.env := by rfl)
    (hpl : ((backTo pos (starEach [e, e2] X.env)).any (·.1) || (backToKw pos (keywordEach [⟨some "strict", .Constant (.bool true) j cp, kp⟩] X.env)).any (·.1.isNone)) = false := by rfl) :
    DI X ct (.Tuple elts kk tpos) (.Call (.Name "zip" p) [e, e2] [⟨some "strict", .Constant (.bool true) j cp, kp⟩] pos) Γ μ (zipD xs ys) μ1 :=
  PI.imp (ZS.pi_ hg hm (PA.bd ha) hs hpl) fun σ H R ⟨F, A, r, q⟩ => ⟨F, A, r, fun v H' F' A' e p r' rr bd => by
    obtain ⟨v1, v2, rfl, h1, h2⟩ := reps2 rr
    cases h1 with
    | tup s1 rs1 =>
      cases h2 with
      | tup s2 rs2 =>
        have s1' := sqT_sub r'.m.sub s1
        have s2' := sqT_sub r'.m.sub s2
        exact ⟨_, _, _, _, rfl, s1', s2', q _ H' F' A' e p r' (walkD_zip s1 rs1 s2 rs2 len) (by rw [zipD_len len, ← rs1.len]; exact bd _ _ (.inr s1'))⟩⟩
end
end DL

namespace DL
open PySem PySem.Spec PyProof.Rows L2
/-- b is not c, both bools -/
theorem o2_isntB {X : Cx} {ct : Nat → Addr} {μ : Mu} {i j : Bool} : O2 X ct (compareOp .IsNot) μ (.bl i) (.bl j) (.bl (!(i == j))) :=
  o2_of op_isnot_bl fun x y H F A Q q rx ry k => by
    cases rx
    cases ry
    refine ⟨i, j, rfl, rfl, ?_⟩
    rw [show decide (i = j) = (i == j) by cases i <;> cases j <;> rfl]
    exact k _ H F (.refl _) q (.bl _)
theorem rep1 {α : Type} (x : α) : ∀ n : Nat, (List.replicate n [x]).flatten = List.replicate n x
  | 0 => rfl
  | n + 1 => by rw [List.replicate_succ, List.flatten_cons, rep1 x n]; rfl
end DL

/-! # The law's own state, plain -/
namespace Lw
open PySem PySem.Spec PyProof.Rows L2 DL
/-! ### pairs by a whole number -/
def aget {β : Type} (l : List (Int × β)) (u : Int) : Option β := (l.find? fun p => decide (p.1 = u)).map (·.2)
def aput {β : Type} (l : List (Int × β)) (u : Int) (v : β) : List (Int × β) := if (l.any fun p => decide (p.1 = u)) = true then l.map (fun p => if p.1 = u then (p.1, v) else p) else l ++ [(u, v)]
def adel {β : Type} (l : List (Int × β)) (u : Int) : List (Int × β) := l.filter fun p => decide (p.1 ≠ u)
def kvD {β : Type} (f : β → D) (l : List (Int × β)) : List (Key × D) := l.map fun p => (.inl p.1, f p.2)
theorem inl_eq (a b : Int) : decide ((Sum.inl a : Key) = Sum.inl b) = decide (a = b) := by simp
theorem dget_kv {β : Type} (f : β → D) (u : Int) : ∀ l : List (Int × β), dget (kvD f l) (.inl u) = (aget l u).map f
  | [] => rfl
  | p :: l => by
    have ih := dget_kv f u l
    unfold dget aget kvD at *
    simp only [List.map_cons, List.find?_cons, inl_eq]
    cases h : decide (p.1 = u) with
    | true => rfl
    | false => exact ih
theorem dput_kv {β : Type} (f : β → D) (u : Int) (v : β) (l : List (Int × β)) : dput (kvD f l) (.inl u) (f v) = kvD f (aput l u v) := by
  unfold dput aput kvD
  simp only [List.any_map, Function.comp_def, inl_eq]
  split
  · simp only [List.map_map]
    apply List.map_congr_left
    intro p _
    simp only [Function.comp_def]
    by_cases h : p.1 = u
    · simp [h]
    · simp [h]
  · simp
theorem ddrop_kv {β : Type} (f : β → D) (u : Int) : ∀ l : List (Int × β), ddrop (kvD f l) (.inl u) = kvD f (adel l u)
  | [] => rfl
  | p :: l => by
    have ih := ddrop_kv f u l
    unfold ddrop adel kvD at *
    by_cases h : p.1 = u
    · simp [List.filter_cons, h]; simpa using ih
    · simp [List.filter_cons, h]; simpa using ih
theorem kvD_len {β : Type} (f : β → D) (l : List (Int × β)) : (kvD f l).length = l.length := by simp [kvD]
theorem kvD_keys {β : Type} (f : β → D) (l : List (Int × β)) : (kvD f l).map (·.1) = (l.map (·.1)).map Sum.inl := by simp [kvD]
theorem ok_kv {β : Type} (n : Nat) (f : β → D) (h : ∀ b, okD n (f b) = true) (l : List (Int × β)) : okKs n (kvD f l) = true := by
  rw [okKs_all]; simp [kvD, h]
theorem ok_map {α : Type} (n : Nat) (f : α → D) (h : ∀ b, okD n (f b) = true) (l : List α) : okDs n (l.map f) = true := by
  rw [okDs_all]; simp [h]
theorem aput_len {β : Type} (l : List (Int × β)) (u : Int) (v : β) : (aput l u v).length ≤ l.length + 1 := by
  unfold aput; split <;> simp
theorem adel_len {β : Type} (l : List (Int × β)) (u : Int) : (adel l u).length ≤ l.length := List.length_filter_le _ _
theorem enumD_map {α : Type} (f : α → D) (l : List α) : enumD (l.map f) = l.zipIdx.map fun p => D.tup [.int (p.2 : Nat), f p.1] := by
  apply List.ext_getElem?
  intro i
  unfold enumD
  rw [List.getElem?_map, List.getElem?_map, List.getElem?_zipIdx]
  by_cases h : i < l.length
  · simp [h]
  · rw [List.getElem?_eq_none (by simp; omega), List.getElem?_eq_none (by omega : l.length ≤ i)]; rfl
/-! ### events -/
inductive Ev where
  | pass
  | act (w : Str) (u : Int)
deriving DecidableEq
def Ev.D : Ev → D
  | .pass => .tup [.str "pass"]
  | .act w u => .tup [.str w, .int u]
def Ev.isPass : Ev → Bool
  | .pass => true
  | .act _ _ => false
theorem ok_ev (n : Nat) (e : Ev) : okD n e.D = true := by cases e <;> rfl
/-! ### the state -/
structure LS where
  us : List (Int × (Int × Int))
  kp : List (Option (Int × Int))
  ct : List Int
def prD (p : Int × Int) : D := .tup [.int p.1, .int p.2]
def kpD : Option (Int × Int) → D
  | none => .non
  | some p => prD p
def LS.D (s : LS) : D := .tup [.dic (kvD prD s.us), .lst (s.kp.map kpD), .lst (s.ct.map .int)]
theorem ok_pr (n : Nat) (p : Int × Int) : okD n (prD p) = true := rfl
theorem ok_kp (n : Nat) (p : Option (Int × Int)) : okD n (kpD p) = true := by cases p <;> rfl
theorem ok_ls (n : Nat) (s : LS) : okD n s.D = true := by
  unfold LS.D
  simp only [okD, okDs, ok_kv n prD (ok_pr n), ok_map n kpD (ok_kp n), ok_map n D.int (fun _ => rfl)]
  rfl
structure LS.Sz (s : LS) (n : Nat) : Prop where
  us : s.us.length ≤ n
  kp : s.kp.length ≤ n
  ct : s.ct.length ≤ n
def lbegun (n : Int) : LS := ⟨[], List.replicate n.toNat none, []⟩
def isKept (u : Int) : Option (Int × Int) → Bool
  | none => false
  | some p => decide (p.1 = u)
def kseats (kp : List (Option (Int × Int))) (u : Int) : List Int := (kp.zipIdx.filter fun p => isKept u p.1).map fun p => ((p.2 : Nat) : Int)
def kseat (kp : List (Option (Int × Int))) (u : Int) : Option Int := (kseats kp u).head?
def frees (kp : List (Option (Int × Int))) : List Int := (kp.zipIdx.filter fun p => p.1.isNone).map fun p => ((p.2 : Nat) : Int)
def oiD : Option Int → D
  | none => .non
  | some i => .int i
/-- the rule's numbers -/
structure RL where
  s : Int
  l : Int
  b : Int
  g : Int
  t : Int
def RL.gv (r : RL) : D := .tup [.int r.s, .int r.l, .int r.b, .int r.g, .int r.t]
def lateU (r : RL) (s : LS) (u : Int) : Bool := match aget s.us u with
  | some q => decide (r.g + r.t ≤ q.2) || (!decide (u ∈ s.ct) && decide (r.b + r.t ≤ q.2))
  | none => false
def lcan (r : RL) (s : LS) : Ev → Bool
  | .pass => (s.us.map (·.1)).all fun u => !lateU r s u
  | .act w u =>
    bif decide (w = "cut") || decide (w = "join") then decide (u ∈ s.ct) == decide (w = "join")
    else bif decide (w = "borrow") then (!(aget s.us u).isSome && !decide (u ∈ s.ct))
    else bif (!(aget s.us u).isSome || ((decide (w = "word") || decide (w = "back")) && decide (u ∈ s.ct))) then false
    else (!decide (w = "stop") || decide (r.g ≤ ((aget s.us u).getD (0, 0)).2))
def older (us : List (Int × (Int × Int))) (acc : List (Int × (Int × Int))) (u : Int) : List (Int × (Int × Int)) := match aget us u with
  | some q => aput acc u (q.1, q.2 + 1)
  | none => acc
def keptOn (r : RL) : Option (Int × Int) → Option (Int × Int)
  | none => none
  | some p => if p.2 + 1 = r.l then none else some (p.1, p.2 + 1)
def lostOf (r : RL) : Option (Int × Int) → List Int
  | none => []
  | some p => if p.2 + 1 = r.l then [p.1] else []
def lmoment (r : RL) (s : LS) : LS × List Int := (⟨(s.us.map (·.1)).foldl (older s.us) [], s.kp.map (keptOn r), s.ct⟩, s.kp.flatMap (lostOf r))
def lfaults (r : RL) (s : LS) (met : List Str) : List Str :=
  let seats := (s.us.map (·.1)).map fun u => ((aget s.us u).getD (0, 0)).1
  sortS (met ++ (bif decide (r.s < seats.length) then (["over"] : List Str) else []) ++ (bif (seats.filter fun q => decide (1 < ((seats.count q : Nat) : Int))).isEmpty then [] else (["twice"] : List Str)))
def lbehind (r : RL) (s : LS) : Ev → LS × List Str
  | .pass =>
    let m := lmoment r s
    let bad := m.2.filter fun u => (aget m.1.us u).isSome && !decide (u ∈ m.1.ct)
    (m.1, lfaults r m.1 (bif bad.isEmpty then [] else (["taken"] : List Str)))
  | .act w u =>
    let seat := kseat s.kp u
    let free := frees s.kp
    bif decide (w = "borrow") && (seat.isNone && free.isEmpty) then (s, lfaults r s (bif decide ((s.us.length : Int) < r.s) then (["waits"] : List Str) else []))
    else bif decide (w = "borrow") || (decide (w = "word") && seat.isSome) then
      let q := seat.getD (free.headD 0)
      let s' : LS := ⟨aput s.us u (q, 0), s.kp.set q.toNat (some (u, 0)), s.ct⟩
      (s', lfaults r s' [])
    else bif decide (w = "cut") then (⟨s.us, s.kp, s.ct ++ [u]⟩, lfaults r ⟨s.us, s.kp, s.ct ++ [u]⟩ [])
    else bif decide (w = "join") then (⟨s.us, s.kp, s.ct.filter fun o => !decide (o = u)⟩, lfaults r ⟨s.us, s.kp, s.ct.filter fun o => !decide (o = u)⟩ [])
    else
      let s' : LS := ⟨adel s.us u, bif decide (w = "back") && seat.isSome then s.kp.set (seat.getD 0).toNat none else s.kp, s.ct⟩
      (s', lfaults r s' [])
theorem kseats_lt {kp : List (Option (Int × Int))} {u i : Int} (h : i ∈ kseats kp u) : 0 ≤ i ∧ i.toNat < kp.length := by
  unfold kseats at h
  rw [List.mem_map] at h
  obtain ⟨p, hp, rfl⟩ := h
  have := (List.mem_filter.mp hp).1
  rw [List.mem_zipIdx_iff_getElem?] at this
  have := (List.getElem?_eq_some_iff.mp this).1
  exact ⟨by omega, by omega⟩
theorem frees_lt {kp : List (Option (Int × Int))} {i : Int} (h : i ∈ frees kp) : 0 ≤ i ∧ i.toNat < kp.length := by
  unfold frees at h
  rw [List.mem_map] at h
  obtain ⟨p, hp, rfl⟩ := h
  have := (List.mem_filter.mp hp).1
  rw [List.mem_zipIdx_iff_getElem?] at this
  have := (List.getElem?_eq_some_iff.mp this).1
  exact ⟨by omega, by omega⟩
theorem aget_mem {β : Type} {l : List (Int × β)} {u : Int} (h : u ∈ l.map (·.1)) : ∃ v, aget l u = some v := by
  unfold aget
  cases q : l.find? fun p => decide (p.1 = u) with
  | some p => exact ⟨_, rfl⟩
  | none =>
    rw [List.find?_eq_none] at q
    rw [List.mem_map] at h
    obtain ⟨p, hp, e⟩ := h
    exact absurd e (by simpa using q p hp)
/-! ### the box of draws -/
def boxC (b : Int × Int) : Cell := .lst [.int b.1, .int b.2]
def BoxOk (b : Int × Int) : Prop := 0 ≤ b.1 ∧ 0 ≤ b.2 ∧ b.2 ≤ 2147483647
def tk1 (b : Int × Int) : Int := (b.2 * 48271 + 40031) % 2147483647
def tk (l : Int) (b : Int × Int) : Int := bif decide (0 < b.1) then b.1 % l else (tk1 b / 64) % l
def tkN (l : Int) (b : Int × Int) : Int × Int := bif decide (0 < b.1) then (b.1 / l, b.2) else (b.1, tk1 b)
theorem tk_lt {l : Int} {b : Int × Int} (h : 0 < l) : 0 ≤ tk l b ∧ tk l b < l := by
  unfold tk
  cases decide (0 < b.1)
  · exact ⟨Int.emod_nonneg _ (by omega), Int.emod_lt_of_pos _ h⟩
  · exact ⟨Int.emod_nonneg _ (by omega), Int.emod_lt_of_pos _ h⟩
theorem tkN_ok {l : Int} {b : Int × Int} (h : 0 < l) (hb : BoxOk b) : BoxOk (tkN l b) := by
  unfold tkN
  cases q : decide (0 < b.1)
  · refine ⟨hb.1, ?_, ?_⟩
    · exact Int.emod_nonneg _ (by decide)
    · have := Int.emod_lt_of_pos (b.2 * 48271 + 40031) (by decide : (0 : Int) < 2147483647)
      show tk1 b ≤ _
      unfold tk1; omega
  · exact ⟨Int.ediv_nonneg hb.1 (by omega), hb.2.1, hb.2.2⟩
def seed1 (k : Int) (s one : Int) : Int := (s * 16807 + (if one < 0 then -one else one) % 2147483629 + k) % 2147483647
def cellOf (sc : List Int) (k : Nat) : Int := match sc[k]? with
  | some x => if x < 0 then -x else x
  | none => 0
def seedOf (sc : List Int) (k : Nat) (own : Int) : Int := (sc.take 40).foldl (seed1 k) (100279 * own + 7741 * k + 37)
def boxOf (sc : List Int) (k : Nat) (own : Int) : Int × Int := (bif decide (10 ^ 18 ≤ cellOf sc k) then cellOf sc k else 0, seedOf sc k own + 1)
theorem seed_fold (k : Int) : ∀ (l : List Int) (s : Int), (0 ≤ s ∧ s < 2147483647) → 0 ≤ l.foldl (seed1 k) s ∧ l.foldl (seed1 k) s < 2147483647
  | [], s, h => h
  | x :: l, s, _ => seed_fold k l _ ⟨Int.emod_nonneg _ (by decide), Int.emod_lt_of_pos _ (by decide)⟩
theorem boxOf_ok {sc : List Int} {k : Nat} {own : Int} (hk : k ≤ 100) (ho : 0 ≤ own) (ho2 : own ≤ 1000) : BoxOk (boxOf sc k own) := by
  have h := seed_fold k (sc.take 40) (100279 * own + 7741 * k + 37) ⟨by omega, by omega⟩
  have h' : 0 ≤ seedOf sc k own ∧ seedOf sc k own < 2147483647 := h
  refine ⟨?_, ?_, ?_⟩
  · show 0 ≤ bif decide (10 ^ 18 ≤ cellOf sc k) then cellOf sc k else 0
    cases q : decide (10 ^ 18 ≤ cellOf sc k)
    · exact Int.le_refl _
    · have := of_decide_eq_true q
      show 0 ≤ cellOf sc k
      omega
  · show 0 ≤ seedOf sc k own + 1; omega
  · show seedOf sc k own + 1 ≤ _; omega
end Lw

/-! # Rules of use in the law's text -/
namespace DL
open PySem PySem.Spec PyProof.Rows L2
theorem toPys_ints : ∀ l : List Int, toPys (l.map D.int) = some (l.map PyData.int)
  | [] => by simp [toPys]
  | i :: l => by simp [toPys, toPy, toPys_ints l]
theorem canLay_ints : ∀ l : List Int, PyData.canLayAll0 (l.map PyData.int) = true
  | [] => by simp [PyData.canLayAll0]
  | i :: l => by simp [PyData.canLayAll0, PyData.canLay0, canLay_ints l]
theorem depth_ints : ∀ l : List Int, PyData.depthAll (l.map PyData.int) = 0
  | [] => by simp [PyData.depthAll]
  | i :: l => by simp [PyData.depthAll, PyData.depth, depth_ints l]
theorem shaped_ints (l : List Int) : SeqAt.shaped (.list (l.map PyData.int)) = true := by
  unfold SeqAt.shaped
  simp [PyData.canLay0, PyData.depth, canLay_ints, depth_ints]
section
variable {X : Cx} {ct : Nat → Addr} {Γ Γ1 Γ2 Γ3 : Gm} {μ μ1 μ2 μ3 μ4 : Mu} {d da db dc d1 d2 : D} {ds l : List D} {e a b c o o2 a2 tg iter : Expr} {es tgs : List Expr} {body rest : List Stmt} {pos p pt : Pos} {x f m : Str} {k k' : Bool} {P : P4}
theorem o2_eqNil {l : List Int} (hu : X.A.units + 64 < cLine) : O2 X ct (compareOp .Eq) μ (.lst (l.map .int)) (.lst []) (.bl l.isEmpty) := by
  have h := o2_eqD (X := X) (ct := ct) (μ := μ) (da := .lst (l.map .int)) (db := .lst []) hu (by simp only [toPy, toPys_ints]; rfl) (by simp only [toPy, toPys]; rfl) (shaped_ints l) (shaped_ints [])
  rw [List.map_nil, show PyData.eqv (.list (l.map PyData.int)) (.list []) = l.isEmpty by cases l <;> simp [PyData.eqv, PyData.eqvAll]] at h
  exact h
theorem o2_neNil {l : List Int} (hu : X.A.units + 64 < cLine) : O2 X ct (compareOp .NotEq) μ (.lst (l.map .int)) (.lst []) (.bl (!l.isEmpty)) := by
  have h := o2_neD (X := X) (ct := ct) (μ := μ) (da := .lst (l.map .int)) (db := .lst []) hu (by simp only [toPy, toPys_ints]; rfl) (by simp only [toPy, toPys]; rfl) (shaped_ints l) (shaped_ints [])
  rw [List.map_nil, show PyData.eqv (.list (l.map PyData.int)) (.list []) = l.isEmpty by cases l <;> simp [PyData.eqv, PyData.eqvAll]] at h
  exact h
/-- a loop over a frozen dict's keys -/
theorem ds_forKJ {S : Type} {kds : List (Key × D)} (as : List Int) (hk : kds.map (·.1) = as.map Sum.inl) (hz : kds.length ≤ sizeLine) (Gf : S → Gm) (Mf : S → Mu) (J : List Int → S → Prop) (hi : DPath X ct iter Γ μ kds) (h0 : ∃ s0, GLe (Gf s0) Γ ∧ μ = Mf s0 ∧ J as s0)
    (hs : ∀ a r s, J (a :: r) s → ∃ l, DG X ct tg (.int a) l ∧ DSs X ct body (setG (Gf s) l) (Mf s) { nx := fun Γ μ => ∃ s', GLe (Gf s') Γ ∧ μ = Mf s' ∧ J r s', ct := fun Γ μ => ∃ s', GLe (Gf s') Γ ∧ μ = Mf s' ∧ J r s', bk := fun Γ μ => DSs X ct rest Γ μ P, rt := P.rt })
    (hd : ∀ s, J [] s → DSs X ct rest (Gf s) (Mf s) P) (hc : X.calm = true := by rfl) (hp : PassesOwn (model X.prog X.w) X.A X.env X.xe := by exact PassesOwn.never) (hfs : ∀ x, foldedSetIterable iter X.env x = pure x := by intro _; rfl) : DSs X ct (.For tg iter body [] pos :: rest) Γ μ P := by
  have hl : kds.length = as.length := by have := congrArg List.length hk; simpa using this
  have hk2 : (kds.map fun kv => keyDat kv.1) = as.map D.int := by
    rw [show (kds.map fun kv => keyDat kv.1) = (kds.map (·.1)).map keyDat by simp, hk]; simp [keyDat]
  refine ds_forK hp hc hz hi (fun i Γ' μ' => ∃ s, Γ' = Gf s ∧ μ' = Mf s ∧ J (as.drop i) s) ?_ (fun i d Γ' μ' hx hI => ?_) (fun Γ' μ' hI => ?_) hfs
  · obtain ⟨s0, g, rfl, j⟩ := h0
    exact ⟨_, g, s0, rfl, rfl, j⟩
  · obtain ⟨s, rfl, rfl, j⟩ := hI
    rw [hk2, List.getElem?_map, Option.map_eq_some_iff] at hx
    obtain ⟨z, hz, rfl⟩ := hx
    obtain ⟨hlt, e⟩ := List.getElem?_eq_some_iff.mp hz
    rw [List.drop_eq_getElem_cons hlt, e] at j
    obtain ⟨l, g, b⟩ := hs z _ s j
    exact ⟨l, g, ds_imp b (fun Γ μ ⟨s', h1, h2, h3⟩ => ⟨_, h1, s', rfl, h2, h3⟩) (fun _ _ h => h) (fun _ _ h => h) (fun Γ μ ⟨s', h1, h2, h3⟩ => ⟨_, h1, s', rfl, h2, h3⟩)⟩
  · obtain ⟨s, rfl, rfl, j⟩ := hI
    rw [hl, List.drop_length] at j
    exact hd s j
end
theorem InD.w2 {μ : Mu} {w a b : Str} : InD μ (.str w) (.tup [.str a, .str b]) (decide (w = a) || decide (w = b)) := by
  have h : InD μ (.str w) (.tup [.str a, .str b]) ([D.str a, D.str b].any fun y => eqF y (.str w)) := .seq rfl rfl rfl
  have e : ([D.str a, D.str b].any fun y => eqF y (.str w)) = (decide (w = a) || decide (w = b)) := by
    have q : ∀ x : Str, eqF (.str x) (.str w) = decide (w = x) := fun x => by
      show (x == w) = _
      by_cases hx : w = x
      · subst hx; simp
      · have : ¬ x = w := fun z => hx z.symm
        simp [hx, this]
    simp only [List.any_cons, List.any_nil, q, Bool.or_false]
  rw [e] at h
  exact h
theorem dts_oneE {X : Cx} {ct : Nat → Addr} {Γ : Gm} {μ μ1 : Mu} {c : Expr} {k k' : Bool} (h : DT X ct Γ μ c k μ1) (q : k = k' := by rfl) : DTs X ct [c] Γ μ k' μ1 := q ▸ dts_one h
theorem atI_lt {α : Type} {l : List α} {i : Int} (h0 : 0 ≤ i) (h : i.toNat < l.length) : atI l i = some l[i.toNat] := by
  have := atI_nat (xs := l) (j := i.toNat) (List.getElem?_eq_getElem h)
  rwa [Int.toNat_of_nonneg h0] at this
theorem ixN_lt {n : Nat} {i : Int} (h0 : 0 ≤ i) (h : i.toNat < n) : ixN n i = some i.toNat := by
  unfold ixN
  rw [if_pos h0, if_pos (by omega)]
end DL
namespace Lw
open PySem PySem.Spec PyProof.Rows L2 DL
def evWords : List Str := ["borrow", "word", "cut", "back", "crash", "stop", "join"]
def Ev.Ok : Ev → Prop
  | .pass => True
  | .act w _ => w ∈ evWords
theorem o2_evPass {X : Cx} {ct : Nat → Addr} {μ : Mu} {e : Ev} (hu : X.A.units + 64 < cLine) (ok : e.Ok) : O2 X ct (compareOp .Eq) μ e.D (.tup [.str "pass"]) (.bl e.isPass) := by
  cases e with
  | pass => exact o2_eqD (pa := .tuple [.str "pass"]) (pb := .tuple [.str "pass"]) hu rfl rfl (by decide +kernel) (by decide +kernel)
  | act w u =>
    have h := o2_eqD (X := X) (ct := ct) (μ := μ) (da := .tup [.str w, .int u]) (db := .tup [.str "pass"]) hu rfl rfl (by
      unfold SeqAt.shaped
      simp only [PyData.canLay0, PyData.canLayAll0, PyData.depth, PyData.depthAll]
      have : ∀ w ∈ evWords, PyData.strOk w = true := by decide +kernel
      rw [this w ok]; rfl) (by decide +kernel)
    rw [show PyData.eqv (.tuple [.str w, .int u]) (.tuple [.str "pass"]) = false by simp [PyData.eqv, PyData.eqvAll]] at h
    exact h
end Lw

/-! # Deeds, plain -/
namespace Lw
open PySem PySem.Spec PyProof.Rows L2 DL
theorem older_len (us : List (Int × (Int × Int))) : ∀ (l : List Int) (acc : List (Int × (Int × Int))), (l.foldl (older us) acc).length ≤ acc.length + l.length
  | [], acc => by simp
  | u :: l, acc => by
    have ih := older_len us l (older us acc u)
    have : (older us acc u).length ≤ acc.length + 1 := by
      unfold older
      split
      · exact aput_len _ _ _
      · omega
    simp only [List.foldl_cons, List.length_cons]
    omega
theorem sz_moment {r : RL} {s : LS} {n : Nat} (h : s.Sz n) : (lmoment r s).1.Sz n := by
  refine ⟨?_, by simpa [lmoment] using h.kp, h.ct⟩
  have := older_len s.us (s.us.map (·.1)) []
  have hu := h.us
  show ((s.us.map (·.1)).foldl (older s.us) []).length ≤ n
  simp at this
  omega
theorem LS.Sz.mono {s : LS} {n m : Nat} (h : s.Sz n) (l : n ≤ m) : s.Sz m := ⟨Nat.le_trans h.us l, Nat.le_trans h.kp l, Nat.le_trans h.ct l⟩
theorem sz_behind {r : RL} {s : LS} {n : Nat} (h : s.Sz n) (e : Ev) : (lbehind r s e).1.Sz (n + 1) := by
  cases e with
  | pass => exact (sz_moment h).mono (Nat.le_succ n)
  | act w u =>
    have h' := h.mono (Nat.le_succ n)
    have h1 := h.us
    have h2 := h.ct
    have hp := h'.kp
    simp only [lbehind]
    cases (decide (w = "borrow") && ((kseat s.kp u).isNone && (frees s.kp).isEmpty)) with
    | true => exact h'
    | false =>
      cases (decide (w = "borrow") || decide (w = "word") && (kseat s.kp u).isSome) with
      | true => exact ⟨Nat.le_trans (aput_len _ _ _) (by omega), by simpa using hp, h'.ct⟩
      | false =>
        cases decide (w = "cut") with
        | true => exact ⟨h'.us, hp, by simp; omega⟩
        | false =>
          cases decide (w = "join") with
          | true => exact ⟨h'.us, hp, Nat.le_trans (List.length_filter_le _ _) h'.ct⟩
          | false =>
            refine ⟨Nat.le_trans (adel_len _ _) h'.us, ?_, h'.ct⟩
            show (bif _ then _ else _ : List (Option (Int × Int))).length ≤ n + 1
            cases (decide (w = "back") && (kseat s.kp u).isSome) with
            | true => simpa using hp
            | false => exact hp
def Ev.word : Ev → Str
  | .pass => "pass"
  | .act w _ => w
/-- deeds: a write is an act, too -/
def Ev.OkD (e : Ev) : Prop := e.Ok ∨ ∃ u, e = .act "write" u
def isWrite : Ev → Bool
  | .pass => false
  | .act w _ => decide (w = "write")
def lposs (r : RL) : LS → List Ev → Bool
  | _, [] => true
  | s, e :: es => match e with
    | .act w u => if w = "write" then (if (aget s.us u).isSome = true then lposs r s es else false) else (if lcan r s e = true then lposs r (lbehind r s e).1 es else false)
    | .pass => if lcan r s e = true then lposs r (lbehind r s e).1 es else false
def seatOf (s : LS) (u : Int) : Option Int := (aget s.us u).map (·.1)
def leastF (form : Str) (told newest : Option Int) : Option Int := bif decide (form = "open") then none else bif decide (form = "highest") then told else newest
def ltakes (form : Str) (told newest : Option Int) (ticket : Int) : Bool := match leastF form told newest with
  | none => true
  | some l => decide (l ≤ ticket)
structure Row where
  at_ : Nat
  u : Int
  seat : Int
  tk : Int
  ok : Bool
def Row.D (x : Row) : D := .tup [.int (x.at_ : Nat), .int x.u, .int x.seat, .int x.tk, .bl x.ok]
structure WS where
  s : LS
  tk : List (Int × Int)
  many : Int
  found : List Row
  told : List (Option Int)
  newest : List (Option Int)
  taken : List (Option Int)
def wbegun (r : RL) : WS := ⟨lbegun r.s, [], 0, [], List.replicate r.s.toNat none, List.replicate r.s.toNat none, List.replicate r.s.toNat none⟩
def ogt (t : Int) : Option Int → Bool
  | none => true
  | some x => decide (x < t)
def wwrite (form : Str) (x : WS) (i : Nat) (u : Int) : WS :=
  let seat := ((aget x.s.us u).getD (0, 0)).1
  let ticket := (aget x.tk u).getD 0
  let ok := ltakes form (x.told.getD seat.toNat none) (x.newest.getD seat.toNat none) ticket
  ⟨x.s, x.tk, x.many, x.found ++ [⟨i, u, seat, ticket, ok⟩], x.told.set seat.toNat (bif ogt ticket (x.told.getD seat.toNat none) then some ticket else x.told.getD seat.toNat none), x.newest, x.taken.set seat.toNat (bif ok then some ticket else x.taken.getD seat.toNat none)⟩
def wled (r : RL) (x : WS) (e : Ev) : WS :=
  let s' := (lbehind r x.s e).1
  match e with
  | .pass => ⟨s', x.tk, x.many, x.found, x.told, x.newest, x.taken⟩
  | .act w u => match aget s'.us u with
    | some q => bif decide (w = "borrow") then ⟨s', aput x.tk u x.many, x.many + 1, x.found, x.told, x.newest.set q.1.toNat (some x.many), x.taken⟩ else ⟨s', x.tk, x.many, x.found, x.told, x.newest, x.taken⟩
    | none => ⟨s', x.tk, x.many, x.found, x.told, x.newest, x.taken⟩
def wstep (r : RL) (form : Str) (x : WS) (i : Nat) : Ev → WS
  | .pass => wled r x .pass
  | .act w u => if w = "write" then wwrite form x i u else wled r x (.act w u)
def wsteps (r : RL) (form : Str) : Nat → WS → List Ev → WS
  | _, x, [] => x
  | i, x, e :: es => wsteps r form (i + 1) (wstep r form x i e) es
/-- what the writing needs -/
def seatIn (x : WS) (q : Int) : Prop := 0 ≤ q ∧ q.toNat < x.told.length ∧ q.toNat < x.newest.length ∧ q.toNat < x.taken.length
def wok1 (r : RL) (x : WS) : Ev → Prop
  | .pass => lcan r x.s .pass = true
  | .act w u => if w = "write" then (∃ q, aget x.s.us u = some q ∧ seatIn x q.1) ∧ ∃ t, aget x.tk u = some t
    else w ∈ evWords ∧ lcan r x.s (.act w u) = true ∧ (w = "borrow" → ∀ q, aget (lbehind r x.s (.act w u)).1.us u = some q → seatIn x q.1)
def wok (r : RL) (form : Str) : Nat → WS → List Ev → Prop
  | _, _, [] => True
  | i, x, e :: es => wok1 r x e ∧ wok r form (i + 1) (wstep r form x i e) es
/-! ### what is met -/
structure MS where
  s : LS
  many : Int
  found : List (Str × Int)
  out : List (Int × Int)
  best : List (Int × Int)
def mbegun (r : RL) : MS := ⟨lbegun r.s, 0, [], [], []⟩
def sget (l : List (Str × Int)) (k : Str) : Option Int := (l.find? fun p => decide (p.1 = k)).map (·.2)
def sput (l : List (Str × Int)) (k : Str) (v : Int) : List (Str × Int) := if (l.any fun p => decide (p.1 = k)) = true then l.map (fun p => if p.1 = k then (p.1, v) else p) else l ++ [(k, v)]
def skD (l : List (Str × Int)) : List (Key × D) := l.map fun p => (.inr p.1, .int p.2)
def mkeep (l : List (Str × Int)) (k : Str) (i : Int) : List (Str × Int) := sput l k ((sget l k).getD i)
def mwrite (row : Row) (x : MS) (i : Nat) : MS :=
  let f1 := bif row.ok && decide (row.tk < (aget x.out row.seat).getD 0) then mkeep x.found "late" i else x.found
  let f2 := bif row.ok && decide (row.tk < (aget x.best row.seat).getD 0) then mkeep f1 "back" i else f1
  ⟨x.s, x.many, f2, x.out, aput x.best row.seat (bif row.ok then max ((aget x.best row.seat).getD 0) row.tk else (aget x.best row.seat).getD 0)⟩
def mled (r : RL) (x : MS) (e : Ev) : MS :=
  let s' := (lbehind r x.s e).1
  match e with
  | .pass => ⟨s', x.many, x.found, x.out, x.best⟩
  | .act w u => match aget s'.us u with
    | some q => bif decide (w = "borrow") then ⟨s', x.many + 1, x.found, aput x.out q.1 x.many, x.best⟩ else ⟨s', x.many, x.found, x.out, x.best⟩
    | none => ⟨s', x.many, x.found, x.out, x.best⟩
def rowAt (rows : List Row) (i : Nat) : Row := (rows.filter fun x => decide (x.at_ = i)).headD ⟨0, 0, 0, 0, false⟩
def mstep (r : RL) (rows : List Row) (x : MS) (i : Nat) : Ev → MS
  | .pass => mled r x .pass
  | .act w u => if w = "write" then mwrite (rowAt rows i) x i else mled r x (.act w u)
def msteps (r : RL) (rows : List Row) : Nat → MS → List Ev → MS
  | _, x, [] => x
  | i, x, e :: es => msteps r rows (i + 1) (mstep r rows x i e) es
def mok1 (r : RL) (rows : List Row) (x : MS) (i : Nat) : Ev → Prop
  | .pass => lcan r x.s .pass = true
  | .act w u => if w = "write" then (rows.filter fun x => decide (x.at_ = i)) ≠ [] ∧ ((rowAt rows i).ok = true → (aget x.out (rowAt rows i).seat).isSome = true)
    else w ∈ evWords ∧ lcan r x.s (.act w u) = true
def mok (r : RL) (rows : List Row) : Nat → MS → List Ev → Prop
  | _, _, [] => True
  | i, x, e :: es => mok1 r rows x i e ∧ mok r rows (i + 1) (mstep r rows x i e) es
end Lw

/-! # The program's stand, plain -/
namespace Lw
open PySem PySem.Spec PyProof.Rows L2 DL
structure SD where
  us : List (Int × (Int × Int))
  kp : List (Option (Int × Int))
  ct : List Int
def triK (p : Int × (Int × Int)) : List Int := [p.1, p.2.1, p.2.2]
def triD (p : Int × (Int × Int)) : D := .tup [.int p.1, .int p.2.1, .int p.2.2]
theorem tri_tup : tupK triK = triD := rfl
theorem triK_inj (a b : Int × (Int × Int)) (h : triK a = triK b) : a = b := by
  obtain ⟨a1, a2, a3⟩ := a
  obtain ⟨b1, b2, b3⟩ := b
  simp [triK] at h
  obtain ⟨h1, h2, h3⟩ := h
  rw [h1, h2, h3]
def SD.fs (s : SD) : List (Str × D) := [("using", .tup (s.us.map triD)), ("kept", .tup (s.kp.map kpD)), ("cut", .tup (s.ct.map .int))]
def SD.D (s : SD) : D := .ins 1 s.fs
theorem ok_tri (n : Nat) (p : Int × (Int × Int)) : okD n (triD p) = true := rfl
theorem ok_fs (n : Nat) (s : SD) : okFs n s.fs = true := by
  unfold SD.fs
  simp only [okFs, okD, ok_map n triD (ok_tri n), ok_map n kpD (ok_kp n), ok_map n D.int (fun _ => rfl)]
  rfl
theorem ok_sd (n : Nat) (s : SD) : okD n s.D = true := by
  unfold SD.D
  simp only [okD]
  exact ok_fs n s
structure SD.Sz (s : SD) (n : Nat) : Prop where
  us : s.us.length ≤ n
  kp : s.kp.length ≤ n
  ct : s.ct.length ≤ n
theorem SD.Sz.mono {s : SD} {n m : Nat} (h : s.Sz n) (l : n ≤ m) : s.Sz m := ⟨Nat.le_trans h.us l, Nat.le_trans h.kp l, Nat.le_trans h.ct l⟩
def notU (u : Int) (p : Int × (Int × Int)) : Bool := !decide (p.1 = u)
def kbut (kp : List (Option (Int × Int))) (q : Int) (pr : Option (Int × Int)) : List (Option (Int × Int)) := kp.zipIdx.map fun p => bif decide (((p.2 : Nat) : Int) = q) then pr else p.1
def swith (s : SD) (u q : Int) : SD := ⟨sortK triK (s.us.filter (notU u) ++ [(u, (q, 0))]), kbut s.kp q (some (u, 0)), s.ct⟩
def swithout (s : SD) (u : Int) : SD := ⟨s.us.filter (notU u), s.kp, s.ct⟩
def sfirst (n : Int) : SD := ⟨[], List.replicate n.toNat none, []⟩
def sborrowed (s : SD) (u : Int) : SD × Bool := bif (kseat s.kp u).isNone && (frees s.kp).isEmpty then (s, true) else (swith s u ((kseat s.kp u).getD ((frees s.kp).headD 0)), false)
def sspoken (s : SD) (u : Int) : SD := match kseat s.kp u with
  | none => swithout s u
  | some q => swith s u q
def sgiven (s : SD) (u : Int) : SD := match kseat s.kp u with
  | none => swithout s u
  | some q => ⟨s.us.filter (notU u), kbut s.kp q none, s.ct⟩
def slate (r : RL) (s : SD) (p : Int × (Int × Int)) : Bool := decide (r.g + r.t ≤ p.2.2) || (!decide (p.1 ∈ s.ct) && decide (r.b + r.t ≤ p.2.2))
def scanpass (r : RL) (s : SD) : Bool := s.us.all fun p => !slate r s p
def older1 (p : Int × (Int × Int)) : Int × (Int × Int) := (p.1, (p.2.1, p.2.2 + 1))
def kolder : Option (Int × Int) → Option (Int × Int)
  | none => none
  | some p => some (p.1, p.2 + 1)
def selder (s : SD) : SD := ⟨s.us.map older1, s.kp.map kolder, s.ct⟩
def isLost (r : RL) : Option (Int × Int) → Bool
  | none => false
  | some p => decide (p.2 = r.l)
def klost (r : RL) : Option (Int × Int) → Option (Int × Int)
  | none => none
  | some p => bif decide (p.2 = r.l) then none else some p
def slost (r : RL) (kp : List (Option (Int × Int))) : List Int := (kp.filter (isLost r)).map fun o => (o.getD (0, 0)).1
def staken (r : RL) (l : SD) : List Int := (l.us.filter fun p => decide (p.1 ∈ slost r l.kp) && !decide (p.1 ∈ l.ct)).map (·.1)
def spassed (r : RL) (s : SD) : SD × Bool := (⟨(selder s).us, (selder s).kp.map (klost r), s.ct⟩, decide (0 < (((staken r (selder s)).length : Nat) : Int)))
def spossible (r : RL) (s : SD) : Ev → Bool
  | .pass => scanpass r s
  | .act w u =>
    bif decide (w = "cut") || decide (w = "join") then decide (u ∈ s.ct) == decide (w = "join")
    else bif decide (w = "borrow") then ((aget s.us u).isNone && !decide (u ∈ s.ct))
    else bif decide (w = "word") || decide (w = "back") then ((aget s.us u).isSome && !decide (u ∈ s.ct))
    else ((aget s.us u).isSome && (decide (w = "crash") || decide (r.g ≤ ((aget s.us u).getD (0, 0)).2)))
def sledon (s : SD) (w : Str) (u : Int) : SD :=
  bif decide (w = "word") then sspoken s u
  else bif decide (w = "back") then sgiven s u
  else bif decide (w = "cut") then ⟨s.us, s.kp, sortI (s.ct ++ [u])⟩
  else bif decide (w = "join") then ⟨s.us, s.kp, s.ct.filter fun o => !decide (o = u)⟩
  else swithout s u
def stwice (seats : List Int) : Bool := (seats.map fun q => decide (1 < ((seats.count q : Nat) : Int))).any id
def sfaults (r : RL) (s : SD) : List Str := (bif decide (r.s < (((s.us.map (·.2.1)).length : Nat) : Int)) then (["over"] : List Str) else []) ++ (bif stwice (s.us.map (·.2.1)) then (["twice"] : List Str) else [])
def sbehind (r : RL) (s : SD) : Ev → SD × List Str
  | .pass => ((spassed r s).1, sortS ((bif (spassed r s).2 then (["taken"] : List Str) else []) ++ sfaults r (spassed r s).1))
  | .act w u =>
    bif decide (w = "borrow") then ((sborrowed s u).1, sortS ((bif (sborrowed s u).2 && decide (((s.us.length : Nat) : Int) < r.s) then (["waits"] : List Str) else []) ++ sfaults r (sborrowed s u).1))
    else (sledon s w u, sortS (sfaults r (sledon s w u)))
/-! ### a store -/
structure St3 where
  newest : Option Int
  told : Option Int
  taken : Option Int
def St3.fs (s : St3) : List (Str × D) := [("newest", oiD s.newest), ("told", oiD s.told), ("taken", oiD s.taken)]
def isLess (a : Int) : Option Int → Bool
  | none => false
  | some b => decide (a < b)
def stakes (form : Str) (s : St3) (t : Int) : Bool := bif decide (form = "open") then true else !isLess t (bif decide (form = "highest") then s.told else s.newest)
def swrote (form : Str) (s : St3) (t : Int) : St3 := ⟨s.newest, bif isLess t s.told then s.told else some t, bif stakes form s t then some t else s.taken⟩
end Lw

/-! # The program's stand and the law's state are the same -/
namespace Lw
open PySem PySem.Spec PyProof.Rows L2 DL
/-! ### the order of triples -/
theorem leTb_nil (b : List Int) : leTb [] b = true := by cases b <;> rfl
theorem leTb_cons (x y : Int) (l m : List Int) : leTb (x :: l) (y :: m) = (decide (x < y) || (decide (x = y) && leTb l m)) := by
  unfold leTb
  simp only [List.map_cons]
  rw [PyProof.Rows.lex_cons]
  show (!(decide (y < x) || (!decide (x < y) && PyProof.Rows.lexLt itemOrd (m.map Sum.inl) (l.map Sum.inl)))) = (decide (x < y) || (decide (x = y) && !PyProof.Rows.lexLt itemOrd (m.map Sum.inl) (l.map Sum.inl)))
  by_cases h1 : x < y
  · have : ¬ y < x := by omega
    simp [h1, this]
  · by_cases h2 : x = y
    · subst h2; simp
    · have : y < x := by omega
      simp [h1, h2, this]
theorem le_older (a b : Int × (Int × Int)) : leTb (triK (older1 a)) (triK (older1 b)) = leTb (triK a) (triK b) := by
  unfold triK older1
  simp only [leTb_cons]
  congr 3
  congr 1
  · congr 1
    · rw [decide_eq_decide]; omega
    · congr 1
      rw [decide_eq_decide]; omega
theorem sortK_map {α : Type} (k : α → List Int) (hk : ∀ a b, k a = k b → a = b) (f : α → α) (hf : ∀ a b, leTb (k a) (k b) = true → leTb (k (f a)) (k (f b)) = true) (l : List α) : (sortK k l).map f = sortK k (l.map f) := by
  refine srtK_eq k hk (((sortK_perm k l).map f).trans (sortK_perm k (l.map f)).symm) ?_ (sortK_sorted k _)
  exact List.pairwise_map.mpr ((sortK_sorted k l).imp fun h => hf _ _ h)
theorem sortK_filter {α : Type} (k : α → List Int) (hk : ∀ a b, k a = k b → a = b) (p : α → Bool) (l : List α) : (sortK k l).filter p = sortK k (l.filter p) :=
  srtK_eq k hk (((sortK_perm k l).filter p).trans (sortK_perm k (l.filter p)).symm) ((sortK_sorted k l).filter p) (sortK_sorted k _)
theorem sortK_cong {α : Type} (k : α → List Int) (hk : ∀ a b, k a = k b → a = b) {l m : List α} (p : l.Perm m) : sortK k l = sortK k m :=
  srtK_eq k hk ((sortK_perm k l).trans (p.trans (sortK_perm k m).symm)) (sortK_sorted k _) (sortK_sorted k _)
theorem sortI_cong {l m : List Int} (p : l.Perm m) : sortI l = sortI m := sorted_eq ((sortI_perm l).trans (p.trans (sortI_perm m).symm)) (sortI_sorted l) (sortI_sorted m)
theorem sortI_filter (p : Int → Bool) (l : List Int) : (sortI l).filter p = sortI (l.filter p) := sorted_eq (((sortI_perm l).filter p).trans (sortI_perm _).symm) ((sortI_sorted l).filter p) (sortI_sorted _)
/-! ### dicts with keys once -/
abbrev Keys {β : Type} (l : List (Int × β)) : Prop := (l.map (·.1)).Nodup
theorem aget_mem_iff {β : Type} {l : List (Int × β)} (h : Keys l) {u : Int} {v : β} : aget l u = some v ↔ (u, v) ∈ l := by
  induction l with
  | nil => simp [aget]
  | cons p l ih =>
    have h' : p.1 ∉ l.map (·.1) ∧ Keys l := by simpa [Keys] using h
    by_cases e : p.1 = u
    · have : aget (p :: l) u = some p.2 := by simp [aget, List.find?_cons, e]
      rw [this]
      constructor
      · intro q; cases q; subst e; exact List.mem_cons_self
      · intro q
        rcases List.mem_cons.mp q with q | q
        · rw [← q]
        · exact absurd (List.mem_map.mpr ⟨_, q, e.symm⟩) h'.1
    · have : aget (p :: l) u = aget l u := by simp [aget, List.find?_cons, e]
      rw [this, ih h'.2, List.mem_cons]
      constructor
      · exact .inr
      · rintro (q | q)
        · rw [← q] at e; exact absurd rfl e
        · exact q
theorem aget_perm {β : Type} {l m : List (Int × β)} (p : l.Perm m) (h : Keys l) (u : Int) : aget l u = aget m u := by
  have h' : Keys m := (p.map (·.1)).nodup_iff.mp h
  apply Option.ext
  intro v
  rw [aget_mem_iff h, aget_mem_iff h', p.mem_iff]
theorem aget_none {β : Type} {l : List (Int × β)} {u : Int} : aget l u = none ↔ u ∉ l.map (·.1) := by
  constructor
  · intro h z
    obtain ⟨v, e⟩ := aget_mem z
    rw [h] at e; cases e
  · intro h
    unfold aget
    rw [Option.map_eq_none_iff, List.find?_eq_none]
    intro p hp
    simp only [decide_eq_true_eq]
    intro e
    exact h (List.mem_map.mpr ⟨p, hp, e⟩)
theorem aput_new {β : Type} {l : List (Int × β)} {u : Int} {v : β} (h : u ∉ l.map (·.1)) : aput l u v = l ++ [(u, v)] := by
  unfold aput
  rw [if_neg]
  intro z
  rw [List.any_eq_true] at z
  obtain ⟨p, hp, e⟩ := z
  exact h (List.mem_map.mpr ⟨p, hp, of_decide_eq_true e⟩)
theorem aput_keys {β : Type} {l : List (Int × β)} {u : Int} {v : β} (h : u ∈ l.map (·.1)) : (aput l u v).map (·.1) = l.map (·.1) := by
  unfold aput
  rw [if_pos]
  · rw [List.map_map]
    apply List.map_congr_left
    intro p _
    simp only [Function.comp_def]
    split <;> rfl
  · rw [List.any_eq_true]
    obtain ⟨p, hp, e⟩ := List.mem_map.mp h
    exact ⟨p, hp, decide_eq_true e⟩
theorem Keys.put {β : Type} {l : List (Int × β)} (h : Keys l) (u : Int) (v : β) : Keys (aput l u v) := by
  by_cases z : u ∈ l.map (·.1)
  · show ((aput l u v).map (·.1)).Nodup
    rw [aput_keys z]; exact h
  · rw [aput_new z]
    show ((l ++ [(u, v)]).map (·.1)).Nodup
    rw [List.map_append, List.nodup_append]
    exact ⟨h, by simp, fun a ha b hb e => z (by simp at hb; subst hb; subst e; exact ha)⟩
theorem Keys.filter {β : Type} {l : List (Int × β)} (h : Keys l) (p : Int × β → Bool) : Keys (l.filter p) := List.Nodup.sublist ((List.filter_sublist).map _) h
theorem Keys.del {β : Type} {l : List (Int × β)} (h : Keys l) (u : Int) : Keys (adel l u) := h.filter _
theorem aget_put {β : Type} {l : List (Int × β)} (h : Keys l) (u : Int) (v : β) (w : Int) : aget (aput l u v) w = if w = u then some v else aget l w := by
  have hp := h.put u v
  apply Option.ext
  intro x
  rw [aget_mem_iff hp]
  unfold aput
  by_cases z : (l.any fun p => decide (p.1 = u)) = true
  · rw [if_pos z, List.mem_map]
    by_cases e : w = u
    · subst e
      rw [if_pos rfl]
      constructor
      · rintro ⟨p, hp, q⟩
        by_cases e2 : p.1 = w
        · rw [if_pos e2] at q; cases q; rfl
        · rw [if_neg e2] at q; subst q; exact absurd rfl e2
      · intro q
        cases q
        obtain ⟨p, hp, e2⟩ := List.any_eq_true.mp z
        have e2 := of_decide_eq_true e2
        exact ⟨p, hp, by rw [if_pos e2, e2]⟩
    · rw [if_neg e, aget_mem_iff h]
      constructor
      · rintro ⟨p, hp, q⟩
        by_cases e2 : p.1 = u
        · rw [if_pos e2] at q; cases q; exact absurd e2 e
        · rw [if_neg e2] at q; subst q; exact hp
      · intro q
        exact ⟨_, q, if_neg e⟩
  · rw [if_neg z]
    have z' : u ∉ l.map (·.1) := fun q => z (by
      obtain ⟨p, hp, e⟩ := List.mem_map.mp q
      exact List.any_eq_true.mpr ⟨p, hp, decide_eq_true e⟩)
    rw [List.mem_append]
    by_cases e : w = u
    · subst e
      rw [if_pos rfl]
      constructor
      · rintro (q | q)
        · exact absurd (List.mem_map.mpr ⟨_, q, rfl⟩) z'
        · simp at q; rw [q]
      · intro q; cases q; exact .inr (by simp)
    · rw [if_neg e, aget_mem_iff h]
      constructor
      · rintro (q | q)
        · exact q
        · simp at q; exact absurd q.1 e
      · exact .inl
theorem aget_del {β : Type} {l : List (Int × β)} (h : Keys l) (u w : Int) : aget (adel l u) w = if w = u then none else aget l w := by
  apply Option.ext
  intro x
  rw [aget_mem_iff (h.del u)]
  unfold adel
  rw [List.mem_filter]
  by_cases e : w = u
  · rw [if_pos e]; simp [e]
  · rw [if_neg e, aget_mem_iff h]; simp [e]
/-- one put, apart from the order -/
theorem aput_perm {β : Type} {l : List (Int × β)} (h : Keys l) (u : Int) (v : β) : (aput l u v).Perm (l.filter (fun p => !decide (p.1 = u)) ++ [(u, v)]) := by
  have k2 : Keys (l.filter (fun p => !decide (p.1 = u)) ++ [(u, v)]) := by
    show ((l.filter (fun p => !decide (p.1 = u)) ++ [(u, v)]).map (·.1)).Nodup
    rw [List.map_append, List.nodup_append]
    refine ⟨h.filter _, by simp, fun a ha b hb e => ?_⟩
    simp at hb
    subst hb; subst e
    obtain ⟨p, hp, e2⟩ := List.mem_map.mp ha
    have := (List.mem_filter.mp hp).2
    simp [e2] at this
  have nd : ∀ {m : List (Int × β)}, Keys m → m.Nodup := fun {m} hm => by
    have : m.Pairwise fun a b => a.1 ≠ b.1 := List.pairwise_map.mp hm
    exact this.imp fun h e => h (congrArg _ e)
  rw [List.perm_ext_iff_of_nodup (nd (h.put u v)) (nd k2)]
  rintro ⟨w, x⟩
  rw [← aget_mem_iff (h.put u v), aget_put h, List.mem_append, List.mem_filter]
  by_cases e : w = u
  · subst e
    rw [if_pos rfl]
    simp
    exact eq_comm
  · rw [if_neg e, aget_mem_iff h]
    simp [e]
/-! ### the same stand -/
structure LS.Inv (s : LS) : Prop where
  us : Keys s.us
def toSD (s : LS) : SD := ⟨sortK triK s.us, s.kp, sortI s.ct⟩
theorem toSD_begun (n : Int) : toSD (lbegun n) = sfirst n := rfl
theorem toSD_sz {s : LS} {n : Nat} (h : s.Sz n) : (toSD s).Sz n := ⟨by rw [show (toSD s).us = sortK triK s.us from rfl, sortK_len]; exact h.us, h.kp, by
  rw [show (toSD s).ct = sortI s.ct from rfl, (sortI_perm s.ct).length_eq]; exact h.ct⟩
theorem sget_us {s : LS} (h : s.Inv) (u : Int) : aget (toSD s).us u = aget s.us u := (aget_perm (sortK_perm triK s.us).symm h.us u).symm
theorem smem_ct {s : LS} {u : Int} : (u ∈ (toSD s).ct) = (u ∈ s.ct) := propext (sortI_perm s.ct).mem_iff
theorem all_perm {α : Type} {l m : List α} (p : l.Perm m) (f : α → Bool) : l.all f = m.all f := by
  rw [Bool.eq_iff_iff, List.all_eq_true, List.all_eq_true]
  exact ⟨fun h x hx => h x (p.mem_iff.mpr hx), fun h x hx => h x (p.mem_iff.mp hx)⟩
theorem scanpass_eq {r : RL} {s : LS} (h : s.Inv) : scanpass r (toSD s) = lcan r s .pass := by
  show ((sortK triK s.us).all fun p => !slate r (toSD s) p) = ((s.us.map (·.1)).all fun u => !lateU r s u)
  rw [all_perm (sortK_perm triK s.us), List.all_map]
  rw [Bool.eq_iff_iff, List.all_eq_true, List.all_eq_true]
  have key : ∀ p ∈ s.us, slate r (toSD s) p = lateU r s p.1 := by
    intro p hp
    have e : aget s.us p.1 = some p.2 := (aget_mem_iff h.us).mpr hp
    unfold slate lateU
    rw [e]
    simp only [smem_ct]
  exact ⟨fun q x hx => by have := q x hx; rw [key x hx] at this; exact this, fun q x hx => by rw [key x hx]; exact q x hx⟩
theorem spossible_eq {r : RL} {s : LS} (h : s.Inv) {e : Ev} (ok : e.Ok) : spossible r (toSD s) e = lcan r s e := by
  cases e with
  | pass => exact scanpass_eq h
  | act w u =>
    have ok' : w ∈ evWords := ok
    simp only [evWords, List.mem_cons, List.not_mem_nil, or_false] at ok'
    unfold spossible lcan
    simp only [sget_us h, smem_ct]
    rcases ok' with rfl | rfl | rfl | rfl | rfl | rfl | rfl <;> cases q : aget s.us u <;> simp (decide := true)
theorem kbut_set {kp : List (Option (Int × Int))} {q : Int} {pr : Option (Int × Int)} (h : 0 ≤ q) : kbut kp q pr = kp.set q.toNat pr := by
  apply List.ext_getElem?
  intro i
  unfold kbut
  rw [List.getElem?_map, List.getElem?_zipIdx, List.getElem?_set]
  by_cases e : q.toNat = i
  · have : ((0 + i : Nat) : Int) = q := by omega
    by_cases hl : i < kp.length
    · simp [hl, e, this]
      rw [decide_eq_true (by omega : ((i : Nat) : Int) = q)]; rfl
    · simp [hl, e]
  · have : ¬ ((i : Nat) : Int) = q := by omega
    rw [if_neg e]
    cases kp[i]? <;> simp [this]
theorem swith_eq {s : LS} (h : s.Inv) {u q : Int} (hq : 0 ≤ q) : swith (toSD s) u q = toSD ⟨aput s.us u (q, 0), s.kp.set q.toNat (some (u, 0)), s.ct⟩ := by
  unfold swith toSD
  simp only [SD.mk.injEq]
  refine ⟨?_, kbut_set hq, trivial⟩
  refine sortK_cong triK triK_inj ?_
  rw [sortK_filter triK triK_inj]
  exact ((sortK_perm triK _).append_right _).trans (aput_perm h.us u (q, 0)).symm
theorem adel_filter (l : List (Int × (Int × Int))) (u : Int) : l.filter (notU u) = adel l u := by
  unfold adel notU
  apply List.filter_congr
  intro p _
  by_cases e : p.1 = u <;> simp [e]
theorem swithout_us (s : LS) (u : Int) : (toSD s).us.filter (notU u) = sortK triK (adel s.us u) := by
  show (sortK triK s.us).filter (notU u) = _
  rw [sortK_filter triK triK_inj, adel_filter]
theorem kseat_in {kp : List (Option (Int × Int))} {u q : Int} (h : kseat kp u = some q) : 0 ≤ q ∧ q.toNat < kp.length := by
  unfold kseat at h
  exact kseats_lt (List.mem_of_mem_head? h)
theorem older_fold (us : List (Int × (Int × Int))) (h : Keys us) : ∀ (l acc : List (Int × (Int × Int))), (∀ p ∈ l, p ∈ us) → Keys (acc ++ l) → (l.map (·.1)).foldl (older us) acc = acc ++ l.map older1
  | [], acc, _, _ => by simp
  | p :: l, acc, hl, hk => by
    have e : aget us p.1 = some p.2 := (aget_mem_iff h).mpr (hl p List.mem_cons_self)
    have np : p.1 ∉ acc.map (·.1) := by
      have : ((acc ++ p :: l).map (·.1)).Nodup := hk
      rw [List.map_append, List.nodup_append] at this
      intro z
      exact this.2.2 _ z _ (by simp) rfl
    rw [List.map_cons, List.foldl_cons]
    have e2 : older us acc p.1 = acc ++ [older1 p] := by
      unfold older
      rw [e]
      exact aput_new np
    rw [e2, older_fold us h l _ (fun x hx => hl x (List.mem_cons_of_mem _ hx)) ?_]
    · simp
    · show ((acc ++ [older1 p] ++ l).map (·.1)).Nodup
      have : ((acc ++ p :: l).map (·.1)).Nodup := hk
      simpa [older1] using this
theorem lmoment_us {r : RL} {s : LS} (h : s.Inv) : (lmoment r s).1.us = s.us.map older1 := by
  show (s.us.map (·.1)).foldl (older s.us) [] = _
  rw [older_fold s.us h.us s.us [] (fun _ h => h) (by simpa using h.us)]
  rfl
theorem klost_eq (r : RL) (o : Option (Int × Int)) : klost r (kolder o) = keptOn r o := by
  cases o with
  | none => rfl
  | some p =>
    show (bif decide (p.2 + 1 = r.l) then none else some (p.1, p.2 + 1)) = if p.2 + 1 = r.l then none else some (p.1, p.2 + 1)
    by_cases h : p.2 + 1 = r.l <;> simp [h]
theorem spassed_eq {r : RL} {s : LS} (h : s.Inv) : (spassed r (toSD s)).1 = toSD (lmoment r s).1 := by
  show (⟨(sortK triK s.us).map older1, (s.kp.map kolder).map (klost r), sortI s.ct⟩ : SD) = ⟨sortK triK (lmoment r s).1.us, s.kp.map (keptOn r), sortI s.ct⟩
  simp only [SD.mk.injEq, and_true]
  refine ⟨?_, ?_⟩
  · rw [lmoment_us h, sortK_map triK triK_inj older1 fun a b z => by rw [le_older]; exact z]
  · rw [List.map_map]
    apply List.map_congr_left
    intro o _
    exact klost_eq r o
theorem frees_head {kp : List (Option (Int × Int))} (h : (frees kp).isEmpty = false) : 0 ≤ (frees kp).headD 0 := by
  cases q : frees kp with
  | nil => rw [q] at h; cases h
  | cons a l => exact (frees_lt (by rw [q]; exact List.mem_cons_self)).1
theorem inv_moment {r : RL} {s : LS} (h : s.Inv) : (lmoment r s).1.Inv := ⟨by
  rw [lmoment_us h]
  show ((s.us.map older1).map (·.1)).Nodup
  rw [List.map_map]
  exact h.us⟩
theorem inv_behind {r : RL} {s : LS} (h : s.Inv) (e : Ev) : (lbehind r s e).1.Inv := by
  cases e with
  | pass => exact inv_moment h
  | act w u =>
    simp only [lbehind]
    cases (decide (w = "borrow") && ((kseat s.kp u).isNone && (frees s.kp).isEmpty)) with
    | true => exact h
    | false =>
      cases (decide (w = "borrow") || decide (w = "word") && (kseat s.kp u).isSome) with
      | true => exact ⟨h.us.put _ _⟩
      | false =>
        cases decide (w = "cut") with
        | true => exact ⟨h.us⟩
        | false =>
          cases decide (w = "join") with
          | true => exact ⟨h.us⟩
          | false => exact ⟨h.us.del _⟩
theorem sbehind_eq {r : RL} {s : LS} (h : s.Inv) {e : Ev} (ok : e.Ok) : (sbehind r (toSD s) e).1 = toSD (lbehind r s e).1 := by
  cases e with
  | pass => exact spassed_eq h
  | act w u =>
    have ok' : w ∈ evWords := ok
    simp only [evWords, List.mem_cons, List.not_mem_nil, or_false] at ok'
    have kk : (toSD s).kp = s.kp := rfl
    simp only [sbehind, lbehind, sborrowed, kk]
    by_cases hb : w = "borrow"
    · subst hb
      simp only [decide_true, cond_true, Bool.true_and, Bool.true_or]
      cases hz : ((kseat s.kp u).isNone && (frees s.kp).isEmpty) with
      | true => rfl
      | false =>
        simp only [cond_false]
        refine swith_eq h ?_
        cases hq : kseat s.kp u with
        | some q => exact (kseat_in hq).1
        | none => rw [hq] at hz; exact frees_head hz
    · have e1 : decide (w = "borrow") = false := decide_eq_false hb
      simp only [e1, cond_false, Bool.false_and, Bool.false_or, sledon, sspoken, sgiven, kk]
      have e0 := swithout_us s u
      have d1 : ∀ {a b : Str}, a ≠ b → decide (a = b) = false := fun h => decide_eq_false h
      have plain : swithout (toSD s) u = toSD ⟨adel s.us u, s.kp, s.ct⟩ := by
        show (⟨(toSD s).us.filter (notU u), s.kp, sortI s.ct⟩ : SD) = _
        rw [e0]; rfl
      by_cases hw : w = "word"
      · subst hw
        simp only [decide_true, cond_true, Bool.true_and]
        cases hq : kseat s.kp u with
        | some q => exact swith_eq h (kseat_in hq).1
        | none =>
          simp (decide := true) only [Option.isSome_none, cond_false, Bool.and_false]
          exact plain
      · by_cases hk : w = "back"
        · subst hk
          simp (decide := true) only [decide_true, cond_true, Bool.true_and, cond_false, Bool.false_and]
          cases hq : kseat s.kp u with
          | some q =>
            simp only [Option.isSome_some, cond_true, Option.getD_some]
            show (⟨(toSD s).us.filter (notU u), kbut s.kp q none, sortI s.ct⟩ : SD) = _
            rw [e0, kbut_set (kseat_in hq).1]; rfl
          | none =>
            simp only [Option.isSome_none, cond_false]
            exact plain
        · by_cases hc : w = "cut"
          · subst hc
            simp (decide := true) only [decide_true, cond_true, cond_false, Bool.false_and]
            show (⟨sortK triK s.us, s.kp, sortI (sortI s.ct ++ [u])⟩ : SD) = ⟨sortK triK s.us, s.kp, sortI (s.ct ++ [u])⟩
            rw [sortI_cong ((sortI_perm s.ct).append_right [u])]
          · by_cases hj : w = "join"
            · subst hj
              simp (decide := true) only [decide_true, cond_true, cond_false, Bool.false_and]
              show (⟨sortK triK s.us, s.kp, (sortI s.ct).filter _⟩ : SD) = ⟨sortK triK s.us, s.kp, sortI (s.ct.filter _)⟩
              rw [sortI_filter]
            · simp only [d1 hw, d1 hk, d1 hc, d1 hj, cond_false, Bool.false_and]
              exact plain
end Lw

/-! # Rows of deeds as they are drawn -/
namespace Lw
open PySem PySem.Spec PyProof.Rows L2 DL
theorem kp_behind (r : RL) (s : LS) (e : Ev) : (lbehind r s e).1.kp.length = s.kp.length := by
  cases e with
  | pass => simp [lbehind, lmoment]
  | act w u =>
    simp only [lbehind]
    cases (decide (w = "borrow") && ((kseat s.kp u).isNone && (frees s.kp).isEmpty)) with
    | true => rfl
    | false =>
      cases (decide (w = "borrow") || decide (w = "word") && (kseat s.kp u).isSome) with
      | true => simp
      | false =>
        cases decide (w = "cut") with
        | true => rfl
        | false =>
          cases decide (w = "join") with
          | true => rfl
          | false =>
            cases (decide (w = "back") && (kseat s.kp u).isSome) <;> simp
theorem frees_head_lt {kp : List (Option (Int × Int))} (h : (frees kp).isEmpty = false) : 0 ≤ (frees kp).headD 0 ∧ ((frees kp).headD 0).toNat < kp.length := by
  cases q : frees kp with
  | nil => rw [q] at h; cases h
  | cons a l => exact frees_lt (by rw [q]; exact List.mem_cons_self)
/-- who uses behind an event used before, or is the one who borrows -/
theorem us_behind {r : RL} {s : LS} (inv : s.Inv) {e : Ev} (ok : e.Ok) (can : lcan r s e = true) {v : Int} {q : Int × Int} (h : aget (lbehind r s e).1.us v = some q) :
    (∃ w, e = .act w v ∧ (w = "borrow" ∨ (aget s.us v).isSome = true) ∧ 0 ≤ q.1 ∧ q.1.toNat < s.kp.length) ∨ ∃ q0, aget s.us v = some q0 ∧ q.1 = q0.1 := by
  cases e with
  | pass =>
    right
    have e1 : (lbehind r s .pass).1.us = s.us.map older1 := lmoment_us inv
    rw [e1] at h
    have k : Keys (s.us.map older1) := by
      show ((s.us.map older1).map (·.1)).Nodup
      rw [List.map_map]; exact inv.us
    rw [aget_mem_iff k, List.mem_map] at h
    obtain ⟨p, hp, hq⟩ := h
    have h1 : p.1 = v := congrArg (·.1) hq
    have h2 : (p.2.1, p.2.2 + 1) = q := congrArg (·.2) hq
    subst h1
    refine ⟨p.2, (aget_mem_iff inv.us).mpr hp, ?_⟩
    rw [← h2]
  | act w u =>
    simp only [lbehind] at h
    cases h1 : (decide (w = "borrow") && ((kseat s.kp u).isNone && (frees s.kp).isEmpty)) with
    | true =>
      rw [h1] at h
      exact .inr ⟨q, h, rfl⟩
    | false =>
      rw [h1] at h
      cases h2 : (decide (w = "borrow") || decide (w = "word") && (kseat s.kp u).isSome) with
      | true =>
        rw [h2] at h
        have h' : aget (aput s.us u ((kseat s.kp u).getD ((frees s.kp).headD 0), 0)) v = some q := h
        rw [aget_put inv.us] at h'
        by_cases e : v = u
        · subst e
          rw [if_pos rfl] at h'
          cases h'
          left
          refine ⟨w, rfl, ?_, ?_⟩
          · by_cases hb : w = "borrow"
            · exact .inl hb
            · right
              have hw : w = "word" := by
                by_cases hw : w = "word"
                · exact hw
                · rw [decide_eq_false hb, decide_eq_false hw] at h2; cases h2
              subst hw
              have can' : lcan r s (.act "word" v) = true := can
              cases hq : aget s.us v with
              | some _ => rfl
              | none =>
                unfold lcan at can'
                simp (decide := true) [hq] at can'
          · show 0 ≤ (kseat s.kp v).getD ((frees s.kp).headD 0) ∧ ((kseat s.kp v).getD ((frees s.kp).headD 0)).toNat < s.kp.length
            cases hk : kseat s.kp v with
            | some z => exact kseat_in hk
            | none =>
              rw [hk] at h1 h2
              have hb : decide (w = "borrow") = true := by simpa using h2
              rw [hb] at h1
              exact frees_head_lt (by simpa using h1)
        · rw [if_neg e] at h'
          exact .inr ⟨q, h', rfl⟩
      | false =>
        rw [h2] at h
        cases h3 : decide (w = "cut") with
        | true => rw [h3] at h; exact .inr ⟨q, h, rfl⟩
        | false =>
          rw [h3] at h
          cases h4 : decide (w = "join") with
          | true => rw [h4] at h; exact .inr ⟨q, h, rfl⟩
          | false =>
            rw [h4] at h
            have h' : aget (adel s.us u) v = some q := h
            rw [aget_del inv.us] at h'
            by_cases e : v = u
            · rw [if_pos e] at h'; cases h'
            · rw [if_neg e] at h'; exact .inr ⟨q, h', rfl⟩
structure WInv (r : RL) (us : Int) (i : Nat) (x : WS) : Prop where
  inv : x.s.Inv
  kp : x.s.kp.length = r.s.toNat
  ln : x.newest.length = r.s.toNat ∧ x.told.length = r.s.toNat ∧ x.taken.length = r.s.toNat
  tkK : Keys x.tk
  use : ∀ u q, aget x.s.us u = some q → (0 ≤ q.1 ∧ q.1.toNat < r.s.toNat) ∧ (0 ≤ u ∧ u < us) ∧ ∃ t, aget x.tk u = some t
  tkB : ∀ u t, aget x.tk u = some t → 0 ≤ t ∧ t ≤ i
  many : 0 ≤ x.many ∧ x.many ≤ i
  rows : ∀ z ∈ x.found, z.at_ ≤ i ∧ (0 ≤ z.u ∧ z.u < us) ∧ (0 ≤ z.seat ∧ z.seat.toNat < r.s.toNat) ∧ (0 ≤ z.tk ∧ z.tk ≤ i)
  fl : x.found.length ≤ i
  tkn : ∀ o ∈ x.taken, ∀ t, o = some t → 0 ≤ t ∧ t ≤ i
theorem WInv.begun (r : RL) (us : Int) : WInv r us 0 (wbegun r) where
  inv := ⟨by simp [wbegun, lbegun, Keys]⟩
  kp := by simp [wbegun, lbegun]
  ln := by simp [wbegun]
  tkK := by simp [wbegun, Keys]
  use := fun u q h => by simp [wbegun, lbegun, aget] at h
  tkB := fun u q h => by simp [wbegun, aget] at h
  many := ⟨Int.le_refl _, Int.le_refl _⟩
  rows := fun z h => by simp [wbegun] at h
  fl := Nat.le_refl _
  tkn := fun o h t e => by
    have := List.eq_of_mem_replicate (show o ∈ List.replicate r.s.toNat none from h)
    rw [this] at e; cases e
def Good (us : Int) (e : Ev) : Prop := ∀ w u, e = .act w u → 0 ≤ u ∧ u < us
theorem act_notWrite {w : Str} {u : Int} (ok : (Ev.act w u).Ok) : ¬ w = "write" := fun z => by
  subst z
  exact absurd ok (by show ¬ ("write" : Str) ∈ evWords; decide +kernel)
theorem WInv.write {r : RL} {us : Int} {i : Nat} {x : WS} (I : WInv r us i x) (form : Str) {u : Int} {q : Int × Int} (hq : aget x.s.us u = some q) :
    wok1 r x (.act "write" u) ∧ WInv r us (i + 1) (wstep r form x i (.act "write" u)) := by
  obtain ⟨⟨h1, h2⟩, h3, t, ht⟩ := I.use u q hq
  obtain ⟨l1, l2, l3⟩ := I.ln
  refine ⟨?_, ?_⟩
  · show wok1 r x (.act "write" u)
    simp only [wok1, if_pos]
    exact ⟨⟨q, hq, h1, by omega, by omega, by omega⟩, t, ht⟩
  · have e : wstep r form x i (.act "write" u) = wwrite form x i u := by simp only [wstep, if_pos]
    rw [e]
    unfold wwrite
    simp only [hq, ht, Option.getD_some]
    have tb := I.tkB u t ht
    obtain ⟨m1, m2⟩ := I.many
    refine ⟨I.inv, I.kp, ⟨l1, by simpa using l2, by simpa using l3⟩, I.tkK, I.use, fun v t' h => ?_, ⟨m1, by show x.many ≤ ((i + 1 : Nat) : Int); omega⟩, fun z hz => ?_, ?_, fun o ho t' e' => ?_⟩
    · have := I.tkB v t' h; omega
    · have hz' : z ∈ x.found ++ [⟨i, u, q.1, t, ltakes form (x.told.getD q.1.toNat none) (x.newest.getD q.1.toNat none) t⟩] := hz
      rcases List.mem_append.mp hz' with hz | hz
      · have := I.rows z hz
        refine ⟨by omega, this.2.1, this.2.2.1, by omega⟩
      · simp at hz
        subst hz
        exact ⟨Nat.le_succ i, h3, ⟨h1, h2⟩, tb.1, by show t ≤ ((i + 1 : Nat) : Int); omega⟩
    · show (x.found ++ [_]).length ≤ i + 1
      have := I.fl
      simp; omega
    · have ho' : o ∈ x.taken.set q.1.toNat (bif ltakes form (x.told.getD q.1.toNat none) (x.newest.getD q.1.toNat none) t then some t else x.taken.getD q.1.toNat none) := ho
      rcases List.mem_or_eq_of_mem_set ho' with h | h
      · have := I.tkn o h t' e'; omega
      · cases hk : ltakes form (x.told.getD q.1.toNat none) (x.newest.getD q.1.toNat none) t with
        | true =>
          rw [hk] at h
          have h' : o = some t := h
          rw [h'] at e'; cases e'; omega
        | false =>
          rw [hk] at h
          have h' : o = x.taken.getD q.1.toNat none := h
          have hl : q.1.toNat < x.taken.length := by omega
          have hm : x.taken.getD q.1.toNat none ∈ x.taken := by
            rw [List.getD_eq_getElem?_getD, List.getElem?_eq_getElem hl]
            exact List.getElem_mem _
          have := I.tkn o (h' ▸ hm) t' e'; omega
theorem WInv.led {r : RL} {us : Int} {i : Nat} {x : WS} (I : WInv r us i x) (form : Str) {e : Ev} (ok : e.Ok) (can : lcan r x.s e = true) (g : Good us e) :
    wok1 r x e ∧ WInv r us (i + 1) (wstep r form x i e) := by
  obtain ⟨l1, l2, l3⟩ := I.ln
  obtain ⟨m1, m2⟩ := I.many
  have m3 : x.many ≤ ((i + 1 : Nat) : Int) := by omega
  have inv2 := inv_behind (r := r) I.inv e
  have kp2 : (lbehind r x.s e).1.kp.length = r.s.toNat := (kp_behind r x.s e).trans I.kp
  have seat : ∀ v q, aget (lbehind r x.s e).1.us v = some q → (0 ≤ q.1 ∧ q.1.toNat < r.s.toNat) ∧ (0 ≤ v ∧ v < us) := fun v q h => by
    rcases us_behind I.inv ok can h with ⟨w, e1, e2, e3, e4⟩ | ⟨q0, e1, e2⟩
    · exact ⟨⟨e3, by rw [← I.kp]; exact e4⟩, g w v e1⟩
    · have := I.use v q0 e1
      rw [e2]; exact ⟨this.1, this.2.1⟩
  have old : ∀ v q, aget (lbehind r x.s e).1.us v = some q → (∃ t, aget x.tk v = some t) ∨ e = .act "borrow" v := fun v q h => by
    rcases us_behind I.inv ok can h with ⟨w, e1, e2, e3, e4⟩ | ⟨q0, e1, e2⟩
    · rcases e2 with e2 | e2
      · exact .inr (by rw [e1, e2])
      · obtain ⟨q1, hq1⟩ := Option.isSome_iff_exists.mp e2
        exact .inl (I.use v q1 hq1).2.2
    · exact .inl (I.use v q0 e1).2.2
  have same : (∀ v, e = .act "borrow" v → aget (lbehind r x.s e).1.us v = none) → WInv r us (i + 1) ⟨(lbehind r x.s e).1, x.tk, x.many, x.found, x.told, x.newest, x.taken⟩ := fun nb =>
    ⟨inv2, kp2, ⟨l1, l2, l3⟩, I.tkK, fun v q h => ⟨(seat v q h).1, (seat v q h).2, (old v q h).resolve_right fun z => by rw [nb v z] at h; cases h⟩, fun v t h => by have := I.tkB v t h; omega, ⟨m1, m3⟩,
      fun z hz => by have := I.rows z hz; exact ⟨by omega, this.2.1, this.2.2.1, by omega⟩, Nat.le_succ_of_le I.fl, fun o ho t h => by have := I.tkn o ho t h; omega⟩
  cases e with
  | pass => exact ⟨can, same fun v h => by cases h⟩
  | act w u =>
    have nw := act_notWrite ok
    have e1 : wstep r form x i (.act w u) = wled r x (.act w u) := by simp only [wstep, if_neg nw]
    refine ⟨?_, ?_⟩
    · show wok1 r x (.act w u)
      simp only [wok1, if_neg nw]
      refine ⟨ok, can, fun _ q hq => ?_⟩
      have := (seat u q hq).1
      exact ⟨this.1, by omega, by omega, by omega⟩
    · rw [e1]
      unfold wled
      simp only
      cases hq : aget (lbehind r x.s (.act w u)).1.us u with
      | none => exact same fun v h => by cases h; exact hq
      | some q =>
        by_cases hb : w = "borrow"
        · rw [decide_eq_true hb]
          simp only [cond_true]
          refine ⟨inv2, kp2, ⟨by simpa using l1, l2, l3⟩, I.tkK.put _ _, fun v q' h => ⟨(seat v q' h).1, (seat v q' h).2, ?_⟩, fun v t h => ?_, ⟨by show 0 ≤ x.many + 1; omega, by show x.many + 1 ≤ ((i + 1 : Nat) : Int); omega⟩, fun z hz => by have := I.rows z hz; exact ⟨by omega, this.2.1, this.2.2.1, by omega⟩, Nat.le_succ_of_le I.fl, fun o ho t h => by have := I.tkn o ho t h; omega⟩
          · show ∃ t, aget (aput x.tk u x.many) v = some t
            rw [aget_put I.tkK]
            by_cases e : v = u
            · exact ⟨x.many, if_pos e⟩
            · rw [if_neg e]
              exact (old v q' h).resolve_right fun z => e (by cases z; rfl)
          · have h' : aget (aput x.tk u x.many) v = some t := h
            rw [aget_put I.tkK] at h'
            by_cases e : v = u
            · rw [if_pos e] at h'; cases h'; exact ⟨m1, m3⟩
            · rw [if_neg e] at h'
              have := I.tkB v t h'; omega
        · rw [decide_eq_false hb]
          exact same fun v h => absurd (by cases h; rfl) hb
/-! ### drawing -/
def lwords : List Str := ["borrow", "borrow", "word", "cut", "cut", "back", "crash", "stop", "join"]
def wordAt (b : Int × Int) : Str := lwords.getD (tk 9 b).toNat "borrow"
def levent (r : RL) (s : LS) (us : Int) : Nat → Int × Int → Ev × (Int × Int)
  | 0, b => (bif decide ((0 : Int) ∈ s.ct) then .act "join" 0 else .act "cut" 0, b)
  | n + 1, b =>
    bif decide (0 < tk 3 b) then
      bif lcan r s (.act (wordAt (tkN 3 b)) (tk us (tkN 9 (tkN 3 b)))) then (.act (wordAt (tkN 3 b)) (tk us (tkN 9 (tkN 3 b))), tkN us (tkN 9 (tkN 3 b))) else levent r s us n (tkN us (tkN 9 (tkN 3 b)))
    else bif lcan r s .pass then (.pass, tkN 3 b) else levent r s us n (tkN 3 b)
theorem wordAt_ok (b : Int × Int) : wordAt b ∈ evWords := by
  have h := tk_lt (l := 9) (b := b) (by decide)
  unfold wordAt
  have : ∀ n : Nat, n < 9 → lwords.getD n "borrow" ∈ evWords := by decide +kernel
  exact this _ (by omega)
theorem levent_ok {r : RL} {s : LS} {us : Int} (hu : 0 < us) : ∀ (n : Nat) (b : Int × Int), BoxOk b → (levent r s us n b).1.Ok ∧ lcan r s (levent r s us n b).1 = true ∧ Good us (levent r s us n b).1 ∧ BoxOk (levent r s us n b).2
  | 0, b, hb => by
    unfold levent
    by_cases h : (0 : Int) ∈ s.ct
    · rw [decide_eq_true h]
      refine ⟨by show ("join" : Str) ∈ evWords; decide +kernel, ?_, fun w u e => by cases e; exact ⟨Int.le_refl _, hu⟩, hb⟩
      show lcan r s (.act "join" 0) = true
      unfold lcan
      simp (decide := true) [h]
    · rw [decide_eq_false h]
      refine ⟨by show ("cut" : Str) ∈ evWords; decide +kernel, ?_, fun w u e => by cases e; exact ⟨Int.le_refl _, hu⟩, hb⟩
      show lcan r s (.act "cut" 0) = true
      unfold lcan
      simp (decide := true) [h]
  | n + 1, b, hb => by
    have b1 := tkN_ok (l := 3) (by decide) hb
    have b2 := tkN_ok (l := 9) (by decide) b1
    have b3 := tkN_ok hu b2
    have ut := tk_lt (b := tkN 9 (tkN 3 b)) hu
    unfold levent
    cases decide (0 < tk 3 b) with
    | true =>
      cases hc : lcan r s (.act (wordAt (tkN 3 b)) (tk us (tkN 9 (tkN 3 b)))) with
      | true => exact ⟨wordAt_ok _, hc, fun w u e => by cases e; exact ut, b3⟩
      | false => exact levent_ok hu n _ b3
    | false =>
      cases hc : lcan r s .pass with
      | true => exact ⟨trivial, hc, (fun w u e => by cases e), b1⟩
      | false => exact levent_ok hu n _ b1
def keysOf (s : LS) : List Int := sortI (s.us.map (·.1))
def ldeeds (r : RL) (us : Int) : Nat → LS → Int × Int → List Ev × (Int × Int)
  | 0, _, b => ([], b)
  | n + 1, s, b =>
    bif !(keysOf s).isEmpty && decide (tk 3 b = 0) then
      let q := ldeeds r us n s (tkN ((keysOf s).length : Nat) (tkN 3 b))
      (.act "write" ((keysOf s).getD (tk ((keysOf s).length : Nat) (tkN 3 b)).toNat 0) :: q.1, q.2)
    else
      let ev := levent r s us 12 (bif (keysOf s).isEmpty then b else tkN 3 b)
      let q := ldeeds r us n (lbehind r s ev.1).1 ev.2
      (ev.1 :: q.1, q.2)
theorem keysOf_mem {s : LS} {u : Int} : u ∈ keysOf s ↔ u ∈ s.us.map (·.1) := (sortI_perm _).mem_iff
theorem pick_mem {l : List Int} {b : Int × Int} (h : l.isEmpty = false) : l.getD (tk (l.length : Nat) b).toNat 0 ∈ l := by
  have hl : 0 < l.length := by cases l with | nil => cases h | cons _ _ => simp
  have := tk_lt (l := (l.length : Nat)) (b := b) (by omega)
  have lt : (tk (l.length : Nat) b).toNat < l.length := by omega
  rw [List.getD_eq_getElem?_getD, List.getElem?_eq_getElem lt]
  exact List.getElem_mem _
theorem wstep_s (r : RL) (form : Str) (x : WS) (i : Nat) {e : Ev} (ok : e.Ok) : (wstep r form x i e).s = (lbehind r x.s e).1 := by
  cases e with
  | pass => rfl
  | act w u =>
    have nw := act_notWrite ok
    simp only [wstep, if_neg nw]
    unfold wled
    simp only
    cases aget (lbehind r x.s (.act w u)).1.us u with
    | none => rfl
    | some q => cases decide (w = "borrow") <;> rfl
/-- what is drawn goes through -/
theorem drawn {r : RL} {us : Int} (hu : 0 < us) (form : Str) : ∀ (n i : Nat) (x : WS) (b : Int × Int), BoxOk b → WInv r us i x →
    wok r form i x (ldeeds r us n x.s b).1 ∧ WInv r us (i + n) (wsteps r form i x (ldeeds r us n x.s b).1) ∧ BoxOk (ldeeds r us n x.s b).2 ∧ (ldeeds r us n x.s b).1.length = n ∧ ∀ e ∈ (ldeeds r us n x.s b).1, Good us e ∧ e.OkD
  | 0, i, x, b, hb, I => ⟨trivial, I, hb, rfl, fun e h => by cases h⟩
  | n + 1, i, x, b, hb, I => by
    have b1 := tkN_ok (l := 3) (by decide) hb
    have ei : i + (n + 1) = i + 1 + n := by omega
    unfold ldeeds
    cases hk : (!(keysOf x.s).isEmpty && decide (tk 3 b = 0)) with
    | true =>
      simp only [cond_true]
      rw [Bool.and_eq_true] at hk
      have ne : (keysOf x.s).isEmpty = false := by simpa using hk.1
      have hl : 0 < (keysOf x.s).length := by cases q : keysOf x.s with | nil => rw [q] at ne; cases ne | cons _ _ => simp
      have hm := pick_mem (b := tkN 3 b) ne
      obtain ⟨u, hu'⟩ : ∃ u, (keysOf x.s).getD (tk ((keysOf x.s).length : Nat) (tkN 3 b)).toNat 0 = u := ⟨_, rfl⟩
      rw [hu'] at hm ⊢
      obtain ⟨q, hq⟩ := aget_mem (keysOf_mem.mp hm)
      obtain ⟨w1, I2⟩ := I.write form hq
      have es : (wstep r form x i (.act "write" u)).s = x.s := by simp only [wstep, if_pos]; rfl
      have b2 := tkN_ok (l := ((keysOf x.s).length : Nat)) (by omega) b1
      have ih := drawn hu form n (i + 1) _ _ b2 I2
      rw [es] at ih
      obtain ⟨h1, h2, h3, h4, h5⟩ := ih
      refine ⟨⟨w1, h1⟩, by rw [ei]; exact h2, h3, by simp [h4], fun e he => ?_⟩
      rcases List.mem_cons.mp he with rfl | he
      · exact ⟨fun w v e => by cases e; exact (I.use u q hq).2.1, .inr ⟨u, rfl⟩⟩
      · exact h5 e he
    | false =>
      simp only [cond_false]
      have bb : BoxOk (bif (keysOf x.s).isEmpty then b else tkN 3 b) := by cases (keysOf x.s).isEmpty; exact b1; exact hb
      obtain ⟨ok, can, g, b2⟩ := levent_ok (r := r) (s := x.s) hu 12 _ bb
      obtain ⟨w1, I2⟩ := I.led form ok can g
      have ih := drawn hu form n (i + 1) _ _ b2 I2
      rw [wstep_s r form x i ok] at ih
      obtain ⟨h1, h2, h3, h4, h5⟩ := ih
      refine ⟨⟨w1, h1⟩, by rw [ei]; exact h2, h3, by simp [h4], fun e he => ?_⟩
      rcases List.mem_cons.mp he with rfl | he
      · exact ⟨g, .inl ok⟩
      · exact h5 e he
end Lw

/-! # Parts of drawn rows; the state behind them; things that cannot stand there -/
namespace Lw
open PySem PySem.Spec PyProof.Rows L2 DL
def lstate (r : RL) : LS → List Ev → LS
  | s, [] => s
  | s, e :: es => lstate r (lbehind r s e).1 es
def lgo (r : RL) : LS → List Ev → Prop
  | _, [] => True
  | s, e :: es => e.Ok ∧ lcan r s e = true ∧ lgo r (lbehind r s e).1 es
def nwr : Ev → Bool
  | .pass => true
  | .act w _ => !decide (w = "write")
theorem wok_take (r : RL) (form : Str) : ∀ (E : List Ev) (n i : Nat) (x : WS), wok r form i x E → wok r form i x (E.take n)
  | [], n, i, x, h => by simp [wok]
  | e :: E, 0, i, x, h => by simp [wok]
  | e :: E, n + 1, i, x, h => ⟨h.1, wok_take r form E n (i + 1) _ h.2⟩
theorem wled_s (r : RL) (x : WS) (e : Ev) : (wled r x e).s = (lbehind r x.s e).1 := by
  cases e with
  | pass => rfl
  | act w u =>
    unfold wled
    simp only
    cases aget (lbehind r x.s (.act w u)).1.us u with
    | none => rfl
    | some q => cases decide (w = "borrow") <;> rfl
theorem steps_state (r : RL) (form : Str) : ∀ (E : List Ev) (i : Nat) (x : WS), wok r form i x E → (wsteps r form i x E).s = lstate r x.s (E.filter nwr) ∧ lgo r x.s (E.filter nwr)
  | [], i, x, h => ⟨rfl, trivial⟩
  | .pass :: E, i, x, h => by
    obtain ⟨h1, h2⟩ := h
    have ih := steps_state r form E (i + 1) _ h2
    have e : (wstep r form x i .pass).s = (lbehind r x.s .pass).1 := wled_s r x .pass
    rw [e] at ih
    exact ⟨ih.1, trivial, h1, ih.2⟩
  | .act w u :: E, i, x, h => by
    obtain ⟨h1, h2⟩ := h
    have ih := steps_state r form E (i + 1) _ h2
    by_cases hw : w = "write"
    · subst hw
      have e : (wstep r form x i (.act "write" u)).s = x.s := by simp [wstep, wwrite]
      rw [e] at ih
      exact ih
    · have e : (wstep r form x i (.act w u)).s = (lbehind r x.s (.act w u)).1 := by simp only [wstep, if_neg hw]; exact wled_s r x _
      rw [e] at ih
      simp only [wok1, if_neg hw] at h1
      have hf : (Ev.act w u :: E).filter nwr = Ev.act w u :: E.filter nwr := by simp [nwr, hw]
      rw [hf]
      exact ⟨ih.1, h1.1, h1.2.1, ih.2⟩
theorem lgo_len {r : RL} : ∀ {E : List Ev} {s : LS}, lgo r s E → ∀ e ∈ E, e.Ok
  | e :: E, s, h, e', he => by
    rcases List.mem_cons.mp he with rfl | he
    · exact h.1
    · exact lgo_len h.2.2 e' he
def wBase : List D := [.non, .str "pass", .tup [.str "write"], .lst [.str "write", .int 0], .tup [.str "write", .int 0, .int 0], .tup [.str "write", .str "0"], .tup [.str "write", .int (-1)], .tup [.str "write", .bl true], .tup [.str "pass", .int 0], .tup [.str "Write", .int 0], .tup [.tup [.str "write", .int 0]], .tup [.str "write", .non], .int 3, .tup [.str "write", .lst [.int 0]], .tup []]
def w1 (s : LS) (u : Int) : D := bif (aget s.us u).isSome then .tup [.str "borrow", .int u] else .tup [.str "write", .int u]
def w2 (s : LS) (u : Int) : D := bif decide (u ∈ s.ct) then .tup [.str "cut", .int u] else .tup [.str "join", .int u]
def wAdd (s : LS) (l : List Nat) : List D := l.flatMap fun u : Nat => [w1 s (u : Int), w2 s (u : Int)]
def wrongL (s : LS) : List D := wBase ++ wAdd s (List.range 5)
end Lw

/-! # The plain law of k78 -/
namespace Lw
open PySem PySem.Spec PyProof.Rows L2 DL
def cuts (c : Bool) : List Int := bif c then [0] else []
/-- user 0 in its seat, k moments after the borrowing -/
def StA (n : Nat) (c : Bool) (k : Int) : LS := ⟨[(0, (0, k))], some (0, k) :: List.replicate n none, cuts c⟩
def StL (n : Nat) (c : Bool) (k : Int) : LS := ⟨[(0, (0, k))], none :: List.replicate n none, cuts c⟩
def StB (n : Nat) (c : Bool) (k : Int) : LS := ⟨[(0, (0, k)), (1, (0, 0))], some (1, 0) :: List.replicate n none, cuts c⟩
theorem bor0 (r : RL) (n : Nat) (h : n < 4) : (lbehind r (lbegun ((n + 1 : Nat) : Int)) (.act "borrow" 0)).1 = StA n false 0 := by
  have : n = 0 ∨ n = 1 ∨ n = 2 ∨ n = 3 := by omega
  rcases this with rfl | rfl | rfl | rfl <;> rfl
theorem bor1 (r : RL) (n : Nat) (h : n < 4) (c : Bool) (k : Int) : (lbehind r (StL n c k) (.act "borrow" 1)).1 = StB n c k := by
  have : n = 0 ∨ n = 1 ∨ n = 2 ∨ n = 3 := by omega
  rcases this with rfl | rfl | rfl | rfl <;> cases c <;> rfl
theorem cut0 (r : RL) (n : Nat) (k : Int) : (lbehind r (StA n false k) (.act "cut" 0)).1 = StA n true k := by
  have e1 : decide (("cut" : Str) = "borrow") = false := by decide +kernel
  have e2 : decide (("cut" : Str) = "word") = false := by decide +kernel
  have e3 : decide (("cut" : Str) = "cut") = true := by decide +kernel
  simp only [lbehind, e1, e2, e3, Bool.false_and, Bool.or_false, cond_false, cond_true]
  rfl
theorem pass1 (r : RL) (n : Nat) (c : Bool) (k : Int) (h : k + 1 ≠ r.l) : (lbehind r (StA n c k) .pass).1 = StA n c (k + 1) := by
  simp [lbehind, lmoment, StA, older, aget, aput, keptOn, h]
theorem passL (r : RL) (n : Nat) (c : Bool) (k : Int) (h : k + 1 = r.l) : (lbehind r (StA n c k) .pass).1 = StL n c (k + 1) := by
  simp [lbehind, lmoment, StA, StL, older, aget, aput, keptOn, h]
theorem canP (r : RL) (n : Nat) (c : Bool) (k : Int) (h1 : k < r.g + r.t) (h2 : c = true ∨ k < r.b + r.t) : lcan r (StA n c k) .pass = true := by
  have e1 : ¬ r.g + r.t ≤ k := by omega
  rcases h2 with rfl | h2
  · simp [lcan, StA, lateU, aget, e1, cuts]
  · have e2 : ¬ r.b + r.t ≤ k := by omega
    simp [lcan, StA, lateU, aget, e1, e2]
theorem canB0 (r : RL) (n : Nat) : lcan r (lbegun n) (.act "borrow" 0) = true := rfl
theorem canB1 (r : RL) (n : Nat) (c : Bool) (k : Int) : lcan r (StL n c k) (.act "borrow" 1) = true := by cases c <;> rfl
theorem canC (r : RL) (n : Nat) (k : Int) : lcan r (StA n false k) (.act "cut" 0) = true := rfl
def tailE (back : Bool) : List Ev := .act "borrow" 1 :: ((bif back then [.act "write" 1] else []) ++ [.act "write" 0])
def evsOf (c : Bool) (l : Nat) (back : Bool) : List Ev := .act "borrow" 0 :: ((bif c then [.act "cut" 0] else []) ++ (List.replicate l .pass ++ tailE back))
theorem lposs_pass (r : RL) (n : Nat) (c : Bool) (tl : List Ev) (hg : r.l ≤ r.g + r.t) (hb : c = true ∨ r.l ≤ r.b + r.t) : ∀ (m : Nat) (k : Int), k + m + 1 = r.l → lposs r (StA n c k) (List.replicate (m + 1) .pass ++ tl) = lposs r (StL n c r.l) tl
  | 0, k, hk => by
    have hk' : k + 1 = r.l := by simpa using hk
    have e := canP r n c k (by omega) (hb.imp id fun h => by omega)
    show lposs r (StA n c k) (.pass :: tl) = _
    simp only [lposs, e, if_true, passL r n c k hk', hk']
  | m + 1, k, hk => by
    have hk' : k + 1 + m + 1 = r.l := by omega
    have e := canP r n c k (by omega) (hb.imp id fun h => by omega)
    show lposs r (StA n c k) (.pass :: (List.replicate (m + 1) .pass ++ tl)) = _
    simp only [lposs, e, if_true, pass1 r n c k (by omega)]
    exact lposs_pass r n c tl hg hb m (k + 1) hk'
def wA (n : Nat) (c : Bool) (k : Int) : WS := ⟨StA n c k, [(0, 0)], 1, [], List.replicate (n + 1) none, some 0 :: List.replicate n none, List.replicate (n + 1) none⟩
def wL (n : Nat) (c : Bool) (k : Int) : WS := ⟨StL n c k, [(0, 0)], 1, [], List.replicate (n + 1) none, some 0 :: List.replicate n none, List.replicate (n + 1) none⟩
theorem w_pass (r : RL) (form : Str) (n : Nat) (c : Bool) (tl : List Ev) (hg : r.l ≤ r.g + r.t) (hb : c = true ∨ r.l ≤ r.b + r.t) : ∀ (m i : Nat) (k : Int), k + m + 1 = r.l →
    (wok r form (i + m + 1) (wL n c r.l) tl → wok r form i (wA n c k) (List.replicate (m + 1) .pass ++ tl)) ∧ wsteps r form i (wA n c k) (List.replicate (m + 1) .pass ++ tl) = wsteps r form (i + m + 1) (wL n c r.l) tl
  | 0, i, k, hk => by
    have hk' : k + 1 = r.l := by simpa using hk
    have e := canP r n c k (by omega) (hb.imp id fun h => by omega)
    have st : wstep r form (wA n c k) i .pass = wL n c r.l := by
      show WS.mk (lbehind r (StA n c k) .pass).1 _ _ _ _ _ _ = _
      rw [passL r n c k hk', hk']; rfl
    refine ⟨fun h => ⟨e, ?_⟩, ?_⟩
    · rw [st]; exact h
    · show wsteps r form (i + 1) (wstep r form (wA n c k) i .pass) tl = _
      rw [st]
  | m + 1, i, k, hk => by
    have e := canP r n c k (by omega) (hb.imp id fun h => by omega)
    have st : wstep r form (wA n c k) i .pass = wA n c (k + 1) := by
      show WS.mk (lbehind r (StA n c k) .pass).1 _ _ _ _ _ _ = _
      rw [pass1 r n c k (by omega)]; rfl
    have ih := w_pass r form n c tl hg hb m (i + 1) (k + 1) (by omega)
    have ei : i + 1 + m + 1 = i + (m + 1) + 1 := by omega
    rw [ei] at ih
    refine ⟨fun h => ⟨e, ?_⟩, ?_⟩
    · rw [st]; exact ih.1 h
    · show wsteps r form (i + 1) (wstep r form (wA n c k) i .pass) (List.replicate (m + 1) .pass ++ tl) = _
      rw [st]; exact ih.2
def mA (n : Nat) (c : Bool) (k : Int) : MS := ⟨StA n c k, 1, [], [(0, 0)], []⟩
def mL (n : Nat) (c : Bool) (k : Int) : MS := ⟨StL n c k, 1, [], [(0, 0)], []⟩
theorem m_pass (r : RL) (rows : List Row) (n : Nat) (c : Bool) (tl : List Ev) (hg : r.l ≤ r.g + r.t) (hb : c = true ∨ r.l ≤ r.b + r.t) : ∀ (m i : Nat) (k : Int), k + m + 1 = r.l →
    (mok r rows (i + m + 1) (mL n c r.l) tl → mok r rows i (mA n c k) (List.replicate (m + 1) .pass ++ tl)) ∧ msteps r rows i (mA n c k) (List.replicate (m + 1) .pass ++ tl) = msteps r rows (i + m + 1) (mL n c r.l) tl
  | 0, i, k, hk => by
    have hk' : k + 1 = r.l := by simpa using hk
    have e := canP r n c k (by omega) (hb.imp id fun h => by omega)
    have st : mstep r rows (mA n c k) i .pass = mL n c r.l := by
      show MS.mk (lbehind r (StA n c k) .pass).1 _ _ _ _ = _
      rw [passL r n c k hk', hk']; rfl
    refine ⟨fun h => ⟨e, ?_⟩, ?_⟩
    · rw [st]; exact h
    · show msteps r rows (i + 1) (mstep r rows (mA n c k) i .pass) tl = _
      rw [st]
  | m + 1, i, k, hk => by
    have e := canP r n c k (by omega) (hb.imp id fun h => by omega)
    have st : mstep r rows (mA n c k) i .pass = mA n c (k + 1) := by
      show MS.mk (lbehind r (StA n c k) .pass).1 _ _ _ _ = _
      rw [pass1 r n c k (by omega)]; rfl
    have ih := m_pass r rows n c tl hg hb m (i + 1) (k + 1) (by omega)
    have ei : i + 1 + m + 1 = i + (m + 1) + 1 := by omega
    rw [ei] at ih
    refine ⟨fun h => ⟨e, ?_⟩, ?_⟩
    · rw [st]; exact ih.1 h
    · show msteps r rows (i + 1) (mstep r rows (mA n c k) i .pass) (List.replicate (m + 1) .pass ++ tl) = _
      rw [st]; exact ih.2
/-! the tail -/
def wB (n : Nat) (c : Bool) (k : Int) : WS := ⟨StB n c k, [(0, 0), (1, 1)], 2, [], List.replicate (n + 1) none, some 1 :: List.replicate n none, List.replicate (n + 1) none⟩
theorem wled_eq {r : RL} {x : WS} {w : Str} {u : Int} {s' : LS} (e : (lbehind r x.s (.act w u)).1 = s') : wled r x (.act w u) = match aget s'.us u with
    | some q => bif decide (w = "borrow") then ⟨s', aput x.tk u x.many, x.many + 1, x.found, x.told, x.newest.set q.1.toNat (some x.many), x.taken⟩ else ⟨s', x.tk, x.many, x.found, x.told, x.newest, x.taken⟩
    | none => ⟨s', x.tk, x.many, x.found, x.told, x.newest, x.taken⟩ := by subst e; rfl
theorem mled_eq {r : RL} {x : MS} {w : Str} {u : Int} {s' : LS} (e : (lbehind r x.s (.act w u)).1 = s') : mled r x (.act w u) = match aget s'.us u with
    | some q => bif decide (w = "borrow") then ⟨s', x.many + 1, x.found, aput x.out q.1 x.many, x.best⟩ else ⟨s', x.many, x.found, x.out, x.best⟩
    | none => ⟨s', x.many, x.found, x.out, x.best⟩ := by subst e; rfl
theorem nb : ¬ (("borrow" : Str) = "write") := by decide +kernel
theorem nc : ¬ (("cut" : Str) = "write") := by decide +kernel
theorem ncb : ¬ (("cut" : Str) = "borrow") := by decide +kernel
theorem mb : ("borrow" : Str) ∈ evWords := by decide +kernel
theorem mc : ("cut" : Str) ∈ evWords := by decide +kernel
theorem w_bor1 (r : RL) (form : Str) (n : Nat) (h : n < 4) (c : Bool) (k : Int) (i : Nat) : wstep r form (wL n c k) i (.act "borrow" 1) = wB n c k := by
  simp only [wstep, if_neg nb]
  rw [wled_eq (x := wL n c k) (bor1 r n h c k)]; rfl
theorem w_bor0 (r : RL) (form : Str) (n : Nat) (h : n < 4) (hs : r.s = ((n + 1 : Nat) : Int)) (i : Nat) : wstep r form (wbegun r) i (.act "borrow" 0) = wA n false 0 := by
  simp only [wstep, if_neg nb]
  have e : (lbehind r (wbegun r).s (.act "borrow" 0)).1 = StA n false 0 := by
    show (lbehind r (lbegun r.s) _).1 = _
    rw [hs]; exact bor0 r n h
  rw [wled_eq e]
  unfold wbegun
  rw [hs]; rfl
theorem w_cut0 (r : RL) (form : Str) (n : Nat) (i : Nat) : wstep r form (wA n false 0) i (.act "cut" 0) = wA n true 0 := by
  simp only [wstep, if_neg nc]
  rw [wled_eq (x := wA n false 0) (cut0 r n 0)]; rfl
theorem m_bor1 (r : RL) (rows : List Row) (n : Nat) (h : n < 4) (c : Bool) (k : Int) (i : Nat) : mstep r rows (mL n c k) i (.act "borrow" 1) = ⟨StB n c k, 2, [], [(0, 1)], []⟩ := by
  simp only [mstep, if_neg nb]
  rw [mled_eq (x := mL n c k) (bor1 r n h c k)]; rfl
theorem m_bor0 (r : RL) (rows : List Row) (n : Nat) (h : n < 4) (hs : r.s = ((n + 1 : Nat) : Int)) (i : Nat) : mstep r rows (mbegun r) i (.act "borrow" 0) = mA n false 0 := by
  simp only [mstep, if_neg nb]
  have e : (lbehind r (mbegun r).s (.act "borrow" 0)).1 = StA n false 0 := by
    show (lbehind r (lbegun r.s) _).1 = _
    rw [hs]; exact bor0 r n h
  rw [mled_eq e]; rfl
theorem m_cut0 (r : RL) (rows : List Row) (n : Nat) (i : Nat) : mstep r rows (mA n false 0) i (.act "cut" 0) = mA n true 0 := by
  simp only [mstep, if_neg nc]
  rw [mled_eq (x := mA n false 0) (cut0 r n 0)]; rfl
/-- what the parameters give -/
structure Fit (r : RL) (n : Nat) (c : Bool) (m : Nat) : Prop where
  n4 : n < 4
  s : r.s = ((n + 1 : Nat) : Int)
  l : r.l = ((m + 1 : Nat) : Int)
  g : r.l ≤ r.g + r.t
  b : c = true ∨ r.l ≤ r.b + r.t
section
variable {r : RL} {n m : Nat} {c : Bool}
theorem Fit.k (h : Fit r n c m) : (0 : Int) + m + 1 = r.l := by have := h.l; omega
theorem lposs_tail (h : Fit r n c m) (back : Bool) : lposs r (StL n c r.l) (tailE back) = true := by
  have e := canB1 r n c r.l
  unfold tailE
  simp only [lposs, if_neg nb, e, if_true, bor1 r n h.n4 c r.l]
  cases back <;> rfl
theorem law_poss (h : Fit r n c m) (back : Bool) : lposs r (lbegun r.s) (evsOf c (m + 1) back) = true := by
  have e0 : lcan r (lbegun r.s) (.act "borrow" 0) = true := rfl
  have b0 : (lbehind r (lbegun r.s) (.act "borrow" 0)).1 = StA n false 0 := by rw [h.s]; exact bor0 r n h.n4
  unfold evsOf
  simp only [lposs, if_neg nb, e0, if_true, b0]
  cases hc : c with
  | false =>
    have h' := h
    rw [hc] at h'
    show lposs r (StA n false 0) (List.replicate (m + 1) .pass ++ tailE back) = true
    rw [lposs_pass r n false _ h'.g h'.b m 0 h'.k]
    exact lposs_tail h' back
  | true =>
    have h' := h
    rw [hc] at h'
    show lposs r (StA n false 0) (.act "cut" 0 :: (List.replicate (m + 1) .pass ++ tailE back)) = true
    simp only [lposs, if_neg nc, canC r n 0, if_true, cut0 r n 0]
    rw [lposs_pass r n true _ h'.g h'.b m 0 h'.k]
    exact lposs_tail h' back
/-- where the tail begins -/
def start (c : Bool) (m : Nat) : Nat := (bif c then 2 else 1) + m + 1
theorem law_w (h : Fit r n c m) (form : Str) (back : Bool) : (wok r form (start c m) (wL n c r.l) (tailE back) → wok r form 0 (wbegun r) (evsOf c (m + 1) back)) ∧ wsteps r form 0 (wbegun r) (evsOf c (m + 1) back) = wsteps r form (start c m) (wL n c r.l) (tailE back) := by
  have b0 := w_bor0 r form n h.n4 h.s 0
  have b0' : (lbehind r (lbegun r.s) (.act "borrow" 0)).1 = StA n false 0 := by rw [h.s]; exact bor0 r n h.n4
  have ok0 : wok1 r (wbegun r) (.act "borrow" 0) := by
    simp only [wok1, if_neg nb]
    refine ⟨mb, rfl, fun _ q hq => ?_⟩
    change aget (lbehind r (lbegun r.s) (.act "borrow" 0)).1.us 0 = some q at hq
    rw [b0'] at hq
    have : q = (0, 0) := (Option.some.inj hq).symm
    subst this
    have : 0 < (List.replicate r.s.toNat (none : Option Int)).length := by rw [h.s]; simp
    exact ⟨Int.le_refl _, this, this, this⟩
  cases hc : c with
  | false =>
    have h' := h
    rw [hc] at h'
    have p := w_pass r form n false (tailE back) h'.g h'.b m 1 0 h'.k
    refine ⟨fun t => ⟨ok0, ?_⟩, ?_⟩
    · rw [b0]; exact p.1 t
    · show wsteps r form 1 (wstep r form (wbegun r) 0 (.act "borrow" 0)) _ = _
      rw [b0]; exact p.2
  | true =>
    have h' := h
    rw [hc] at h'
    have p := w_pass r form n true (tailE back) h'.g h'.b m 2 0 h'.k
    have c0 := w_cut0 r form n 1
    refine ⟨fun t => ⟨ok0, ?_⟩, ?_⟩
    · rw [b0]
      refine ⟨?_, ?_⟩
      · show wok1 r (wA n false 0) (.act "cut" 0)
        simp only [wok1, if_neg nc]
        exact ⟨mc, canC r n 0, fun z => absurd z ncb⟩
      · show wok r form 2 (wstep r form (wA n false 0) 1 (.act "cut" 0)) _
        rw [c0]; exact p.1 t
    · show wsteps r form 1 (wstep r form (wbegun r) 0 (.act "borrow" 0)) _ = _
      rw [b0]
      show wsteps r form 2 (wstep r form (wA n false 0) 1 (.act "cut" 0)) _ = _
      rw [c0]; exact p.2
theorem law_m (h : Fit r n c m) (rows : List Row) (back : Bool) : (mok r rows (start c m) (mL n c r.l) (tailE back) → mok r rows 0 (mbegun r) (evsOf c (m + 1) back)) ∧ msteps r rows 0 (mbegun r) (evsOf c (m + 1) back) = msteps r rows (start c m) (mL n c r.l) (tailE back) := by
  have b0 := m_bor0 r rows n h.n4 h.s 0
  have ok0 : mok1 r rows (mbegun r) 0 (.act "borrow" 0) := by
    simp only [mok1, if_neg nb]
    exact ⟨mb, rfl⟩
  cases hc : c with
  | false =>
    have h' := h
    rw [hc] at h'
    have p := m_pass r rows n false (tailE back) h'.g h'.b m 1 0 h'.k
    refine ⟨fun t => ⟨ok0, ?_⟩, ?_⟩
    · rw [b0]; exact p.1 t
    · show msteps r rows 1 (mstep r rows (mbegun r) 0 (.act "borrow" 0)) _ = _
      rw [b0]; exact p.2
  | true =>
    have h' := h
    rw [hc] at h'
    have p := m_pass r rows n true (tailE back) h'.g h'.b m 2 0 h'.k
    have c0 := m_cut0 r rows n 1
    refine ⟨fun t => ⟨ok0, ?_⟩, ?_⟩
    · rw [b0]
      refine ⟨?_, ?_⟩
      · show mok1 r rows (mA n false 0) 1 (.act "cut" 0)
        simp only [mok1, if_neg nc]
        exact ⟨mc, canC r n 0⟩
      · show mok r rows 2 (mstep r rows (mA n false 0) 1 (.act "cut" 0)) _
        rw [c0]; exact p.1 t
    · show msteps r rows 1 (mstep r rows (mbegun r) 0 (.act "borrow" 0)) _ = _
      rw [b0]
      show msteps r rows 2 (mstep r rows (mA n false 0) 1 (.act "cut" 0)) _ = _
      rw [c0]; exact p.2
/-! the tail -/
theorem tail_wok (h : Fit r n c m) (form : Str) (j : Nat) (back : Bool) : wok r form j (wL n c r.l) (tailE back) := by
  have e := canB1 r n c r.l
  have b1 := w_bor1 r form n h.n4 c r.l j
  have b1' := bor1 r n h.n4 c r.l
  have pos : 0 < (List.replicate (n + 1) (none : Option Int)).length := by simp
  refine ⟨?_, ?_⟩
  · show wok1 r (wL n c r.l) (.act "borrow" 1)
    simp only [wok1, if_neg nb]
    refine ⟨mb, e, fun _ q hq => ?_⟩
    change aget (lbehind r (StL n c r.l) (.act "borrow" 1)).1.us 1 = some q at hq
    rw [b1'] at hq
    have : q = (0, 0) := (Option.some.inj hq).symm
    subst this
    exact ⟨Int.le_refl _, pos, pos, pos⟩
  · rw [b1]
    have s0 : ∀ x : WS, x.s = StB n c r.l → x.tk = [(0, 0), (1, 1)] → x.told.length = n + 1 → x.newest.length = n + 1 → x.taken.length = n + 1 → ∀ u : Int, u = 0 ∨ u = 1 → wok1 r x (.act "write" u) := by
      rintro x h1 h2 h3 h4 h5 u hu
      simp only [wok1, if_pos]
      rw [h1, h2]
      rcases hu with rfl | rfl
      · exact ⟨⟨(0, r.l), rfl, Int.le_refl _, by rw [h3]; simp, by rw [h4]; simp, by rw [h5]; simp⟩, 0, rfl⟩
      · exact ⟨⟨(0, 0), rfl, Int.le_refl _, by rw [h3]; simp, by rw [h4]; simp, by rw [h5]; simp⟩, 1, rfl⟩
    cases back with
    | false => exact ⟨s0 _ rfl rfl (by simp [wB]) (by simp [wB]) (by simp [wB]) 0 (.inl rfl), trivial⟩
    | true =>
      refine ⟨s0 _ rfl rfl (by simp [wB]) (by simp [wB]) (by simp [wB]) 1 (.inr rfl), ?_⟩
      show wok r form (j + 1 + 1) (wwrite form (wB n c r.l) (j + 1) 1) [.act "write" 0]
      exact ⟨s0 _ rfl rfl (by simp [wwrite, wB]) (by simp [wwrite, wB]) (by simp [wwrite, wB]) 0 (.inl rfl), trivial⟩
end
end Lw

/-! # The plain law of k79 -/
namespace Lw
open PySem PySem.Spec PyProof.Rows L2 DL
/-- user 1 is gone, its seat kept by q -/
def StC (n : Nat) (k : Int) (q : Option (Int × Int)) : LS := ⟨[(0, (0, k))], q :: List.replicate n none, [0]⟩
theorem crash1 (r : RL) (n : Nat) (k : Int) : (lbehind r (StB n true k) (.act "crash" 1)).1 = StC n k (some (1, 0)) := by
  have e1 : decide (("crash" : Str) = "borrow") = false := by decide +kernel
  have e2 : decide (("crash" : Str) = "word") = false := by decide +kernel
  have e3 : decide (("crash" : Str) = "cut") = false := by decide +kernel
  have e4 : decide (("crash" : Str) = "join") = false := by decide +kernel
  have e5 : decide (("crash" : Str) = "back") = false := by decide +kernel
  simp only [lbehind, e1, e2, e3, e4, e5, Bool.false_and, Bool.or_false, cond_false]
  rfl
theorem canX (r : RL) (n : Nat) (k : Int) : lcan r (StB n true k) (.act "crash" 1) = true := by
  unfold lcan
  simp (decide := true) [StB, aget]
theorem passC (r : RL) (n : Nat) (k : Int) (q : Option (Int × Int)) : (lbehind r (StC n k q) .pass).1 = StC n (k + 1) (keptOn r q) := by
  simp [lbehind, lmoment, StC, older, aget, aput, keptOn]
theorem canPC (r : RL) (n : Nat) (k : Int) (q : Option (Int × Int)) : lcan r (StC n k q) .pass = decide (k < r.g + r.t) := by
  by_cases h : k < r.g + r.t
  · have e1 : ¬ r.g + r.t ≤ k := by omega
    simp [lcan, StC, lateU, aget, e1, h]
  · have e1 : r.g + r.t ≤ k := by omega
    simp [lcan, StC, lateU, aget, e1, h]
def wC (n : Nat) (k : Int) (q : Option (Int × Int)) : WS := ⟨StC n k q, [(0, 0), (1, 1)], 2, [], List.replicate (n + 1) none, some 1 :: List.replicate n none, List.replicate (n + 1) none⟩
theorem nx : ¬ (("crash" : Str) = "write") := by decide +kernel
theorem nxb : ¬ (("crash" : Str) = "borrow") := by decide +kernel
theorem mx : ("crash" : Str) ∈ evWords := by decide +kernel
theorem w_crash1 (r : RL) (form : Str) (n : Nat) (k : Int) (i : Nat) : wstep r form (wB n true k) i (.act "crash" 1) = wC n k (some (1, 0)) := by
  simp only [wstep, if_neg nx]
  rw [wled_eq (x := wB n true k) (crash1 r n k)]; rfl
def keptN (r : RL) : Nat → Option (Int × Int) → Option (Int × Int)
  | 0, q => q
  | f + 1, q => keptN r f (keptOn r q)
theorem w_passC (r : RL) (form : Str) (n : Nat) (rest : List Ev) : ∀ (f i : Nat) (k : Int) (q : Option (Int × Int)), k + f ≤ r.g + r.t →
    (wok r form (i + f) (wC n (k + f) (keptN r f q)) rest → wok r form i (wC n k q) (List.replicate f .pass ++ rest)) ∧ wsteps r form i (wC n k q) (List.replicate f .pass ++ rest) = wsteps r form (i + f) (wC n (k + f) (keptN r f q)) rest
  | 0, i, k, q, _ => by
    have e : k + ((0 : Nat) : Int) = k := by simp
    rw [e]; exact ⟨id, rfl⟩
  | f + 1, i, k, q, h => by
    have can : lcan r (StC n k q) .pass = true := by rw [canPC]; exact decide_eq_true (by omega)
    have st : wstep r form (wC n k q) i .pass = wC n (k + 1) (keptOn r q) := by
      show WS.mk (lbehind r (StC n k q) .pass).1 _ _ _ _ _ _ = _
      rw [passC]; rfl
    have ih := w_passC r form n rest f (i + 1) (k + 1) (keptOn r q) (by omega)
    have e1 : i + 1 + f = i + (f + 1) := by omega
    have e2 : k + 1 + (f : Int) = k + ((f + 1 : Nat) : Int) := by omega
    rw [e1, e2] at ih
    refine ⟨fun t => ⟨can, ?_⟩, ?_⟩
    · rw [st]; exact ih.1 t
    · show wsteps r form (i + 1) (wstep r form (wC n k q) i .pass) (List.replicate f .pass ++ rest) = _
      rw [st]; exact ih.2
section
variable {r : RL} {n m : Nat}
def headE (l : Nat) : List Ev := [.act "borrow" 0, .act "cut" 0] ++ List.replicate l .pass ++ [.act "borrow" 1, .act "crash" 1]
theorem headE_len (l : Nat) : (headE l).length = l + 4 := by simp [headE]
/-- up to the late write -/
theorem span_run (h : Fit r n true m) (form : Str) (f : Nat) (hf : r.l + f ≤ r.g + r.t) (rest : List Ev) :
    (wok r form (m + 5 + f) (wC n (r.l + f) (keptN r f (some (1, 0)))) rest → wok r form 0 (wbegun r) (headE (m + 1) ++ List.replicate f .pass ++ rest)) ∧
      wsteps r form 0 (wbegun r) (headE (m + 1) ++ List.replicate f .pass ++ rest) = wsteps r form (m + 5 + f) (wC n (r.l + f) (keptN r f (some (1, 0)))) rest := by
  have hd : headE (m + 1) ++ List.replicate f .pass ++ rest = .act "borrow" 0 :: .act "cut" 0 :: (List.replicate (m + 1) .pass ++ (.act "borrow" 1 :: .act "crash" 1 :: (List.replicate f .pass ++ rest))) := by simp [headE]
  rw [hd]
  have b0 := w_bor0 r form n h.n4 h.s 0
  have b0' : (lbehind r (lbegun r.s) (.act "borrow" 0)).1 = StA n false 0 := by rw [h.s]; exact bor0 r n h.n4
  have ok0 : wok1 r (wbegun r) (.act "borrow" 0) := by
    simp only [wok1, if_neg nb]
    refine ⟨mb, rfl, fun _ q hq => ?_⟩
    change aget (lbehind r (lbegun r.s) (.act "borrow" 0)).1.us 0 = some q at hq
    rw [b0'] at hq
    have : q = (0, 0) := (Option.some.inj hq).symm
    subst this
    have : 0 < (List.replicate r.s.toNat (none : Option Int)).length := by rw [h.s]; simp
    exact ⟨Int.le_refl _, this, this, this⟩
  have c0 := w_cut0 r form n 1
  have okc : wok1 r (wA n false 0) (.act "cut" 0) := by
    simp only [wok1, if_neg nc]
    exact ⟨mc, canC r n 0, fun z => absurd z ncb⟩
  have p := w_pass r form n true (.act "borrow" 1 :: .act "crash" 1 :: (List.replicate f .pass ++ rest)) h.g h.b m 2 0 h.k
  have b1 := w_bor1 r form n h.n4 true r.l (2 + m + 1)
  have b1' := bor1 r n h.n4 true r.l
  have x1 := w_crash1 r form n r.l (2 + m + 1 + 1)
  have c := w_passC r form n rest f (2 + m + 1 + 1 + 1) r.l (some (1, 0)) hf
  have ei : 2 + m + 1 + 1 + 1 + f = m + 5 + f := by omega
  rw [ei] at c
  have pos : 0 < (List.replicate (n + 1) (none : Option Int)).length := by simp
  have okb : wok1 r (wL n true r.l) (.act "borrow" 1) := by
    simp only [wok1, if_neg nb]
    refine ⟨mb, canB1 r n true r.l, fun _ q hq => ?_⟩
    change aget (lbehind r (StL n true r.l) (.act "borrow" 1)).1.us 1 = some q at hq
    rw [b1'] at hq
    have : q = (0, 0) := (Option.some.inj hq).symm
    subst this
    exact ⟨Int.le_refl _, pos, pos, pos⟩
  have okx : wok1 r (wB n true r.l) (.act "crash" 1) := by
    simp only [wok1, if_neg nx]
    exact ⟨mx, canX r n r.l, fun z => absurd z nxb⟩
  refine ⟨fun t => ⟨ok0, ?_⟩, ?_⟩
  · rw [b0]
    refine ⟨okc, ?_⟩
    show wok r form 2 (wstep r form (wA n false 0) 1 (.act "cut" 0)) _
    rw [c0]
    refine p.1 ⟨okb, ?_⟩
    rw [b1]
    refine ⟨okx, ?_⟩
    rw [x1]
    exact c.1 t
  · show wsteps r form 1 (wstep r form (wbegun r) 0 (.act "borrow" 0)) _ = _
    rw [b0]
    show wsteps r form 2 (wstep r form (wA n false 0) 1 (.act "cut" 0)) _ = _
    rw [c0, p.2]
    show wsteps r form (2 + m + 1 + 1) (wstep r form (wL n true r.l) (2 + m + 1) (.act "borrow" 1)) _ = _
    rw [b1]
    show wsteps r form (2 + m + 1 + 1 + 1) (wstep r form (wB n true r.l) (2 + m + 1 + 1) (.act "crash" 1)) _ = _
    rw [x1]
    exact c.2
theorem late_ok (h : Fit r n true m) (form : Str) (f : Nat) (hf : r.l + f ≤ r.g + r.t) : wok r form 0 (wbegun r) (headE (m + 1) ++ List.replicate f .pass ++ [.act "write" 0]) := by
  refine (span_run h form f hf _).1 ⟨?_, trivial⟩
  have pos : 0 < (List.replicate (n + 1) (none : Option Int)).length := by simp
  show wok1 r (wC n (r.l + f) _) (.act "write" 0)
  simp only [wok1, if_pos]
  exact ⟨⟨(0, r.l + f), rfl, Int.le_refl _, pos, pos, pos⟩, 0, rfl⟩
theorem late_found (h : Fit r n true m) (form : Str) (fo : form = "open" ∨ form = "highest") (f : Nat) (hf : r.l + f ≤ r.g + r.t) : (wsteps r form 0 (wbegun r) (headE (m + 1) ++ List.replicate f .pass ++ [.act "write" 0])).found = [⟨m + 5 + f, 0, 0, 0, true⟩] := by
  rw [(span_run h form f hf _).2]
  show (wwrite form (wC n (r.l + f) _) (m + 5 + f) 0).found = _
  rcases fo with rfl | rfl <;> rfl
theorem ahead_ok (h : Fit r n true m) (form : Str) (f : Nat) (hf : r.l + f ≤ r.g + r.t) : wok r form 0 (wbegun r) (headE (m + 1) ++ List.replicate f .pass) ∧ (wsteps r form 0 (wbegun r) (headE (m + 1) ++ List.replicate f .pass)).s = StC n (r.l + f) (keptN r f (some (1, 0))) := by
  have := span_run h form f hf []
  rw [List.append_nil] at this
  exact ⟨this.1 trivial, by rw [this.2]; rfl⟩
theorem headE_nwr (l f : Nat) : (headE l ++ List.replicate f Ev.pass).filter nwr = headE l ++ List.replicate f Ev.pass := by
  rw [List.filter_eq_self]
  intro e he
  simp only [headE, List.mem_append, List.mem_cons, List.not_mem_nil, or_false, List.mem_replicate] at he
  rcases he with ((he | he) | he) | he
  · rcases he with rfl | rfl <;> decide +kernel
  · rw [he.2]; rfl
  · rcases he with rfl | rfl <;> decide +kernel
  · rw [he.2]; rfl
theorem headE_us (l f : Nat) (rest : List Ev) (hr : ∀ e ∈ rest, ∀ w u, e = .act w u → 0 ≤ u) : ∀ e ∈ headE l ++ List.replicate f .pass ++ rest, ∀ w u, e = .act w u → 0 ≤ u := by
  intro e he w u ee
  simp only [headE, List.mem_append, List.mem_cons, List.not_mem_nil, or_false, List.mem_replicate] at he
  rcases he with (((he | he) | he) | he) | he
  · rcases he with rfl | rfl <;> cases ee <;> decide
  · rw [he.2] at ee; cases ee
  · rcases he with rfl | rfl <;> cases ee <;> decide
  · rw [he.2] at ee; cases ee
  · exact hr e he w u ee
end
end Lw

/-! ## The text by places, and what the head tells of it (printed by gen.py) -/
namespace Lw
open PySem PySem.Spec PyProof.Rows L2 DL
def topS (i : Nat) : Stmt := PySem.Challenge.pw_lapseseats_k79_late_spans_and_safe_lapse.main.body.getD i (.Pass ⟨0, 0, 0, 0⟩)
abbrev s_InvalidRuledd_initdd : Stmt := inClass (topS 2) 0
abbrev n_InvalidRuledd_initdd : List Str := ["self", "word"]
theorem sc_InvalidRuledd_initdd : FnScope n_InvalidRuledd_initdd ["self", "word"] (defScope s_InvalidRuledd_initdd) := ⟨rfl, rfl, rfl, by decide +kernel, rfl, by decide +kernel, by decide +kernel⟩
abbrev s_InvalidDaydd_initdd : Stmt := inClass (topS 3) 0
abbrev n_InvalidDaydd_initdd : List Str := ["self", "at"]
theorem sc_InvalidDaydd_initdd : FnScope n_InvalidDaydd_initdd ["self", "at"] (defScope s_InvalidDaydd_initdd) := ⟨rfl, rfl, rfl, by decide +kernel, rfl, by decide +kernel, by decide +kernel⟩
abbrev s_InvalidTextdd_initdd : Stmt := inClass (topS 4) 0
abbrev n_InvalidTextdd_initdd : List Str := ["self", "at"]
theorem sc_InvalidTextdd_initdd : FnScope n_InvalidTextdd_initdd ["self", "at"] (defScope s_InvalidTextdd_initdd) := ⟨rfl, rfl, rfl, by decide +kernel, rfl, by decide +kernel, by decide +kernel⟩
abbrev s_is_integer : Stmt := topS 10
abbrev n_is_integer : List Str := ["value"]
theorem sc_is_integer : FnScope n_is_integer ["value"] (defScope s_is_integer) := ⟨rfl, rfl, rfl, by decide +kernel, rfl, by decide +kernel, by decide +kernel⟩
abbrev s_is_from : Stmt := topS 11
abbrev n_is_from : List Str := ["value", "least"]
theorem sc_is_from : FnScope n_is_from ["value", "least"] (defScope s_is_from) := ⟨rfl, rfl, rfl, by decide +kernel, rfl, by decide +kernel, by decide +kernel⟩
abbrev s_is_sequence : Stmt := topS 12
abbrev n_is_sequence : List Str := ["value"]
theorem sc_is_sequence : FnScope n_is_sequence ["value"] (defScope s_is_sequence) := ⟨rfl, rfl, rfl, by decide +kernel, rfl, by decide +kernel, by decide +kernel⟩
abbrev s_is_event : Stmt := topS 13
abbrev n_is_event : List Str := ["value"]
theorem sc_is_event : FnScope n_is_event ["value"] (defScope s_is_event) := ⟨rfl, rfl, rfl, by decide +kernel, rfl, by decide +kernel, by decide +kernel⟩
abbrev s_number_in : Stmt := topS 14
abbrev n_number_in : List Str := ["word", "most_digits", "sign"]
theorem sc_number_in : FnScope n_number_in ["word", "most_digits"] (defScope s_number_in) := ⟨rfl, rfl, rfl, by decide +kernel, rfl, by decide +kernel, by decide +kernel⟩
abbrev s_reach : Stmt := topS 16
abbrev n_reach : List Str := ["rule"]
theorem sc_reach : FnScope n_reach ["rule"] (defScope s_reach) := ⟨rfl, rfl, rfl, by decide +kernel, rfl, by decide +kernel, by decide +kernel⟩
abbrev s_calm_reach : Stmt := topS 17
abbrev n_calm_reach : List Str := ["rule"]
theorem sc_calm_reach : FnScope n_calm_reach ["rule"] (defScope s_calm_reach) := ⟨rfl, rfl, rfl, by decide +kernel, rfl, by decide +kernel, by decide +kernel⟩
abbrev s_Standdd_initdd : Stmt := inClass (topS 19) 0
abbrev n_Standdd_initdd : List Str := ["self", "using", "kept", "cut"]
theorem sc_Standdd_initdd : FnScope n_Standdd_initdd ["self", "using", "kept", "cut"] (defScope s_Standdd_initdd) := ⟨rfl, rfl, rfl, by decide +kernel, rfl, by decide +kernel, by decide +kernel⟩
abbrev s_Stand_used_by : Stmt := inClass (topS 19) 1
abbrev n_Stand_used_by : List Str := ["self", "user", "one", "seat", "age"]
theorem sc_Stand_used_by : FnScope n_Stand_used_by ["self", "user"] (defScope s_Stand_used_by) := ⟨rfl, rfl, rfl, by decide +kernel, rfl, by decide +kernel, by decide +kernel⟩
abbrev s_Stand_seat_kept_for : Stmt := inClass (topS 19) 2
abbrev n_Stand_seat_kept_for : List Str := ["self", "user", "seat", "pair"]
theorem sc_Stand_seat_kept_for : FnScope n_Stand_seat_kept_for ["self", "user"] (defScope s_Stand_seat_kept_for) := ⟨rfl, rfl, rfl, by decide +kernel, rfl, by decide +kernel, by decide +kernel⟩
abbrev s_Stand_with_user : Stmt := inClass (topS 19) 3
abbrev n_Stand_with_user : List Str := ["self", "user", "seat", "rest", "row"]
theorem sc_Stand_with_user : FnScope n_Stand_with_user ["self", "user", "seat"] (defScope s_Stand_with_user) := ⟨rfl, rfl, rfl, by decide +kernel, rfl, by decide +kernel, by decide +kernel⟩
abbrev s_Stand_without_user : Stmt := inClass (topS 19) 4
abbrev n_Stand_without_user : List Str := ["self", "user", "row"]
theorem sc_Stand_without_user : FnScope n_Stand_without_user ["self", "user"] (defScope s_Stand_without_user) := ⟨rfl, rfl, rfl, by decide +kernel, rfl, by decide +kernel, by decide +kernel⟩
abbrev s_Stand_kept_but : Stmt := inClass (topS 19) 5
abbrev n_Stand_kept_but : List Str := ["self", "seat", "pair", "at", "known"]
theorem sc_Stand_kept_but : FnScope n_Stand_kept_but ["self", "seat", "pair"] (defScope s_Stand_kept_but) := ⟨rfl, rfl, rfl, by decide +kernel, rfl, by decide +kernel, by decide +kernel⟩
abbrev s_first_stand : Stmt := topS 20
abbrev n_first_stand : List Str := ["rule", "seat"]
theorem sc_first_stand : FnScope n_first_stand ["rule"] (defScope s_first_stand) := ⟨rfl, rfl, rfl, by decide +kernel, rfl, by decide +kernel, by decide +kernel⟩
abbrev s_borrowed : Stmt := topS 21
abbrev n_borrowed : List Str := ["stand", "user", "seat", "free", "at", "pair"]
theorem sc_borrowed : FnScope n_borrowed ["stand", "user"] (defScope s_borrowed) := ⟨rfl, rfl, rfl, by decide +kernel, rfl, by decide +kernel, by decide +kernel⟩
abbrev s_spoken : Stmt := topS 22
abbrev n_spoken : List Str := ["stand", "user", "seat"]
theorem sc_spoken : FnScope n_spoken ["stand", "user"] (defScope s_spoken) := ⟨rfl, rfl, rfl, by decide +kernel, rfl, by decide +kernel, by decide +kernel⟩
abbrev s_given_back : Stmt := topS 23
abbrev n_given_back : List Str := ["stand", "user", "seat", "rest"]
theorem sc_given_back : FnScope n_given_back ["stand", "user"] (defScope s_given_back) := ⟨rfl, rfl, rfl, by decide +kernel, rfl, by decide +kernel, by decide +kernel⟩
abbrev s_can_pass : Stmt := topS 24
abbrev n_can_pass : List Str := ["rule", "stand", "user", "seat", "age"]
theorem sc_can_pass : FnScope n_can_pass ["rule", "stand"] (defScope s_can_pass) := ⟨rfl, rfl, rfl, by decide +kernel, rfl, by decide +kernel, by decide +kernel⟩
abbrev s_elder : Stmt := topS 25
abbrev n_elder : List Str := ["stand", "using", "user", "seat", "age", "kept", "pair"]
theorem sc_elder : FnScope n_elder ["stand"] (defScope s_elder) := ⟨rfl, rfl, rfl, by decide +kernel, rfl, by decide +kernel, by decide +kernel⟩
abbrev s_passed : Stmt := topS 26
abbrev n_passed : List Str := ["rule", "stand", "later", "lost", "pair", "taken", "user", "seat", "age", "kept"]
theorem sc_passed : FnScope n_passed ["rule", "stand"] (defScope s_passed) := ⟨rfl, rfl, rfl, by decide +kernel, rfl, by decide +kernel, by decide +kernel⟩
abbrev s_is_possible : Stmt := topS 27
abbrev n_is_possible : List Str := ["rule", "stand", "event", "word", "user", "row", "is_cut"]
theorem sc_is_possible : FnScope n_is_possible ["rule", "stand", "event"] (defScope s_is_possible) := ⟨rfl, rfl, rfl, by decide +kernel, rfl, by decide +kernel, by decide +kernel⟩
abbrev s_led_on : Stmt := topS 28
abbrev n_led_on : List Str := ["stand", "event", "word", "user", "one"]
theorem sc_led_on : FnScope n_led_on ["stand", "event"] (defScope s_led_on) := ⟨rfl, rfl, rfl, by decide +kernel, rfl, by decide +kernel, by decide +kernel⟩
abbrev s_faults_in : Stmt := topS 29
abbrev n_faults_in : List Str := ["rule", "stand", "seats", "user", "seat", "age", "found"]
theorem sc_faults_in : FnScope n_faults_in ["rule", "stand"] (defScope s_faults_in) := ⟨rfl, rfl, rfl, by decide +kernel, rfl, by decide +kernel, by decide +kernel⟩
abbrev s_behind : Stmt := topS 30
abbrev n_behind : List Str := ["rule", "stand", "event", "met", "later", "is_taken", "is_away"]
theorem sc_behind : FnScope n_behind ["rule", "stand", "event"] (defScope s_behind) := ⟨rfl, rfl, rfl, by decide +kernel, rfl, by decide +kernel, by decide +kernel⟩
abbrev s_Storedd_initdd : Stmt := inClass (topS 33) 0
abbrev n_Storedd_initdd : List Str := ["self"]
theorem sc_Storedd_initdd : FnScope n_Storedd_initdd ["self"] (defScope s_Storedd_initdd) := ⟨rfl, rfl, rfl, by decide +kernel, rfl, by decide +kernel, by decide +kernel⟩
abbrev s_is_write : Stmt := topS 34
abbrev n_is_write : List Str := ["value"]
theorem sc_is_write : FnScope n_is_write ["value"] (defScope s_is_write) := ⟨rfl, rfl, rfl, by decide +kernel, rfl, by decide +kernel, by decide +kernel⟩
abbrev s_is_less : Stmt := topS 35
abbrev n_is_less : List Str := ["one", "other"]
theorem sc_is_less : FnScope n_is_less ["one", "other"] (defScope s_is_less) := ⟨rfl, rfl, rfl, by decide +kernel, rfl, by decide +kernel, by decide +kernel⟩
abbrev s_takes : Stmt := topS 36
abbrev n_takes : List Str := ["form", "store", "ticket"]
theorem sc_takes : FnScope n_takes ["form", "store", "ticket"] (defScope s_takes) := ⟨rfl, rfl, rfl, by decide +kernel, rfl, by decide +kernel, by decide +kernel⟩
abbrev s_wrote : Stmt := topS 37
abbrev n_wrote : List Str := ["form", "store", "ticket", "is_taken"]
theorem sc_wrote : FnScope n_wrote ["form", "store", "ticket"] (defScope s_wrote) := ⟨rfl, rfl, rfl, by decide +kernel, rfl, by decide +kernel, by decide +kernel⟩
abbrev s_led : Stmt := topS 38
abbrev n_led : List Str := ["rule", "form", "deeds", "stand", "stores", "tickets", "seat", "found", "many", "at", "deed", "row", "ticket"]
theorem sc_led : FnScope n_led ["rule", "form", "deeds"] (defScope s_led) := ⟨rfl, rfl, rfl, by decide +kernel, rfl, by decide +kernel, by decide +kernel⟩
abbrev s_written : Stmt := topS 39
abbrev n_written : List Str := ["rule", "form", "deeds"]
theorem sc_written : FnScope n_written ["rule", "form", "deeds"] (defScope s_written) := ⟨rfl, rfl, rfl, by decide +kernel, rfl, by decide +kernel, by decide +kernel⟩
abbrev s_can_meet : Stmt := topS 40
abbrev n_can_meet : List Str := ["rule", "users", "form", "fault"]
theorem sc_can_meet : FnScope n_can_meet ["rule", "users", "form", "fault"] (defScope s_can_meet) := ⟨rfl, rfl, rfl, by decide +kernel, rfl, by decide +kernel, by decide +kernel⟩
abbrev s_need_fault : Stmt := topS 41
abbrev n_need_fault : List Str := ["fault"]
theorem sc_need_fault : FnScope n_need_fault ["fault"] (defScope s_need_fault) := ⟨rfl, rfl, rfl, by decide +kernel, rfl, by decide +kernel, by decide +kernel⟩
abbrev s_store_faults : Stmt := topS 42
abbrev n_store_faults : List Str := ["rule", "users", "form", "fault"]
theorem sc_store_faults : FnScope n_store_faults ["rule", "users", "form"] (defScope s_store_faults) := ⟨rfl, rfl, rfl, by decide +kernel, rfl, by decide +kernel, by decide +kernel⟩
abbrev s_least_deeds : Stmt := topS 43
abbrev n_least_deeds : List Str := ["rule", "users", "form", "fault", "cuts"]
theorem sc_least_deeds : FnScope n_least_deeds ["rule", "users", "form", "fault"] (defScope s_least_deeds) := ⟨rfl, rfl, rfl, by decide +kernel, rfl, by decide +kernel, by decide +kernel⟩
abbrev s_late_span : Stmt := topS 44
abbrev n_late_span : List Str := ["rule", "form", "found"]
theorem sc_late_span : FnScope n_late_span ["rule", "form"] (defScope s_late_span) := ⟨rfl, rfl, rfl, by decide +kernel, rfl, by decide +kernel, by decide +kernel⟩
abbrev s_safe_store : Stmt := topS 45
abbrev n_safe_store : List Str := ["rule", "form"]
theorem sc_safe_store : FnScope n_safe_store ["rule", "form"] (defScope s_safe_store) := ⟨rfl, rfl, rfl, by decide +kernel, rfl, by decide +kernel, by decide +kernel⟩
abbrev s_least_for : Stmt := topS 49
abbrev n_least_for : List Str := ["word"]
theorem sc_least_for : FnScope n_least_for ["word"] (defScope s_least_for) := ⟨rfl, rfl, rfl, by decide +kernel, rfl, by decide +kernel, by decide +kernel⟩
abbrev s_Ruledd_initdd : Stmt := inClass (topS 50) 0
abbrev n_Ruledd_initdd : List Str := ["self", "seats", "lapse", "beat", "grace", "late", "given", "at", "word"]
theorem sc_Ruledd_initdd : FnScope n_Ruledd_initdd ["self", "seats", "lapse", "beat", "grace", "late"] (defScope s_Ruledd_initdd) := ⟨rfl, rfl, rfl, by decide +kernel, rfl, by decide +kernel, by decide +kernel⟩
abbrev s_Rule_numbers : Stmt := inClass (topS 50) 1
abbrev n_Rule_numbers : List Str := ["self"]
theorem sc_Rule_numbers : FnScope n_Rule_numbers ["self"] (defScope s_Rule_numbers) := ⟨rfl, rfl, rfl, by decide +kernel, rfl, by decide +kernel, by decide +kernel⟩
abbrev s_Rule_but : Stmt := inClass (topS 50) 2
abbrev n_Rule_but : List Str := ["self", "word", "number", "given", "other", "known"]
theorem sc_Rule_but : FnScope n_Rule_but ["self", "word", "number"] (defScope s_Rule_but) := ⟨rfl, rfl, rfl, by decide +kernel, rfl, by decide +kernel, by decide +kernel⟩
abbrev s_Ruledd_eqdd : Stmt := inClass (topS 50) 4
abbrev n_Ruledd_eqdd : List Str := ["self", "other"]
theorem sc_Ruledd_eqdd : FnScope n_Ruledd_eqdd ["self", "other"] (defScope s_Ruledd_eqdd) := ⟨rfl, rfl, rfl, by decide +kernel, rfl, by decide +kernel, by decide +kernel⟩
abbrev s_Ruledd_strdd : Stmt := inClass (topS 50) 5
abbrev n_Ruledd_strdd : List Str := ["self", "head"]
theorem sc_Ruledd_strdd : FnScope n_Ruledd_strdd ["self"] (defScope s_Ruledd_strdd) := ⟨rfl, rfl, rfl, by decide +kernel, rfl, by decide +kernel, by decide +kernel⟩
abbrev s__law_box : Stmt := topS 52
abbrev n__law_box : List Str := ["script", "k", "own", "cell", "seed", "one"]
theorem sc__law_box : FnScope n__law_box ["script", "k", "own"] (defScope s__law_box) := ⟨rfl, rfl, rfl, by decide +kernel, rfl, by decide +kernel, by decide +kernel⟩
abbrev s__law_take : Stmt := topS 53
abbrev n__law_take : List Str := ["box", "limit", "digit"]
theorem sc__law_take : FnScope n__law_take ["box", "limit"] (defScope s__law_take) := ⟨rfl, rfl, rfl, by decide +kernel, rfl, by decide +kernel, by decide +kernel⟩
abbrev s__law_ruled : Stmt := topS 54
abbrev n__law_ruled : List Str := ["given"]
theorem sc__law_ruled : FnScope n__law_ruled ["given"] (defScope s__law_ruled) := ⟨rfl, rfl, rfl, by decide +kernel, rfl, by decide +kernel, by decide +kernel⟩
abbrev s__law_begun : Stmt := topS 55
abbrev n__law_begun : List Str := ["given"]
theorem sc__law_begun : FnScope n__law_begun ["given"] (defScope s__law_begun) := ⟨rfl, rfl, rfl, by decide +kernel, rfl, by decide +kernel, by decide +kernel⟩
abbrev s__law_kept_seat : Stmt := topS 56
abbrev n__law_kept_seat : List Str := ["state", "user", "found", "seat", "pair"]
theorem sc__law_kept_seat : FnScope n__law_kept_seat ["state", "user"] (defScope s__law_kept_seat) := ⟨rfl, rfl, rfl, by decide +kernel, rfl, by decide +kernel, by decide +kernel⟩
abbrev s__law_can : Stmt := topS 57
abbrev n__law_can : List Str := ["given", "state", "event", "using", "kept", "cut", "user", "age", "word"]
theorem sc__law_can : FnScope n__law_can ["given", "state", "event"] (defScope s__law_can) := ⟨rfl, rfl, rfl, by decide +kernel, rfl, by decide +kernel, by decide +kernel⟩
abbrev s__law_moment : Stmt := topS 58
abbrev n__law_moment : List Str := ["given", "state", "using", "kept", "lost", "user", "pair", "is_lost"]
theorem sc__law_moment : FnScope n__law_moment ["given", "state"] (defScope s__law_moment) := ⟨rfl, rfl, rfl, by decide +kernel, rfl, by decide +kernel, by decide +kernel⟩
abbrev s__law_behind : Stmt := topS 59
abbrev n__law_behind : List Str := ["given", "state", "event", "later", "lost", "bad", "user", "word", "using", "kept", "cut", "seat", "met", "free", "at", "pair", "one"]
theorem sc__law_behind : FnScope n__law_behind ["given", "state", "event"] (defScope s__law_behind) := ⟨rfl, rfl, rfl, by decide +kernel, rfl, by decide +kernel, by decide +kernel⟩
abbrev s__law_faults : Stmt := topS 60
abbrev n__law_faults : List Str := ["given", "state", "met", "seats", "user", "found", "twice", "seat", "one"]
theorem sc__law_faults : FnScope n__law_faults ["given", "state", "met"] (defScope s__law_faults) := ⟨rfl, rfl, rfl, by decide +kernel, rfl, by decide +kernel, by decide +kernel⟩
abbrev s__law_state : Stmt := topS 61
abbrev n__law_state : List Str := ["given", "events", "state", "event"]
theorem sc__law_state : FnScope n__law_state ["given", "events"] (defScope s__law_state) := ⟨rfl, rfl, rfl, by decide +kernel, rfl, by decide +kernel, by decide +kernel⟩
abbrev s__law_seat_of : Stmt := topS 62
abbrev n__law_seat_of : List Str := ["state", "user"]
theorem sc__law_seat_of : FnScope n__law_seat_of ["state", "user"] (defScope s__law_seat_of) := ⟨rfl, rfl, rfl, by decide +kernel, rfl, by decide +kernel, by decide +kernel⟩
abbrev s__law_takes : Stmt := topS 63
abbrev n__law_takes : List Str := ["form", "told", "newest", "ticket", "least"]
theorem sc__law_takes : FnScope n__law_takes ["form", "told", "newest", "ticket"] (defScope s__law_takes) := ⟨rfl, rfl, rfl, by decide +kernel, rfl, by decide +kernel, by decide +kernel⟩
abbrev s__law_written : Stmt := topS 64
abbrev n__law_written : List Str := ["given", "form", "deeds", "state", "tickets", "many", "found", "told", "newest", "taken", "at", "deed", "seat", "ticket", "is_taken"]
theorem sc__law_written : FnScope n__law_written ["given", "form", "deeds"] (defScope s__law_written) := ⟨rfl, rfl, rfl, by decide +kernel, rfl, by decide +kernel, by decide +kernel⟩
abbrev s__law_span_right : Stmt := topS 65
abbrev n__law_span_right : List Str := ["given", "form", "ahead", "found", "deeds", "rows", "refused", "e"]
theorem sc__law_span_right : FnScope n__law_span_right ["given", "form"] (defScope s__law_span_right) := ⟨rfl, rfl, rfl, by decide +kernel, rfl, by decide +kernel, by decide +kernel⟩
abbrev s_law : Stmt := topS 66
abbrev n_law : List Str := ["script", "k", "box", "turn", "some", "number", "given", "rule", "form", "least", "lapse", "great"]
theorem sc_law : FnScope n_law ["script"] (defScope s_law) := ⟨rfl, rfl, rfl, by decide +kernel, rfl, by decide +kernel, by decide +kernel⟩
def fa : List He.Fa := [.glo "is_integer", .glo "is_from", .glo "is_sequence", .glo "is_event", .glo "number_in", .glo "reach", .glo "calm_reach", .glo "first_stand", .glo "borrowed", .glo "spoken", .glo "given_back", .glo "can_pass", .glo "elder", .glo "passed", .glo "is_possible", .glo "led_on", .glo "faults_in", .glo "behind", .glo "is_write", .glo "is_less", .glo "takes", .glo "wrote", .glo "led", .glo "written", .glo "can_meet", .glo "need_fault", .glo "store_faults", .glo "least_deeds", .glo "late_span", .glo "safe_store", .glo "least_for", .glo "_law_box", .glo "_law_take", .glo "_law_ruled", .glo "_law_begun", .glo "_law_kept_seat", .glo "_law_can", .glo "_law_moment", .glo "_law_behind", .glo "_law_faults", .glo "_law_state", .glo "_law_seat_of", .glo "_law_takes", .glo "_law_written", .glo "_law_span_right", .glo "law", .glo "SeatError", .glo "InvalidRule", .glo "InvalidDay", .glo "InvalidText", .glo "InvalidFault", .glo "Stand", .cls "Stand", .mkr "Stand", .meth "Stand" "used_by", .meth "Stand" "seat_kept_for", .meth "Stand" "with_user", .meth "Stand" "without_user", .meth "Stand" "kept_but", .noat "Stand" "using", .noat "Stand" "kept", .noat "Stand" "cut", .glo "Store", .cls "Store", .mkr "Store", .noat "Store" "newest", .noat "Store" "told", .noat "Store" "taken", .glo "Rule", .cls "Rule", .mkr "Rule", .meth "Rule" "numbers", .meth "Rule" "but", .noat "Rule" "seats", .noat "Rule" "lapse", .noat "Rule" "beat", .noat "Rule" "grace", .noat "Rule" "late", .free "abs", .free "all", .free "any", .free "bool", .free "dict", .free "enumerate", .free "int", .free "isinstance", .free "len", .free "list", .free "max", .free "min", .free "range", .free "sorted", .free "str", .free "tuple", .free "zip", .glo "PASS", .glo "DEEDS", .int "PAIR" 2, .glo "FAULTS", .glo "WORDS", .int "DIGITS" 7]
def fn : List He.DefD := [⟨("InvalidRule", some "__init__"), "__init__", "InvalidRule.__init__", defArgs s_InvalidRuledd_initdd, defBody s_InvalidRuledd_initdd, defScope s_InvalidRuledd_initdd, [], []⟩,
  ⟨("InvalidDay", some "__init__"), "__init__", "InvalidDay.__init__", defArgs s_InvalidDaydd_initdd, defBody s_InvalidDaydd_initdd, defScope s_InvalidDaydd_initdd, [], []⟩,
  ⟨("InvalidText", some "__init__"), "__init__", "InvalidText.__init__", defArgs s_InvalidTextdd_initdd, defBody s_InvalidTextdd_initdd, defScope s_InvalidTextdd_initdd, [], []⟩,
  ⟨("is_integer", none), "is_integer", "is_integer", defArgs s_is_integer, defBody s_is_integer, defScope s_is_integer, [], []⟩,
  ⟨("is_from", none), "is_from", "is_from", defArgs s_is_from, defBody s_is_from, defScope s_is_from, [], []⟩,
  ⟨("is_sequence", none), "is_sequence", "is_sequence", defArgs s_is_sequence, defBody s_is_sequence, defScope s_is_sequence, [], []⟩,
  ⟨("is_event", none), "is_event", "is_event", defArgs s_is_event, defBody s_is_event, defScope s_is_event, [], []⟩,
  ⟨("number_in", none), "number_in", "number_in", defArgs s_number_in, defBody s_number_in, defScope s_number_in, [], []⟩,
  ⟨("reach", none), "reach", "reach", defArgs s_reach, defBody s_reach, defScope s_reach, [], []⟩,
  ⟨("calm_reach", none), "calm_reach", "calm_reach", defArgs s_calm_reach, defBody s_calm_reach, defScope s_calm_reach, [], []⟩,
  ⟨("Stand", some "__init__"), "__init__", "Stand.__init__", defArgs s_Standdd_initdd, defBody s_Standdd_initdd, defScope s_Standdd_initdd, [], []⟩,
  ⟨("Stand", some "used_by"), "used_by", "Stand.used_by", defArgs s_Stand_used_by, defBody s_Stand_used_by, defScope s_Stand_used_by, [], []⟩,
  ⟨("Stand", some "seat_kept_for"), "seat_kept_for", "Stand.seat_kept_for", defArgs s_Stand_seat_kept_for, defBody s_Stand_seat_kept_for, defScope s_Stand_seat_kept_for, [], []⟩,
  ⟨("Stand", some "with_user"), "with_user", "Stand.with_user", defArgs s_Stand_with_user, defBody s_Stand_with_user, defScope s_Stand_with_user, [], []⟩,
  ⟨("Stand", some "without_user"), "without_user", "Stand.without_user", defArgs s_Stand_without_user, defBody s_Stand_without_user, defScope s_Stand_without_user, [], []⟩,
  ⟨("Stand", some "kept_but"), "kept_but", "Stand.kept_but", defArgs s_Stand_kept_but, defBody s_Stand_kept_but, defScope s_Stand_kept_but, [], []⟩,
  ⟨("first_stand", none), "first_stand", "first_stand", defArgs s_first_stand, defBody s_first_stand, defScope s_first_stand, [], []⟩,
  ⟨("borrowed", none), "borrowed", "borrowed", defArgs s_borrowed, defBody s_borrowed, defScope s_borrowed, [], []⟩,
  ⟨("spoken", none), "spoken", "spoken", defArgs s_spoken, defBody s_spoken, defScope s_spoken, [], []⟩,
  ⟨("given_back", none), "given_back", "given_back", defArgs s_given_back, defBody s_given_back, defScope s_given_back, [], []⟩,
  ⟨("can_pass", none), "can_pass", "can_pass", defArgs s_can_pass, defBody s_can_pass, defScope s_can_pass, [], []⟩,
  ⟨("elder", none), "elder", "elder", defArgs s_elder, defBody s_elder, defScope s_elder, [], []⟩,
  ⟨("passed", none), "passed", "passed", defArgs s_passed, defBody s_passed, defScope s_passed, [], []⟩,
  ⟨("is_possible", none), "is_possible", "is_possible", defArgs s_is_possible, defBody s_is_possible, defScope s_is_possible, [], []⟩,
  ⟨("led_on", none), "led_on", "led_on", defArgs s_led_on, defBody s_led_on, defScope s_led_on, [], []⟩,
  ⟨("faults_in", none), "faults_in", "faults_in", defArgs s_faults_in, defBody s_faults_in, defScope s_faults_in, [], []⟩,
  ⟨("behind", none), "behind", "behind", defArgs s_behind, defBody s_behind, defScope s_behind, [], []⟩,
  ⟨("Store", some "__init__"), "__init__", "Store.__init__", defArgs s_Storedd_initdd, defBody s_Storedd_initdd, defScope s_Storedd_initdd, [], []⟩,
  ⟨("is_write", none), "is_write", "is_write", defArgs s_is_write, defBody s_is_write, defScope s_is_write, [], []⟩,
  ⟨("is_less", none), "is_less", "is_less", defArgs s_is_less, defBody s_is_less, defScope s_is_less, [], []⟩,
  ⟨("takes", none), "takes", "takes", defArgs s_takes, defBody s_takes, defScope s_takes, [], []⟩,
  ⟨("wrote", none), "wrote", "wrote", defArgs s_wrote, defBody s_wrote, defScope s_wrote, [], []⟩,
  ⟨("led", none), "led", "led", defArgs s_led, defBody s_led, defScope s_led, [], []⟩,
  ⟨("written", none), "written", "written", defArgs s_written, defBody s_written, defScope s_written, [], []⟩,
  ⟨("can_meet", none), "can_meet", "can_meet", defArgs s_can_meet, defBody s_can_meet, defScope s_can_meet, [], []⟩,
  ⟨("need_fault", none), "need_fault", "need_fault", defArgs s_need_fault, defBody s_need_fault, defScope s_need_fault, [], []⟩,
  ⟨("store_faults", none), "store_faults", "store_faults", defArgs s_store_faults, defBody s_store_faults, defScope s_store_faults, [], []⟩,
  ⟨("least_deeds", none), "least_deeds", "least_deeds", defArgs s_least_deeds, defBody s_least_deeds, defScope s_least_deeds, [], []⟩,
  ⟨("late_span", none), "late_span", "late_span", defArgs s_late_span, defBody s_late_span, defScope s_late_span, [], []⟩,
  ⟨("safe_store", none), "safe_store", "safe_store", defArgs s_safe_store, defBody s_safe_store, defScope s_safe_store, [], []⟩,
  ⟨("least_for", none), "least_for", "least_for", defArgs s_least_for, defBody s_least_for, defScope s_least_for, [], []⟩,
  ⟨("Rule", some "__init__"), "__init__", "Rule.__init__", defArgs s_Ruledd_initdd, defBody s_Ruledd_initdd, defScope s_Ruledd_initdd, [.int 0], []⟩,
  ⟨("Rule", some "numbers"), "numbers", "Rule.numbers", defArgs s_Rule_numbers, defBody s_Rule_numbers, defScope s_Rule_numbers, [], []⟩,
  ⟨("Rule", some "but"), "but", "Rule.but", defArgs s_Rule_but, defBody s_Rule_but, defScope s_Rule_but, [], []⟩,
  ⟨("Rule", some "__eq__"), "__eq__", "Rule.__eq__", defArgs s_Ruledd_eqdd, defBody s_Ruledd_eqdd, defScope s_Ruledd_eqdd, [], []⟩,
  ⟨("Rule", some "__str__"), "__str__", "Rule.__str__", defArgs s_Ruledd_strdd, defBody s_Ruledd_strdd, defScope s_Ruledd_strdd, [], []⟩,
  ⟨("_law_box", none), "_law_box", "_law_box", defArgs s__law_box, defBody s__law_box, defScope s__law_box, [], []⟩,
  ⟨("_law_take", none), "_law_take", "_law_take", defArgs s__law_take, defBody s__law_take, defScope s__law_take, [], []⟩,
  ⟨("_law_ruled", none), "_law_ruled", "_law_ruled", defArgs s__law_ruled, defBody s__law_ruled, defScope s__law_ruled, [], []⟩,
  ⟨("_law_begun", none), "_law_begun", "_law_begun", defArgs s__law_begun, defBody s__law_begun, defScope s__law_begun, [], []⟩,
  ⟨("_law_kept_seat", none), "_law_kept_seat", "_law_kept_seat", defArgs s__law_kept_seat, defBody s__law_kept_seat, defScope s__law_kept_seat, [], []⟩,
  ⟨("_law_can", none), "_law_can", "_law_can", defArgs s__law_can, defBody s__law_can, defScope s__law_can, [], []⟩,
  ⟨("_law_moment", none), "_law_moment", "_law_moment", defArgs s__law_moment, defBody s__law_moment, defScope s__law_moment, [], []⟩,
  ⟨("_law_behind", none), "_law_behind", "_law_behind", defArgs s__law_behind, defBody s__law_behind, defScope s__law_behind, [], []⟩,
  ⟨("_law_faults", none), "_law_faults", "_law_faults", defArgs s__law_faults, defBody s__law_faults, defScope s__law_faults, [], []⟩,
  ⟨("_law_state", none), "_law_state", "_law_state", defArgs s__law_state, defBody s__law_state, defScope s__law_state, [], []⟩,
  ⟨("_law_seat_of", none), "_law_seat_of", "_law_seat_of", defArgs s__law_seat_of, defBody s__law_seat_of, defScope s__law_seat_of, [], []⟩,
  ⟨("_law_takes", none), "_law_takes", "_law_takes", defArgs s__law_takes, defBody s__law_takes, defScope s__law_takes, [], []⟩,
  ⟨("_law_written", none), "_law_written", "_law_written", defArgs s__law_written, defBody s__law_written, defScope s__law_written, [], []⟩,
  ⟨("_law_span_right", none), "_law_span_right", "_law_span_right", defArgs s__law_span_right, defBody s__law_span_right, defScope s__law_span_right, [], []⟩,
  ⟨("law", none), "law", "law", defArgs s_law, defBody s_law, defScope s_law, [], []⟩]
def xbl (K : PySem.W.Frag) : List Bool := [He.tupB K "PASS" [.str "pass"], He.tupB K "DEEDS" [.str "borrow", .str "word", .str "back", .str "crash", .str "stop", .str "cut", .str "join"], He.tupB K "FAULTS" [.str "back", .str "late"], He.tupB K "WORDS" [.str "seats", .str "lapse", .str "beat", .str "grace", .str "late"], exB K "InvalidRule" "SeatError" "word", exB K "InvalidDay" "SeatError" "at", isB K "InvalidDay" "SeatError" true, exB K "InvalidText" "SeatError" "at", insB K "Rule"]
def xb (K : PySem.W.Frag) : Bool := (xbl K).all id
def ct (K : PySem.W.Frag) : Nat → Addr
  | 0 => He.ga K "Rule"
  | 1 => He.ga K "Stand"
  | 2 => He.ga K "Store"
  | 3 => He.ga K "Day"
  | 4 => He.ga K "Played"
  | 5 => He.ga K "Live"
  | 6 => He.ga K "Desk"
  | 7 => He.ga K "Trial"
  | 8 => He.ga K "SeatError"
  | 9 => He.ga K "InvalidRule"
  | 10 => He.ga K "InvalidDay"
  | 11 => He.ga K "InvalidText"
  | 12 => He.ga K "InvalidFault"
  | 13 => He.ga K "InvalidLog"
  | 14 => He.ga K "InvalidCommand"
  | 15 => He.ga K "Refused"
  | _ => 0
structure Tx (K : PySem.W.Frag) (mg : Str → Option Value) : Prop where
  ex : ∃ h : Heap, K.In h ∧ h.Ns mainGlobals mg ∧ SaysX fa fn xb K
section
variable {K : PySem.W.Frag} {mg : Str → Option Value}
theorem Tx.def_ (T : Tx K mg) (i : Nat) {d : He.DefD} (h : fn[i]? = some d := by rfl) : ∃ fd, FunD K d.name d.qual d.params d.body d.scope (d.dvs K) (d.kws K) (He.fAd K d.at_) fd := let ⟨_, _, _, c⟩ := T.ex; c.def_ i h
theorem Tx.glo (T : Tx K mg) (i : Nat) {x : Str} (h : fa[i]? = some (.glo x) := by rfl) : mg x = some (.ref (He.ga K x)) := let ⟨_, X, G, c⟩ := T.ex; He.glo_ok X G (c.fact i h)
theorem Tx.free (T : Tx K mg) (i : Nat) {x : Str} (h : fa[i]? = some (.free x) := by rfl) : mg x = none := let ⟨_, X, G, c⟩ := T.ex; He.free_ok X G (c.fact i h)
theorem Tx.cls (T : Tx K mg) (i : Nat) {x : Str} (h : fa[i]? = some (.cls x) := by rfl) : Cls K (He.ga K x) := let ⟨_, _, _, c⟩ := T.ex; He.cls_ok (c.fact i h)
theorem Tx.mkr (T : Tx K mg) (i : Nat) {x : Str} (h : fa[i]? = some (.mkr x) := by rfl) : Mk K (He.ga K x) (He.ma K (He.ga K x) "__init__") := let ⟨_, _, _, c⟩ := T.ex; He.mkr_ok (c.fact i h)
theorem Tx.meth (T : Tx K mg) (i : Nat) {x m : Str} (h : fa[i]? = some (.meth x m) := by rfl) : Meth K (He.ga K x) m (He.ma K (He.ga K x) m) := let ⟨_, _, _, c⟩ := T.ex; He.meth_ok (c.fact i h)
theorem Tx.noat (T : Tx K mg) (i : Nat) {x f : Str} (h : fa[i]? = some (.noat x f) := by rfl) : NoAttr K (He.ga K x) f := let ⟨_, _, _, c⟩ := T.ex; He.noat_ok (c.fact i h)
theorem Tx.xb (T : Tx K mg) (i : Nat) {b : Bool} (h : (xbl K)[i]? = some b := by rfl) : b = true := let ⟨_, _, _, c⟩ := T.ex; List.all_eq_true.mp (show (xbl K).all id = true from c.x) b (List.mem_of_getElem? h)
theorem Tx.intC (T : Tx K mg) (i : Nat) {x : Str} {z : Int} (h : fa[i]? = some (.int x z) := by rfl) : GlC K (ct K) mg x (.int z) := let ⟨_, X, G, c⟩ := T.ex; let ⟨t, e⟩ := He.int_ok X G (c.fact i h); ⟨_, .int z, e, ⟨t, rfl⟩, fun _ _ => .int z⟩
theorem Tx.strC (T : Tx K mg) (i : Nat) {x z : Str} (h : fa[i]? = some (.str x z) := by rfl) : GlC K (ct K) mg x (.str z) := let ⟨_, X, G, c⟩ := T.ex; let ⟨t, e⟩ := He.str_ok X G (c.fact i h); ⟨_, .str z, e, ⟨t, rfl⟩, fun _ _ => .str z⟩
theorem d_InvalidRuledd_initdd (T : Tx K mg) : ∃ fd, FunD K "__init__" "InvalidRule.__init__" (defArgs s_InvalidRuledd_initdd) (defBody s_InvalidRuledd_initdd) (defScope s_InvalidRuledd_initdd) [] [] (He.fAd K ("InvalidRule", some "__init__")) fd := T.def_ 0
theorem d_InvalidDaydd_initdd (T : Tx K mg) : ∃ fd, FunD K "__init__" "InvalidDay.__init__" (defArgs s_InvalidDaydd_initdd) (defBody s_InvalidDaydd_initdd) (defScope s_InvalidDaydd_initdd) [] [] (He.fAd K ("InvalidDay", some "__init__")) fd := T.def_ 1
theorem d_InvalidTextdd_initdd (T : Tx K mg) : ∃ fd, FunD K "__init__" "InvalidText.__init__" (defArgs s_InvalidTextdd_initdd) (defBody s_InvalidTextdd_initdd) (defScope s_InvalidTextdd_initdd) [] [] (He.fAd K ("InvalidText", some "__init__")) fd := T.def_ 2
theorem d_is_integer (T : Tx K mg) : ∃ fd, FunD K "is_integer" "is_integer" (defArgs s_is_integer) (defBody s_is_integer) (defScope s_is_integer) [] [] (He.fAd K ("is_integer", none)) fd := T.def_ 3
theorem m_is_integer (T : Tx K mg) : mg "is_integer" = some (.ref (He.ga K "is_integer")) := T.glo 0
theorem d_is_from (T : Tx K mg) : ∃ fd, FunD K "is_from" "is_from" (defArgs s_is_from) (defBody s_is_from) (defScope s_is_from) [] [] (He.fAd K ("is_from", none)) fd := T.def_ 4
theorem m_is_from (T : Tx K mg) : mg "is_from" = some (.ref (He.ga K "is_from")) := T.glo 1
theorem d_is_sequence (T : Tx K mg) : ∃ fd, FunD K "is_sequence" "is_sequence" (defArgs s_is_sequence) (defBody s_is_sequence) (defScope s_is_sequence) [] [] (He.fAd K ("is_sequence", none)) fd := T.def_ 5
theorem m_is_sequence (T : Tx K mg) : mg "is_sequence" = some (.ref (He.ga K "is_sequence")) := T.glo 2
theorem d_is_event (T : Tx K mg) : ∃ fd, FunD K "is_event" "is_event" (defArgs s_is_event) (defBody s_is_event) (defScope s_is_event) [] [] (He.fAd K ("is_event", none)) fd := T.def_ 6
theorem m_is_event (T : Tx K mg) : mg "is_event" = some (.ref (He.ga K "is_event")) := T.glo 3
theorem d_number_in (T : Tx K mg) : ∃ fd, FunD K "number_in" "number_in" (defArgs s_number_in) (defBody s_number_in) (defScope s_number_in) [] [] (He.fAd K ("number_in", none)) fd := T.def_ 7
theorem m_number_in (T : Tx K mg) : mg "number_in" = some (.ref (He.ga K "number_in")) := T.glo 4
theorem d_reach (T : Tx K mg) : ∃ fd, FunD K "reach" "reach" (defArgs s_reach) (defBody s_reach) (defScope s_reach) [] [] (He.fAd K ("reach", none)) fd := T.def_ 8
theorem m_reach (T : Tx K mg) : mg "reach" = some (.ref (He.ga K "reach")) := T.glo 5
theorem d_calm_reach (T : Tx K mg) : ∃ fd, FunD K "calm_reach" "calm_reach" (defArgs s_calm_reach) (defBody s_calm_reach) (defScope s_calm_reach) [] [] (He.fAd K ("calm_reach", none)) fd := T.def_ 9
theorem m_calm_reach (T : Tx K mg) : mg "calm_reach" = some (.ref (He.ga K "calm_reach")) := T.glo 6
theorem d_Standdd_initdd (T : Tx K mg) : ∃ fd, FunD K "__init__" "Stand.__init__" (defArgs s_Standdd_initdd) (defBody s_Standdd_initdd) (defScope s_Standdd_initdd) [] [] (He.fAd K ("Stand", some "__init__")) fd := T.def_ 10
theorem d_Stand_used_by (T : Tx K mg) : ∃ fd, FunD K "used_by" "Stand.used_by" (defArgs s_Stand_used_by) (defBody s_Stand_used_by) (defScope s_Stand_used_by) [] [] (He.fAd K ("Stand", some "used_by")) fd := T.def_ 11
theorem d_Stand_seat_kept_for (T : Tx K mg) : ∃ fd, FunD K "seat_kept_for" "Stand.seat_kept_for" (defArgs s_Stand_seat_kept_for) (defBody s_Stand_seat_kept_for) (defScope s_Stand_seat_kept_for) [] [] (He.fAd K ("Stand", some "seat_kept_for")) fd := T.def_ 12
theorem d_Stand_with_user (T : Tx K mg) : ∃ fd, FunD K "with_user" "Stand.with_user" (defArgs s_Stand_with_user) (defBody s_Stand_with_user) (defScope s_Stand_with_user) [] [] (He.fAd K ("Stand", some "with_user")) fd := T.def_ 13
theorem d_Stand_without_user (T : Tx K mg) : ∃ fd, FunD K "without_user" "Stand.without_user" (defArgs s_Stand_without_user) (defBody s_Stand_without_user) (defScope s_Stand_without_user) [] [] (He.fAd K ("Stand", some "without_user")) fd := T.def_ 14
theorem d_Stand_kept_but (T : Tx K mg) : ∃ fd, FunD K "kept_but" "Stand.kept_but" (defArgs s_Stand_kept_but) (defBody s_Stand_kept_but) (defScope s_Stand_kept_but) [] [] (He.fAd K ("Stand", some "kept_but")) fd := T.def_ 15
theorem d_first_stand (T : Tx K mg) : ∃ fd, FunD K "first_stand" "first_stand" (defArgs s_first_stand) (defBody s_first_stand) (defScope s_first_stand) [] [] (He.fAd K ("first_stand", none)) fd := T.def_ 16
theorem m_first_stand (T : Tx K mg) : mg "first_stand" = some (.ref (He.ga K "first_stand")) := T.glo 7
theorem d_borrowed (T : Tx K mg) : ∃ fd, FunD K "borrowed" "borrowed" (defArgs s_borrowed) (defBody s_borrowed) (defScope s_borrowed) [] [] (He.fAd K ("borrowed", none)) fd := T.def_ 17
theorem m_borrowed (T : Tx K mg) : mg "borrowed" = some (.ref (He.ga K "borrowed")) := T.glo 8
theorem d_spoken (T : Tx K mg) : ∃ fd, FunD K "spoken" "spoken" (defArgs s_spoken) (defBody s_spoken) (defScope s_spoken) [] [] (He.fAd K ("spoken", none)) fd := T.def_ 18
theorem m_spoken (T : Tx K mg) : mg "spoken" = some (.ref (He.ga K "spoken")) := T.glo 9
theorem d_given_back (T : Tx K mg) : ∃ fd, FunD K "given_back" "given_back" (defArgs s_given_back) (defBody s_given_back) (defScope s_given_back) [] [] (He.fAd K ("given_back", none)) fd := T.def_ 19
theorem m_given_back (T : Tx K mg) : mg "given_back" = some (.ref (He.ga K "given_back")) := T.glo 10
theorem d_can_pass (T : Tx K mg) : ∃ fd, FunD K "can_pass" "can_pass" (defArgs s_can_pass) (defBody s_can_pass) (defScope s_can_pass) [] [] (He.fAd K ("can_pass", none)) fd := T.def_ 20
theorem m_can_pass (T : Tx K mg) : mg "can_pass" = some (.ref (He.ga K "can_pass")) := T.glo 11
theorem d_elder (T : Tx K mg) : ∃ fd, FunD K "elder" "elder" (defArgs s_elder) (defBody s_elder) (defScope s_elder) [] [] (He.fAd K ("elder", none)) fd := T.def_ 21
theorem m_elder (T : Tx K mg) : mg "elder" = some (.ref (He.ga K "elder")) := T.glo 12
theorem d_passed (T : Tx K mg) : ∃ fd, FunD K "passed" "passed" (defArgs s_passed) (defBody s_passed) (defScope s_passed) [] [] (He.fAd K ("passed", none)) fd := T.def_ 22
theorem m_passed (T : Tx K mg) : mg "passed" = some (.ref (He.ga K "passed")) := T.glo 13
theorem d_is_possible (T : Tx K mg) : ∃ fd, FunD K "is_possible" "is_possible" (defArgs s_is_possible) (defBody s_is_possible) (defScope s_is_possible) [] [] (He.fAd K ("is_possible", none)) fd := T.def_ 23
theorem m_is_possible (T : Tx K mg) : mg "is_possible" = some (.ref (He.ga K "is_possible")) := T.glo 14
theorem d_led_on (T : Tx K mg) : ∃ fd, FunD K "led_on" "led_on" (defArgs s_led_on) (defBody s_led_on) (defScope s_led_on) [] [] (He.fAd K ("led_on", none)) fd := T.def_ 24
theorem m_led_on (T : Tx K mg) : mg "led_on" = some (.ref (He.ga K "led_on")) := T.glo 15
theorem d_faults_in (T : Tx K mg) : ∃ fd, FunD K "faults_in" "faults_in" (defArgs s_faults_in) (defBody s_faults_in) (defScope s_faults_in) [] [] (He.fAd K ("faults_in", none)) fd := T.def_ 25
theorem m_faults_in (T : Tx K mg) : mg "faults_in" = some (.ref (He.ga K "faults_in")) := T.glo 16
theorem d_behind (T : Tx K mg) : ∃ fd, FunD K "behind" "behind" (defArgs s_behind) (defBody s_behind) (defScope s_behind) [] [] (He.fAd K ("behind", none)) fd := T.def_ 26
theorem m_behind (T : Tx K mg) : mg "behind" = some (.ref (He.ga K "behind")) := T.glo 17
theorem d_Storedd_initdd (T : Tx K mg) : ∃ fd, FunD K "__init__" "Store.__init__" (defArgs s_Storedd_initdd) (defBody s_Storedd_initdd) (defScope s_Storedd_initdd) [] [] (He.fAd K ("Store", some "__init__")) fd := T.def_ 27
theorem d_is_write (T : Tx K mg) : ∃ fd, FunD K "is_write" "is_write" (defArgs s_is_write) (defBody s_is_write) (defScope s_is_write) [] [] (He.fAd K ("is_write", none)) fd := T.def_ 28
theorem m_is_write (T : Tx K mg) : mg "is_write" = some (.ref (He.ga K "is_write")) := T.glo 18
theorem d_is_less (T : Tx K mg) : ∃ fd, FunD K "is_less" "is_less" (defArgs s_is_less) (defBody s_is_less) (defScope s_is_less) [] [] (He.fAd K ("is_less", none)) fd := T.def_ 29
theorem m_is_less (T : Tx K mg) : mg "is_less" = some (.ref (He.ga K "is_less")) := T.glo 19
theorem d_takes (T : Tx K mg) : ∃ fd, FunD K "takes" "takes" (defArgs s_takes) (defBody s_takes) (defScope s_takes) [] [] (He.fAd K ("takes", none)) fd := T.def_ 30
theorem m_takes (T : Tx K mg) : mg "takes" = some (.ref (He.ga K "takes")) := T.glo 20
theorem d_wrote (T : Tx K mg) : ∃ fd, FunD K "wrote" "wrote" (defArgs s_wrote) (defBody s_wrote) (defScope s_wrote) [] [] (He.fAd K ("wrote", none)) fd := T.def_ 31
theorem m_wrote (T : Tx K mg) : mg "wrote" = some (.ref (He.ga K "wrote")) := T.glo 21
theorem d_led (T : Tx K mg) : ∃ fd, FunD K "led" "led" (defArgs s_led) (defBody s_led) (defScope s_led) [] [] (He.fAd K ("led", none)) fd := T.def_ 32
theorem m_led (T : Tx K mg) : mg "led" = some (.ref (He.ga K "led")) := T.glo 22
theorem d_written (T : Tx K mg) : ∃ fd, FunD K "written" "written" (defArgs s_written) (defBody s_written) (defScope s_written) [] [] (He.fAd K ("written", none)) fd := T.def_ 33
theorem m_written (T : Tx K mg) : mg "written" = some (.ref (He.ga K "written")) := T.glo 23
theorem d_can_meet (T : Tx K mg) : ∃ fd, FunD K "can_meet" "can_meet" (defArgs s_can_meet) (defBody s_can_meet) (defScope s_can_meet) [] [] (He.fAd K ("can_meet", none)) fd := T.def_ 34
theorem m_can_meet (T : Tx K mg) : mg "can_meet" = some (.ref (He.ga K "can_meet")) := T.glo 24
theorem d_need_fault (T : Tx K mg) : ∃ fd, FunD K "need_fault" "need_fault" (defArgs s_need_fault) (defBody s_need_fault) (defScope s_need_fault) [] [] (He.fAd K ("need_fault", none)) fd := T.def_ 35
theorem m_need_fault (T : Tx K mg) : mg "need_fault" = some (.ref (He.ga K "need_fault")) := T.glo 25
theorem d_store_faults (T : Tx K mg) : ∃ fd, FunD K "store_faults" "store_faults" (defArgs s_store_faults) (defBody s_store_faults) (defScope s_store_faults) [] [] (He.fAd K ("store_faults", none)) fd := T.def_ 36
theorem m_store_faults (T : Tx K mg) : mg "store_faults" = some (.ref (He.ga K "store_faults")) := T.glo 26
theorem d_least_deeds (T : Tx K mg) : ∃ fd, FunD K "least_deeds" "least_deeds" (defArgs s_least_deeds) (defBody s_least_deeds) (defScope s_least_deeds) [] [] (He.fAd K ("least_deeds", none)) fd := T.def_ 37
theorem m_least_deeds (T : Tx K mg) : mg "least_deeds" = some (.ref (He.ga K "least_deeds")) := T.glo 27
theorem d_late_span (T : Tx K mg) : ∃ fd, FunD K "late_span" "late_span" (defArgs s_late_span) (defBody s_late_span) (defScope s_late_span) [] [] (He.fAd K ("late_span", none)) fd := T.def_ 38
theorem m_late_span (T : Tx K mg) : mg "late_span" = some (.ref (He.ga K "late_span")) := T.glo 28
theorem d_safe_store (T : Tx K mg) : ∃ fd, FunD K "safe_store" "safe_store" (defArgs s_safe_store) (defBody s_safe_store) (defScope s_safe_store) [] [] (He.fAd K ("safe_store", none)) fd := T.def_ 39
theorem m_safe_store (T : Tx K mg) : mg "safe_store" = some (.ref (He.ga K "safe_store")) := T.glo 29
theorem d_least_for (T : Tx K mg) : ∃ fd, FunD K "least_for" "least_for" (defArgs s_least_for) (defBody s_least_for) (defScope s_least_for) [] [] (He.fAd K ("least_for", none)) fd := T.def_ 40
theorem m_least_for (T : Tx K mg) : mg "least_for" = some (.ref (He.ga K "least_for")) := T.glo 30
theorem d_Ruledd_initdd (T : Tx K mg) : ∃ fd, FunD K "__init__" "Rule.__init__" (defArgs s_Ruledd_initdd) (defBody s_Ruledd_initdd) (defScope s_Ruledd_initdd) [.int 0] [] (He.fAd K ("Rule", some "__init__")) fd := T.def_ 41
theorem d_Rule_numbers (T : Tx K mg) : ∃ fd, FunD K "numbers" "Rule.numbers" (defArgs s_Rule_numbers) (defBody s_Rule_numbers) (defScope s_Rule_numbers) [] [] (He.fAd K ("Rule", some "numbers")) fd := T.def_ 42
theorem d_Rule_but (T : Tx K mg) : ∃ fd, FunD K "but" "Rule.but" (defArgs s_Rule_but) (defBody s_Rule_but) (defScope s_Rule_but) [] [] (He.fAd K ("Rule", some "but")) fd := T.def_ 43
theorem d_Ruledd_eqdd (T : Tx K mg) : ∃ fd, FunD K "__eq__" "Rule.__eq__" (defArgs s_Ruledd_eqdd) (defBody s_Ruledd_eqdd) (defScope s_Ruledd_eqdd) [] [] (He.fAd K ("Rule", some "__eq__")) fd := T.def_ 44
theorem d_Ruledd_strdd (T : Tx K mg) : ∃ fd, FunD K "__str__" "Rule.__str__" (defArgs s_Ruledd_strdd) (defBody s_Ruledd_strdd) (defScope s_Ruledd_strdd) [] [] (He.fAd K ("Rule", some "__str__")) fd := T.def_ 45
theorem d__law_box (T : Tx K mg) : ∃ fd, FunD K "_law_box" "_law_box" (defArgs s__law_box) (defBody s__law_box) (defScope s__law_box) [] [] (He.fAd K ("_law_box", none)) fd := T.def_ 46
theorem m__law_box (T : Tx K mg) : mg "_law_box" = some (.ref (He.ga K "_law_box")) := T.glo 31
theorem d__law_take (T : Tx K mg) : ∃ fd, FunD K "_law_take" "_law_take" (defArgs s__law_take) (defBody s__law_take) (defScope s__law_take) [] [] (He.fAd K ("_law_take", none)) fd := T.def_ 47
theorem m__law_take (T : Tx K mg) : mg "_law_take" = some (.ref (He.ga K "_law_take")) := T.glo 32
theorem d__law_ruled (T : Tx K mg) : ∃ fd, FunD K "_law_ruled" "_law_ruled" (defArgs s__law_ruled) (defBody s__law_ruled) (defScope s__law_ruled) [] [] (He.fAd K ("_law_ruled", none)) fd := T.def_ 48
theorem m__law_ruled (T : Tx K mg) : mg "_law_ruled" = some (.ref (He.ga K "_law_ruled")) := T.glo 33
theorem d__law_begun (T : Tx K mg) : ∃ fd, FunD K "_law_begun" "_law_begun" (defArgs s__law_begun) (defBody s__law_begun) (defScope s__law_begun) [] [] (He.fAd K ("_law_begun", none)) fd := T.def_ 49
theorem m__law_begun (T : Tx K mg) : mg "_law_begun" = some (.ref (He.ga K "_law_begun")) := T.glo 34
theorem d__law_kept_seat (T : Tx K mg) : ∃ fd, FunD K "_law_kept_seat" "_law_kept_seat" (defArgs s__law_kept_seat) (defBody s__law_kept_seat) (defScope s__law_kept_seat) [] [] (He.fAd K ("_law_kept_seat", none)) fd := T.def_ 50
theorem m__law_kept_seat (T : Tx K mg) : mg "_law_kept_seat" = some (.ref (He.ga K "_law_kept_seat")) := T.glo 35
theorem d__law_can (T : Tx K mg) : ∃ fd, FunD K "_law_can" "_law_can" (defArgs s__law_can) (defBody s__law_can) (defScope s__law_can) [] [] (He.fAd K ("_law_can", none)) fd := T.def_ 51
theorem m__law_can (T : Tx K mg) : mg "_law_can" = some (.ref (He.ga K "_law_can")) := T.glo 36
theorem d__law_moment (T : Tx K mg) : ∃ fd, FunD K "_law_moment" "_law_moment" (defArgs s__law_moment) (defBody s__law_moment) (defScope s__law_moment) [] [] (He.fAd K ("_law_moment", none)) fd := T.def_ 52
theorem m__law_moment (T : Tx K mg) : mg "_law_moment" = some (.ref (He.ga K "_law_moment")) := T.glo 37
theorem d__law_behind (T : Tx K mg) : ∃ fd, FunD K "_law_behind" "_law_behind" (defArgs s__law_behind) (defBody s__law_behind) (defScope s__law_behind) [] [] (He.fAd K ("_law_behind", none)) fd := T.def_ 53
theorem m__law_behind (T : Tx K mg) : mg "_law_behind" = some (.ref (He.ga K "_law_behind")) := T.glo 38
theorem d__law_faults (T : Tx K mg) : ∃ fd, FunD K "_law_faults" "_law_faults" (defArgs s__law_faults) (defBody s__law_faults) (defScope s__law_faults) [] [] (He.fAd K ("_law_faults", none)) fd := T.def_ 54
theorem m__law_faults (T : Tx K mg) : mg "_law_faults" = some (.ref (He.ga K "_law_faults")) := T.glo 39
theorem d__law_state (T : Tx K mg) : ∃ fd, FunD K "_law_state" "_law_state" (defArgs s__law_state) (defBody s__law_state) (defScope s__law_state) [] [] (He.fAd K ("_law_state", none)) fd := T.def_ 55
theorem m__law_state (T : Tx K mg) : mg "_law_state" = some (.ref (He.ga K "_law_state")) := T.glo 40
theorem d__law_seat_of (T : Tx K mg) : ∃ fd, FunD K "_law_seat_of" "_law_seat_of" (defArgs s__law_seat_of) (defBody s__law_seat_of) (defScope s__law_seat_of) [] [] (He.fAd K ("_law_seat_of", none)) fd := T.def_ 56
theorem m__law_seat_of (T : Tx K mg) : mg "_law_seat_of" = some (.ref (He.ga K "_law_seat_of")) := T.glo 41
theorem d__law_takes (T : Tx K mg) : ∃ fd, FunD K "_law_takes" "_law_takes" (defArgs s__law_takes) (defBody s__law_takes) (defScope s__law_takes) [] [] (He.fAd K ("_law_takes", none)) fd := T.def_ 57
theorem m__law_takes (T : Tx K mg) : mg "_law_takes" = some (.ref (He.ga K "_law_takes")) := T.glo 42
theorem d__law_written (T : Tx K mg) : ∃ fd, FunD K "_law_written" "_law_written" (defArgs s__law_written) (defBody s__law_written) (defScope s__law_written) [] [] (He.fAd K ("_law_written", none)) fd := T.def_ 58
theorem m__law_written (T : Tx K mg) : mg "_law_written" = some (.ref (He.ga K "_law_written")) := T.glo 43
theorem d__law_span_right (T : Tx K mg) : ∃ fd, FunD K "_law_span_right" "_law_span_right" (defArgs s__law_span_right) (defBody s__law_span_right) (defScope s__law_span_right) [] [] (He.fAd K ("_law_span_right", none)) fd := T.def_ 59
theorem m__law_span_right (T : Tx K mg) : mg "_law_span_right" = some (.ref (He.ga K "_law_span_right")) := T.glo 44
theorem d_law (T : Tx K mg) : ∃ fd, FunD K "law" "law" (defArgs s_law) (defBody s_law) (defScope s_law) [] [] (He.fAd K ("law", none)) fd := T.def_ 60
theorem m_law (T : Tx K mg) : mg "law" = some (.ref (He.ga K "law")) := T.glo 45
theorem m_SeatError (T : Tx K mg) : mg "SeatError" = some (.ref (He.ga K "SeatError")) := T.glo 46
theorem m_InvalidRule (T : Tx K mg) : mg "InvalidRule" = some (.ref (He.ga K "InvalidRule")) := T.glo 47
theorem m_InvalidDay (T : Tx K mg) : mg "InvalidDay" = some (.ref (He.ga K "InvalidDay")) := T.glo 48
theorem m_InvalidText (T : Tx K mg) : mg "InvalidText" = some (.ref (He.ga K "InvalidText")) := T.glo 49
theorem m_InvalidFault (T : Tx K mg) : mg "InvalidFault" = some (.ref (He.ga K "InvalidFault")) := T.glo 50
theorem m_Stand (T : Tx K mg) : mg "Stand" = some (.ref (He.ga K "Stand")) := T.glo 51
theorem cl_Stand (T : Tx K mg) : Cls K (He.ga K "Stand") := T.cls 52
theorem mk_Stand (T : Tx K mg) : Mk K (He.ga K "Stand") (He.ma K (He.ga K "Stand") "__init__") := T.mkr 53
theorem me_Stand_used_by (T : Tx K mg) : Meth K (He.ga K "Stand") "used_by" (He.ma K (He.ga K "Stand") "used_by") := T.meth 54
theorem me_Stand_seat_kept_for (T : Tx K mg) : Meth K (He.ga K "Stand") "seat_kept_for" (He.ma K (He.ga K "Stand") "seat_kept_for") := T.meth 55
theorem me_Stand_with_user (T : Tx K mg) : Meth K (He.ga K "Stand") "with_user" (He.ma K (He.ga K "Stand") "with_user") := T.meth 56
theorem me_Stand_without_user (T : Tx K mg) : Meth K (He.ga K "Stand") "without_user" (He.ma K (He.ga K "Stand") "without_user") := T.meth 57
theorem me_Stand_kept_but (T : Tx K mg) : Meth K (He.ga K "Stand") "kept_but" (He.ma K (He.ga K "Stand") "kept_but") := T.meth 58
theorem fl_Stand_using (T : Tx K mg) : FldOk K (ct K) 1 "using" := ⟨cl_Stand T, T.noat 59⟩
theorem fl_Stand_kept (T : Tx K mg) : FldOk K (ct K) 1 "kept" := ⟨cl_Stand T, T.noat 60⟩
theorem fl_Stand_cut (T : Tx K mg) : FldOk K (ct K) 1 "cut" := ⟨cl_Stand T, T.noat 61⟩
theorem m_Store (T : Tx K mg) : mg "Store" = some (.ref (He.ga K "Store")) := T.glo 62
theorem cl_Store (T : Tx K mg) : Cls K (He.ga K "Store") := T.cls 63
theorem mk_Store (T : Tx K mg) : Mk K (He.ga K "Store") (He.ma K (He.ga K "Store") "__init__") := T.mkr 64
theorem fl_Store_newest (T : Tx K mg) : FldOk K (ct K) 2 "newest" := ⟨cl_Store T, T.noat 65⟩
theorem fl_Store_told (T : Tx K mg) : FldOk K (ct K) 2 "told" := ⟨cl_Store T, T.noat 66⟩
theorem fl_Store_taken (T : Tx K mg) : FldOk K (ct K) 2 "taken" := ⟨cl_Store T, T.noat 67⟩
theorem m_Rule (T : Tx K mg) : mg "Rule" = some (.ref (He.ga K "Rule")) := T.glo 68
theorem cl_Rule (T : Tx K mg) : Cls K (He.ga K "Rule") := T.cls 69
theorem mk_Rule (T : Tx K mg) : Mk K (He.ga K "Rule") (He.ma K (He.ga K "Rule") "__init__") := T.mkr 70
theorem me_Rule_numbers (T : Tx K mg) : Meth K (He.ga K "Rule") "numbers" (He.ma K (He.ga K "Rule") "numbers") := T.meth 71
theorem me_Rule_but (T : Tx K mg) : Meth K (He.ga K "Rule") "but" (He.ma K (He.ga K "Rule") "but") := T.meth 72
theorem fl_Rule_seats (T : Tx K mg) : FldOk K (ct K) 0 "seats" := ⟨cl_Rule T, T.noat 73⟩
theorem fl_Rule_lapse (T : Tx K mg) : FldOk K (ct K) 0 "lapse" := ⟨cl_Rule T, T.noat 74⟩
theorem fl_Rule_beat (T : Tx K mg) : FldOk K (ct K) 0 "beat" := ⟨cl_Rule T, T.noat 75⟩
theorem fl_Rule_grace (T : Tx K mg) : FldOk K (ct K) 0 "grace" := ⟨cl_Rule T, T.noat 76⟩
theorem fl_Rule_late (T : Tx K mg) : FldOk K (ct K) 0 "late" := ⟨cl_Rule T, T.noat 77⟩
theorem b_abs (T : Tx K mg) : mg "abs" = none := T.free 78
theorem b_all (T : Tx K mg) : mg "all" = none := T.free 79
theorem b_any (T : Tx K mg) : mg "any" = none := T.free 80
theorem b_bool (T : Tx K mg) : mg "bool" = none := T.free 81
theorem b_dict (T : Tx K mg) : mg "dict" = none := T.free 82
theorem b_enumerate (T : Tx K mg) : mg "enumerate" = none := T.free 83
theorem b_int (T : Tx K mg) : mg "int" = none := T.free 84
theorem b_isinstance (T : Tx K mg) : mg "isinstance" = none := T.free 85
theorem b_len (T : Tx K mg) : mg "len" = none := T.free 86
theorem b_list (T : Tx K mg) : mg "list" = none := T.free 87
theorem b_max (T : Tx K mg) : mg "max" = none := T.free 88
theorem b_min (T : Tx K mg) : mg "min" = none := T.free 89
theorem b_range (T : Tx K mg) : mg "range" = none := T.free 90
theorem b_sorted (T : Tx K mg) : mg "sorted" = none := T.free 91
theorem b_str (T : Tx K mg) : mg "str" = none := T.free 92
theorem b_tuple (T : Tx K mg) : mg "tuple" = none := T.free 93
theorem b_zip (T : Tx K mg) : mg "zip" = none := T.free 94
theorem c_PASS (T : Tx K mg) : GlC K (ct K) mg "PASS" (.tup [.str "pass"]) := glc_tup (T.glo 95) (T.xb 0) (.strs ["pass"])
theorem c_DEEDS (T : Tx K mg) : GlC K (ct K) mg "DEEDS" (.tup [.str "borrow", .str "word", .str "back", .str "crash", .str "stop", .str "cut", .str "join"]) := glc_tup (T.glo 96) (T.xb 1) (.strs ["borrow", "word", "back", "crash", "stop", "cut", "join"])
theorem c_PAIR (T : Tx K mg) : GlC K (ct K) mg "PAIR" (.int 2) := T.intC 97
theorem c_FAULTS (T : Tx K mg) : GlC K (ct K) mg "FAULTS" (.tup [.str "back", .str "late"]) := glc_tup (T.glo 98) (T.xb 2) (.strs ["back", "late"])
theorem c_WORDS (T : Tx K mg) : GlC K (ct K) mg "WORDS" (.tup [.str "seats", .str "lapse", .str "beat", .str "grace", .str "late"]) := glc_tup (T.glo 99) (T.xb 3) (.strs ["seats", "lapse", "beat", "grace", "late"])
theorem c_DIGITS (T : Tx K mg) : GlC K (ct K) mg "DIGITS" (.int 7) := T.intC 100
theorem x_InvalidRule (T : Tx K mg) : ExF K "InvalidRule" "SeatError" "word" := exF_of (T.xb 4)
theorem x_InvalidDay (T : Tx K mg) : ExF K "InvalidDay" "SeatError" "at" := exF_of (T.xb 5)
theorem i_InvalidDay_SeatError (T : Tx K mg) : isB K "InvalidDay" "SeatError" true = true := T.xb 6
theorem x_InvalidText (T : Tx K mg) : ExF K "InvalidText" "SeatError" "at" := exF_of (T.xb 7)
theorem in_Rule (T : Tx K mg) : InsF K (He.ga K "Rule") := insF_of (cl_Rule T) (T.xb 8)
end
/-! the head -/
abbrev R : PySem.W.OpenRow := PySem.W.OpenLaw.row PySem.Challenge.rw_lapseseats_k79_late_spans_and_safe_lapse
abbrev hk : PySem.W.Hook := hookY 5 fa fn xb
def ob (s : PySem.W.SharedT) : He.AlD := obsYG 5 fa fn xb (HandSHeadRun.getT s)
theorem ob_eq (s : PySem.W.SharedT) : ob s = hk.obs s.abs := obsYG_eq (HandSHeadRun.getT_eq s)
def others0 : List Str := ["SeatError", "InvalidRule", "InvalidDay", "InvalidText", "InvalidFault", "PASS", "DEEDS", "PAIR", "is_integer", "is_from", "is_sequence", "is_event", "number_in", "reach", "calm_reach", "Stand", "first_stand", "borrowed", "spoken", "given_back", "can_pass", "elder", "passed", "is_possible", "led_on", "faults_in", "behind", "FAULTS", "Store", "is_write"]
def others1 : List Str := ["is_less", "takes", "wrote", "led", "written", "can_meet", "need_fault", "store_faults", "least_deeds", "late_span", "safe_store", "WORDS", "DIGITS", "least_for", "Rule", "_law_box", "_law_take", "_law_ruled", "_law_begun", "_law_kept_seat", "_law_can", "_law_moment", "_law_behind", "_law_faults", "_law_state", "_law_seat_of", "_law_takes", "_law_written", "_law_span_right"]
abbrev others : List Str := others0 ++ others1
abbrev ilaw : Nat := 66
end Lw

section
open PySem PySem.Spec PyProof.Rows L2 DL
local macro_rules | `(tactic| walk_at "o") => `(tactic| first | exact o2_add | exact o2_sub | exact o2_lt | exact o2_le | exact o2_gt | exact o2_ge | exact o2_eqI | exact o2_neI | exact o2_eqZ | exact o2_neZ | exact o2_eqB | exact o2_neB | exact o2_is rfl | exact o2_isnt rfl | exact o2_eqNil (hu64 ‹Room _ _›) | exact o2_neNil (hu64 ‹Room _ _›) | exact o2_eqS rfl rfl rfl | exact o2_neS rfl rfl rfl | exact o2_eqD (hu64 ‹Room _ _›) rfl rfl rfl rfl | exact o2_neD (hu64 ‹Room _ _›) rfl rfl rfl rfl | exact o2_mod (by first | decide | omega) | exact o2_fdiv (by walk_at "z") | exact o2_mul (by walk_at "z") | exact o2_catL (by walk_at "z") | exact o2_catT (by simp) (by walk_at "z"))
local macro_rules | `(tactic| walk_at "z") => `(tactic| first | exact sz_small (Nat.le_of_ble_eq_true rfl) | exact Nat.le_of_ble_eq_true rfl | assumption | exact ⟨by decide, by decide⟩ | exact Or.inr ⟨by decide, by decide⟩ | exact Or.inl ⟨by decide, by decide⟩ | omega | (simp; done) | (simp; omega))
local macro_rules | `(tactic| walk_at "p") => `(tactic| first | exact trivial | assumption | exact ⟨trivial, trivial⟩ | (simp; done) | omega)
local macro_rules | `(tactic| walk_at "i") => `(tactic| first | exact .dic .dicI | exact .dic .dicS | exact .dic (.cdI rfl) | exact .dic (.cdS rfl) | exact .ints rfl | exact .seq rfl rfl rfl)
local macro_rules | `(tactic| walk_at "x") => `(tactic| first | exact .tup rfl | exact .lst rfl | exact .scr rfl | exact .cell rfl rfl | exact .dicS rfl | exact .dicI (by assumption) | exact .lst (by assumption) | exact .tup (by assumption) | exact .cell rfl (by assumption) | exact .cdI rfl (by assumption))
local macro_rules | `(tactic| walk_at "l") => `(tactic| first | exact .cell rfl | exact .seq rfl | exact .str (by walk_at "z"))
local macro_rules | `(tactic| walk_at "s") => `(tactic| first | exact .cell rfl | exact .seq rfl)
local macro_rules | `(tactic| walk_at "ty") => `(tactic| rfl)
local macro_rules | `(tactic| walk_at "kit") => `(tactic| first | (refine kit_t ?_; decide +kernel) | (refine kit_f ?_; decide +kernel))
local macro_rules | `(tactic| walk_at "g") => `(tactic| repeat (first | exact GLe.nil | refine GLe.cons ?_ | refine GLe.any ?_))

namespace Lw
open PySem PySem.Spec PyProof.Rows L2 DL
/-! ### the rule -/
def ruleD (r : RL) : D := .ins 0 [("seats", .int r.s), ("lapse", .int r.l), ("beat", .int r.b), ("grace", .int r.g), ("late", .int r.t)]
structure RL.Ok (r : RL) : Prop where
  s : 1 ≤ r.s
  l : 1 ≤ r.l
  b : 1 ≤ r.b
  g : 1 ≤ r.g
  t : 0 ≤ r.t
  lz : r.l ≤ 100
  sz : r.s ≤ 100
section
variable {P : Program} {w : World} {K : PySem.W.Frag} {mg : Str → Option Value} {base : Heap}
def isIntD : D → Bool | .int _ => true | _ => false
theorem F_is_integer (T : Tx K mg) : PFn P w K mg base (ct K) "is_integer" 1 (fun (value : D) => [value]) (fun d => okD 0 d = true ∧ ∃ U, tyName d = some U) (fun d => .bl (isIntD d)) := by
  refine PFn.of (d_is_integer T) (m_is_integer T) sc_is_integer (fun _ _ _ _ _ _ us hl => match us, hl with | [_], _ => rfl) (fun _ => rfl) (fun _ h => ⟨by simp only [okDs, h.1]; rfl, rfl⟩) ?_
  rintro f cdv A outer s H E value hr ⟨-, U, ty⟩
  have g : ∀ k1 k2, kitB U "int" = some k1 → kitB U "bool" = some k2 → (k1 && !k2) = isIntD value → DSs (cxOf CX0 P w K mg base n_is_integer "is_integer" (defScope s_is_integer) f cdv A outer s H E).nox (ct K) (defBody s_is_integer) ([some value]) [] { nx := fun _ _ => D.non = .bl (isIntD value), rt := fun d2 _ => d2 = .bl (isIntD value) } := by
    intro k1 k2 h1 h2 h3
    exact ds_ret (de_and (de_isi (b_isinstance T) ty h1 (de_var 0) (de_tyint (b_int T))) (fun _ => de_one (de_not (de_isi (b_isinstance T) ty h2 (de_var 0) (de_tybool (b_bool T)))))) (by show D.bl _ = D.bl _; rw [h3])
  have h1 : ∃ k1, kitB U "int" = some k1 := by cases value <;> simp [tyName] at ty <;> subst ty <;> exact ⟨_, rfl⟩
  cases value <;> simp [tyName] at ty <;> subst ty
  all_goals first
    | exact g true false (by decide +kernel) (by decide +kernel) rfl
    | exact g true true (by decide +kernel) (by decide +kernel) rfl
    | exact g false false (by decide +kernel) (by decide +kernel) rfl
theorem F_is_from (T : Tx K mg) : PFn P w K mg base (ct K) "is_from" 2 (fun ((v, l) : Int × Int) => [.int v, .int l]) (fun _ => True) (fun (v, l) => .bl (decide (l ≤ v))) := by
  refine PFn.of (d_is_from T) (m_is_from T) sc_is_from (fun _ _ _ _ _ _ us hl => match us, hl with | [_, _], _ => rfl) (fun _ => rfl) (fun _ _ => ⟨rfl, rfl⟩) ?_
  rintro f cdv A outer s H E ⟨value, least⟩ hr -
  refine
    ds_ret (de_and (q_call (F_is_integer T) (da_cons (de_var 0) da_nil) (_) rfl ⟨rfl, _, rfl⟩) (fun h1 => (de_one (q_cmp (de_var 0) (de_var 1) (by walk_at "o"))))) (?_)
  simp [isIntD]
theorem F_reach (T : Tx K mg) : PFn P w K mg base (ct K) "reach" 1 (fun (rule) => [ruleD rule]) (fun _ => True) (fun r => .int (r.g + r.t)) := by
  refine PFn.of (d_reach T) (m_reach T) sc_reach (fun _ _ _ _ _ _ us hl => match us, hl with | [_], _ => rfl) (fun _ => rfl) (fun _ _ => ⟨rfl, rfl⟩) ?_
  rintro f cdv A outer s H E rule hr -
  -- 0 rule
  refine
    ds_ret (q_op (q_attr (de_var 0) (.ins (fl_Rule_grace T) rfl)) (q_attr (de_var 0) (.ins (fl_Rule_late T) rfl)) (by walk_at "o")) (?_)
  rfl
theorem F_calm_reach (T : Tx K mg) : PFn P w K mg base (ct K) "calm_reach" 1 (fun (rule) => [ruleD rule]) (fun _ => True) (fun r => .int (min r.b r.g + r.t)) := by
  refine PFn.of (d_calm_reach T) (m_calm_reach T) sc_calm_reach (fun _ _ _ _ _ _ us hl => match us, hl with | [_], _ => rfl) (fun _ => rfl) (fun _ _ => ⟨rfl, rfl⟩) ?_
  rintro f cdv A outer s H E rule hr -
  -- 0 rule
  refine
    ds_ret (q_op (de_min rfl (b_min T) (q_attr (de_var 0) (.ins (fl_Rule_beat T) rfl)) (q_attr (de_var 0) (.ins (fl_Rule_grace T) rfl))) (q_attr (de_var 0) (.ins (fl_Rule_late T) rfl)) (by walk_at "o")) (?_)
  rfl
def evD (w : Str) (u : Int) : D := .tup [.str w, .int u]
def passD : D := .tup [.str "pass"]
def aloneD (r : RL) : List D := evD "borrow" 0 :: ((bif decide (min r.b r.g + r.t < r.l) then [evD "cut" 0] else []) ++ List.replicate r.l.toNat passD)
end
end Lw

namespace Lw
section
variable {P : Program} {w : World} {K : PySem.W.Frag} {mg : Str → Option Value} {base : Heap}
theorem okDs_rep (n : Nat) (d : D) (k : Nat) (h : okD n d = true) : okDs n (List.replicate k d) = true := by
  induction k with
  | zero => rfl
  | succ k ih => simp only [List.replicate_succ, okDs, h, ih, Bool.and_self]
theorem ok_alone (r : RL) : okDs 0 (aloneD r) = true := by
  have h : okDs 0 (List.replicate r.l.toNat passD) = true := okDs_rep _ _ _ rfl
  unfold aloneD
  simp only [okDs, okDs_app, h]
  cases decide (min r.b r.g + r.t < r.l) <;> rfl
theorem alone_len (r : RL) : (aloneD r).length ≤ r.l.toNat + 2 := by
  unfold aloneD
  cases decide (min r.b r.g + r.t < r.l) <;> simp
def canMeet (r : RL) (u : Int) (form fault : Str) : Bool := !(decide (r.g + r.t < r.l) || decide (u ≤ 1)) && (decide (form = "open") || (decide (form = "highest") && decide (fault = "late")))
theorem F_can_meet (T : Tx K mg) : PFn P w K mg base (ct K) "can_meet" 2 (fun ((rule, users, form, fault) : RL × Int × Str × Str) => [ruleD rule, .int users, .str form, .str fault]) (fun _ => True) (fun (r, u, fo, fa) => .bl (canMeet r u fo fa)) := by
  refine PFn.of (d_can_meet T) (m_can_meet T) sc_can_meet (fun _ _ _ _ _ _ us hl => match us, hl with | [_, _, _, _], _ => rfl) (fun _ => rfl) (fun _ _ => ⟨rfl, rfl⟩) ?_
  rintro f cdv A outer s H E ⟨rule, users, form, fault⟩ hr -
  -- 0 rule, 1 users, 2 form, 3 fault
  refine
    ds_if (dt_w (dw_or (qt_cmp (q_attr (de_var 0) (.ins (fl_Rule_lapse T) rfl)) (q_call (F_reach T) (da_cons (de_var 0) da_nil) (_) rfl (by walk_at "p")) (by walk_at "o")) (fun h2 => (dw_or1 (qt_cmp (de_var 1) (de_int) (by walk_at "o")))))) (fun h1 =>
      ds_ret (de_bl) (?_)) (fun h1 =>
      ds_nil <|
      ds_ret (de_or (q_cmp (de_var 2) (de_str) (by walk_at "o")) (fun h4 => (de_one (de_and (q_cmp (de_var 2) (de_str) (by walk_at "o")) (fun h3 => (de_one (q_cmp (de_var 3) (de_str) (by walk_at "o")))))))) (?_))
  · simp only [canMeet, h1]; rfl
  · simp only [canMeet, h1]; rfl
def okFault (fault : Str) : Prop := fault = "back" ∨ fault = "late"
theorem F_need_fault (T : Tx K mg) : PFn P w K mg base (ct K) "need_fault" 1 (fun (fault : Str) => [.str fault]) okFault (fun _ => .non) := by
  refine PFn.of (d_need_fault T) (m_need_fault T) sc_need_fault (fun _ _ _ _ _ _ us hl => match us, hl with | [_], _ => rfl) (fun _ => rfl) (fun _ _ => ⟨rfl, rfl⟩) ?_
  rintro f cdv A outer s H E fault hr ok
  -- 0 fault
  refine
    ds_if (dt_w (dw_or (dt_not (dt_val (q_isi (b_isinstance T) (de_var 0) (de_tystr (b_str T)) (by walk_at "ty") (by walk_at "kit")))) (fun h2 => (dw_or1 (qt_nin (de_var 0) (de_glob (c_FAULTS T)) (by walk_at "i")))))) (fun h1 => ?_) (fun h1 =>
      ds_nil <|
      ds_nil rfl)
  exfalso
  rcases ok with rfl | rfl <;> exact absurd h1 (by decide +kernel)
def faultsOf (r : RL) (u : Int) (form : Str) : List Str := (["back", "late"] : List Str).filter (canMeet r u form)
theorem F_store_faults (T : Tx K mg) : PFn P w K mg base (ct K) "store_faults" 3 (fun ((rule, users, form) : RL × Int × Str) => [ruleD rule, .int users, .str form]) (fun _ => True) (fun (r, u, fo) => .tup ((faultsOf r u fo).map .str)) := by
  refine PFn.of (d_store_faults T) (m_store_faults T) sc_store_faults (fun _ _ _ _ _ _ us hl => match us, hl with | [_, _, _], _ => rfl) (fun _ => rfl) (fun _ _ => ⟨rfl, by simp only [okD, okDs_all, List.all_map]; simp [okD]⟩) ?_
  rintro f cdv A outer s H E ⟨rule, users, form⟩ hr -
  -- 0 rule, 1 users, 2 form, 3 fault
  refine
    ds_ret (q_tuple (b_tuple T) (de_lcP [("fault", 3)] (["back", "late"] : List Str) D.str (canMeet rule users form) D.str rfl sc_store_faults.nd (di_seq (de_glob (c_FAULTS T)) rfl) (blkOk_by (show blkC n_store_faults (defScope s_store_faults) _ _ = true by decide +kernel)) (fun z hz => ⟨_, (by simp), (fun s H C cl fp => (dg_name 3 sc_store_faults.nd)), (fun s H C cl fp => (dts_one (dt_val (q_call (F_can_meet T) (da_cons (de_var 0) (da_cons (de_var 1) (da_cons (de_var 2) (da_cons (de_var 3) da_nil)))) (_, _, _, _) rfl (by walk_at "p"))))), (fun hk s H C cl fp => (de_var 3))⟩)) (by walk_at "s")) (?_)
  rfl
def leastOf (r : RL) (fault : Str) : Int := r.l + (bif decide (min r.b r.g + r.t < r.l) then 1 else 0) + (bif decide (fault = "back") then 4 else 3)
theorem F_least_deeds (T : Tx K mg) : PFn P w K mg base (ct K) "least_deeds" 3 (fun ((rule, users, form, fault) : RL × Int × Str × Str) => [ruleD rule, .int users, .str form, .str fault]) (fun (_, _, _, fault) => okFault fault) (fun (r, u, fo, fa) => bif canMeet r u fo fa then .int (leastOf r fa) else .non) := by
  refine PFn.of (d_least_deeds T) (m_least_deeds T) sc_least_deeds (fun _ _ _ _ _ _ us hl => match us, hl with | [_, _, _, _], _ => rfl) (fun _ => rfl) (fun (r, u, fo, fa) _ => ⟨rfl, by cases h : canMeet r u fo fa <;> simp only [h] <;> rfl⟩) ?_
  rintro f cdv A outer s H E ⟨rule, users, form, fault⟩ hr ok
  -- 0 rule, 1 users, 2 form, 3 fault, 4 cuts
  refine
    ds_expr (q_call (F_need_fault T) (da_cons (de_var 3) da_nil) (_) rfl ok) <|
    ds_if (dt_not (dt_val (q_call (F_can_meet T) (da_cons (de_var 0) (da_cons (de_var 1) (da_cons (de_var 2) (da_cons (de_var 3) da_nil)))) (_, _, _, _) rfl (by walk_at "p")))) (fun h1 =>
      ds_ret (de_non) (?_)) (fun h1 =>
      ds_nil <|
      ds_set 4 sc_least_deeds.nd (q_ifI (qt_cmp (q_attr (de_var 0) (.ins (fl_Rule_lapse T) rfl)) (q_call (F_calm_reach T) (da_cons (de_var 0) da_nil) (_) rfl (by walk_at "p")) (by walk_at "o")) (fun h2 => (de_int)) (fun h2 => (de_int))) <|
      ds_ret (q_op (q_op (q_attr (de_var 0) (.ins (fl_Rule_lapse T) rfl)) (de_var 4) (by walk_at "o")) (q_ifI (qt_cmp (de_var 3) (de_str) (by walk_at "o")) (fun h3 => (de_int)) (fun h3 => (de_int))) (by walk_at "o")) (?_))
  · simp at h1; simp [h1]
  · simp at h1; simp [h1, leastOf]
def deedsOf (r : RL) (fault : Str) : List D := aloneD r ++ (evD "borrow" 1 :: ((bif decide (fault = "back") then [evD "write" 1] else []) ++ [evD "write" 0]))
theorem F_least_for (T : Tx K mg) : PFn P w K mg base (ct K) "least_for" 1 (fun (word : Str) => [.str word]) (fun _ => True) (fun word => .int (bif decide (word = "late") then 0 else 1)) := by
  refine PFn.of (d_least_for T) (m_least_for T) sc_least_for (fun _ _ _ _ _ _ us hl => match us, hl with | [_], _ => rfl) (fun _ => rfl) (fun _ _ => ⟨rfl, rfl⟩) ?_
  rintro f cdv A outer s H E word hr -
  -- 0 word
  refine
    ds_ret (q_ifI (qt_cmp (de_var 0) (de_str) (by walk_at "o")) (fun h1 => (de_int)) (fun h1 => (de_int))) (?_)
  rfl
end
end Lw

namespace Lw
section
variable {P : Program} {w : World} {K : PySem.W.Frag} {mg : Str → Option Value} {base : Heap}
def wordsL : List (Nat × Str) := [(0, "seats"), (1, "lapse"), (2, "beat"), (3, "grace"), (4, "late")]
structure RL.Pos (r : RL) : Prop where
  s : 1 ≤ r.s
  l : 1 ≤ r.l
  b : 1 ≤ r.b
  g : 1 ≤ r.g
  t : 0 ≤ r.t
theorem rule_init (T : Tx K mg) (f : Addr) (cdv : Value) (A : Around) (outer : List Env) (s : Shared) (H : Hp) (E : XK) (r : RL) (hr : Room 2 (A.deeper (envOfC "Rule.__init__" (defScope s_Ruledd_initdd) s.heap.objs.size f cdv))) (ok : r.Pos) :
      DSs (cxOf CX0 P w K mg base n_Ruledd_initdd "Rule.__init__" (defScope s_Ruledd_initdd) f cdv A outer s H E).nox (ct K) (defBody s_Ruledd_initdd) [some (.ptr 0), some (.int r.s), some (.int r.l), some (.int r.b), some (.int r.g), some (.int r.t), none, none, none] [.ins 0 []]
        { nx := fun _ μ2 => μ2 = [.ins 0 [("seats", .int r.s), ("lapse", .int r.l), ("beat", .int r.b), ("grace", .int r.g), ("late", .int r.t)]] } := by
  refine
    ds_set 6 sc_Ruledd_initdd.nd (de_tup (da_cons (de_var 1) (da_cons (de_var 2) (da_cons (de_var 3) (da_cons (de_var 4) (da_cons (de_var 5) da_nil))))) (by walk_at "z")) <|
    ds_forJ (S := Unit) (fun p : Nat × Str => D.tup [.int (p.1 : Nat), .str p.2]) wordsL
      (fun _ => [some (.ptr 0), some (.int r.s), some (.int r.l), some (.int r.b), some (.int r.g), some (.int r.t), some (.tup [.int r.s, .int r.l, .int r.b, .int r.g, .int r.t]), none, none]) (fun _ => [.ins 0 []])
      (fun rest _ => ∀ p ∈ rest, ∃ v, atI [D.int r.s, D.int r.l, .int r.b, .int r.g, .int r.t] (p.1 : Nat) = some (.int v) ∧ (bif decide (p.2 = "late") then 0 else 1) ≤ v)
      (di_enum (b_enumerate T) (de_glob (c_WORDS T)) rfl) ⟨(), by walk_at "g", rfl, ?_⟩
      (fun a rs _ hJ => ?_) (fun _ _ =>
      ds_fld (fl_Rule_seats T) (de_var 1) (de_var 0) rfl (by walk_at "z") <|
      ds_fld (fl_Rule_lapse T) (de_var 2) (de_var 0) rfl (by walk_at "z") <|
      ds_fld (fl_Rule_beat T) (de_var 3) (de_var 0) rfl (by walk_at "z") <|
      ds_fld (fl_Rule_grace T) (de_var 4) (de_var 0) rfl (by walk_at "z") <|
      ds_fld (fl_Rule_late T) (de_var 5) (de_var 0) rfl (by walk_at "z") <|
      ds_nil rfl)
  · have e : ∀ i : Str, i ≠ "late" → decide (i = "late") = false := fun i h => by simp [h]
    intro p hp
    simp only [wordsL, List.mem_cons, List.not_mem_nil, or_false] at hp
    rcases hp with rfl | rfl | rfl | rfl | rfl
    · exact ⟨r.s, rfl, ok.s⟩
    · exact ⟨r.l, rfl, ok.l⟩
    · exact ⟨r.b, rfl, ok.b⟩
    · exact ⟨r.g, rfl, ok.g⟩
    · exact ⟨r.t, rfl, ok.t⟩
  · obtain ⟨v, h1, h2⟩ := hJ a List.mem_cons_self
    refine ⟨_, (dg_tup rfl (dgs_cons (dg_name 7 sc_Ruledd_initdd.nd) (dgs_cons (dg_name 8 sc_Ruledd_initdd.nd) dgs_nil))),
      ds_if (dt_not (dt_val (q_call (F_is_from T) (da_cons (q_ix (de_var 6) (de_var 7) (.tup h1)) (da_cons (q_call (F_least_for T) (da_cons (de_var 8) da_nil) (_) rfl (by walk_at "p")) da_nil)) (_, _) rfl (by walk_at "p")))) (fun h => ?_) (fun h1 =>
        ds_nil <|
        ds_nil ⟨(), by walk_at "g", rfl, fun p hp => hJ p (List.mem_cons_of_mem _ hp)⟩)⟩
    exfalso
    simp at h
    omega
theorem M_Rule5 (T : Tx K mg) : PMk P w K mg base (ct K) 0 "Rule" 3 (fun r : RL => [.int r.s, .int r.l, .int r.b, .int r.g, .int r.t]) RL.Pos (fun r => [("seats", .int r.s), ("lapse", .int r.l), ("beat", .int r.b), ("grace", .int r.g), ("late", .int r.t)]) := by
  refine PMk.of (dds := []) 1 (d_Ruledd_initdd T) rfl (mk_Rule T) (m_Rule T) sc_Ruledd_initdd (fun fd F => F.binds1 6 1 (by simp) rfl fun T kV doc pm an cdv ct us its h1 h2 => ?_) (fun _ _ => .nil) (fun _ => rfl) (fun r ok => ⟨rfl, rfl⟩) ?_
  · match us, its, h1, h2 with
    | [_, _, _, _, _, _], [_], _, _ => exact ⟨_, rfl, rfl⟩
  · intro f cdv A outer s H E a hr ok
    exact rule_init T f cdv A outer s H E a hr ok
theorem M_Rule4 (T : Tx K mg) : PMk P w K mg base (ct K) 0 "Rule" 3 (fun ((s, l, b, g) : Int × Int × Int × Int) => [.int s, .int l, .int b, .int g]) (fun (s, l, b, g) => 1 ≤ s ∧ 1 ≤ l ∧ 1 ≤ b ∧ 1 ≤ g) (fun (s, l, b, g) => [("seats", .int s), ("lapse", .int l), ("beat", .int b), ("grace", .int g), ("late", .int 0)]) := by
  refine PMk.of (dds := [.int 0]) 0 (d_Ruledd_initdd T) rfl (mk_Rule T) (m_Rule T) sc_Ruledd_initdd (fun fd F => F.binds1 5 0 (by simp) rfl fun T kV doc pm an cdv ct us its h1 h2 => ?_) (fun _ _ => .cons (.int 0) .nil) (fun _ => rfl) (fun r ok => ⟨rfl, rfl⟩) ?_
  · match us, its, h1, h2 with
    | [_, _, _, _, _], [_], _, _ => exact ⟨_, rfl, rfl⟩
  · rintro f cdv A outer s H E ⟨ss, l, b, g⟩ hr ⟨h1, h2, h3, h4⟩
    exact rule_init T f cdv A outer s H E ⟨ss, l, b, g, 0⟩ hr ⟨h1, h2, h3, h4, Int.le_refl 0⟩
end
end Lw

namespace Lw
section
variable {P : Program} {w : World} {K : PySem.W.Frag} {mg : Str → Option Value} {base : Heap}
theorem F__law_box (T : Tx K mg) : NFn P w K mg base (ct K) "_law_box" 1 (fun ((sc, k, own) : List Int × Nat × Int) => [.scr (sc.map .int), .int (k : Nat), .int own]) (fun (_, k, own) => k ≤ 100 ∧ 0 ≤ own ∧ own ≤ 1000) (fun (sc, k, own) => boxC (boxOf sc k own)) := by
  refine NFn.of (d__law_box T) (m__law_box T) sc__law_box (fun _ _ _ _ _ _ us hl => match us, hl with | [_, _, _], _ => rfl) (fun _ => rfl) (fun (sc, k, own) _ => ⟨by simp only [okDs, okD, ok_map 0 D.int (fun _ => rfl)]; rfl, rfl⟩) ?_
  rintro f cdv A outer s H E ⟨sc, k, own⟩ hr ⟨hk, ho, ho2⟩
  have e1 : (bif decide ((k : Int) < ((sc.map D.int).length : Nat)) then (if sc.getD k 0 < 0 then -sc.getD k 0 else sc.getD k 0) else 0) = cellOf sc k := by
    unfold cellOf
    by_cases h : k < sc.length
    · have h2 : (k : Int) < ((sc.map D.int).length : Nat) := by simpa using h
      rw [decide_eq_true h2]
      simp [h]
    · have h2 : ¬ (k : Int) < ((sc.map D.int).length : Nat) := by simpa using h
      rw [decide_eq_false h2]
      simp at h
      simp [h]
  have e2 : DL.cutD (sc.map D.int) none (some 40) = (sc.take 40).map D.int := by
    unfold DL.cutD
    have : HT.sIx (sc.map D.int).length (sc.map D.int).length (some 40) = min 40 sc.length := by simp [HT.sIx]
    rw [this, show HT.sIx (sc.map D.int).length 0 none = 0 from rfl]
    simp [List.map_take]
  -- 0 script, 1 k, 2 own, 3 cell, 4 seed, 5 one
  refine
    ds_set 3 sc__law_box.nd (de_eq (q_ifI (qt_cmp (de_var 1) (q_len (b_len T) (de_var 0) (by walk_at "l")) (by walk_at "o")) (fun h1 => (de_abs (i := sc.getD k 0) (b_abs T) (q_ix (de_var 0) (de_var 1) (.scr (by
      have h := of_decide_eq_true h1
      have h2 : k < sc.length := by simpa using h
      refine atI_nat ?_
      simp [h2]))))) (fun h1 => (de_int))) (congrArg D.int e1)) <|
    ds_set 4 sc__law_box.nd (q_op (q_op (q_op (de_int) (de_var 2) (o2_mul (.inl ⟨by decide, by decide⟩))) (q_op (de_int) (de_var 1) (o2_mul (.inl ⟨by decide, by decide⟩))) (by walk_at "o")) (de_int) (by walk_at "o")) <|
    ds_forJ (S := Int) D.int (sc.take 40) (fun sd => [some (.scr (sc.map .int)), some (.int (k : Nat)), some (.int own), some (.int (cellOf sc k)), some (.int sd), none]) (fun _ => []) (fun r sd => 0 ≤ sd ∧ sd < 2147483647 ∧ r.foldl (seed1 k) sd = seedOf sc k own)
      (di_seq (de_eq (de_sliceL (de_var 0) (.inr rfl) do_none (do_some (de_int))) (congrArg D.lst e2)) rfl) ⟨_, by walk_at "g", rfl, by omega, by omega, rfl⟩ (fun a r sd hJ => ⟨_, (dg_name 5 sc__law_box.nd),
      ds_set 4 sc__law_box.nd (q_op (de_intc (b_int T) (q_op (q_op (q_op (de_var 4) (de_int) (o2_mul (.inr ⟨by decide, by decide⟩))) (q_op (de_abs (b_abs T) (de_var 5)) (de_int) (o2_mod (by decide))) (by walk_at "o")) (de_var 1) (by walk_at "o"))) (de_int) (o2_mod (by decide))) <|
      ds_nil ⟨seed1 k sd a, by walk_at "g", rfl, Int.emod_nonneg _ (by decide), Int.emod_lt_of_pos _ (by decide), hJ.2.2⟩⟩) (fun sd hJ =>
      ds_ret (de_lstM (da_cons (q_ifI (qt_cmp (de_var 3) (q_op (de_int) (de_int) (o2_pow ⟨by decide, by decide, by decide⟩)) (by walk_at "o")) (fun h2 => (de_var 3)) (fun h2 => (de_int))) (da_cons (q_op (de_var 4) (de_int) (by walk_at "o")) da_nil)) (by walk_at "z")) (?_))
  have e3 := hJ.2.2
  simp only [List.foldl_nil] at e3
  subst e3
  exact ⟨rfl, rfl⟩
end
end Lw

namespace Lw
section
variable {P : Program} {w : World} {K : PySem.W.Frag} {mg : Str → Option Value} {base : Heap}
theorem F__law_take (T : Tx K mg) : BFn P w K mg base (ct K) "_law_take" 1 boxC (fun (l : Int) => [.int l]) (fun l b => 0 < l ∧ l < 1073741824 ∧ BoxOk b) (fun l b => .int (tk l b)) tkN := by
  refine BFn.of (d__law_take T) (m__law_take T) sc__law_take (fun _ _ _ _ _ _ us hl => match us, hl with | [_, _], _ => rfl) (fun _ => rfl) (fun _ _ _ => ⟨rfl, rfl⟩) (fun _ => ⟨rfl, by simp [boxC]⟩) ?_
  rintro f cdv A outer s H E l b hr ⟨h0, h1, hb⟩
  have hb2 := hb.2.1
  -- 0 box, 1 limit, 2 digit
  refine
    ds_if (qt_cmp (q_ix (de_var 0) (de_int) (by walk_at "x")) (de_int) (by walk_at "o")) (fun h =>
      ds_set 2 sc__law_take.nd (q_op (de_intc (b_int T) (q_ix (de_var 0) (de_int) (by walk_at "x"))) (de_var 1) (o2_mod h0)) <|
      ds_put (q_op (q_ix (de_var 0) (de_int) (by walk_at "x")) (de_var 1) (o2_fdiv ⟨h0, h1⟩)) (de_var 0) (de_int) rfl rfl <|
      ds_ret (de_var 2) (?_)) (fun h =>
      ds_nil <|
      ds_put (q_op (de_intc (b_int T) (q_op (q_op (q_ix (de_var 0) (de_int) (by walk_at "x")) (de_int) (o2_mul (.inr ⟨by decide, by decide⟩))) (de_int) (by walk_at "o"))) (de_int) (o2_mod (by decide))) (de_var 0) (de_int) rfl rfl <|
      ds_ret (q_op (de_intc (b_int T) (q_op (q_ix (de_var 0) (de_int) (by walk_at "x")) (de_int) (o2_fdiv ⟨by decide, by decide⟩))) (de_var 1) (o2_mod h0)) (?_))
  · simp only [tk, tkN, h]; exact ⟨rfl, [], rfl⟩
  · simp only [tk, tkN, h]; exact ⟨rfl, [], rfl⟩
theorem F__law_ruled (T : Tx K mg) : PFn P w K mg base (ct K) "_law_ruled" 5 (fun (r : RL) => [r.gv]) RL.Pos ruleD := by
  refine PFn.of (d__law_ruled T) (m__law_ruled T) sc__law_ruled (fun _ _ _ _ _ _ us hl => match us, hl with | [_], _ => rfl) (fun _ => rfl) (fun _ _ => ⟨rfl, rfl⟩) ?_
  rintro f cdv A outer s H E r hr ok
  -- 0 given
  refine
    ds_ret (q_make (M_Rule5 T) (da_cons (q_ix (de_var 0) (de_int) (by walk_at "x")) (da_cons (q_ix (de_var 0) (de_int) (by walk_at "x")) (da_cons (q_ix (de_var 0) (de_int) (by walk_at "x")) (da_cons (q_ix (de_var 0) (de_int) (by walk_at "x")) (da_cons (q_ix (de_var 0) (de_int) (by walk_at "x")) da_nil))))) r rfl ok) (?_)
  rfl
theorem F__law_begun (T : Tx K mg) : PFn P w K mg base (ct K) "_law_begun" 1 (fun (r : RL) => [r.gv]) (fun r => 0 ≤ r.s ∧ r.s ≤ 1000) (fun r => (lbegun r.s).D) := by
  refine PFn.of (d__law_begun T) (m__law_begun T) sc__law_begun (fun _ _ _ _ _ _ us hl => match us, hl with | [_], _ => rfl) (fun _ => rfl) (fun _ _ => ⟨rfl, ok_ls _ _⟩) ?_
  rintro f cdv A outer s H E r hr ⟨h0, h1⟩
  -- 0 given
  refine
    ds_ret (de_tup (da_cons (de_dic0) (da_cons (q_op (de_lst (da_cons (de_non) da_nil) (by walk_at "z")) (q_ix (de_var 0) (de_int) (by walk_at "x")) (o2_repL (by omega) (by omega) (sz_small (by simp; omega)))) (da_cons (de_lst da_nil (by walk_at "z")) da_nil))) (by walk_at "z")) (?_)
  simp [lbegun, LS.D, kvD, kpD]
theorem head_eq (l : List Int) : (bif !l.isEmpty then D.int (l.headD 0) else D.non) = oiD l.head? := by cases l <;> rfl
theorem F__law_kept_seat (T : Tx K mg) : PFn P w K mg base (ct K) "_law_kept_seat" 1 (fun ((s, u) : LS × Int) => [s.D, .int u]) (fun (s, _) => s.Sz 1000) (fun (s, u) => oiD (kseat s.kp u)) := by
  refine PFn.of (d__law_kept_seat T) (m__law_kept_seat T) sc__law_kept_seat (fun _ _ _ _ _ _ us hl => match us, hl with | [_, _], _ => rfl) (fun _ => rfl) (fun (s, u) _ => ⟨by simp only [okDs, okD, ok_ls]; rfl, by show okD 0 (oiD (kseat s.kp u)) = true; cases kseat s.kp u <;> rfl⟩) ?_
  rintro f cdv A outer s H E ⟨st, u⟩ hr sz
  -- 0 state, 1 user, 2 found, 3 seat, 4 pair
  have key : ∀ (l : List (Option (Int × Int) × Nat)), (l.filter fun p => isKept u p.1).map (fun p => D.int ((p.2 : Nat) : Int)) = ((l.filter fun p => isKept u p.1).map fun p => ((p.2 : Nat) : Int)).map D.int := fun l => by simp
  refine
    ds_setLcP 2 [("seat", 3), ("pair", 4)] st.kp.zipIdx (fun p => D.tup [.int (p.2 : Nat), kpD p.1]) (fun p => isKept u p.1) (fun p => D.int (p.2 : Nat)) sc__law_kept_seat.nd (by rw [← enumD_map]; exact (di_enum (b_enumerate T) (q_ix (de_var 0) (de_int) (by walk_at "x")) rfl)) (blkOk_by (show blkC n__law_kept_seat (defScope s__law_kept_seat) _ _ = true by decide +kernel)) (fun z hz => by
      rcases z with ⟨_ | ⟨a, b⟩, i⟩
      · exact ⟨_, (by simp), (fun s H C cl fp => (dg_tup rfl (dgs_cons (dg_name 3 sc__law_kept_seat.nd) (dgs_cons (dg_name 4 sc__law_kept_seat.nd) dgs_nil)))), (fun s H C cl fp => (dts_oneE (dt_w (dw_and (k' := false) (qt_cmp (de_var 4) (de_non) (by walk_at "o")) (fun h1 => absurd h1 (by decide)))))), (fun hk => nomatch hk)⟩
      · exact ⟨_, (by simp), (fun s H C cl fp => (dg_tup rfl (dgs_cons (dg_name 3 sc__law_kept_seat.nd) (dgs_cons (dg_name 4 sc__law_kept_seat.nd) dgs_nil)))), (fun s H C cl fp => (dts_oneE (dt_w (dw_and (qt_cmp (de_var 4) (de_non) (by walk_at "o")) (fun h1 => (dw_and1 (qt_cmp (q_ix (de_var 4) (de_int) (by walk_at "x")) (de_var 1) (by walk_at "o")))))))), (fun hk s H C cl fp => (de_var 3))⟩) <| by
    rw [key]
    show DSs _ _ _ [some st.D, some (.int u), some (.lst ((kseats st.kp u).map .int)), none, none] [] _
    refine ds_ret (de_if (qt_cmp (de_var 2) (de_lst da_nil (by walk_at "z")) (by walk_at "o")) (fun h2 => (q_ix (d := .int ((kseats st.kp u).headD 0)) (de_var 2) (de_int) (.lst ?_))) (fun h2 => (de_non))) (?_)
    · cases q : kseats st.kp u with
      | nil => rw [q] at h2; cases h2
      | cons a l => exact atI_nat (j := 0) rfl
    · exact head_eq _
end
end Lw

namespace Lw
section
variable {P : Program} {w : World} {K : PySem.W.Frag} {mg : Str → Option Value} {base : Heap}
theorem ix_us {μ : Mu} {s : LS} {u : Int} {q : Int × Int} (h : aget s.us u = some q) : IxD μ (.dic (kvD prD s.us)) (.int u) (prD q) := .dicI (by rw [dget_kv, h]; rfl)
theorem in_us {μ : Mu} {s : LS} {u : Int} : InD μ (.int u) (.dic (kvD prD s.us)) (aget s.us u).isSome := by
  have h : DicD μ (.int u) (.dic (kvD prD s.us)) (dget (kvD prD s.us) (.inl u)).isSome := .dicI
  rw [dget_kv, Option.isSome_map] at h
  exact .dic h
theorem F__law_can (T : Tx K mg) : PFn P w K mg base (ct K) "_law_can" 1 (fun ((r, s, e) : RL × LS × Ev) => [r.gv, s.D, e.D]) (fun (_, s, e) => s.Sz 1000 ∧ e.Ok) (fun (r, s, e) => .bl (lcan r s e)) := by
  refine PFn.of (d__law_can T) (m__law_can T) sc__law_can (fun _ _ _ _ _ _ us hl => match us, hl with | [_, _, _], _ => rfl) (fun _ => rfl) (fun (r, s, e) _ => ⟨by simp only [okDs, ok_ls, ok_ev]; rfl, rfl⟩) ?_
  rintro f cdv A outer s H E ⟨r, st, ev⟩ hr ⟨sz, eok⟩
  have hu64 := hu64 hr
  have zz : (kvD prD st.us).length ≤ sizeLine := sz_small (by rw [kvD_len]; exact sz.us)
  -- 0 given, 1 state, 2 event, 3 using, 4 kept, 5 cut, 6 user, 7 age, 8 word
  refine
    ds_asg (de_var 1) (dg_tup rfl (dgs_cons (dg_name 3 sc__law_can.nd) (dgs_cons (dg_name 4 sc__law_can.nd) (dgs_cons (dg_name 5 sc__law_can.nd) dgs_nil)))) <|
    ds_if (qt_cmp (de_var 2) (de_tup (da_cons (de_str) da_nil) (by walk_at "z")) (o2_evPass hu64 eok)) (fun h1 => ?_) (fun h1 => ?_)
  · cases ev with
    | act w u => cases h1
    | pass =>
      refine
      ds_forKJ (S := Unit) (st.us.map (·.1)) (kvD_keys _ _) zz (fun _ => [some r.gv, some st.D, some Ev.pass.D, some (.dic (kvD prD st.us)), some (.lst (st.kp.map kpD)), some (.lst (st.ct.map .int)), none, none, none]) (fun _ => [])
        (fun rs _ => (∀ u ∈ rs, ∃ q, aget st.us u = some q) ∧ lcan r st .pass = rs.all fun u => !lateU r st u) (dp_name 3) ⟨(), by walk_at "g", rfl, fun u hu => aget_mem hu, rfl⟩ (fun u rs _ ⟨hJ, hall⟩ => ?_) (fun _ ⟨_, hall⟩ =>
        ds_ret (de_bl) (?_))
      · obtain ⟨q, hq⟩ := hJ u List.mem_cons_self
        refine ⟨_, (dg_name 6 sc__law_can.nd),
        ds_set 7 sc__law_can.nd (q_ix (q_ix (de_var 3) (de_var 6) (ix_us hq)) (de_int) (by walk_at "x")) <|
        ds_if (dt_w (dw_or (qt_cmp (de_var 7) (q_op (q_ix (de_var 0) (de_int) (by walk_at "x")) (q_ix (de_var 0) (de_int) (by walk_at "x")) (by walk_at "o")) (by walk_at "o")) (fun h4 => (dw_or1 (dt_w (dw_and (qt_nin (de_var 6) (de_var 5) (.ints rfl)) (fun h3 => (dw_and1 (qt_cmp (de_var 7) (q_op (q_ix (de_var 0) (de_int) (by walk_at "x")) (q_ix (de_var 0) (de_int) (by walk_at "x")) (by walk_at "o")) (by walk_at "o")))))))))) (fun h2 =>
          ds_ret (de_bl) (?_)) (fun h2 =>
          ds_nil <|
          ds_nil ⟨(), by walk_at "g", rfl, fun v hv => hJ v (List.mem_cons_of_mem _ hv), ?_⟩)⟩
        · have e : lateU r st u = true := by unfold lateU; rw [hq]; exact h2
          show D.bl false = D.bl (lcan r st .pass)
          rw [hall, List.all_cons, e]; rfl
        · have e : lateU r st u = false := by unfold lateU; rw [hq]; exact h2
          rw [hall, List.all_cons, e]; rfl
      · show D.bl true = D.bl (lcan r st .pass)
        rw [hall]; rfl
  · cases ev with
    | pass => cases h1
    | act w u =>
      refine ds_nil <|
      ds_asg (de_var 2) (dg_tup rfl (dgs_cons (dg_name 8 sc__law_can.nd) (dgs_cons (dg_name 6 sc__law_can.nd) dgs_nil))) <|
      ds_if (qt_in (de_var 8) (de_tup (da_cons (de_str) (da_cons (de_str) da_nil)) (by walk_at "z")) .w2) (fun h5 =>
        ds_ret (q_cmp (q_in (de_var 6) (de_var 5) (.ints rfl)) (q_cmp (de_var 8) (de_str) (by walk_at "o")) (by walk_at "o")) (?_)) (fun h5 =>
        ds_nil <|
        ds_if (qt_cmp (de_var 8) (de_str) (by walk_at "o")) (fun h6 =>
          ds_ret (de_and (q_nin (de_var 6) (de_var 3) in_us) (fun h7 => (de_one (q_nin (de_var 6) (de_var 5) (.ints rfl))))) (?_)) (fun h6 =>
          ds_nil <|
          ds_if (dt_w (dw_or (qt_nin (de_var 6) (de_var 3) in_us) (fun h10 => (dw_or1 (dt_w (dw_and (qt_in (de_var 8) (de_tup (da_cons (de_str) (da_cons (de_str) da_nil)) (by walk_at "z")) .w2) (fun h9 => (dw_and1 (qt_in (de_var 6) (de_var 5) (.ints rfl)))))))))) (fun h8 =>
            ds_ret (de_bl) (?_)) (fun h8 =>
            ds_nil <|
            ds_ret (de_or (q_cmp (de_var 8) (de_str) (by walk_at "o")) (fun h11 => (de_one (q_cmp (q_ix (q_ix (d := prD ((aget st.us u).getD (0, 0))) (de_var 3) (de_var 6) ?_) (de_int) (by walk_at "x")) (q_ix (de_var 0) (de_int) (by walk_at "x")) (by walk_at "o"))))) (?_))))
      · show D.bl _ = D.bl (lcan r st (.act w u))
        simp only [lcan, h5, cond_true]
      · show D.bl _ = D.bl (lcan r st (.act w u))
        simp only [lcan, h5, h6, cond_true, cond_false]
      · show D.bl _ = D.bl (lcan r st (.act w u))
        simp only [lcan, h5, h6, h8, cond_true, cond_false]
      · have : (aget st.us u).isSome = true := by
          cases q : (aget st.us u).isSome
          · rw [q] at h8; simp at h8
          · rfl
        obtain ⟨q, hq⟩ := Option.isSome_iff_exists.mp this
        rw [hq]
        exact ix_us hq
      · show D.bl _ = D.bl (lcan r st (.act w u))
        simp only [lcan, h5, h6, h8, cond_true, cond_false]
end
end Lw

namespace Lw
section
variable {P : Program} {w : World} {K : PySem.W.Frag} {mg : Str → Option Value} {base : Heap}
theorem flatMap_len (r : RL) : ∀ l : List (Option (Int × Int)), (l.flatMap (lostOf r)).length ≤ l.length
  | [] => by simp
  | p :: l => by
    have ih := flatMap_len r l
    have : (lostOf r p).length ≤ 1 := by
      cases p with
      | none => simp [lostOf]
      | some p => by_cases h : p.2 + 1 = r.l <;> simp [lostOf, h]
    simp only [List.flatMap_cons, List.length_append, List.length_cons]
    omega
theorem F__law_moment (T : Tx K mg) : PFn P w K mg base (ct K) "_law_moment" 1 (fun ((r, s) : RL × LS) => [r.gv, s.D]) (fun (_, s) => s.Sz 1000) (fun (r, s) => .tup [(lmoment r s).1.D, .lst ((lmoment r s).2.map .int)]) := by
  refine PFn.of (d__law_moment T) (m__law_moment T) sc__law_moment (fun _ _ _ _ _ _ us hl => match us, hl with | [_, _], _ => rfl) (fun _ => rfl) (fun (r, s) _ => ⟨by simp only [okDs, ok_ls]; rfl, by simp only [okD, okDs, ok_ls, ok_map 0 D.int (fun _ => rfl)]; rfl⟩) ?_
  rintro f cdv A outer s H E ⟨r, st⟩ hr sz
  have zz : (kvD prD st.us).length ≤ sizeLine := sz_small (by rw [kvD_len]; exact sz.us)
  -- 0 given, 1 state, 2 using, 3 kept, 4 lost, 5 user, 6 pair, 7 is_lost
  refine
    ds_par3 2 3 4 rfl sc__law_moment.nd (da_cons de_dic0M (da_cons (de_lstM da_nil (by walk_at "z")) (da_cons (de_lstM da_nil (by walk_at "z")) da_nil))) <|
    ds_forKJ (S := List (Int × (Int × Int))) (st.us.map (·.1)) (kvD_keys _ _) zz (fun _ => [some r.gv, some st.D, some (.ptr 0), some (.ptr 1), some (.ptr 2), none, none, none]) (fun acc => [.dic (kvD prD acc), .lst [], .lst []])
      (fun rs acc => (∀ u ∈ rs, ∃ q, aget st.us u = some q) ∧ acc.length + rs.length ≤ 1000 ∧ rs.foldl (older st.us) acc = (st.us.map (·.1)).foldl (older st.us) []) (dp_ix 1 rfl) ⟨[], by walk_at "g", rfl, fun u hu => aget_mem hu, by simpa using sz.us, rfl⟩ (fun u rs acc ⟨hJ, hz, hall⟩ => ?_) (fun acc ⟨_, _, hall⟩ =>
    ds_forJ (S := List (Option (Int × Int)) × List Int) kpD st.kp (fun _ => [some r.gv, some st.D, some (.ptr 0), some (.ptr 1), some (.ptr 2), none, none, none]) (fun q => [.dic (kvD prD acc), .lst (q.1.map kpD), .lst (q.2.map .int)])
      (fun rs q => q.1.length + rs.length ≤ 1000 ∧ q.2.length ≤ q.1.length ∧ q.1 ++ rs.map (keptOn r) = (lmoment r st).1.kp ∧ q.2 ++ rs.flatMap (lostOf r) = (lmoment r st).2)
      (di_seq (q_ix (de_var 1) (de_int) (by walk_at "x")) rfl) ⟨([], []), by walk_at "g", rfl, by simpa using sz.kp, Nat.le_refl _, rfl, rfl⟩ (fun p rs q ⟨h1, h2, h3, h4⟩ => ?_) (fun q ⟨_, _, h3, h4⟩ =>
      ds_freeze 2 rfl rfl rfl <| ds_freeze 3 rfl rfl rfl <| ds_freeze 4 rfl rfl rfl <|
      ds_ret (de_tup (da_cons (de_tup (da_cons (de_var 2) (da_cons (de_var 3) (da_cons (q_list (b_list T) (q_ix (de_var 1) (de_int) (by walk_at "x")) (by walk_at "s")) da_nil))) (by walk_at "z")) (da_cons (de_var 4) da_nil)) (by walk_at "z")) (?_)))
  · obtain ⟨q, hq⟩ := hJ u List.mem_cons_self
    refine ⟨_, dg_name 5 sc__law_moment.nd, ds_dput (hu_of hr) (de_tup (da_cons (q_ix (q_ix (q_ix (de_var 1) (de_int) (by walk_at "x")) (de_var 5) (ix_us hq)) (de_int) (by walk_at "x")) (da_cons (q_op (q_ix (q_ix (q_ix (de_var 1) (de_int) (by walk_at "x")) (de_var 5) (ix_us hq)) (de_int) (by walk_at "x")) (de_int) (by walk_at "o")) da_nil)) (by walk_at "z")) (de_var 2) (de_var 5) .int rfl (by rw [kvD_len]; exact Nat.lt_of_lt_of_le (show acc.length < 1000 from by have hz' : acc.length + (rs.length + 1) ≤ 1000 := hz; omega) (sz_small (Nat.le_refl 1000))) <| ds_nil ?_⟩
    refine ⟨older st.us acc u, by walk_at "g", ?_, fun v hv => hJ v (List.mem_cons_of_mem _ hv), ?_, hall⟩
    · unfold older
      rw [hq]
      show [Cell.dic (dput (kvD prD acc) (.inl u) (prD (q.1, q.2 + 1))), _, _] = _
      rw [dput_kv]
    · have : (older st.us acc u).length ≤ acc.length + 1 := by
        unfold older; rw [hq]; exact aput_len _ _ _
      have hz' : acc.length + (rs.length + 1) ≤ 1000 := hz; omega
  · have z1 : (q.1.map kpD).length < sizeLine := Nat.lt_of_lt_of_le (by have h1' : q.1.length + (rs.length + 1) ≤ 1000 := h1; rw [List.length_map]; omega) (sz_small (Nat.le_refl 1000))
    have z2 : (q.2.map D.int).length + 1 ≤ sizeLine := sz_small (by have h1' : q.1.length + (rs.length + 1) ≤ 1000 := h1; rw [List.length_map]; omega)
    have fin : ∀ (k : Option (Int × Int)) (l : List Int), k = keptOn r p → l = lostOf r p → (q.1 ++ [k]).length + rs.length ≤ 1000 ∧ (q.2 ++ l).length ≤ (q.1 ++ [k]).length ∧ (q.1 ++ [k]) ++ rs.map (keptOn r) = (lmoment r st).1.kp ∧ (q.2 ++ l) ++ rs.flatMap (lostOf r) = (lmoment r st).2 := by
      rintro k l rfl rfl
      have : (lostOf r p).length ≤ 1 := by
        cases p with
        | none => simp [lostOf]
        | some p => by_cases h : p.2 + 1 = r.l <;> simp [lostOf, h]
      refine ⟨by simp at h1 ⊢; omega, by simp; omega, ?_, ?_⟩
      · rw [← h3]; simp
      · rw [← h4]; simp
    cases p with
    | none =>
      refine ⟨_, dg_name 6 sc__law_moment.nd,
        ds_set 7 sc__law_moment.nd (de_and (k' := false) (q_cmp (de_var 6) de_non (by walk_at "o")) (fun h => absurd h (by decide))) <|
        ds_expr (de_extend (de_var 4) (q_ifL (i := []) (dt_val (de_var 7)) (fun h => absurd h (by decide)) (fun h => de_lst da_nil (by walk_at "z"))) ⟨_, rfl⟩ rfl (by have := z2; simp at this ⊢; omega)) <|
        ds_expr (de_append (de_var 3) (de_if' (dt_w (dw_or (k' := false) (qt_cmp (de_var 6) de_non (by walk_at "o")) (fun h => absurd h (by decide)))) (fun h => de_non) (fun h => absurd h (by decide))) ⟨_, rfl⟩ rfl z1) <|
        ds_nil ⟨(q.1 ++ [none], q.2 ++ []), by walk_at "g", ?_, fin none [] rfl rfl⟩⟩
      simp [kpD]
    | some pq =>
      have e1 : keptOn r (some pq) = bif decide (pq.2 + 1 = r.l) then none else some (pq.1, pq.2 + 1) := by
        by_cases h : pq.2 + 1 = r.l <;> simp [keptOn, h]
      have e2 : lostOf r (some pq) = bif decide (pq.2 + 1 = r.l) then [pq.1] else [] := by
        by_cases h : pq.2 + 1 = r.l <;> simp [lostOf, h]
      have z3 : (q.2.map D.int).length + (bif decide (pq.2 + 1 = r.l) then [D.int pq.1] else []).length ≤ sizeLine := Nat.le_trans (Nat.add_le_add_left (by cases decide (pq.2 + 1 = r.l) <;> simp) _) z2
      refine ⟨_, dg_name 6 sc__law_moment.nd,
        ds_set 7 sc__law_moment.nd (de_and (q_cmp (de_var 6) de_non (by walk_at "o")) (fun h => de_one (q_cmp (q_op (q_ix (de_var 6) (de_int) (by walk_at "x")) (de_int) (by walk_at "o")) (q_ix (de_var 0) (de_int) (by walk_at "x")) (by walk_at "o")))) <|
        ds_expr (de_extend (de_var 4) (q_ifL (dt_val (de_var 7)) (fun h => de_lst (da_cons (q_ix (de_var 6) (de_int) (by walk_at "x")) da_nil) (by walk_at "z")) (fun h => de_lst da_nil (by walk_at "z"))) ⟨_, rfl⟩ rfl z3) <|
        ds_expr (de_append (de_var 3) (de_if (dt_w (dw_or (qt_cmp (de_var 6) de_non (by walk_at "o")) (fun h => dw_or1 (dt_val (de_var 7))))) (fun h => de_non) (fun h => de_tup (da_cons (q_ix (de_var 6) (de_int) (by walk_at "x")) (da_cons (q_op (q_ix (de_var 6) (de_int) (by walk_at "x")) (de_int) (by walk_at "o")) da_nil)) (by walk_at "z"))) ⟨_, rfl⟩ rfl z1) <|
        ds_nil ⟨(q.1 ++ [keptOn r (some pq)], q.2 ++ lostOf r (some pq)), by walk_at "g", ?_, fin _ _ rfl rfl⟩⟩
      rw [e1, e2]
      cases decide (pq.2 + 1 = r.l) <;> simp [kpD, prD]
  · show D.tup [D.tup [.dic (kvD prD acc), .lst (q.1.map kpD), .lst (st.ct.map .int)], .lst (q.2.map .int)] = D.tup [(lmoment r st).1.D, .lst ((lmoment r st).2.map .int)]
    simp only [List.map_nil, List.append_nil, List.flatMap_nil] at h3 h4
    rw [h3, h4]
    simp only [List.foldl_nil] at hall
    rw [hall]
    rfl
end
end Lw

namespace Lw
section
variable {P : Program} {w : World} {K : PySem.W.Frag} {mg : Str → Option Value} {base : Heap}
def seatsOf (s : LS) : List Int := (s.us.map (·.1)).map fun u => ((aget s.us u).getD (0, 0)).1
def seatK (s : LS) : Key → D
  | .inl u => .int ((aget s.us u).getD (0, 0)).1
  | .inr _ => .non
theorem seats_eq (s : LS) : (((kvD prD s.us).map (·.1)).filter (fun _ => true)).map (seatK s) = (seatsOf s).map .int := by
  rw [List.filter_eq_self.mpr fun _ _ => rfl, kvD_keys, seatsOf]
  simp only [List.map_map]
  apply List.map_congr_left
  intro u _
  rfl
theorem bif_map {α β : Type} (f : α → β) (k : Bool) (a b : List α) : (bif k then a.map f else b.map f) = (bif k then a else b).map f := by cases k <;> rfl
theorem F__law_faults (T : Tx K mg) : PFn P w K mg base (ct K) "_law_faults" 1 (fun ((r, s, met) : RL × LS × List Str) => [r.gv, s.D, .lst (met.map .str)]) (fun (_, s, met) => s.Sz 1000 ∧ met.length ≤ 10) (fun (r, s, met) => .tup ((lfaults r s met).map .str)) := by
  refine PFn.of (d__law_faults T) (m__law_faults T) sc__law_faults (fun _ _ _ _ _ _ us hl => match us, hl with | [_, _, _], _ => rfl) (fun _ => rfl) (fun (r, s, met) _ => ⟨by simp only [okDs, okD, ok_ls, ok_map 0 D.str (fun _ => rfl)]; rfl, by simp only [okD, ok_map 0 D.str (fun _ => rfl)]⟩) ?_
  rintro f cdv A outer s H E ⟨r, st, met⟩ hr ⟨sz, hm⟩
  have zz : (kvD prD st.us).length ≤ sizeLine := sz_small (by rw [kvD_len]; exact sz.us)
  have sl : (seatsOf st).length ≤ 1000 := by simpa [seatsOf] using sz.us
  have e1 := bif_map D.str (decide (r.s < ((((seatsOf st).map D.int).length : Nat) : Int))) (["over"] : List Str) []
  have key : ∀ tw : List Int, (met.map D.str ++ (bif decide (r.s < ((((seatsOf st).map D.int).length : Nat) : Int)) then [D.str "over"] else [])) ++ (bif !tw.isEmpty then [D.str "twice"] else []) = (met ++ (bif decide (r.s < (((seatsOf st).length : Nat) : Int)) then (["over"] : List Str) else []) ++ (bif tw.isEmpty then [] else (["twice"] : List Str))).map D.str := by
    intro tw
    rw [List.length_map]
    cases decide (r.s < (((seatsOf st).length : Nat) : Int)) <;> cases tw.isEmpty <;> simp
  -- 0 given, 1 state, 2 met, 3 seats, 4 user, 5 found, 6 twice, 7 seat, 8 one
  refine
    ds_set 3 sc__law_faults.nd (de_eq (de_lcK [("user", 4)] (fun _ => true) (seatK st) rfl sc__law_faults.nd zz (dp_ix 1 rfl) (blkOk_by (show blkC n__law_faults (defScope s__law_faults) _ _ = true by decide +kernel)) (fun kv hkv => ?_)) (congrArg D.lst (seats_eq st))) <|
    ds_set 5 sc__law_faults.nd (q_op (de_var 2) (q_ifL (qt_cmp (q_len (b_len T) (de_var 3) (by walk_at "l")) (q_ix (de_var 0) (de_int) (by walk_at "x")) (by walk_at "o")) (fun h1 => (de_lst (da_cons (de_str) da_nil) (by walk_at "z"))) (fun h1 => (de_lst da_nil (by walk_at "z")))) (o2_catL (sz_small ?_))) <|
    ds_setLcP 6 [("seat", 7)] (seatsOf st) D.int (fun q => decide (1 < (((seatsOf st).count q : Nat) : Int))) D.int sc__law_faults.nd (di_seq (de_var 3) rfl) (blkOk_by (show blkC n__law_faults (defScope s__law_faults) _ _ = true by decide +kernel)) (fun z hz => ⟨_, (by simp), (fun s H C cl fp => (dg_name 7 sc__law_faults.nd)), (fun s H C cl fp => (dts_oneE (qt_cmp (de_count (ns := seatsOf st) (de_var 3) (.seq rfl) (by nofun) (de_var 7) (.seq rfl)) (de_int) (by walk_at "o")))), (fun hk s H C cl fp => (de_var 7))⟩) <|
    ds_ret (q_tuple (b_tuple T) (q_sortS (b_sorted T) (de_lcU [("one", 8)] (met ++ (bif decide (r.s < (((seatsOf st).length : Nat) : Int)) then (["over"] : List Str) else []) ++ (bif ((seatsOf st).filter fun q => decide (1 < (((seatsOf st).count q : Nat) : Int))).isEmpty then [] else (["twice"] : List Str))) D.str D.str rfl sc__law_faults.nd (di_seq (q_op (de_var 5) (q_ifL (qt_cmp (de_var 6) (de_lst da_nil (by walk_at "z")) (by walk_at "o")) (fun h2 => (de_lst (da_cons (de_str) da_nil) (by walk_at "z"))) (fun h2 => (de_lst da_nil (by walk_at "z")))) (o2_catL (sz_small ?_))) (congrArg some (key _))) (blkOk_by (show blkC n__law_faults (defScope s__law_faults) _ _ = true by decide +kernel)) (fun z hz => ⟨_, (by simp), (fun s H C cl fp => (dg_name 8 sc__law_faults.nd)), (fun s H C cl fp => (de_strc (b_str T) (de_var 8)))⟩)) (.seq rfl) (by nofun) ?_) (.seq rfl)) (?_)
  · unfold kvD at hkv
    rw [List.mem_map] at hkv
    obtain ⟨p, hp, rfl⟩ := hkv
    obtain ⟨q, hq⟩ := aget_mem (List.mem_map_of_mem (f := (·.1)) hp)
    refine ⟨_, (by simp), (fun s H C cl fp => (dg_name 4 sc__law_faults.nd)), (fun s H C cl fp => dts_nil), (fun hk s H C cl fp => de_eq (q_ix (q_ix (q_ix (de_var 1) (de_int) (by walk_at "x")) (de_var 4) (ix_us hq)) (de_int) (by walk_at "x")) ?_)⟩
    show D.int q.1 = D.int _
    rw [hq]; rfl
  · rw [List.length_map]
    have : (bif decide (r.s < ((((seatsOf st).map D.int).length : Nat) : Int)) then [D.str "over"] else []).length ≤ 1 := by cases decide (r.s < ((((seatsOf st).map D.int).length : Nat) : Int)) <;> simp
    omega
  · have a : ∀ k : Bool, (bif k then [D.str "over"] else []).length ≤ 1 := by intro k; cases k <;> simp
    have b : ∀ k : Bool, (bif k then [D.str "twice"] else []).length ≤ 1 := by intro k; cases k <;> simp
    rw [List.length_append, List.length_map]
    exact Nat.le_trans (Nat.add_le_add (Nat.add_le_add hm (a _)) (b _)) (by decide)
  · have a : ∀ k : Bool, (bif k then (["over"] : List Str) else []).length ≤ 1 := by intro k; cases k <;> simp
    have b : ∀ k : Bool, (bif k then [] else (["twice"] : List Str)).length ≤ 1 := by intro k; cases k <;> simp
    rw [List.length_append, List.length_append]
    exact Nat.lt_of_le_of_lt (Nat.add_le_add (Nat.add_le_add hm (a _)) (b _)) (by decide)
  · rfl
end
end Lw

namespace Lw
section
variable {P : Program} {wd : World} {K : PySem.W.Frag} {mg : Str → Option Value} {base : Heap}
theorem isNon_oi (o : Option Int) : isNon (oiD o) = some o.isNone := by cases o <;> rfl
theorem strs_bif (k : Bool) (s : Str) : (bif k then [D.str s] else []) = ((bif k then [s] else []) : List Str).map D.str := by cases k <;> rfl
theorem lbehind_isPass {r : RL} {s : LS} : lbehind r s .pass = ((lmoment r s).1, lfaults r (lmoment r s).1 (bif ((lmoment r s).2.filter fun u => (aget (lmoment r s).1.us u).isSome && !decide (u ∈ (lmoment r s).1.ct)).isEmpty then [] else (["taken"] : List Str))) := rfl
theorem lcan_using {r : RL} {s : LS} {w : Str} {u : Int} (h : lcan r s (.act w u) = true) (h1 : ¬ w = "cut") (h2 : ¬ w = "join") (h3 : ¬ w = "borrow") : ∃ q, aget s.us u = some q := by
  simp only [lcan, decide_eq_false h1, decide_eq_false h2, decide_eq_false h3, Bool.or_false, cond_false] at h
  cases q : aget s.us u with
  | some v => exact ⟨v, rfl⟩
  | none => rw [q] at h; simp at h
theorem kseat_lt {kp : List (Option (Int × Int))} {u i : Int} (h : kseat kp u = some i) : 0 ≤ i ∧ i.toNat < kp.length := kseats_lt (List.mem_of_mem_head? h)
theorem F__law_behind (T : Tx K mg) : PFn P wd K mg base (ct K) "_law_behind" 2 (fun ((r, s, e) : RL × LS × Ev) => [r.gv, s.D, e.D]) (fun (r, s, e) => s.Sz 999 ∧ e.Ok ∧ lcan r s e = true) (fun (r, s, e) => .tup [(lbehind r s e).1.D, .tup ((lbehind r s e).2.map .str)]) := by
  refine PFn.of (d__law_behind T) (m__law_behind T) sc__law_behind (fun _ _ _ _ _ _ us hl => match us, hl with | [_, _, _], _ => rfl) (fun _ => rfl) (fun (r, s, e) _ => ⟨by simp only [okDs, ok_ls, ok_ev]; rfl, by simp only [okD, okDs, ok_ls, ok_map 0 D.str (fun _ => rfl)]; rfl⟩) ?_
  rintro f cdv A outer s H E ⟨r, st, ev⟩ hr ⟨sz, eok, can⟩
  have hu64 := hu64 hr
  have szp : st.Sz 1000 := ⟨by have := sz.us; omega, by have := sz.kp; omega, by have := sz.ct; omega⟩
  have szm := sz_moment (r := r) szp
  -- 0 given, 1 state, 2 event, 3 later, 4 lost, 5 bad, 6 user, 7 word, 8 using, 9 kept, 10 cut, 11 seat, 12 met, 13 free, 14 at, 15 pair, 16 one
  refine
    ds_if (qt_cmp (de_var 2) (de_tup (da_cons (de_str) da_nil) (by walk_at "z")) (o2_evPass hu64 eok)) (fun h1 => ?_) (fun h1 => ?_)
  · cases ev with
    | act w u => cases h1
    | pass =>
      refine
      ds_asg (q_call (F__law_moment T) (da_cons (de_var 0) (da_cons (de_var 1) da_nil)) (r, st) rfl szp) (dg_tup rfl (dgs_cons (dg_name 3 sc__law_behind.nd) (dgs_cons (dg_name 4 sc__law_behind.nd) dgs_nil))) <|
      ds_setLcP 5 [("user", 6)] (lmoment r st).2 D.int (fun u => (aget (lmoment r st).1.us u).isSome && !decide (u ∈ (lmoment r st).1.ct)) D.int sc__law_behind.nd (di_seq (de_var 4) rfl) (blkOk_by (show blkC n__law_behind (defScope s__law_behind) _ _ = true by decide +kernel)) (fun z hz => ⟨_, (by simp), (fun s H C cl fp => (dg_name 6 sc__law_behind.nd)), (fun s H C cl fp => (dts_oneE (dt_w (dw_and (qt_in (de_var 6) (q_ix (de_var 3) (de_int) (.tup rfl)) in_us) (fun h2 => (dw_and1 (qt_nin (de_var 6) (q_ix (de_var 3) (de_int) (.tup rfl)) (.ints rfl)))))))), (fun hk s H C cl fp => (de_var 6))⟩) <|
      ds_ret (de_tup (da_cons (de_var 3) (da_cons (q_call (F__law_faults T) (da_cons (de_var 0) (da_cons (de_var 3) (da_cons (q_ifL (qt_cmp (de_var 5) (de_lst da_nil (by walk_at "z")) (o2_neNil hu64)) (fun h3 => (de_lst (da_cons (de_str) da_nil) (by walk_at "z"))) (fun h3 => (de_lst da_nil (by walk_at "z")))) da_nil))) (r, (lmoment r st).1, bif ((lmoment r st).2.filter fun u => (aget (lmoment r st).1.us u).isSome && !decide (u ∈ (lmoment r st).1.ct)).isEmpty then [] else (["taken"] : List Str)) ?_ ⟨szm, ?_⟩) da_nil)) (by walk_at "z")) (?_)
      · cases ((lmoment r st).2.filter fun u => (aget (lmoment r st).1.us u).isSome && !decide (u ∈ (lmoment r st).1.ct)).isEmpty <;> rfl
      · cases ((lmoment r st).2.filter fun u => (aget (lmoment r st).1.us u).isSome && !decide (u ∈ (lmoment r st).1.ct)).isEmpty <;> simp
      · rfl
  · cases ev with
    | pass => cases h1
    | act w u =>
      have hse := isNon_oi (kseat st.kp u)
      -- the end
      have fin : ∀ (s' : LS) (met : List Str) (c2 : Cell), s'.Sz 1000 → met.length ≤ 10 → lbehind r st (.act w u) = (s', lfaults r s' met) →
          DSs (cxOf CX0 P wd K mg base n__law_behind "_law_behind" (defScope s__law_behind) f cdv A outer s H E).nox (ct K) ((defBody s__law_behind).drop 6)
            [some r.gv, some st.D, some (Ev.act w u).D, none, none, none, none, none, some (.ptr 0), some (.ptr 1), some (.lst (s'.ct.map .int)), none, some (.lst (met.map .str)), none, none, none, none] [.dic (kvD prD s'.us), .lst (s'.kp.map kpD), c2]
            { nx := fun _ _ => D.non = .tup [(lbehind r st (.act w u)).1.D, .tup ((lbehind r st (.act w u)).2.map .str)], rt := fun d2 _ => d2 = .tup [(lbehind r st (.act w u)).1.D, .tup ((lbehind r st (.act w u)).2.map .str)] } := by
        intro s' met c2 sz' hm' e
        refine ds_freeze 8 rfl rfl rfl <| ds_freeze 9 rfl rfl rfl <|
          ds_set 3 sc__law_behind.nd (de_eq (d' := s'.D) (de_tup (da_cons (de_var 8) (da_cons (de_var 9) (da_cons (de_var 10) da_nil))) (by walk_at "z")) rfl) <|
          ds_ret (de_tup (da_cons (de_var 3) (da_cons (q_call (F__law_faults T) (da_cons (de_var 0) (da_cons (de_var 3) (da_cons (de_var 12) da_nil))) (r, s', met) rfl ⟨sz', hm'⟩) da_nil)) (by walk_at "z")) ?_
        show D.tup _ = D.tup _
        rw [e]
      have finM : ∀ (s' : LS) (met : List Str), s'.Sz 1000 → met.length ≤ 10 → lbehind r st (.act w u) = (s', lfaults r s' met) →
          DSs (cxOf CX0 P wd K mg base n__law_behind "_law_behind" (defScope s__law_behind) f cdv A outer s H E).nox (ct K) ((defBody s__law_behind).drop 6)
            [some r.gv, some st.D, some (Ev.act w u).D, none, none, none, none, none, some (.ptr 0), some (.ptr 1), some (.ptr 2), none, some (.lst (met.map .str)), none, none, none, none] [.dic (kvD prD s'.us), .lst (s'.kp.map kpD), .lst (s'.ct.map .int)]
            { nx := fun _ _ => D.non = .tup [(lbehind r st (.act w u)).1.D, .tup ((lbehind r st (.act w u)).2.map .str)], rt := fun d2 _ => d2 = .tup [(lbehind r st (.act w u)).1.D, .tup ((lbehind r st (.act w u)).2.map .str)] } := fun s' met h1 h2 h3 =>
        ds_freeze 10 rfl rfl rfl <| fin s' met .dead h1 h2 h3
      refine
      ds_nil <|
      ds_asg (de_var 2) (dg_tup rfl (dgs_cons (dg_name 7 sc__law_behind.nd) (dgs_cons (dg_name 6 sc__law_behind.nd) dgs_nil))) <|
      ds_par3 8 9 10 rfl sc__law_behind.nd (da_cons (de_dictM (b_dict T) (q_ix (de_var 1) (de_int) (by walk_at "x"))) (da_cons (de_listM (b_list T) (q_ix (de_var 1) (de_int) (by walk_at "x")) (.seq rfl)) (da_cons (de_listM (b_list T) (q_ix (de_var 1) (de_int) (by walk_at "x")) (.seq rfl)) da_nil))) <|
      ds_par 11 12 rfl sc__law_behind.nd (da_cons (q_call (F__law_kept_seat T) (da_cons (de_var 1) (da_cons (de_var 6) da_nil)) (st, u) rfl szp) (da_cons (de_lst da_nil (by walk_at "z")) da_nil)) <|
      ds_setLcM 13 [("at", 14), ("pair", 15)] st.kp.zipIdx (fun p => D.tup [.int (p.2 : Nat), kpD p.1]) (fun p => p.1.isNone) (fun p => D.int (p.2 : Nat)) sc__law_behind.nd rfl (by rw [← enumD_map]; exact di_enumM (b_enumerate T) (de_var 9)) (blkOk_by (show blkC n__law_behind (defScope s__law_behind) _ _ = true by decide +kernel)) (fun z hz => by
        rcases z with ⟨_ | ⟨a, b⟩, i⟩
        · exact ⟨_, (by simp), (fun s H C cl fp => (dg_tup rfl (dgs_cons (dg_name 14 sc__law_behind.nd) (dgs_cons (dg_name 15 sc__law_behind.nd) dgs_nil)))), (fun s H C cl fp => (dts_oneE (qt_cmp (de_var 15) de_non (by walk_at "o")))), (fun hk s H C cl fp => (de_var 14))⟩
        · exact ⟨_, (by simp), (fun s H C cl fp => (dg_tup rfl (dgs_cons (dg_name 14 sc__law_behind.nd) (dgs_cons (dg_name 15 sc__law_behind.nd) dgs_nil)))), (fun s H C cl fp => (dts_oneE (qt_cmp (de_var 15) de_non (by walk_at "o")))), (fun hk s H C cl fp => (de_var 14))⟩) <| by
        rw [show (st.kp.zipIdx.filter fun p => p.1.isNone).map (fun p => D.int ((p.2 : Nat) : Int)) = (frees st.kp).map D.int by simp [frees]]
        refine ds_if (dt_w (dw_and (qt_cmp (de_var 7) de_str (by walk_at "o")) (fun _ => dw_and (qt_cmp (de_var 11) de_non (o2_is hse)) (fun _ => dw_and1 (qt_cmp (de_var 13) (de_lst da_nil (by walk_at "z")) (o2_eqNil hu64)))))) (fun c1 => ?_) (fun c1 => ?_)
        · have f := finM st (bif decide ((st.us.length : Int) < r.s) then (["waits"] : List Str) else []) szp (by cases decide ((st.us.length : Int) < r.s) <;> simp) (by simp only [lbehind, c1, cond_true])
          refine ds_set 12 sc__law_behind.nd (de_eq (q_ifL (qt_cmp (de_lenD (b_len T) (de_var 8) rfl) (q_ix (de_var 0) de_int (by walk_at "x")) (by walk_at "o")) (fun _ => de_lst (da_cons de_str da_nil) (by walk_at "z")) (fun _ => de_lst da_nil (by walk_at "z"))) ?_) <| ds_nil <| ds_less (by walk_at "g") f
          rw [kvD_len]
          exact congrArg D.lst (strs_bif _ _)
        · have ns : (!(kseat st.kp u).isNone) = (kseat st.kp u).isSome := by cases kseat st.kp u <;> rfl
          refine ds_if (dt_w (dw_or (qt_cmp (de_var 7) de_str (by walk_at "o")) (fun _ => dw_or1 (dt_w (dw_and (qt_cmp (de_var 7) de_str (by walk_at "o")) (fun _ => dw_and1 (qt_cmp (de_var 11) de_non (o2_isnt hse)))))))) (fun c2 => ?_) (fun c2 => ?_)
          · rw [ns] at c2
            have hq : ∀ q : Int, (kseat st.kp u).getD ((frees st.kp).headD 0) = q → 0 ≤ q ∧ q.toNat < st.kp.length := by
              rintro q rfl
              cases hk : kseat st.kp u with
              | some i => exact kseat_lt hk
              | none =>
                cases hf : frees st.kp with
                | nil => rw [hk, hf] at c1; rw [hk] at c2; simp at c1 c2; exact absurd c2 c1
                | cons a l => exact frees_lt (by rw [hf]; exact List.mem_cons_self)
            obtain ⟨q, hqe⟩ : ∃ q, (kseat st.kp u).getD ((frees st.kp).headD 0) = q := ⟨_, rfl⟩
            obtain ⟨q0, q1⟩ := hq q hqe
            have f := finM ⟨aput st.us u (q, 0), st.kp.set q.toNat (some (u, 0)), st.ct⟩ [] ⟨by have := aput_len st.us u (q, 0); have := sz.us; show (aput st.us u (q, 0)).length ≤ 1000; omega, by simpa using szp.kp, szp.ct⟩ (by simp) (by simp only [lbehind, c1, c2, cond_true, cond_false, hqe])
            simp only [← dput_kv, List.map_set] at f
            refine ds_set 11 sc__law_behind.nd (de_if' (d := .int q) (qt_cmp (de_var 11) de_non (o2_is hse)) (fun h => q_ix (de_var 13) de_int (.lst ?_)) (fun h => de_eq (de_var 11) ?_)) <|
              ds_asgM (de_tup (da_cons (de_tup (da_cons (de_var 11) (da_cons de_int da_nil)) (by walk_at "z")) (da_cons (de_tup (da_cons (de_var 6) (da_cons de_int da_nil)) (by walk_at "z")) da_nil)) (by walk_at "z"))
                (gm_tup rfl (gm_cons (gm_dput (hu_of hr) (de_var 8) (de_var 6) .int rfl (by rw [kvD_len]; exact Nat.lt_of_lt_of_le (Nat.lt_of_le_of_lt sz.us (by decide)) (sz_small (Nat.le_refl 1000)))) (gm_cons (gm_put (de_var 9) (de_var 11) rfl (ixN_lt q0 (by simpa using q1))) gm_nil))) <|
              ds_nil <| ds_nil <| ?_
            · cases hk : kseat st.kp u with
              | some i => rw [hk] at h; cases h
              | none =>
                cases hf : frees st.kp with
                | nil => rw [hk, hf] at c1; rw [hk] at c2; simp at c1 c2; exact absurd c2 c1
                | cons a l => rw [hk, hf] at hqe; subst hqe; exact atI_nat (j := 0) rfl
            · cases hk : kseat st.kp u with
              | some i => rw [hk] at hqe; subst hqe; show oiD (kseat st.kp u) = _; rw [hk]; rfl
              | none => rw [hk] at h; cases h
            · exact ds_less (by walk_at "g") f
          · rw [ns] at c2
            refine ds_if (qt_cmp (de_var 7) de_str (by walk_at "o")) (fun c3 => ?_) (fun c3 => ?_)
            · have f := finM ⟨st.us, st.kp, st.ct ++ [u]⟩ [] ⟨szp.us, szp.kp, by have := sz.ct; simp; omega⟩ (by simp) (by simp only [lbehind, c1, c2, c3, cond_true, cond_false])
              simp only [List.map_append, List.map_cons, List.map_nil] at f
              refine ds_expr (de_append (de_var 10) (de_var 6) ⟨_, rfl⟩ rfl (Nat.lt_of_lt_of_le (by rw [List.length_map]; exact Nat.lt_of_le_of_lt sz.ct (by decide)) (sz_small (Nat.le_refl 1000)))) <| ds_nil <| ds_nil <| ds_nil <| ?_
              exact ds_less (by walk_at "g") f
            · refine ds_if (qt_cmp (de_var 7) de_str (by walk_at "o")) (fun c4 => ?_) (fun c4 => ?_)
              · have f := fin ⟨st.us, st.kp, st.ct.filter fun o => !decide (o = u)⟩ [] (.lst (st.ct.map .int)) ⟨szp.us, szp.kp, Nat.le_trans (List.length_filter_le _ _) szp.ct⟩ (by simp) (by simp only [lbehind, c1, c2, c3, c4, cond_true, cond_false])
                refine ds_setLcM 10 [("one", 16)] st.ct D.int (fun o => !decide (o = u)) D.int sc__law_behind.nd rfl (di_seqM (de_var 10)) (blkOk_by (show blkC n__law_behind (defScope s__law_behind) _ _ = true by decide +kernel)) (fun z hz => ⟨_, (by simp), (fun s H C cl fp => dg_name 16 sc__law_behind.nd), (fun s H C cl fp => dts_oneE (qt_cmp (de_var 16) (de_var 6) (by walk_at "o"))), (fun hk s H C cl fp => de_var 16)⟩) <| ds_nil <| ds_nil <| ds_nil <| ds_nil <| ?_
                exact ds_less (by walk_at "g") f
              · have w1 : ¬ w = "borrow" := fun z => by rw [decide_eq_true z] at c2; simp at c2
                have w2 : ¬ w = "cut" := of_decide_eq_false c3
                have w3 : ¬ w = "join" := of_decide_eq_false c4
                obtain ⟨q, hq⟩ := lcan_using can w2 w3 w1
                have hg : dget (kvD prD st.us) (.inl u) = some (prD q) := by rw [dget_kv, hq]; rfl
                have szd : (adel st.us u).length ≤ 1000 := Nat.le_trans (adel_len _ _) szp.us
                refine ds_expr (de_dpop (de_var 8) (de_var 6) .int rfl rfl hg) <|
                  ds_if (dt_w (dw_and (qt_cmp (de_var 7) de_str (by walk_at "o")) (fun _ => dw_and1 (qt_cmp (de_var 11) de_non (o2_isnt hse))))) (fun c5 => ?_) (fun c5 => ?_)
                · rw [ns] at c5
                  have hs : (kseat st.kp u).isSome = true := by rw [Bool.and_eq_true] at c5; exact c5.2
                  obtain ⟨i, hi⟩ := Option.isSome_iff_exists.mp hs
                  obtain ⟨i0, i1⟩ := kseat_lt hi
                  have f := finM ⟨adel st.us u, st.kp.set i.toNat none, st.ct⟩ [] ⟨szd, by simpa using szp.kp, szp.ct⟩ (by simp) (by simp only [lbehind, c1, c2, c3, c4, c5, cond_true, cond_false]; simp only [hi, Option.getD_some])
                  simp only [← ddrop_kv, List.map_set] at f
                  refine ds_put de_non (de_var 9) (de_eq (d' := .int i) (de_var 11) (by show oiD (kseat st.kp u) = _; rw [hi]; rfl)) rfl (ixN_lt i0 (by simpa using i1)) <| ds_nil <| ds_nil <| ds_nil <| ds_nil <| ds_nil <| ?_
                  exact ds_less (by walk_at "g") f
                · rw [ns] at c5
                  have f := finM ⟨adel st.us u, st.kp, st.ct⟩ [] ⟨szd, szp.kp, szp.ct⟩ (by simp) (by simp only [lbehind, c1, c2, c3, c4, c5, cond_true, cond_false])
                  simp only [← ddrop_kv] at f
                  exact ds_nil <| ds_nil <| ds_nil <| ds_nil <| ds_nil <| ds_less (by walk_at "g") f
end
end Lw

namespace Lw
section
variable {P : Program} {wd : World} {K : PySem.W.Frag} {mg : Str → Option Value} {base : Heap}
theorem ok_oi (n : Nat) (o : Option Int) : okD n (oiD o) = true := by cases o <;> rfl
theorem F__law_seat_of (T : Tx K mg) : PFn P wd K mg base (ct K) "_law_seat_of" 1 (fun ((s, u) : LS × Int) => [s.D, .int u]) (fun _ => True) (fun (s, u) => oiD (seatOf s u)) := by
  refine PFn.of (d__law_seat_of T) (m__law_seat_of T) sc__law_seat_of (fun _ _ _ _ _ _ us hl => match us, hl with | [_, _], _ => rfl) (fun _ => rfl) (fun (s, u) _ => ⟨by simp only [okDs, okD, ok_ls]; rfl, ok_oi _ _⟩) ?_
  rintro f cdv A outer s H E ⟨st, u⟩ hr -
  -- 0 state, 1 user
  refine
    ds_ret (de_if (qt_in (de_var 1) (q_ix (de_var 0) (de_int) (by walk_at "x")) in_us) (fun h1 => (q_ix (q_ix (d := prD ((aget st.us u).getD (0, 0))) (q_ix (de_var 0) (de_int) (by walk_at "x")) (de_var 1) ?_) (de_int) (by walk_at "x"))) (fun h1 => (de_non))) (?_)
  · obtain ⟨q, hq⟩ := Option.isSome_iff_exists.mp h1
    rw [hq]; exact ix_us hq
  · show (bif (aget st.us u).isSome then D.int ((aget st.us u).getD (0, 0)).1 else D.non) = oiD ((aget st.us u).map (·.1))
    cases aget st.us u <;> rfl
def okForm (form : Str) : Prop := form = "open" ∨ form = "highest" ∨ form = "sealed"
theorem F__law_takes (T : Tx K mg) : PFn P wd K mg base (ct K) "_law_takes" 1 (fun ((form, told, newest, ticket) : Str × Option Int × Option Int × Int) => [.str form, oiD told, oiD newest, .int ticket]) (fun (form, _) => okForm form) (fun (form, told, newest, ticket) => .bl (ltakes form told newest ticket)) := by
  refine PFn.of (d__law_takes T) (m__law_takes T) sc__law_takes (fun _ _ _ _ _ _ us hl => match us, hl with | [_, _, _, _], _ => rfl) (fun _ => rfl) (fun (form, told, newest, ticket) _ => ⟨by simp only [okDs, okD, ok_oi]; rfl, rfl⟩) ?_
  rintro f cdv A outer s H E ⟨form, told, newest, ticket⟩ hr ok
  have hl : dget (mergeD [] [(.inr "open", .non), (.inr "highest", oiD told), (.inr "sealed", oiD newest)]) (.inr form) = some (oiD (leastF form told newest)) := by
    rcases ok with rfl | rfl | rfl <;> rfl
  -- 0 form, 1 told, 2 newest, 3 ticket, 4 least
  refine
    ds_set 4 sc__law_takes.nd (q_ix (de_disp (dps_cons de_str de_non .str (dps_cons de_str (de_var 1) .str (dps_cons de_str (de_var 2) .str dps_nil))) (h15' := Nat.le_of_ble_eq_true rfl)) (de_var 0) (.dicS hl)) ?_
  cases hq : leastF form told newest with
  | none =>
    refine ds_ret (de_or (k' := false) (q_cmp (de_var 4) (de_non) (by walk_at "o")) (fun h1 => absurd h1 (by decide))) ?_
    show D.bl true = D.bl (ltakes form told newest ticket)
    unfold ltakes; rw [hq]
  | some l =>
    refine ds_ret (de_or (q_cmp (de_var 4) (de_non) (by walk_at "o")) (fun h1 => (de_one (q_cmp (de_var 3) (de_var 4) (by walk_at "o"))))) ?_
    show D.bl (false || decide (l ≤ ticket)) = D.bl (ltakes form told newest ticket)
    unfold ltakes; rw [hq]; rfl
theorem lposs_write {r : RL} {s : LS} {u : Int} {es : List Ev} : lposs r s (.act "write" u :: es) = (if (aget s.us u).isSome = true then lposs r s es else false) := by simp [lposs]
theorem lposs_ev {r : RL} {s : LS} {e : Ev} {es : List Ev} (h : e.Ok) : lposs r s (e :: es) = (if lcan r s e = true then lposs r (lbehind r s e).1 es else false) := by
  cases e with
  | pass => rfl
  | act w u =>
    have : ¬ w = "write" := fun z => by
      subst z
      exact absurd h (by show ¬ ("write" : Str) ∈ evWords; decide +kernel)
    simp only [lposs, if_neg this]
theorem ok_notWrite {w : Str} {u : Int} (h : (Ev.act w u).Ok) : decide (w = "write") = false := decide_eq_false fun z => by
  subst z
  exact absurd h (by show ¬ ("write" : Str) ∈ evWords; decide +kernel)
end
end Lw

namespace DL
section
variable {X : Cx} {ct : Nat → Addr} {Γ : Gm} {μ μ1 μ2 : Mu} {a b : Expr} {pos : Pos} {l : List D}
/-- a list made by *, which may change later -/
theorem de_repM {n : Int} (ha : DE X ct Γ μ a (.lst l) μ1) (hb : DE X ct Γ μ1 b (.int n) μ2) (h1 : -(2 ^ 63) ≤ n) (h2 : n < 2 ^ 63) (h : l.length * n.toNat ≤ sizeLine) : DE X ct Γ μ (.BinOp a .Mult b pos) (.ptr μ2.length) (μ2 ++ [.lst (List.replicate n.toNat l).flatten]) :=
  PE.imp (pe_op op_rep ha hb) fun σ H Q ⟨F, A, r, q⟩ => ⟨F, A, r, fun v H1 F1 A1 e1 p1 r1 hv => ⟨F1, A1, r1, fun w H2 F2 A2 e2 p2 r2 hw => by
    cases hw
    cases hv with
    | @lst a0 vs _ h3 rv =>
      refine ⟨_, _, _, rfl, rfl, r2.m.sub _ _ (e2 _ _ h3), h1, h2, by rw [rv.len]; exact h, fun p hp => ?_⟩
      have rs : Reps X.K ct A2 F2 (List.replicate n.toNat vs).flatten (List.replicate n.toNat l).flatten := by
        have rv2 := rv.mono e2 p2
        induction n.toNat with
        | zero => exact .nil
        | succ j ih => rw [List.replicate_succ, List.flatten_cons]; exact rv2.app ih
      have fp := r2.m.sub.free hp
      have pA : A2 <+: A2 ++ [p] := List.prefix_append _ _
      refine q _ _ F2 (A2 ++ [p]) (e1.trans e2) (p1.trans (p2.trans pA)) ⟨r2.m.push hp (c := .lst _) ⟨fp, _, upd_same, rs.mono (.refl _) pA⟩, r2.s.mono (.refl _) pA⟩ (.ptr ?_)
      rw [← r2.m.len, List.getElem?_append_right (Nat.le_refl _), Nat.sub_self]; rfl⟩⟩
end
end DL
namespace Lw
section
variable {P : Program} {wd : World} {K : PySem.W.Frag} {mg : Str → Option Value} {base : Heap}
theorem at_oi {l : List (Option Int)} {i : Int} (h0 : 0 ≤ i) (h : i.toNat < l.length) : atI (l.map oiD) i = some (oiD (l.getD i.toNat none)) := by
  have h' : i.toNat < (l.map oiD).length := by simpa using h
  rw [atI_lt h0 h']
  simp [h]
theorem q_keepmax {X : Cx} {ct : Nat → Addr} {Γ : Gm} {μ : Mu} {o : Option Int} {t : Int} {a1 a2 a3 b1 b2 : Expr} {j : Nat} {p1 p2 p3 p4 p5 : Pos} (h1 : DE X ct Γ μ a1 (oiD o) μ) (h2 : DE X ct Γ μ a2 (oiD o) μ) (h3 : DE X ct Γ μ a3 (oiD o) μ) (t1 : DE X ct Γ μ b1 (.int t) μ) (t2 : DE X ct Γ μ b2 (.int t) μ) :
    DE X ct Γ μ (.IfExp (.BoolOp .Or [.Compare a1 [.Is] [.Constant .none j p1] p2, .Compare b1 [.Gt] [a2] p3] p4) b2 a3 p5) (oiD (bif ogt t o then some t else o)) μ := by
  cases o with
  | none => exact de_if' (d := D.int t) (dt_w (dw_or (k' := false) (qt_cmp h1 de_non (o2_is rfl)) (fun h => absurd h (by decide)))) (fun _ => t2) (fun h => absurd h (by decide))
  | some y =>
    refine de_eq (de_if (dt_w (dw_or (qt_cmp h1 de_non (o2_is rfl)) (fun _ => dw_or1 (qt_cmp t1 h2 o2_gt)))) (fun _ => t2) (fun _ => h3)) ?_
    show (bif (false || decide (y < t)) then D.int t else D.int y) = oiD (bif decide (y < t) then some t else some y)
    cases decide (y < t) <;> rfl
def wμ (x : WS) : Mu := [.dic (kvD D.int x.tk), .lst (x.found.map Row.D), .lst (x.told.map oiD), .lst (x.newest.map oiD), .lst (x.taken.map oiD)]
theorem rep_none (n : Nat) : (List.replicate n [D.non]).flatten = (List.replicate n (none : Option Int)).map oiD := by simp [oiD]
theorem enum_map {α : Type} (f : α → D) (l : List α) : enumD (l.map f) = l.zipIdx.map fun p => D.tup [.int (p.2 : Nat), f p.1] := enumD_map f l
theorem ix_kv {β : Type} {f : β → D} {μ : Mu} {l : List (Int × β)} {j : Nat} {u : Int} {q : β} (hm : μ[j]? = some (.dic (kvD f l))) (h : aget l u = some q) : IxD μ (.ptr j) (.int u) (f q) := .cdI hm (by rw [dget_kv, h]; rfl)
theorem F__law_written (T : Tx K mg) : PFn P wd K mg base (ct K) "_law_written" 3 (fun ((r, form, es, dd) : RL × Str × List Ev × D) => [r.gv, .str form, dd]) (fun (r, form, es, dd) => 0 ≤ r.s ∧ r.s ≤ 100 ∧ es.length ≤ 500 ∧ okForm form ∧ wok r form 0 (wbegun r) es ∧ isSeq dd = some (es.map Ev.D) ∧ okD 0 dd = true) (fun (r, form, es, _) => .tup [.tup ((wsteps r form 0 (wbegun r) es).found.map Row.D), .tup ((wsteps r form 0 (wbegun r) es).taken.map oiD)]) := by
  refine PFn.of (d__law_written T) (m__law_written T) sc__law_written (fun _ _ _ _ _ _ us hl => match us, hl with | [_, _, _], _ => rfl) (fun _ => rfl) (fun (r, form, es, dd) hpre => ⟨by simp only [okDs, okD, hpre.2.2.2.2.2.2]; rfl, by simp only [okDs, okD, ok_map 0 Row.D (fun _ => rfl), ok_map 0 oiD (ok_oi 0)]; rfl⟩) ?_
  rintro f cdv A outer s H E ⟨r, form, es, dd⟩ hr ⟨h0, h1, h2, hf, hw, hdd, -⟩
  have z1 : (List.replicate r.s.toNat (none : Option Int)).length = r.s.toNat := List.length_replicate
  -- 0 given, 1 form, 2 deeds, 3 state, 4 tickets, 5 many, 6 found, 7 told, 8 newest, 9 taken, 10 at, 11 deed, 12 seat, 13 ticket, 14 is_taken
  refine
    ds_asg (de_tup (da_cons (q_call (F__law_begun T) (da_cons (de_var 0) da_nil) (_) rfl ⟨h0, by omega⟩) (da_cons de_dic0M (da_cons de_int (da_cons (de_lstM da_nil (by walk_at "z")) da_nil)))) (by walk_at "z")) (dg_tup rfl (dgs_cons (dg_name 3 sc__law_written.nd) (dgs_cons (dg_name 4 sc__law_written.nd) (dgs_cons (dg_name 5 sc__law_written.nd) (dgs_cons (dg_name 6 sc__law_written.nd) dgs_nil))))) <|
    ds_par3 7 8 9 rfl sc__law_written.nd (da_cons (de_repM (de_lst (da_cons de_non da_nil) (by walk_at "z")) (q_ix (de_var 0) de_int (by walk_at "x")) (by omega) (by omega) (sz_small (by simp; omega))) (da_cons (de_repM (de_lst (da_cons de_non da_nil) (by walk_at "z")) (q_ix (de_var 0) de_int (by walk_at "x")) (by omega) (by omega) (sz_small (by simp; omega))) (da_cons (de_repM (de_lst (da_cons de_non da_nil) (by walk_at "z")) (q_ix (de_var 0) de_int (by walk_at "x")) (by omega) (by omega) (sz_small (by simp; omega))) da_nil))) <| by
    rw [rep_none]
    refine ds_forJ (S := WS) (fun p : Ev × Nat => D.tup [.int (p.2 : Nat), p.1.D]) es.zipIdx (fun x => [some r.gv, some (.str form), some dd, some x.s.D, some (.ptr 0), some (.int x.many), some (.ptr 1), some (.ptr 2), some (.ptr 3), some (.ptr 4), none, none, none, none, none]) wμ
      (fun rs x => ∃ i es', rs = es'.zipIdx i ∧ i + es'.length ≤ 500 ∧ x.s.Sz (200 + i) ∧ x.tk.length ≤ i ∧ x.found.length ≤ i ∧ wok r form i x es' ∧ wsteps r form i x es' = wsteps r form 0 (wbegun r) es)
      (by rw [← enum_map]; exact di_enum (b_enumerate T) (de_var 2) hdd) ⟨wbegun r, by walk_at "g", rfl, 0, es, rfl, by omega, ⟨Nat.zero_le _, by simp [wbegun, lbegun]; omega, Nat.zero_le _⟩, Nat.le_refl _, Nat.le_refl _, hw, rfl⟩ (fun a rs x hJ => ?_) (fun x hJ => ?_)
    · obtain ⟨i, es', he, hl, sz, ht, hfo, hwk, hfin⟩ := hJ
      cases es' with
      | nil => cases he
      | cons e es' =>
        rw [List.zipIdx_cons] at he
        obtain ⟨rfl, rfl⟩ := List.cons.inj he
        obtain ⟨w1, w2⟩ := hwk
        have hl' : i + es'.length + 1 ≤ 500 := by simp only [List.length_cons] at hl; omega
        refine ⟨_, (dg_tup rfl (dgs_cons (dg_name 10 sc__law_written.nd) (dgs_cons (dg_name 11 sc__law_written.nd) dgs_nil))), ?_⟩
        have go : ∀ x' : WS, wstep r form x i e = x' → x'.s.Sz (200 + (i + 1)) → x'.tk.length ≤ i + 1 → x'.found.length ≤ i + 1 → ∀ (Γ' : Gm) (μ' : Mu), μ' = wμ x' → GLe [some r.gv, some (.str form), some dd, some x'.s.D, some (.ptr 0), some (.int x'.many), some (.ptr 1), some (.ptr 2), some (.ptr 3), some (.ptr 4), none, none, none, none, none] Γ' →
            ∃ s' : WS, GLe [some r.gv, some (.str form), some dd, some s'.s.D, some (.ptr 0), some (.int s'.many), some (.ptr 1), some (.ptr 2), some (.ptr 3), some (.ptr 4), none, none, none, none, none] Γ' ∧ μ' = wμ s' ∧ ∃ i_1 es'_1, es'.zipIdx (i + 1) = es'_1.zipIdx i_1 ∧ i_1 + es'_1.length ≤ 500 ∧ s'.s.Sz (200 + i_1) ∧ s'.tk.length ≤ i_1 ∧ s'.found.length ≤ i_1 ∧ wok r form i_1 s' es'_1 ∧ wsteps r form i_1 s' es'_1 = wsteps r form 0 (wbegun r) es := by
          rintro x' rfl h1 h2 h3 Γ' _ rfl g
          exact ⟨_, g, rfl, i + 1, es', rfl, by omega, h1, h2, h3, w2, hfin⟩
        have szb : ∀ e', (lbehind r x.s e').1.Sz (200 + (i + 1)) := fun e' => sz_behind sz e'
        cases e with
        | pass =>
          refine ds_if (qt_cmp (q_ix (de_var 11) de_int (.tup rfl)) de_str (by walk_at "o")) (fun h => absurd h (by decide +kernel)) (fun _ => ds_nil <|
            ds_set 3 sc__law_written.nd (q_ix (q_call (F__law_behind T) (da_cons (de_var 0) (da_cons (de_var 3) (da_cons (de_var 11) da_nil))) (r, x.s, .pass) rfl ⟨sz.mono (by omega), trivial, w1⟩) de_int (.tup rfl)) <|
            ds_if (dt_w (dw_and (k' := false) (qt_cmp (q_ix (de_var 11) de_int (.tup rfl)) de_str (by walk_at "o")) (fun h => absurd h (by decide +kernel)))) (fun h => absurd h (by decide +kernel)) (fun _ => ds_nil <| ds_nil ?_))
          exact go _ rfl (szb .pass) (Nat.le_succ_of_le ht) (Nat.le_succ_of_le hfo) _ _ rfl (by walk_at "g")
        | act w u =>
          by_cases hwr : w = "write"
          · subst hwr
            obtain ⟨⟨q, hq, hin⟩, t, htk⟩ : (∃ q, aget x.s.us u = some q ∧ seatIn x q.1) ∧ ∃ t, aget x.tk u = some t := by
              have : wok1 r x (.act "write" u) := w1
              simp only [wok1, if_pos] at this
              exact this
            obtain ⟨o, ho⟩ : ∃ o, x.told.getD q.1.toNat none = o := ⟨_, rfl⟩
            have ato := at_oi hin.1 hin.2.1
            rw [ho] at ato
            obtain ⟨ok, hok⟩ : ∃ k, ltakes form o (x.newest.getD q.1.toNat none) t = k := ⟨_, rfl⟩
            have ex : wstep r form x i (.act "write" u) = ⟨x.s, x.tk, x.many, x.found ++ [⟨i, u, q.1, t, ok⟩], x.told.set q.1.toNat (bif ogt t o then some t else o), x.newest, x.taken.set q.1.toNat (bif ok then some t else x.taken.getD q.1.toNat none)⟩ := by
              simp only [wstep, if_pos, wwrite, hq, htk, Option.getD_some, ho, hok]
            refine ds_if (qt_cmp (q_ix (de_var 11) de_int (.tup rfl)) de_str (by walk_at "o")) (fun _ =>
              ds_par 12 13 rfl sc__law_written.nd (da_cons (de_eq (d' := .int q.1) (q_call (F__law_seat_of T) (da_cons (de_var 3) (da_cons (q_ix (de_var 11) de_int (.tup rfl)) da_nil)) (x.s, u) rfl trivial) ?_) (da_cons (q_ix (d := .int t) (de_var 4) (q_ix (de_var 11) de_int (.tup rfl)) (ix_kv (f := D.int) rfl htk)) da_nil)) <|
              ds_set 14 sc__law_written.nd (de_eq (d' := .bl ok) (q_call (F__law_takes T) (da_cons (de_var 1) (da_cons (q_ix (de_var 7) (de_var 12) (.cell rfl ato)) (da_cons (q_ix (de_var 8) (de_var 12) (.cell rfl (at_oi hin.1 hin.2.2.1))) (da_cons (de_var 13) da_nil)))) (form, o, x.newest.getD q.1.toNat none, t) rfl hf) (congrArg D.bl hok)) <|
              ds_expr (de_append (de_var 6) (de_tup (da_cons (de_var 10) (da_cons (q_ix (de_var 11) de_int (.tup rfl)) (da_cons (de_var 12) (da_cons (de_var 13) (da_cons (de_var 14) da_nil))))) (by walk_at "z")) ⟨_, rfl⟩ rfl (Nat.lt_of_lt_of_le (by rw [List.length_map]; omega) (sz_small (Nat.le_refl 1000)))) <|
              ds_put (d := oiD (bif ogt t o then some t else o)) (n := q.1.toNat) (q_keepmax (q_ix (de_var 7) (de_var 12) (.cell rfl ato)) (q_ix (de_var 7) (de_var 12) (.cell rfl ato)) (q_ix (de_var 7) (de_var 12) (.cell rfl ato)) (de_var 13) (de_var 13)) (de_var 7) (de_var 12) rfl (ixN_lt hin.1 (by simpa using hin.2.1)) <|
              ds_put (d := oiD (bif ok then some t else x.taken.getD q.1.toNat none)) (n := q.1.toNat) (de_eq (de_if (dt_val (de_var 14)) (fun _ => de_var 13) (fun _ => q_ix (de_var 9) (de_var 12) (.cell rfl (at_oi hin.1 hin.2.2.2)))) ?_) (de_var 9) (de_var 12) rfl (ixN_lt hin.1 (by simpa using hin.2.2.2)) <|
              ds_cont ?_) (fun h => absurd h (by decide +kernel))
            · show oiD (seatOf x.s u) = _
              unfold seatOf; rw [hq]; rfl
            · cases ok <;> rfl
            · exact go _ ex (sz.mono (by omega)) (Nat.le_succ_of_le ht) (by simp; omega) _ _ (by simp only [wμ, List.map_append, List.map_cons, List.map_nil, List.map_set]; rfl) (by walk_at "g")
          · obtain ⟨wm, wc, wb⟩ : w ∈ evWords ∧ lcan r x.s (.act w u) = true ∧ (w = "borrow" → ∀ q, aget (lbehind r x.s (.act w u)).1.us u = some q → seatIn x q.1) := by
              have : wok1 r x (.act w u) := w1
              simp only [wok1, if_neg hwr] at this
              exact this
            have est : wstep r form x i (.act w u) = wled r x (.act w u) := by simp only [wstep, if_neg hwr]
            refine ds_if (qt_cmp (q_ix (de_var 11) de_int (.tup rfl)) de_str (by walk_at "o")) (fun h => absurd (of_decide_eq_true h) hwr) (fun _ => ds_nil <|
              ds_set 3 sc__law_written.nd (q_ix (q_call (F__law_behind T) (da_cons (de_var 0) (da_cons (de_var 3) (da_cons (de_var 11) da_nil))) (r, x.s, .act w u) rfl ⟨sz.mono (by omega), wm, wc⟩) de_int (.tup rfl)) <|
              ds_if (dt_w (dw_and (qt_cmp (q_ix (de_var 11) de_int (.tup rfl)) de_str (by walk_at "o")) (fun h => dw_and1 (qt_in (q_ix (de_var 11) de_int (.tup rfl)) (q_ix (de_var 3) de_int (.tup rfl)) in_us)))) (fun h => ?_) (fun h => ds_nil <| ds_nil ?_))
            · obtain ⟨hb, hs⟩ := (Bool.and_eq_true_iff.mp h)
              obtain ⟨q, hq⟩ := Option.isSome_iff_exists.mp hs
              have sin := wb (of_decide_eq_true hb) q hq
              have ex : wstep r form x i (.act w u) = ⟨(lbehind r x.s (.act w u)).1, aput x.tk u x.many, x.many + 1, x.found, x.told, x.newest.set q.1.toNat (some x.many), x.taken⟩ := by
                rw [est]; unfold wled; simp only [hq, hb, cond_true]
              refine ds_asgM (de_tup (da_cons (de_var 5) (da_cons (de_var 5) da_nil)) (by walk_at "z")) (gm_tup rfl (gm_cons (gm_dput (hu_of hr) (de_var 4) (q_ix (de_var 11) de_int (.tup rfl)) .int rfl (by rw [kvD_len]; exact Nat.lt_of_lt_of_le (by omega : x.tk.length < 1000) (sz_small (Nat.le_refl 1000)))) (gm_cons (gm_put (n := q.1.toNat) (i := q.1) (de_var 8) (de_eq (q_call (F__law_seat_of T) (da_cons (de_var 3) (da_cons (q_ix (de_var 11) de_int (.tup rfl)) da_nil)) (_, _) rfl trivial) ?_) rfl (ixN_lt sin.1 (by simpa using sin.2.2.1))) gm_nil))) <|
                ds_set 5 sc__law_written.nd (q_op (de_var 5) de_int (by walk_at "o")) <| ds_nil <| ds_nil ?_
              · show oiD (seatOf _ u) = _
                unfold seatOf; rw [hq]; rfl
              · exact go _ ex (szb _) (Nat.le_trans (aput_len _ _ _) (by omega)) (Nat.le_succ_of_le hfo) _ _ (by simp only [wμ, ← dput_kv, List.map_set]; rfl) (by walk_at "g")
            · have ex : wstep r form x i (.act w u) = ⟨(lbehind r x.s (.act w u)).1, x.tk, x.many, x.found, x.told, x.newest, x.taken⟩ := by
                rw [est]; unfold wled
                cases hq : aget (lbehind r x.s (.act w u)).1.us u with
                | none => simp only [hq]
                | some q =>
                  have hb : decide (w = "borrow") = false := by rw [hq] at h; simpa using h
                  simp only [hq, hb, cond_false]
              exact go _ ex (szb _) (Nat.le_succ_of_le ht) (Nat.le_succ_of_le hfo) _ _ rfl (by walk_at "g")
    · obtain ⟨i, es', he, hl, sz, ht, hfo, hwk, hfin⟩ := hJ
      cases es' with
      | cons e es' => rw [List.zipIdx_cons] at he; cases he
      | nil =>
        have hx : x = wsteps r form 0 (wbegun r) es := hfin
        subst hx
        exact ds_ret (de_tup (da_cons (q_tuple (b_tuple T) (de_var 6) (.cell rfl)) (da_cons (q_tuple (b_tuple T) (de_var 9) (.cell rfl)) da_nil)) (by walk_at "z")) rfl
end
end Lw

namespace Lw
section
variable {P : Program} {w : World} {K : PySem.W.Frag} {mg : Str → Option Value} {base : Heap}
theorem M_Stand (T : Tx K mg) : PMk P w K mg base (ct K) 1 "Stand" 1 (fun (s : SD) => [.tup (s.us.map triD), .tup (s.kp.map kpD), .tup (s.ct.map .int)]) (fun _ => True) (fun s => s.fs) := by
  refine PMk.of (dds := []) 0 (d_Standdd_initdd T) rfl (mk_Stand T) (m_Stand T) sc_Standdd_initdd (fun fd F => ⟨[], .nil, F.bindsN fun _ _ _ _ _ _ us hl => match us, hl with | [_, _, _, _], _ => rfl⟩) (fun _ _ => .nil) (fun _ => rfl) (fun s _ => ⟨by simp only [okDs, okD, ok_map 0 triD (ok_tri 0), ok_map 0 kpD (ok_kp 0), ok_map 0 D.int (fun _ => rfl)]; rfl, ok_fs 0 s⟩) ?_
  rintro f cdv A outer s H E st hr -
  -- 0 self, 1 using, 2 kept, 3 cut
  exact
    ds_fld (fl_Stand_using T) (de_var 1) (de_var 0) rfl (by walk_at "z") <|
    ds_fld (fl_Stand_kept T) (de_var 2) (de_var 0) rfl (by walk_at "z") <|
    ds_fld (fl_Stand_cut T) (de_var 3) (de_var 0) rfl (by walk_at "z") <|
    ds_nil rfl
theorem ME_used_by (T : Tx K mg) : PMe P w K mg base (ct K) 1 "used_by" 1 (fun ((s, u) : SD × Int) => [s.D, .int u]) (fun _ => True) (fun (s, u) => kpD (aget s.us u)) := by
  refine PMe.of (d_Stand_used_by T) rfl (cl_Stand T) (me_Stand_used_by T) sc_Stand_used_by (fun _ _ _ _ _ _ us hl => match us, hl with | [_, _], _ => rfl) (fun _ => rfl) (fun (s, u) _ => ⟨by simp only [okDs, ok_sd]; rfl, ok_kp 0 _⟩) ?_
  rintro f cdv A outer s H E ⟨st, u⟩ hr -
  -- 0 self, 1 user, 2 one, 3 seat, 4 age
  refine
    ds_forJ (S := Unit) triD st.us (fun _ => [some st.D, some (.int u), none, none, none]) (fun _ => []) (fun rs _ => aget rs u = aget st.us u)
      (di_seq (q_attr (de_var 0) (.ins (fl_Stand_using T) rfl)) rfl) ⟨(), by walk_at "g", rfl, rfl⟩ (fun a rs _ hJ => ⟨_, (dg_tup rfl (dgs_cons (dg_name 2 sc_Stand_used_by.nd) (dgs_cons (dg_name 3 sc_Stand_used_by.nd) (dgs_cons (dg_name 4 sc_Stand_used_by.nd) dgs_nil)))),
      ds_if (qt_cmp (de_var 2) (de_var 1) (by walk_at "o")) (fun h1 =>
        ds_ret (de_tup (da_cons (de_var 3) (da_cons (de_var 4) da_nil)) (by walk_at "z")) (?_)) (fun h1 =>
        ds_nil <|
        ds_nil ⟨(), by walk_at "g", rfl, ?_⟩)⟩) (fun _ hJ =>
      ds_ret (de_non) (?_))
  · have e : aget (a :: rs) u = some a.2 := by unfold aget; simp only [List.find?_cons, h1]; rfl
    rw [e] at hJ
    show prD a.2 = kpD (aget st.us u)
    rw [← hJ]; rfl
  · rw [← hJ]; unfold aget; simp only [List.find?_cons, h1]
  · show D.non = kpD (aget st.us u)
    rw [← hJ]; rfl
theorem ME_seat_kept_for (T : Tx K mg) : PMe P w K mg base (ct K) 1 "seat_kept_for" 1 (fun ((s, u) : SD × Int) => [s.D, .int u]) (fun _ => True) (fun (s, u) => oiD (kseat s.kp u)) := by
  refine PMe.of (d_Stand_seat_kept_for T) rfl (cl_Stand T) (me_Stand_seat_kept_for T) sc_Stand_seat_kept_for (fun _ _ _ _ _ _ us hl => match us, hl with | [_, _], _ => rfl) (fun _ => rfl) (fun (s, u) _ => ⟨by simp only [okDs, ok_sd]; rfl, by cases h : kseat s.kp u <;> simp only [h] <;> rfl⟩) ?_
  rintro f cdv A outer s H E ⟨st, u⟩ hr -
  -- 0 self, 1 user, 2 seat, 3 pair
  refine
    ds_forJ (S := Unit) (fun p : Option (Int × Int) × Nat => D.tup [.int (p.2 : Nat), kpD p.1]) st.kp.zipIdx (fun _ => [some st.D, some (.int u), none, none]) (fun _ => []) (fun rs _ => ((rs.filter fun p => isKept u p.1).map fun p => ((p.2 : Nat) : Int)).head? = kseat st.kp u)
      (by rw [← enumD_map]; exact di_enum (b_enumerate T) (q_attr (de_var 0) (.ins (fl_Stand_kept T) rfl)) rfl) ⟨(), by walk_at "g", rfl, rfl⟩ (fun a rs _ hJ => ⟨_, (dg_tup rfl (dgs_cons (dg_name 2 sc_Stand_seat_kept_for.nd) (dgs_cons (dg_name 3 sc_Stand_seat_kept_for.nd) dgs_nil))), ?_⟩) (fun _ hJ =>
      ds_ret (de_non) (?_))
  · obtain ⟨o, i⟩ := a
    cases o with
    | none =>
      refine ds_if (dt_w (dw_and (k' := false) (qt_cmp (de_var 3) (de_non) (o2_isnt rfl)) (fun h => absurd h (by decide)))) (fun h => absurd h (by decide)) (fun h1 => ds_nil <| ds_nil ⟨(), by walk_at "g", rfl, hJ⟩)
    | some q =>
      refine ds_if (dt_w (dw_and (qt_cmp (de_var 3) (de_non) (o2_isnt rfl)) (fun h2 => (dw_and1 (qt_cmp (q_ix (de_var 3) (de_int) (by walk_at "x")) (de_var 1) (by walk_at "o")))))) (fun h1 =>
        ds_ret (de_var 2) (?_)) (fun h1 =>
        ds_nil <|
        ds_nil ⟨(), by walk_at "g", rfl, ?_⟩)
      · have h1' : decide (q.1 = u) = true := h1
        show D.int (i : Nat) = oiD (kseat st.kp u)
        rw [← hJ, List.filter_cons]
        simp only [isKept, h1', if_true]; rfl
      · have h1' : decide (q.1 = u) = false := h1
        rw [← hJ, List.filter_cons]
        simp only [isKept, h1']; rfl
  · show D.non = oiD (kseat st.kp u)
    rw [← hJ]; rfl
theorem ME_kept_but (T : Tx K mg) : PMe P w K mg base (ct K) 1 "kept_but" 1 (fun ((s, q, pr) : SD × Int × Option (Int × Int)) => [s.D, .int q, kpD pr]) (fun _ => True) (fun (s, q, pr) => .tup ((kbut s.kp q pr).map kpD)) := by
  refine PMe.of (d_Stand_kept_but T) rfl (cl_Stand T) (me_Stand_kept_but T) sc_Stand_kept_but (fun _ _ _ _ _ _ us hl => match us, hl with | [_, _, _], _ => rfl) (fun _ => rfl) (fun (s, q, pr) _ => ⟨by simp only [okDs, ok_sd, ok_kp]; rfl, by simp only [okD, ok_map 0 kpD (ok_kp 0)]⟩) ?_
  rintro f cdv A outer s H E ⟨st, q, prr⟩ hr -
  -- 0 self, 1 seat, 2 pair, 3 at, 4 known
  refine
    ds_ret (q_tuple (b_tuple T) (de_lcU [("at", 3), ("known", 4)] st.kp.zipIdx (fun p => D.tup [.int (p.2 : Nat), kpD p.1]) (fun p => kpD (bif decide (((p.2 : Nat) : Int) = q) then prr else p.1)) rfl sc_Stand_kept_but.nd (by rw [← enumD_map]; exact di_enum (b_enumerate T) (q_attr (de_var 0) (.ins (fl_Stand_kept T) rfl)) rfl) (blkOk_by (show blkC n_Stand_kept_but (defScope s_Stand_kept_but) _ _ = true by decide +kernel)) (fun z hz => ⟨_, (by simp), (fun s H C cl fp => (dg_tup rfl (dgs_cons (dg_name 3 sc_Stand_kept_but.nd) (dgs_cons (dg_name 4 sc_Stand_kept_but.nd) dgs_nil)))), (fun s H C cl fp => de_eq (de_if (qt_cmp (de_var 3) (de_var 1) (by walk_at "o")) (fun h1 => (de_var 2)) (fun h1 => (de_var 4))) ?_)⟩)) (.seq rfl)) (?_)
  · show (bif decide (((z.2 : Nat) : Int) = q) then kpD prr else kpD z.1) = _
    cases decide (((z.2 : Nat) : Int) = q) <;> rfl
  · show D.tup _ = D.tup _
    unfold kbut
    rw [List.map_map]; rfl
theorem kbut_len (kp : List (Option (Int × Int))) (q : Int) (pr : Option (Int × Int)) : (kbut kp q pr).length = kp.length := by simp [kbut]
theorem tri_app (l m : List (Int × (Int × Int))) : l.map triD ++ m.map triD = (l ++ m).map triD := by simp
theorem ME_with_user (T : Tx K mg) : PMe P w K mg base (ct K) 1 "with_user" 3 (fun ((s, u, q) : SD × Int × Int) => [s.D, .int u, .int q]) (fun (s, _, _) => s.Sz 1000) (fun (s, u, q) => (swith s u q).D) := by
  refine PMe.of (d_Stand_with_user T) rfl (cl_Stand T) (me_Stand_with_user T) sc_Stand_with_user (fun _ _ _ _ _ _ us hl => match us, hl with | [_, _, _], _ => rfl) (fun _ => rfl) (fun (s, u, q) _ => ⟨by simp only [okDs, ok_sd]; rfl, ok_sd 0 _⟩) ?_
  rintro f cdv A outer s H E ⟨st, u, q⟩ hr sz
  -- 0 self, 1 user, 2 seat, 3 rest, 4 row
  refine
    ds_setLcP 3 [("row", 4)] st.us triD (notU u) triD sc_Stand_with_user.nd (di_seq (q_attr (de_var 0) (.ins (fl_Stand_using T) rfl)) rfl) (blkOk_by (show blkC n_Stand_with_user (defScope s_Stand_with_user) _ _ = true by decide +kernel)) (fun z hz => ⟨_, (by simp), (fun s H C cl fp => (dg_name 4 sc_Stand_with_user.nd)), (fun s H C cl fp => (dts_oneE (qt_cmp (q_ix (de_var 4) (de_int) (by walk_at "x")) (de_var 1) (by walk_at "o")))), (fun hk s H C cl fp => (de_var 4))⟩) <|
    ds_ret (q_make (M_Stand T) (da_cons (q_tuple (b_tuple T) (q_sortK triK (l := st.us.filter (notU u) ++ [(u, (q, 0))]) (b_sorted T) (de_eq (d' := .lst ((st.us.filter (notU u) ++ [(u, (q, 0))]).map triD)) (de_lst (da_star (de_var 3) rfl (da_cons (de_tup (da_cons (de_var 1) (da_cons (de_var 2) (da_cons (de_int) da_nil))) (by walk_at "z")) da_nil)) ?_) ?_) (.seq rfl) nt_lst (fun x _ => by simp [triK])) (.seq rfl)) (da_cons (q_meth (ME_kept_but T) (de_var 0) (da_cons (de_var 2) (da_cons (de_tup (da_cons (de_var 1) (da_cons (de_int) da_nil)) (by walk_at "z")) da_nil)) (st, q, some (u, 0)) rfl trivial) (da_cons (q_attr (de_var 0) (.ins (fl_Stand_cut T) rfl)) da_nil))) (swith st u q) rfl trivial) rfl
  · have h1 := List.length_filter_le (notU u) st.us
    have h2 := sz.us
    simp only [List.length_append, List.length_map, List.length_cons, List.length_nil]
    exact Nat.le_trans (m := 1001) (by omega) (by decide)
  · rw [List.map_append]; rfl
theorem ME_without_user (T : Tx K mg) : PMe P w K mg base (ct K) 1 "without_user" 3 (fun ((s, u) : SD × Int) => [s.D, .int u]) (fun _ => True) (fun (s, u) => (swithout s u).D) := by
  refine PMe.of (d_Stand_without_user T) rfl (cl_Stand T) (me_Stand_without_user T) sc_Stand_without_user (fun _ _ _ _ _ _ us hl => match us, hl with | [_, _], _ => rfl) (fun _ => rfl) (fun (s, u) _ => ⟨by simp only [okDs, ok_sd]; rfl, ok_sd 0 _⟩) ?_
  rintro f cdv A outer s H E ⟨st, u⟩ hr -
  -- 0 self, 1 user, 2 row
  exact
    ds_ret (q_make (M_Stand T) (da_cons (q_tuple (b_tuple T) (de_lcP [("row", 2)] st.us triD (notU u) triD rfl sc_Stand_without_user.nd (di_seq (q_attr (de_var 0) (.ins (fl_Stand_using T) rfl)) rfl) (blkOk_by (show blkC n_Stand_without_user (defScope s_Stand_without_user) _ _ = true by decide +kernel)) (fun z hz => ⟨_, (by simp), (fun s H C cl fp => (dg_name 2 sc_Stand_without_user.nd)), (fun s H C cl fp => (dts_oneE (qt_cmp (q_ix (de_var 2) (de_int) (by walk_at "x")) (de_var 1) (by walk_at "o")))), (fun hk s H C cl fp => (de_var 2))⟩)) (.seq rfl)) (da_cons (q_attr (de_var 0) (.ins (fl_Stand_kept T) rfl)) (da_cons (q_attr (de_var 0) (.ins (fl_Stand_cut T) rfl)) da_nil))) (swithout st u) rfl trivial) rfl
end
end Lw

namespace Lw
section
variable {P : Program} {w : World} {K : PySem.W.Frag} {mg : Str → Option Value} {base : Heap}
theorem F_first_stand (T : Tx K mg) : PFn P w K mg base (ct K) "first_stand" 3 (fun (r : RL) => [ruleD r]) (fun r => 0 ≤ r.s ∧ r.s ≤ 1000) (fun r => (sfirst r.s).D) := by
  refine PFn.of (d_first_stand T) (m_first_stand T) sc_first_stand (fun _ _ _ _ _ _ us hl => match us, hl with | [_], _ => rfl) (fun _ => rfl) (fun _ _ => ⟨rfl, ok_sd 0 _⟩) ?_
  rintro f cdv A outer s H E r hr ⟨h0, h1⟩
  -- 0 rule, 1 seat
  refine
    ds_ret (q_make (M_Stand T) (da_cons (de_tup da_nil (by walk_at "z")) (da_cons (q_tuple (b_tuple T) (de_lcU [("seat", 1)] (List.range r.s.toNat) (fun i : Nat => D.int (i : Int)) (fun _ => D.non) rfl sc_first_stand.nd (di_rangeM (b_range T) (q_attr (de_var 0) (.ins (fl_Rule_seats T) rfl)) h0 (by omega)) (blkOk_by (show blkC n_first_stand (defScope s_first_stand) _ _ = true by decide +kernel)) (fun z hz => ⟨_, (by simp), (fun s H C cl fp => (dg_name 1 sc_first_stand.nd)), (fun s H C cl fp => (de_non))⟩)) (.seq rfl)) (da_cons (de_tup da_nil (by walk_at "z")) da_nil))) (sfirst r.s) ?_ trivial) rfl
  simp [sfirst, kpD, List.map_const']
theorem frees_map (kp : List (Option (Int × Int))) : ((kp.zipIdx.filter fun p => p.1.isNone).map fun p => D.int ((p.2 : Nat) : Int)) = (frees kp).map D.int := by
  unfold frees
  rw [List.map_map]; rfl
theorem F_borrowed (T : Tx K mg) : PFn P w K mg base (ct K) "borrowed" 4 (fun ((s, u) : SD × Int) => [s.D, .int u]) (fun (s, _) => s.Sz 1000) (fun (s, u) => .tup [(sborrowed s u).1.D, .bl (sborrowed s u).2]) := by
  refine PFn.of (d_borrowed T) (m_borrowed T) sc_borrowed (fun _ _ _ _ _ _ us hl => match us, hl with | [_, _], _ => rfl) (fun _ => rfl) (fun (s, u) _ => ⟨by simp only [okDs, ok_sd]; rfl, by simp only [okD, okDs, ok_sd]; rfl⟩) ?_
  rintro f cdv A outer s H E ⟨st, u⟩ hr sz
  -- 0 stand, 1 user, 2 seat, 3 free, 4 at, 5 pair
  refine
    ds_set 2 sc_borrowed.nd (de_eq (d' := oiD (kseat st.kp u)) (q_meth (ME_seat_kept_for T) (de_var 0) (da_cons (de_var 1) da_nil) (st, u) rfl trivial) rfl) <|
    ds_setLcP 3 [("at", 4), ("pair", 5)] st.kp.zipIdx (fun p => D.tup [.int (p.2 : Nat), kpD p.1]) (fun p => p.1.isNone) (fun p => D.int ((p.2 : Nat) : Int)) sc_borrowed.nd (by rw [← enumD_map]; exact di_enum (b_enumerate T) (q_attr (de_var 0) (.ins (fl_Stand_kept T) rfl)) rfl) (blkOk_by (show blkC n_borrowed (defScope s_borrowed) _ _ = true by decide +kernel)) (fun z hz => ⟨_, (by simp), (fun s H C cl fp => (dg_tup rfl (dgs_cons (dg_name 4 sc_borrowed.nd) (dgs_cons (dg_name 5 sc_borrowed.nd) dgs_nil)))), (fun s H C cl fp => (dts_oneE (qt_cmp (de_var 5) (de_non) (o2_is (k := z.1.isNone) (by obtain ⟨o, i⟩ := z; cases o <;> rfl))))), (fun hk s H C cl fp => (de_var 4))⟩) ?_
  rw [frees_map]
  cases hk : kseat st.kp u with
  | some q =>
    refine ds_if (dt_w (dw_and (k' := false) (qt_cmp (de_var 2) (de_non) (o2_is rfl)) (fun h2 => absurd h2 (by decide)))) (fun h => absurd h (by decide)) (fun h1 =>
      ds_nil <|
      ds_ret (de_tup (da_cons (q_meth (ME_with_user T) (de_var 0) (da_cons (de_var 1) (da_cons (de_if' (qt_cmp (de_var 2) (de_non) (o2_is rfl)) (fun h3 => absurd h3 (by decide)) (fun h3 => (de_var 2))) da_nil)) (st, u, q) rfl sz) (da_cons (de_bl) da_nil)) (by walk_at "z")) (?_))
    show _ = D.tup [(sborrowed st u).1.D, .bl (sborrowed st u).2]
    simp only [sborrowed, hk]; rfl
  | none =>
    cases hf : frees st.kp with
    | nil =>
      refine ds_if (dt_w (dw_and (qt_cmp (de_var 2) (de_non) (o2_is rfl)) (fun h2 => dw_and1 (qt_cmp (q_len (b_len T) (de_var 3) (.seq rfl)) (de_int) (by walk_at "o"))))) (fun h1 =>
        ds_ret (de_tup (da_cons (de_var 0) (da_cons (de_bl) da_nil)) (by walk_at "z")) (?_)) (fun h1 => by simp at h1)
      show _ = D.tup [(sborrowed st u).1.D, .bl (sborrowed st u).2]
      simp only [sborrowed, hk, hf]; rfl
    | cons q qs =>
      refine ds_if (dt_w (dw_and (qt_cmp (de_var 2) (de_non) (o2_is rfl)) (fun h2 => dw_and1 (qt_cmp (q_len (b_len T) (de_var 3) (.seq rfl)) (de_int) (by walk_at "o"))))) (fun h1 => by simp at h1; omega) (fun h1 =>
        ds_nil <|
        ds_ret (de_tup (da_cons (q_meth (ME_with_user T) (de_var 0) (da_cons (de_var 1) (da_cons (de_if' (qt_cmp (de_var 2) (de_non) (o2_is rfl)) (fun h3 => q_ix (d := .int q) (de_var 3) de_int (.lst (by rw [atI_lt (by decide) (by simp)]; rfl))) (fun h3 => absurd h3 (by decide))) da_nil)) (st, u, q) rfl sz) (da_cons (de_bl) da_nil)) (by walk_at "z")) (?_))
      show _ = D.tup [(sborrowed st u).1.D, .bl (sborrowed st u).2]
      simp only [sborrowed, hk, hf]; rfl
theorem F_spoken (T : Tx K mg) : PFn P w K mg base (ct K) "spoken" 4 (fun ((s, u) : SD × Int) => [s.D, .int u]) (fun (s, _) => s.Sz 1000) (fun (s, u) => (sspoken s u).D) := by
  refine PFn.of (d_spoken T) (m_spoken T) sc_spoken (fun _ _ _ _ _ _ us hl => match us, hl with | [_, _], _ => rfl) (fun _ => rfl) (fun (s, u) _ => ⟨by simp only [okDs, ok_sd]; rfl, ok_sd 0 _⟩) ?_
  rintro f cdv A outer s H E ⟨st, u⟩ hr sz
  -- 0 stand, 1 user, 2 seat
  refine
    ds_set 2 sc_spoken.nd (de_eq (d' := oiD (kseat st.kp u)) (q_meth (ME_seat_kept_for T) (de_var 0) (da_cons (de_var 1) da_nil) (st, u) rfl trivial) rfl) ?_
  cases hk : kseat st.kp u with
  | none =>
    refine ds_ret (de_if' (qt_cmp (de_var 2) (de_non) (o2_is rfl)) (fun h1 => (q_meth (ME_without_user T) (de_var 0) (da_cons (de_var 1) da_nil) (st, u) rfl trivial)) (fun h1 => absurd h1 (by decide))) ?_
    show _ = (sspoken st u).D
    simp only [sspoken, hk]
  | some q =>
    refine ds_ret (de_if' (qt_cmp (de_var 2) (de_non) (o2_is rfl)) (fun h1 => absurd h1 (by decide)) (fun h1 => (q_meth (ME_with_user T) (de_var 0) (da_cons (de_var 1) (da_cons (de_var 2) da_nil)) (st, u, q) rfl sz))) ?_
    show _ = (sspoken st u).D
    simp only [sspoken, hk]
theorem F_given_back (T : Tx K mg) : PFn P w K mg base (ct K) "given_back" 4 (fun ((s, u) : SD × Int) => [s.D, .int u]) (fun _ => True) (fun (s, u) => (sgiven s u).D) := by
  refine PFn.of (d_given_back T) (m_given_back T) sc_given_back (fun _ _ _ _ _ _ us hl => match us, hl with | [_, _], _ => rfl) (fun _ => rfl) (fun (s, u) _ => ⟨by simp only [okDs, ok_sd]; rfl, ok_sd 0 _⟩) ?_
  rintro f cdv A outer s H E ⟨st, u⟩ hr -
  -- 0 stand, 1 user, 2 seat, 3 rest
  refine
    ds_set 2 sc_given_back.nd (de_eq (d' := oiD (kseat st.kp u)) (q_meth (ME_seat_kept_for T) (de_var 0) (da_cons (de_var 1) da_nil) (st, u) rfl trivial) rfl) <|
    ds_set 3 sc_given_back.nd (q_meth (ME_without_user T) (de_var 0) (da_cons (de_var 1) da_nil) (st, u) rfl trivial) ?_
  cases hk : kseat st.kp u with
  | none =>
    refine ds_ret (de_if' (qt_cmp (de_var 2) (de_non) (o2_is rfl)) (fun h1 => de_var 3) (fun h1 => absurd h1 (by decide))) ?_
    show _ = (sgiven st u).D
    simp only [sgiven, hk]
  | some q =>
    refine ds_ret (de_if' (qt_cmp (de_var 2) (de_non) (o2_is rfl)) (fun h1 => absurd h1 (by decide)) (fun h1 => (q_make (M_Stand T) (da_cons (q_attr (de_var 3) (.ins (fl_Stand_using T) rfl)) (da_cons (q_meth (ME_kept_but T) (de_var 3) (da_cons (de_var 2) (da_cons (de_non) da_nil)) (swithout st u, q, none) rfl trivial) (da_cons (q_attr (de_var 3) (.ins (fl_Stand_cut T) rfl)) da_nil))) (⟨st.us.filter (notU u), kbut st.kp q none, st.ct⟩ : SD) rfl trivial))) ?_
    show _ = (sgiven st u).D
    simp only [sgiven, hk]; rfl
theorem F_can_pass (T : Tx K mg) : PFn P w K mg base (ct K) "can_pass" 1 (fun ((r, s) : RL × SD) => [ruleD r, s.D]) (fun _ => True) (fun (r, s) => .bl (scanpass r s)) := by
  refine PFn.of (d_can_pass T) (m_can_pass T) sc_can_pass (fun _ _ _ _ _ _ us hl => match us, hl with | [_, _], _ => rfl) (fun _ => rfl) (fun (r, s) _ => ⟨by simp only [okDs, ok_sd]; rfl, rfl⟩) ?_
  rintro f cdv A outer s H E ⟨r, st⟩ hr -
  -- 0 rule, 1 stand, 2 user, 3 seat, 4 age
  refine
    ds_forJ (S := Unit) triD st.us (fun _ => [some (ruleD r), some st.D, none, none, none]) (fun _ => []) (fun rs _ => (rs.all fun p => !slate r st p) = scanpass r st)
      (di_seq (q_attr (de_var 1) (.ins (fl_Stand_using T) rfl)) rfl) ⟨(), by walk_at "g", rfl, rfl⟩ (fun a rs _ hJ => ⟨_, (dg_tup rfl (dgs_cons (dg_name 2 sc_can_pass.nd) (dgs_cons (dg_name 3 sc_can_pass.nd) (dgs_cons (dg_name 4 sc_can_pass.nd) dgs_nil)))),
      ds_if (k := slate r st a) (dt_w (dw_or (qt_cmp (de_var 4) (q_op (q_attr (de_var 0) (.ins (fl_Rule_grace T) rfl)) (q_attr (de_var 0) (.ins (fl_Rule_late T) rfl)) (by walk_at "o")) (by walk_at "o")) (fun h3 => (dw_or1 (dt_w (dw_and (qt_nin (de_var 2) (q_attr (de_var 1) (.ins (fl_Stand_cut T) rfl)) (.ints rfl)) (fun h2 => (dw_and1 (qt_cmp (de_var 4) (q_op (q_attr (de_var 0) (.ins (fl_Rule_beat T) rfl)) (q_attr (de_var 0) (.ins (fl_Rule_late T) rfl)) (by walk_at "o")) (by walk_at "o")))))))))) (fun h1 =>
        ds_ret (de_bl) (?_)) (fun h1 =>
        ds_nil <|
        ds_nil ⟨(), by walk_at "g", rfl, ?_⟩)⟩) (fun _ hJ =>
      ds_ret (de_bl) (?_))
  · show D.bl false = D.bl (scanpass r st)
    rw [← hJ, List.all_cons, h1]; rfl
  · rw [← hJ, List.all_cons, h1]; rfl
  · show D.bl true = D.bl (scanpass r st)
    rw [← hJ]; rfl
theorem F_elder (T : Tx K mg) : PFn P w K mg base (ct K) "elder" 3 (fun (s : SD) => [s.D]) (fun _ => True) (fun s => (selder s).D) := by
  refine PFn.of (d_elder T) (m_elder T) sc_elder (fun _ _ _ _ _ _ us hl => match us, hl with | [_], _ => rfl) (fun _ => rfl) (fun s _ => ⟨by simp only [okDs, ok_sd]; rfl, ok_sd 0 _⟩) ?_
  rintro f cdv A outer s H E st hr -
  -- 0 stand, 1 using, 2 user, 3 seat, 4 age, 5 kept, 6 pair
  refine
    ds_set 1 sc_elder.nd (q_tuple (b_tuple T) (de_lcU [("user", 2), ("seat", 3), ("age", 4)] st.us triD (fun p => triD (older1 p)) rfl sc_elder.nd (di_seq (q_attr (de_var 0) (.ins (fl_Stand_using T) rfl)) rfl) (blkOk_by (show blkC n_elder (defScope s_elder) _ _ = true by decide +kernel)) (fun z hz => ⟨_, (by simp), (fun s H C cl fp => (dg_tup rfl (dgs_cons (dg_name 2 sc_elder.nd) (dgs_cons (dg_name 3 sc_elder.nd) (dgs_cons (dg_name 4 sc_elder.nd) dgs_nil))))), (fun s H C cl fp => (de_tup (da_cons (de_var 2) (da_cons (de_var 3) (da_cons (q_op (de_var 4) (de_int) (by walk_at "o")) da_nil))) (by walk_at "z")))⟩)) (.seq rfl)) <|
    ds_set 5 sc_elder.nd (q_tuple (b_tuple T) (de_lcU [("pair", 6)] st.kp kpD (fun o => kpD (kolder o)) rfl sc_elder.nd (di_seq (q_attr (de_var 0) (.ins (fl_Stand_kept T) rfl)) rfl) (blkOk_by (show blkC n_elder (defScope s_elder) _ _ = true by decide +kernel)) (fun z hz => ⟨_, (by simp), (fun s H C cl fp => (dg_name 6 sc_elder.nd)), (fun s H C cl fp => ?_)⟩)) (.seq rfl)) <|
    ds_ret (q_make (M_Stand T) (da_cons (de_var 1) (da_cons (de_var 5) (da_cons (q_attr (de_var 0) (.ins (fl_Stand_cut T) rfl)) da_nil))) (selder st) ?_ trivial) rfl
  · cases z with
    | none => exact de_if' (qt_cmp (de_var 6) (de_non) (o2_is rfl)) (fun h1 => (de_non)) (fun h1 => absurd h1 (by decide))
    | some q => exact de_if' (qt_cmp (de_var 6) (de_non) (o2_is rfl)) (fun h1 => absurd h1 (by decide)) (fun h1 => (de_tup (da_cons (q_ix (de_var 6) (de_int) (by walk_at "x")) (da_cons (q_op (q_ix (de_var 6) (de_int) (by walk_at "x")) (de_int) (by walk_at "o")) da_nil)) (by walk_at "z")))
  · simp only [selder, List.map_map]; rfl
theorem slost_map (r : RL) (kp : List (Option (Int × Int))) : ((kp.filter (isLost r)).map fun o => D.int (o.getD (0, 0)).1) = (slost r kp).map D.int := by
  unfold slost
  rw [List.map_map]; rfl
theorem F_passed (T : Tx K mg) : PFn P w K mg base (ct K) "passed" 4 (fun ((r, s) : RL × SD) => [ruleD r, s.D]) (fun _ => True) (fun (r, s) => .tup [(spassed r s).1.D, .bl (spassed r s).2]) := by
  refine PFn.of (d_passed T) (m_passed T) sc_passed (fun _ _ _ _ _ _ us hl => match us, hl with | [_, _], _ => rfl) (fun _ => rfl) (fun (r, s) _ => ⟨by simp only [okDs, ok_sd]; rfl, by simp only [okD, okDs, ok_sd]; rfl⟩) ?_
  rintro f cdv A outer s H E ⟨r, st⟩ hr -
  -- 0 rule, 1 stand, 2 later, 3 lost, 4 pair, 5 taken, 6 user, 7 seat, 8 age, 9 kept
  refine
    ds_set 2 sc_passed.nd (q_call (F_elder T) (da_cons (de_var 1) da_nil) st rfl trivial) <|
    ds_set 3 sc_passed.nd (de_lcP [("pair", 4)] (selder st).kp kpD (isLost r) (fun o => D.int (o.getD (0, 0)).1) rfl sc_passed.nd (di_seq (q_attr (de_var 2) (.ins (fl_Stand_kept T) rfl)) rfl) (blkOk_by (show blkC n_passed (defScope s_passed) _ _ = true by decide +kernel)) (fun z hz => ⟨_, (by simp), (fun s H C cl fp => (dg_name 4 sc_passed.nd)), (fun s H C cl fp => (dts_oneE ?_)), (fun hk s H C cl fp => ?_)⟩)) ?_
  · cases z with
    | none => exact dt_eq (dt_w (dw_and (k' := false) (qt_cmp (de_var 4) (de_non) (o2_isnt rfl)) (fun h1 => absurd h1 (by decide)))) rfl
    | some q => exact dt_eq (dt_w (dw_and (qt_cmp (de_var 4) (de_non) (o2_isnt rfl)) (fun h1 => (dw_and1 (qt_cmp (q_ix (de_var 4) (de_int) (by walk_at "x")) (q_attr (de_var 0) (.ins (fl_Rule_lapse T) rfl)) (by walk_at "o")))))) rfl
  · cases z with
    | none => cases hk
    | some q => exact q_ix (de_var 4) (de_int) (by walk_at "x")
  rw [slost_map]
  refine
    ds_setLcP 5 [("user", 6), ("seat", 7), ("age", 8)] (selder st).us triD (fun p => decide (p.1 ∈ slost r (selder st).kp) && !decide (p.1 ∈ (selder st).ct)) (fun p => D.int p.1) sc_passed.nd (di_seq (q_attr (de_var 2) (.ins (fl_Stand_using T) rfl)) rfl) (blkOk_by (show blkC n_passed (defScope s_passed) _ _ = true by decide +kernel)) (fun z hz => ⟨_, (by simp), (fun s H C cl fp => (dg_tup rfl (dgs_cons (dg_name 6 sc_passed.nd) (dgs_cons (dg_name 7 sc_passed.nd) (dgs_cons (dg_name 8 sc_passed.nd) dgs_nil))))), (fun s H C cl fp => (dts_oneE (dt_w (dw_and (qt_in (de_var 6) (de_var 3) (.ints rfl)) (fun h2 => (dw_and1 (qt_nin (de_var 6) (q_attr (de_var 2) (.ins (fl_Stand_cut T) rfl)) (.ints rfl)))))))), (fun hk s H C cl fp => (de_var 6))⟩) <|
    ds_set 9 sc_passed.nd (q_tuple (b_tuple T) (de_lcU [("pair", 4)] (selder st).kp kpD (fun o => kpD (klost r o)) rfl sc_passed.nd (di_seq (q_attr (de_var 2) (.ins (fl_Stand_kept T) rfl)) rfl) (blkOk_by (show blkC n_passed (defScope s_passed) _ _ = true by decide +kernel)) (fun z hz => ⟨_, (by simp), (fun s H C cl fp => (dg_name 4 sc_passed.nd)), (fun s H C cl fp => ?_)⟩)) (.seq rfl)) <|
    ds_ret (de_tup (da_cons (q_make (M_Stand T) (da_cons (q_attr (de_var 2) (.ins (fl_Stand_using T) rfl)) (da_cons (de_var 9) (da_cons (q_attr (de_var 2) (.ins (fl_Stand_cut T) rfl)) da_nil))) (spassed r st).1 ?_ trivial) (da_cons (q_cmp (q_len (b_len T) (de_var 5) (.seq rfl)) (de_int) (by walk_at "o")) da_nil)) (by walk_at "z")) ?_
  · cases z with
    | none => exact de_if' (dt_w (dw_or (k' := false) (qt_cmp (de_var 4) (de_non) (o2_is rfl)) (fun h4 => absurd h4 (by decide)))) (fun h3 => (de_non)) (fun h3 => absurd h3 (by decide))
    | some q =>
      refine de_eq (de_if (dt_w (dw_or (qt_cmp (de_var 4) (de_non) (o2_is rfl)) (fun h4 => (dw_or1 (qt_cmp (q_ix (de_var 4) (de_int) (by walk_at "x")) (q_attr (de_var 0) (.ins (fl_Rule_lapse T) rfl)) (by walk_at "o")))))) (fun h3 => (de_non)) (fun h3 => (de_var 4))) ?_
      show (bif (false || decide (q.2 = r.l)) then D.non else kpD (some q)) = kpD (bif decide (q.2 = r.l) then none else some q)
      cases decide (q.2 = r.l) <;> rfl
  · simp only [spassed, List.map_map]; rfl
  · show _ = D.tup [(spassed r st).1.D, .bl (spassed r st).2]
    simp only [spassed, staken, List.length_map]; rfl
end
end Lw

namespace Lw
section
variable {P : Program} {w : World} {K : PySem.W.Frag} {mg : Str → Option Value} {base : Heap}
theorem isNon_kp (o : Option (Int × Int)) : DL.isNon (kpD o) = some o.isNone := by cases o <;> rfl
theorem not_isNone {α : Type} (o : Option α) : (!o.isNone) = o.isSome := by cases o <;> rfl
theorem F_is_possible (T : Tx K mg) : PFn P w K mg base (ct K) "is_possible" 2 (fun ((r, s, e) : RL × SD × Ev) => [ruleD r, s.D, e.D]) (fun (_, _, e) => e.Ok) (fun (r, s, e) => .bl (spossible r s e)) := by
  refine PFn.of (d_is_possible T) (m_is_possible T) sc_is_possible (fun _ _ _ _ _ _ us hl => match us, hl with | [_, _, _], _ => rfl) (fun _ => rfl) (fun (r, s, e) _ => ⟨by simp only [okDs, ok_sd, ok_ev]; rfl, rfl⟩) ?_
  rintro f cdv A outer s H E ⟨r, st, ev⟩ hr eok
  have hu64 := hu64 hr
  -- 0 rule, 1 stand, 2 event, 3 word, 4 user, 5 row, 6 is_cut
  refine
    ds_if (qt_cmp (de_var 2) (de_glob (c_PASS T)) (o2_evPass hu64 eok)) (fun h1 => ?_) (fun h1 => ?_)
  · cases ev with
    | act w u => cases h1
    | pass => exact ds_ret (q_call (F_can_pass T) (da_cons (de_var 0) (da_cons (de_var 1) da_nil)) (r, st) rfl trivial) rfl
  · cases ev with
    | pass => cases h1
    | act w u =>
      refine ds_nil <|
      ds_asg (de_var 2) (dg_tup rfl (dgs_cons (dg_name 3 sc_is_possible.nd) (dgs_cons (dg_name 4 sc_is_possible.nd) dgs_nil))) <|
      ds_par 5 6 rfl sc_is_possible.nd (da_cons (de_eq (d' := kpD (aget st.us u)) (q_meth (ME_used_by T) (de_var 1) (da_cons (de_var 4) da_nil) (st, u) rfl trivial) rfl) (da_cons (q_in (de_var 4) (q_attr (de_var 1) (.ins (fl_Stand_cut T) rfl)) (.ints rfl)) da_nil)) <|
      ds_if (qt_in (de_var 3) (de_tup (da_cons (de_str) (da_cons (de_str) da_nil)) (by walk_at "z")) .w2) (fun h2 =>
        ds_ret (q_cmp (de_var 6) (q_cmp (de_var 3) (de_str) (by walk_at "o")) (by walk_at "o")) (?_)) (fun h2 =>
        ds_nil <|
        ds_if (qt_cmp (de_var 3) (de_str) (by walk_at "o")) (fun h3 =>
          ds_ret (de_and (q_cmp (de_var 5) (de_non) (o2_is (isNon_kp _))) (fun h4 => (de_one (de_not (de_var 6))))) (?_)) (fun h3 =>
          ds_nil <|
          ds_if (qt_in (de_var 3) (de_tup (da_cons (de_str) (da_cons (de_str) da_nil)) (by walk_at "z")) .w2) (fun h5 =>
            ds_ret (de_and (q_cmp (de_var 5) (de_non) (o2_isnt (isNon_kp _))) (fun h6 => (de_one (de_not (de_var 6))))) (?_)) (fun h5 =>
            ds_nil <|
            ds_ret (de_and (q_cmp (de_var 5) (de_non) (o2_isnt (isNon_kp _))) (fun h8 => (de_one (de_or (q_cmp (de_var 3) (de_str) (by walk_at "o")) (fun h7 => (de_one (q_cmp (q_ix (d := .int ((aget st.us u).getD (0, 0)).2) (de_var 5) (de_int) ?_) (q_attr (de_var 0) (.ins (fl_Rule_grace T) rfl)) (by walk_at "o")))))))) (?_))))
      · show D.bl _ = D.bl (spossible r st (.act w u))
        simp only [spossible, h2, cond_true]
      · show D.bl _ = D.bl (spossible r st (.act w u))
        simp only [spossible, h2, h3, cond_true, cond_false]
      · show D.bl _ = D.bl (spossible r st (.act w u))
        simp only [spossible, h2, h3, h5, cond_true, cond_false, not_isNone]
      · rw [not_isNone] at h8
        obtain ⟨q, hq⟩ := Option.isSome_iff_exists.mp h8
        rw [hq]
        exact .tup rfl
      · show D.bl _ = D.bl (spossible r st (.act w u))
        simp only [spossible, h2, h3, h5, cond_true, cond_false, not_isNone]
theorem F_led_on (T : Tx K mg) : PFn P w K mg base (ct K) "led_on" 5 (fun ((s, w, u) : SD × Str × Int) => [s.D, (Ev.act w u).D]) (fun (s, _) => s.Sz 1000) (fun (s, w, u) => (sledon s w u).D) := by
  refine PFn.of (d_led_on T) (m_led_on T) sc_led_on (fun _ _ _ _ _ _ us hl => match us, hl with | [_, _], _ => rfl) (fun _ => rfl) (fun (s, e) _ => ⟨by simp only [okDs, ok_sd, ok_ev]; rfl, ok_sd 0 _⟩) ?_
  rintro f cdv A outer s H E ⟨st, w, u⟩ hr sz
  -- 0 stand, 1 event, 2 word, 3 user, 4 one
  refine
    ds_asg (de_var 1) (dg_tup rfl (dgs_cons (dg_name 2 sc_led_on.nd) (dgs_cons (dg_name 3 sc_led_on.nd) dgs_nil))) <|
    ds_if (qt_cmp (de_var 2) (de_str) (by walk_at "o")) (fun h1 =>
      ds_ret (q_call (F_spoken T) (da_cons (de_var 0) (da_cons (de_var 3) da_nil)) (st, u) rfl sz) (?_)) (fun h1 =>
      ds_nil <|
      ds_if (qt_cmp (de_var 2) (de_str) (by walk_at "o")) (fun h2 =>
        ds_ret (q_call (F_given_back T) (da_cons (de_var 0) (da_cons (de_var 3) da_nil)) (st, u) rfl trivial) (?_)) (fun h2 =>
        ds_nil <|
        ds_if (qt_cmp (de_var 2) (de_str) (by walk_at "o")) (fun h3 =>
          ds_ret (q_make (M_Stand T) (da_cons (q_attr (de_var 0) (.ins (fl_Stand_using T) rfl)) (da_cons (q_attr (de_var 0) (.ins (fl_Stand_kept T) rfl)) (da_cons (q_tuple (b_tuple T) (de_sortI (ns := st.ct ++ [u]) (b_sorted T) (.seq rfl) nt_lst (de_eq (d' := .lst ((st.ct ++ [u]).map .int)) (de_lst (da_star (q_attr (de_var 0) (.ins (fl_Stand_cut T) rfl)) rfl (da_cons (de_var 3) da_nil)) ?_) ?_)) (.seq rfl)) da_nil))) (⟨st.us, st.kp, sortI (st.ct ++ [u])⟩ : SD) rfl trivial) (?_)) (fun h3 =>
          ds_nil <|
          ds_if (qt_cmp (de_var 2) (de_str) (by walk_at "o")) (fun h4 =>
            ds_ret (q_make (M_Stand T) (da_cons (q_attr (de_var 0) (.ins (fl_Stand_using T) rfl)) (da_cons (q_attr (de_var 0) (.ins (fl_Stand_kept T) rfl)) (da_cons (q_tuple (b_tuple T) (de_lcP [("one", 4)] st.ct D.int (fun o => !decide (o = u)) D.int rfl sc_led_on.nd (di_seq (q_attr (de_var 0) (.ins (fl_Stand_cut T) rfl)) rfl) (blkOk_by (show blkC n_led_on (defScope s_led_on) _ _ = true by decide +kernel)) (fun z hz => ⟨_, (by simp), (fun s H C cl fp => (dg_name 4 sc_led_on.nd)), (fun s H C cl fp => (dts_oneE (qt_cmp (de_var 4) (de_var 3) (by walk_at "o")))), (fun hk s H C cl fp => (de_var 4))⟩)) (.seq rfl)) da_nil))) (⟨st.us, st.kp, st.ct.filter fun o => !decide (o = u)⟩ : SD) rfl trivial) (?_)) (fun h4 =>
            ds_nil <|
            ds_ret (q_meth (ME_without_user T) (de_var 0) (da_cons (de_var 3) da_nil) (st, u) rfl trivial) (?_)))))
  · show _ = (sledon st w u).D
    simp only [sledon, h1, cond_true]
  · show _ = (sledon st w u).D
    simp only [sledon, h1, h2, cond_true, cond_false]
  · have := sz.ct
    simp only [List.length_append, List.length_map, List.length_cons, List.length_nil]
    exact Nat.le_trans (m := 1001) (by omega) (by decide)
  · rw [List.map_append]; rfl
  · show _ = (sledon st w u).D
    simp only [sledon, h1, h2, h3, cond_true, cond_false]; rfl
  · show _ = (sledon st w u).D
    simp only [sledon, h1, h2, h3, h4, cond_true, cond_false]; rfl
  · show _ = (sledon st w u).D
    simp only [sledon, h1, h2, h3, h4, cond_true, cond_false]
theorem F_faults_in (T : Tx K mg) : PFn P w K mg base (ct K) "faults_in" 1 (fun ((r, s) : RL × SD) => [ruleD r, s.D]) (fun _ => True) (fun (r, s) => .lst ((sfaults r s).map .str)) := by
  refine PFn.of (d_faults_in T) (m_faults_in T) sc_faults_in (fun _ _ _ _ _ _ us hl => match us, hl with | [_, _], _ => rfl) (fun _ => rfl) (fun (r, s) _ => ⟨by simp only [okDs, ok_sd]; rfl, by simp only [okD, ok_map 0 D.str (fun _ => rfl)]⟩) ?_
  rintro f cdv A outer s H E ⟨r, st⟩ hr -
  obtain ⟨seats, hs⟩ : ∃ l, st.us.map (·.2.1) = l := ⟨_, rfl⟩
  have e0 : (st.us.map fun p => D.int p.2.1) = seats.map D.int := by rw [← hs, List.map_map]; rfl
  -- 0 rule, 1 stand, 2 seats, 3 user, 4 seat, 5 age, 6 found
  refine
    ds_set 2 sc_faults_in.nd (de_eq (de_lcU [("user", 3), ("seat", 4), ("age", 5)] st.us triD (fun p => D.int p.2.1) rfl sc_faults_in.nd (di_seq (q_attr (de_var 1) (.ins (fl_Stand_using T) rfl)) rfl) (blkOk_by (show blkC n_faults_in (defScope s_faults_in) _ _ = true by decide +kernel)) (fun z hz => ⟨_, (by simp), (fun s H C cl fp => (dg_tup rfl (dgs_cons (dg_name 3 sc_faults_in.nd) (dgs_cons (dg_name 4 sc_faults_in.nd) (dgs_cons (dg_name 5 sc_faults_in.nd) dgs_nil))))), (fun s H C cl fp => (de_var 4))⟩)) (congrArg D.lst e0)) <|
    ds_set 6 sc_faults_in.nd (q_ifL (qt_cmp (q_len (b_len T) (de_var 2) (.seq rfl)) (q_attr (de_var 0) (.ins (fl_Rule_seats T) rfl)) (by walk_at "o")) (fun h1 => (de_lst (da_cons (de_str) da_nil) (by walk_at "z"))) (fun h1 => (de_lst da_nil (by walk_at "z")))) <|
    ds_ret (q_ifL (dt_val (de_callB (c1_any (d := .lst ((seats.map fun q => decide (1 < ((seats.count q : Nat) : Int))).map .bl)) (bs := seats.map fun q => decide (1 < ((seats.count q : Nat) : Int))) rfl (.seq rfl) nt_lst) (b_any T) boot_any' (da_cons (de_eq (de_lcU [("seat", 4)] seats D.int (fun q => D.bl (decide (1 < ((seats.count q : Nat) : Int)))) rfl sc_faults_in.nd (di_seq (de_var 2) rfl) (blkOk_by (show blkC n_faults_in (defScope s_faults_in) _ _ = true by decide +kernel)) (fun z hz => ⟨_, (by simp), (fun s H C cl fp => (dg_name 4 sc_faults_in.nd)), (fun s H C cl fp => (q_cmp (de_count (ns := seats) (de_var 2) (.seq rfl) (by nofun) (de_var 4) (.seq rfl)) (de_int) (by walk_at "o")))⟩)) ?_) da_nil))) (fun h2 => (de_lst (da_star (de_var 6) rfl (da_cons (de_str) da_nil)) ?_)) (fun h2 => (de_var 6))) (?_)
  · rw [List.map_map]; rfl
  · have a : ∀ k : Bool, (bif k then [D.str "over"] else []).length ≤ 1 := by intro k; cases k <;> simp
    rw [List.length_append]
    exact Nat.le_trans (Nat.add_le_add (a _) (Nat.le_refl _)) (by decide)
  · show D.lst _ = D.lst ((sfaults r st).map .str)
    unfold sfaults stwice
    rw [hs, List.length_map]
    cases decide (r.s < ((seats.length : Nat) : Int)) <;> cases (seats.map fun q => decide (1 < ((seats.count q : Nat) : Int))).any id <;> rfl
theorem sfaults_len (r : RL) (s : SD) : (sfaults r s).length ≤ 2 := by
  unfold sfaults
  cases decide (r.s < (((s.us.map (·.2.1)).length : Nat) : Int)) <;> cases stwice (s.us.map (·.2.1)) <;> simp
theorem F_behind (T : Tx K mg) : PFn P w K mg base (ct K) "behind" 6 (fun ((r, s, e) : RL × SD × Ev) => [ruleD r, s.D, e.D]) (fun (_, s, e) => s.Sz 1000 ∧ e.Ok) (fun (r, s, e) => .tup [(sbehind r s e).1.D, .tup ((sbehind r s e).2.map .str)]) := by
  refine PFn.of (d_behind T) (m_behind T) sc_behind (fun _ _ _ _ _ _ us hl => match us, hl with | [_, _, _], _ => rfl) (fun _ => rfl) (fun (r, s, e) _ => ⟨by simp only [okDs, ok_sd, ok_ev]; rfl, by simp only [okD, okDs, ok_sd, ok_map 0 D.str (fun _ => rfl)]; rfl⟩) ?_
  rintro f cdv A outer s H E ⟨r, st, ev⟩ hr ⟨sz, eok⟩
  have hu64 := hu64 hr
  have len1 : ∀ (k : Bool) (x : Str), (bif k then [D.str x] else []).length ≤ 1 := by intro k x; cases k <;> simp
  have len2 : ∀ (k : Bool) (x : Str) (s' : SD), ((bif k then [D.str x] else []) ++ ((sfaults r s').map D.str ++ [])).length ≤ sizeLine := by
    intro k x s'
    have := len1 k x
    have := sfaults_len r s'
    simp only [List.length_append, List.length_map, List.length_nil]
    exact Nat.le_trans (m := 3) (by omega) (by decide)
  have len3 : ∀ (k : Bool) (x : Str) (s' : SD), ((bif k then ([x] : List Str) else []) ++ sfaults r s').length < 64 := by
    intro k x s'
    have : (bif k then ([x] : List Str) else []).length ≤ 1 := by cases k <;> simp
    have := sfaults_len r s'
    simp only [List.length_append]
    omega
  have mp : ∀ (k : Bool) (x : Str) (s' : SD), D.lst ((bif k then [D.str x] else []) ++ ((sfaults r s').map D.str ++ [])) = .lst (((bif k then ([x] : List Str) else []) ++ sfaults r s').map D.str) := by
    intro k x s'
    cases k <;> simp
  -- 0 rule, 1 stand, 2 event, 3 met, 4 later, 5 is_taken, 6 is_away
  refine
    ds_set 3 sc_behind.nd (de_lst da_nil (by walk_at "z")) <|
    ds_if (qt_cmp (de_var 2) (de_glob (c_PASS T)) (o2_evPass hu64 eok)) (fun h1 => ?_) (fun h1 => ?_)
  · cases ev with
    | act w u => cases h1
    | pass =>
      refine
      ds_asg (de_eq (d' := .tup [(spassed r st).1.D, .bl (spassed r st).2]) (q_call (F_passed T) (da_cons (de_var 0) (da_cons (de_var 1) da_nil)) (r, st) rfl trivial) rfl) (dg_tup rfl (dgs_cons (dg_name 4 sc_behind.nd) (dgs_cons (dg_name 5 sc_behind.nd) dgs_nil))) <|
      ds_set 3 sc_behind.nd (q_ifL (dt_val (de_var 5)) (fun h2 => (de_lst (da_cons (de_str) da_nil) (by walk_at "z"))) (fun h2 => (de_lst da_nil (by walk_at "z")))) <|
      ds_nil <|
      ds_ret (de_tup (da_cons (de_var 4) (da_cons (q_tuple (b_tuple T) (q_sortS (b_sorted T) (de_eq (de_lst (da_star (de_var 3) rfl (da_star (q_call (F_faults_in T) (da_cons (de_var 0) (da_cons (de_var 4) da_nil)) (r, (spassed r st).1) rfl trivial) rfl da_nil)) (len2 _ _ _)) (mp _ _ _)) (.seq rfl) nt_lst (len3 _ _ _)) (.seq rfl)) da_nil)) (by walk_at "z")) rfl
  · cases ev with
    | pass => cases h1
    | act w u =>
      refine
      ds_if (qt_cmp (q_ix (de_var 2) (de_int) (.tup rfl)) (de_str) (by walk_at "o")) (fun h3 => ?_) (fun h3 => ?_)
      · refine
        ds_asg (de_eq (d' := .tup [(sborrowed st u).1.D, .bl (sborrowed st u).2]) (q_call (F_borrowed T) (da_cons (de_var 1) (da_cons (q_ix (de_var 2) (de_int) (.tup rfl)) da_nil)) (st, u) rfl sz) rfl) (dg_tup rfl (dgs_cons (dg_name 4 sc_behind.nd) (dgs_cons (dg_name 6 sc_behind.nd) dgs_nil))) <|
        ds_set 3 sc_behind.nd (q_ifL (k := (sborrowed st u).2 && decide (((st.us.length : Nat) : Int) < r.s)) (dt_eq (dt_w (dw_and (dt_val (de_var 6)) (fun h5 => (dw_and1 (qt_cmp (q_len (b_len T) (q_attr (de_var 1) (.ins (fl_Stand_using T) rfl)) (.seq rfl)) (q_attr (de_var 0) (.ins (fl_Rule_seats T) rfl)) (by walk_at "o")))))) (by rw [List.length_map])) (fun h4 => (de_lst (da_cons (de_str) da_nil) (by walk_at "z"))) (fun h4 => (de_lst da_nil (by walk_at "z")))) <|
        ds_nil <|
        ds_nil <|
        ds_ret (de_tup (da_cons (de_var 4) (da_cons (q_tuple (b_tuple T) (q_sortS (b_sorted T) (de_eq (de_lst (da_star (de_var 3) rfl (da_star (q_call (F_faults_in T) (da_cons (de_var 0) (da_cons (de_var 4) da_nil)) (r, (sborrowed st u).1) rfl trivial) rfl da_nil)) (len2 _ _ _)) (mp _ _ _)) (.seq rfl) nt_lst (len3 _ _ _)) (.seq rfl)) da_nil)) (by walk_at "z")) ?_
        show _ = D.tup [(sbehind r st (.act w u)).1.D, .tup ((sbehind r st (.act w u)).2.map .str)]
        simp only [sbehind, h3, cond_true]
      · refine
        ds_set 4 sc_behind.nd (de_eq (d' := (sledon st w u).D) (q_call (F_led_on T) (da_cons (de_var 1) (da_cons (de_var 2) da_nil)) (st, w, u) rfl sz) rfl) <|
        ds_nil <|
        ds_nil <|
        ds_ret (de_tup (da_cons (de_var 4) (da_cons (q_tuple (b_tuple T) (q_sortS (b_sorted T) (de_eq (de_lst (da_star (de_var 3) rfl (da_star (q_call (F_faults_in T) (da_cons (de_var 0) (da_cons (de_var 4) da_nil)) (r, sledon st w u) rfl trivial) rfl da_nil)) (len2 false "" _)) (mp false "" _)) (.seq rfl) nt_lst (len3 false "" _)) (.seq rfl)) da_nil)) (by walk_at "z")) ?_
        show _ = D.tup [(sbehind r st (.act w u)).1.D, .tup ((sbehind r st (.act w u)).2.map .str)]
        simp only [sbehind, h3, cond_false]; rfl
end
end Lw

namespace Lw
section
variable {P : Program} {w : World} {K : PySem.W.Frag} {mg : Str → Option Value} {base : Heap}
def evGood : Ev → Bool
  | .pass => true
  | .act w u => decide (w ∈ (["borrow", "word", "back", "crash", "stop", "cut", "join"] : List Str)) && decide (0 ≤ u)
def fromD : D → Bool
  | .int i => decide (0 ≤ i)
  | _ => false
def isEvD : D → Bool
  | .tup [.str w] => decide (w = "pass")
  | .tup [.str w, v] => decide (w ∈ (["borrow", "word", "back", "crash", "stop", "cut", "join"] : List Str)) && fromD v
  | _ => false
def isWrD : D → Bool
  | .tup [.str w, v] => decide (w = "write") && fromD v
  | _ => false
def isStrD : D → Bool | .str _ => true | _ => false
/-- a thing that may stand in a row -/
inductive Th : D → Prop
  | nt {d : D} {T : String} (h : tyName d = some T) (k : kitB T "tuple" = some false) (n : ∀ l, d ≠ .tup l) : Th d
  | nil : Th (.tup [])
  | one {x : D} {T : String} (h : tyName x = some T) (k : kitB T "str" = some (isStrD x)) : Th (.tup [x])
  | two {w : Str} {v : D} {T : String} (h : tyName v = some T) (o : okD 0 v = true) : Th (.tup [.str w, v])
  | more {l : List D} (h : 3 ≤ l.length) : Th (.tup l)
theorem Th.ty {d : D} (h : Th d) : ∃ T, tyName d = some T := by
  cases h with
  | nt h k n => exact ⟨_, h⟩
  | nil => exact ⟨_, rfl⟩
  | one h k => exact ⟨_, rfl⟩
  | two h o => exact ⟨_, rfl⟩
  | more h => exact ⟨_, rfl⟩
theorem th_ev (e : Ev) : Th e.D := by
  cases e with
  | pass => exact .one (T := "str") rfl (kit_t (by decide +kernel))
  | act w u => exact .two (T := "int") rfl rfl
theorem isEvD_ev (e : Ev) : isEvD e.D = evGood e := by
  cases e with
  | pass => show decide (("pass" : Str) = "pass") = true; simp
  | act w u => rfl
theorem isWrD_ev (e : Ev) : isWrD e.D = (match e with | .pass => false | .act w u => decide (w = "write") && decide (0 ≤ u)) := by cases e <;> rfl
theorem F_is_fromD (T : Tx K mg) : PFn P w K mg base (ct K) "is_from" 2 (fun ((v, l) : D × Int) => [v, .int l]) (fun (v, l) => (okD 0 v = true ∧ ∃ U, tyName v = some U) ∧ l = 0) (fun (v, _) => .bl (fromD v)) := by
  refine PFn.of (d_is_from T) (m_is_from T) sc_is_from (fun _ _ _ _ _ _ us hl => match us, hl with | [_, _], _ => rfl) (fun _ => rfl) (fun (v, l) h => ⟨by simp only [okDs, h.1.1]; rfl, rfl⟩) ?_
  rintro f cdv A outer s H E ⟨v, l⟩ hr ⟨h, rfl⟩
  by_cases hv : isIntD v = true
  · cases v with
    | int i => exact ds_ret (de_and (q_call (F_is_integer T) (da_cons (de_var 0) da_nil) (.int i) rfl ⟨rfl, _, rfl⟩) (fun h1 => (de_one (q_cmp (de_var 0) (de_var 1) o2_ge)))) (by show D.bl (true && decide (0 ≤ i)) = _; rfl)
    | _ => cases hv
  · have h1 : isIntD v = false := by simpa using hv
    have h2 : fromD v = false := by cases v <;> first | rfl | exact absurd rfl hv
    exact ds_ret (de_and (k := isIntD v) (k' := false) (q_call (F_is_integer T) (da_cons (de_var 0) da_nil) v rfl h) (fun h3 => by rw [h1] at h3; cases h3)) (by rw [h1]; show D.bl false = D.bl (fromD v); rw [h2])
theorem F_is_event (T : Tx K mg) : PFn P w K mg base (ct K) "is_event" 3 (fun (d : D) => [d]) (fun d => Th d ∧ okD 0 d = true) (fun d => .bl (isEvD d)) := by
  refine PFn.of (d_is_event T) (m_is_event T) sc_is_event (fun _ _ _ _ _ _ us hl => match us, hl with | [_], _ => rfl) (fun _ => rfl) (fun d h => ⟨by simp only [okDs, h.2]; rfl, rfl⟩) ?_
  rintro f cdv A outer s H E d hr ⟨th, okd⟩
  -- 0 value
  cases th with
  | nt h k n =>
    have e : isEvD d = false := by
      cases d <;> first
        | rfl
        | exact absurd rfl (n _)
    refine
      ds_if (k := true) (dt_w (dw_or (k := true) (k' := false) (dt_not (dt_val (q_isi (b_isinstance T) (de_var 0) (de_tytup (b_tuple T)) h k))) (fun h3 => by cases h3))) (fun h1 => ds_ret de_bl ?_) (fun h1 => by cases h1)
    rw [e]
  | nil =>
    exact
      ds_if (k := true) (dt_w (dw_or (k := false) (k' := true) (dt_not (dt_val (q_isi (b_isinstance T) (de_var 0) (de_tytup (b_tuple T)) rfl (kit_t (by decide +kernel))))) (fun h3 => (dw_or (k := true) (k' := false) (dt_eq (qt_nin (q_len (b_len T) (de_var 0) (.seq rfl)) (de_tup (da_cons (de_int) (da_cons (de_glob (c_PAIR T)) da_nil)) (by walk_at "z")) (.ints (ns := [1, 2]) rfl)) rfl) (fun h2 => by cases h2))))) (fun h1 => ds_ret de_bl rfl) (fun h1 => by cases h1)
  | @more l h =>
    have e : isEvD (.tup l) = false := by
      match l, h with
      | a :: _ :: _ :: _, _ => cases a <;> rfl
    have nin : (!decide (((l.length : Nat) : Int) ∈ ([1, 2] : List Int))) = true := by
      have : ¬ ((l.length : Nat) : Int) ∈ ([1, 2] : List Int) := by simp; omega
      rw [decide_eq_false this]; rfl
    refine
      ds_if (k := true) (dt_w (dw_or (k := false) (k' := true) (dt_not (dt_val (q_isi (b_isinstance T) (de_var 0) (de_tytup (b_tuple T)) rfl (kit_t (by decide +kernel))))) (fun h3 => (dw_or (k := true) (k' := false) (dt_eq (qt_nin (q_len (b_len T) (de_var 0) (.seq rfl)) (de_tup (da_cons (de_int) (da_cons (de_glob (c_PAIR T)) da_nil)) (by walk_at "z")) (.ints (ns := [1, 2]) rfl)) nin) (fun h2 => by cases h2))))) (fun h1 => ds_ret de_bl ?_) (fun h1 => by cases h1)
    rw [e]
  | @one x U h k =>
    have nos : isStrD x = false → isEvD (.tup [x]) = false := fun hx => by cases x <;> first | rfl | cases hx
    cases hx : isStrD x with
    | false =>
      rw [hx] at k
      refine
        ds_if (k := true) (dt_w (dw_or (k := false) (k' := true) (dt_not (dt_val (q_isi (b_isinstance T) (de_var 0) (de_tytup (b_tuple T)) rfl (kit_t (by decide +kernel))))) (fun h3 => (dw_or (k := false) (k' := true) (dt_eq (qt_nin (q_len (b_len T) (de_var 0) (.seq rfl)) (de_tup (da_cons (de_int) (da_cons (de_glob (c_PAIR T)) da_nil)) (by walk_at "z")) (.ints (ns := [1, 2]) rfl)) rfl) (fun h2 => (dw_or1 (dt_not (dt_val (q_isi (b_isinstance T) (q_ix (d := x) (de_var 0) (de_int) (.tup rfl)) (de_tystr (b_str T)) h k))))))))) (fun h1 => ds_ret de_bl ?_) (fun h1 => by cases h1)
      rw [nos hx]
    | true =>
      cases x with
      | str w =>
        refine
          ds_if (k := false) (dt_w (dw_or (k := false) (k' := false) (dt_not (dt_val (q_isi (b_isinstance T) (de_var 0) (de_tytup (b_tuple T)) rfl (kit_t (by decide +kernel))))) (fun h3 => (dw_or (k := false) (k' := false) (dt_eq (qt_nin (q_len (b_len T) (de_var 0) (.seq rfl)) (de_tup (da_cons (de_int) (da_cons (de_glob (c_PAIR T)) da_nil)) (by walk_at "z")) (.ints (ns := [1, 2]) rfl)) rfl) (fun h2 => (dw_or1 (dt_not (dt_val (q_isi (b_isinstance T) (q_ix (d := .str w) (de_var 0) (de_int) (.tup rfl)) (de_tystr (b_str T)) rfl (kit_t (by decide +kernel))))))))))) (fun h1 => by cases h1) (fun h1 =>
          ds_nil <|
          ds_if (k := true) (dt_eq (qt_cmp (q_len (b_len T) (de_var 0) (.seq rfl)) (de_int) (by walk_at "o")) rfl) (fun h4 =>
            ds_ret (q_cmp (q_ix (d := .str w) (de_var 0) (de_int) (.tup rfl)) (q_ix (d := .str "pass") (de_glob (c_PASS T)) (de_int) (.tup rfl)) o2_eqZ) rfl) (fun h4 => by cases h4))
      | _ => cases hx
  | @two w v U h o =>
    refine
      ds_if (k := false) (dt_w (dw_or (k := false) (k' := false) (dt_not (dt_val (q_isi (b_isinstance T) (de_var 0) (de_tytup (b_tuple T)) rfl (kit_t (by decide +kernel))))) (fun h3 => (dw_or (k := false) (k' := false) (dt_eq (qt_nin (q_len (b_len T) (de_var 0) (.seq rfl)) (de_tup (da_cons (de_int) (da_cons (de_glob (c_PAIR T)) da_nil)) (by walk_at "z")) (.ints (ns := [1, 2]) rfl)) rfl) (fun h2 => (dw_or1 (dt_not (dt_val (q_isi (b_isinstance T) (q_ix (d := .str w) (de_var 0) (de_int) (.tup rfl)) (de_tystr (b_str T)) rfl (kit_t (by decide +kernel))))))))))) (fun h1 => by cases h1) (fun h1 =>
      ds_nil <|
      ds_if (k := false) (dt_eq (qt_cmp (q_len (b_len T) (de_var 0) (.seq rfl)) (de_int) (by walk_at "o")) rfl) (fun h4 => by cases h4) (fun h4 =>
        ds_nil <|
        ds_ret (de_and (q_in (q_ix (d := .str w) (de_var 0) (de_int) (.tup rfl)) (de_glob (c_DEEDS T)) (.strs (ns := ["borrow", "word", "back", "crash", "stop", "cut", "join"]) rfl)) (fun h5 => (de_one (q_call (F_is_fromD T) (da_cons (q_ix (d := v) (de_var 0) (de_int) (.tup rfl)) (da_cons (de_int) da_nil)) (v, 0) rfl ⟨⟨o, _, h⟩, rfl⟩)))) rfl))
theorem F_is_write (T : Tx K mg) : PFn P w K mg base (ct K) "is_write" 4 (fun (d : D) => [d]) (fun d => Th d ∧ okD 0 d = true) (fun d => .bl (isWrD d)) := by
  refine PFn.of (d_is_write T) (m_is_write T) sc_is_write (fun _ _ _ _ _ _ us hl => match us, hl with | [_], _ => rfl) (fun _ => rfl) (fun d h => ⟨by simp only [okDs, h.2]; rfl, rfl⟩) ?_
  rintro f cdv A outer s H E d hr ⟨th, okd⟩
  cases th with
  | nt h k n =>
    have e : isWrD d = false := by
      cases d <;> first
        | rfl
        | exact absurd rfl (n _)
    refine ds_ret (de_and (k := false) (k' := false) (q_isi (b_isinstance T) (de_var 0) (de_tytup (b_tuple T)) h k) (fun h3 => by cases h3)) ?_
    rw [e]; rfl
  | nil =>
    exact ds_ret (de_and (q_isi (b_isinstance T) (de_var 0) (de_tytup (b_tuple T)) rfl (kit_t (by decide +kernel))) (fun h3 => (de_and (k := false) (k' := false) (de_eq (q_cmp (q_len (b_len T) (de_var 0) (.seq rfl)) (de_glob (c_PAIR T)) (by walk_at "o")) rfl) (fun h2 => by cases h2)))) rfl
  | @one x U h k =>
    have e : isWrD (.tup [x]) = false := by cases x <;> rfl
    refine ds_ret (de_and (q_isi (b_isinstance T) (de_var 0) (de_tytup (b_tuple T)) rfl (kit_t (by decide +kernel))) (fun h3 => (de_and (k := false) (k' := false) (de_eq (q_cmp (q_len (b_len T) (de_var 0) (.seq rfl)) (de_glob (c_PAIR T)) (by walk_at "o")) rfl) (fun h2 => by cases h2)))) ?_
    rw [e]; rfl
  | @more l h =>
    have e : isWrD (.tup l) = false := by
      match l, h with
      | a :: _ :: _ :: _, _ => cases a <;> rfl
    have ne : decide (((l.length : Nat) : Int) = 2) = false := decide_eq_false (by omega)
    refine ds_ret (de_and (q_isi (b_isinstance T) (de_var 0) (de_tytup (b_tuple T)) rfl (kit_t (by decide +kernel))) (fun h3 => (de_and (k := false) (k' := false) (de_eq (q_cmp (q_len (b_len T) (de_var 0) (.seq rfl)) (de_glob (c_PAIR T)) (by walk_at "o")) (congrArg D.bl ne)) (fun h2 => by cases h2)))) ?_
    rw [e]; rfl
  | @two w v U h o =>
    refine ds_ret (de_and (q_isi (b_isinstance T) (de_var 0) (de_tytup (b_tuple T)) rfl (kit_t (by decide +kernel))) (fun h3 => (de_and (q_cmp (q_len (b_len T) (de_var 0) (.seq rfl)) (de_glob (c_PAIR T)) (by walk_at "o")) (fun h2 => (de_and (q_cmp (q_ix (d := .str w) (de_var 0) (de_int) (.tup rfl)) (de_str) (by walk_at "o")) (fun h1 => (de_one (q_call (F_is_event T) (da_cons (de_tup (da_cons (de_str) (da_cons (q_ix (d := v) (de_var 0) (de_int) (.tup rfl)) da_nil)) (by walk_at "z")) da_nil) (.tup [.str "borrow", v]) rfl ⟨.two h o, by simp only [okD, okDs, o]; rfl⟩)))))))) (?_)
    show D.bl (true && (decide (((([D.str w, v].length : Nat) : Int)) = 2) && (decide (w = "write") && isEvD (.tup [.str "borrow", v])))) = D.bl (decide (w = "write") && fromD v)
    have e : decide (("borrow" : Str) ∈ (["borrow", "word", "back", "crash", "stop", "cut", "join"] : List Str)) = true := by decide +kernel
    have e2 : isEvD (.tup [.str "borrow", v]) = fromD v := by
      show (decide (("borrow" : Str) ∈ (["borrow", "word", "back", "crash", "stop", "cut", "join"] : List Str)) && fromD v) = _
      rw [e]; rfl
    rw [e2]; rfl
theorem F_is_less (T : Tx K mg) : PFn P w K mg base (ct K) "is_less" 1 (fun ((a, o) : Int × Option Int) => [.int a, oiD o]) (fun _ => True) (fun (a, o) => .bl (isLess a o)) := by
  refine PFn.of (d_is_less T) (m_is_less T) sc_is_less (fun _ _ _ _ _ _ us hl => match us, hl with | [_, _], _ => rfl) (fun _ => rfl) (fun (a, o) _ => ⟨by cases o <;> rfl, rfl⟩) ?_
  rintro f cdv A outer s H E ⟨a, o⟩ hr -
  cases o with
  | none => exact ds_ret (de_and (k' := false) (q_cmp (de_var 1) (de_non) (o2_isnt rfl)) (fun h1 => absurd h1 (by decide))) rfl
  | some b => exact ds_ret (de_and (q_cmp (de_var 1) (de_non) (o2_isnt rfl)) (fun h1 => (de_one (q_cmp (de_var 0) (de_var 1) o2_lt)))) rfl
def isSq : D → Bool
  | .tup _ => true
  | .lst _ => true
  | .scr _ => true
  | _ => false
/-- a datum that may be asked for its class -/
inductive OkTy : D → Prop
  | ty {d : D} {U : String} (h : tyName d = some U) : OkTy d
  | rule {fs : List (Str × D)} : OkTy (.ins 0 fs)
theorem tyd_rule (T : Tx K mg) {fs : List (Str × D)} : TyD K (ct K) (.ins 0 fs) (.ref (He.ga K "Rule")) := TyD.ins (n := 0) (in_Rule T)
theorem F_is_sequence (T : Tx K mg) : PFn P w K mg base (ct K) "is_sequence" 1 (fun (d : D) => [d]) (fun d => okD 0 d = true ∧ OkTy d) (fun d => .bl (isSq d)) := by
  refine PFn.of (d_is_sequence T) (m_is_sequence T) sc_is_sequence (fun _ _ _ _ _ _ us hl => match us, hl with | [_], _ => rfl) (fun _ => rfl) (fun d h => ⟨by simp only [okDs, h.1]; rfl, rfl⟩) ?_
  rintro f cdv A outer s H E d hr ⟨-, h⟩
  cases h with
  | rule => exact ds_ret (de_isi2G (b_isinstance T) (tyd_rule T) (in_Rule T).l (in_Rule T).t (de_var 0) (pe_tylist (b_list T)) (pe_tytup (b_tuple T))) rfl
  | ty h =>
    cases d with
    | tup l => exact ds_ret (de_isi2 (T := "tuple") (x1 := "list") (x2 := "tuple") (q2 := ⟨0, 0, 0, 0⟩) (q3 := ⟨0, 0, 0, 0⟩) (b_isinstance T) rfl (kit_f (by decide +kernel)) (kit_t (by decide +kernel)) (de_var 0) (pe_tylist (b_list T)) (pe_tytup (b_tuple T))) rfl
    | lst l => exact ds_ret (de_isi2 (T := "list") (x1 := "list") (x2 := "tuple") (q2 := ⟨0, 0, 0, 0⟩) (q3 := ⟨0, 0, 0, 0⟩) (b_isinstance T) rfl (kit_t (by decide +kernel)) (kit_f (by decide +kernel)) (de_var 0) (pe_tylist (b_list T)) (pe_tytup (b_tuple T))) rfl
    | scr l => exact ds_ret (de_isi2 (T := "list") (x1 := "list") (x2 := "tuple") (q2 := ⟨0, 0, 0, 0⟩) (q3 := ⟨0, 0, 0, 0⟩) (b_isinstance T) rfl (kit_t (by decide +kernel)) (kit_f (by decide +kernel)) (de_var 0) (pe_tylist (b_list T)) (pe_tytup (b_tuple T))) rfl
    | non => exact ds_ret (de_isi2 (T := "NoneType") (x1 := "list") (x2 := "tuple") (q2 := ⟨0, 0, 0, 0⟩) (q3 := ⟨0, 0, 0, 0⟩) (b_isinstance T) rfl (kit_f (by decide +kernel)) (kit_f (by decide +kernel)) (de_var 0) (pe_tylist (b_list T)) (pe_tytup (b_tuple T))) rfl
    | bl l => exact ds_ret (de_isi2 (T := "bool") (x1 := "list") (x2 := "tuple") (q2 := ⟨0, 0, 0, 0⟩) (q3 := ⟨0, 0, 0, 0⟩) (b_isinstance T) rfl (kit_f (by decide +kernel)) (kit_f (by decide +kernel)) (de_var 0) (pe_tylist (b_list T)) (pe_tytup (b_tuple T))) rfl
    | int l => exact ds_ret (de_isi2 (T := "int") (x1 := "list") (x2 := "tuple") (q2 := ⟨0, 0, 0, 0⟩) (q3 := ⟨0, 0, 0, 0⟩) (b_isinstance T) rfl (kit_f (by decide +kernel)) (kit_f (by decide +kernel)) (de_var 0) (pe_tylist (b_list T)) (pe_tytup (b_tuple T))) rfl
    | str l => exact ds_ret (de_isi2 (T := "str") (x1 := "list") (x2 := "tuple") (q2 := ⟨0, 0, 0, 0⟩) (q3 := ⟨0, 0, 0, 0⟩) (b_isinstance T) rfl (kit_f (by decide +kernel)) (kit_f (by decide +kernel)) (de_var 0) (pe_tylist (b_list T)) (pe_tytup (b_tuple T))) rfl
    | _ => cases h
def stC (s : St3) : Cell := .ins 2 s.fs
theorem ok_stC (s : St3) : okC 0 (stC s) = true ∧ stC s ≠ .dead := ⟨by unfold stC St3.fs; simp only [okC, okFs, ok_oi]; rfl, by unfold stC; simp⟩
theorem M_Store (T : Tx K mg) : PMk P w K mg base (ct K) 2 "Store" 1 (fun (_ : Unit) => []) (fun _ => True) (fun _ => (⟨none, none, none⟩ : St3).fs) := by
  refine PMk.of (dds := []) 0 (d_Storedd_initdd T) rfl (mk_Store T) (m_Store T) sc_Storedd_initdd (fun fd F => ⟨[], .nil, F.bindsN fun _ _ _ _ _ _ us hl => match us, hl with | [_], _ => rfl⟩) (fun _ _ => .nil) (fun _ => rfl) (fun s _ => ⟨rfl, rfl⟩) ?_
  rintro f cdv A outer s H E _ hr -
  -- 0 self
  exact
    ds_fld (fl_Store_newest T) (de_non) (de_var 0) rfl (by walk_at "z") <|
    ds_fld (fl_Store_told T) (de_non) (de_var 0) rfl (by walk_at "z") <|
    ds_fld (fl_Store_taken T) (de_non) (de_var 0) rfl (by walk_at "z") <|
    ds_nil rfl
theorem oi_bif (k : Bool) (a b : Option Int) : (bif k then oiD a else oiD b) = oiD (bif k then a else b) := by cases k <;> rfl
theorem F_takes (T : Tx K mg) : CFn P w K mg base (ct K) "takes" 2 stC (fun ((form, t) : Str × Int) => [.str form, .ptr 0, .int t]) (fun _ _ => True) (fun (form, t) s => .bl (stakes form s t)) (fun _ s => s) := by
  refine CFn.of (d_takes T) (m_takes T) sc_takes (fun _ _ _ _ _ _ us hl => match us, hl with | [_, _, _], _ => rfl) (fun _ => rfl) (fun (form, t) s _ => ⟨rfl, rfl⟩) ok_stC ?_
  rintro f cdv A outer s H E ⟨form, t⟩ st hr -
  -- 0 form, 1 store, 2 ticket
  refine
    ds_if (qt_cmp (de_var 0) (de_str) (by walk_at "o")) (fun h1 =>
      ds_ret (de_bl) ⟨?_, [], rfl⟩) (fun h1 =>
      ds_nil <|
      ds_ret (de_not (q_call (F_is_less T) (da_cons (de_var 2) (da_cons (de_eq (de_if (qt_cmp (de_var 0) (de_str) (by walk_at "o")) (fun h2 => (q_attr (d := oiD st.told) (de_var 1) (.cell (fl_Store_told T) rfl rfl))) (fun h2 => (q_attr (d := oiD st.newest) (de_var 1) (.cell (fl_Store_newest T) rfl rfl)))) (oi_bif _ _ _)) da_nil)) (t, bif decide (form = "highest") then st.told else st.newest) rfl trivial)) ⟨?_, [], rfl⟩)
  · show D.bl true = D.bl (stakes form st t)
    unfold stakes; rw [h1]; rfl
  · show D.bl _ = D.bl (stakes form st t)
    unfold stakes; rw [h1]; rfl
theorem F_wrote (T : Tx K mg) : CFn P w K mg base (ct K) "wrote" 3 stC (fun ((form, t) : Str × Int) => [.str form, .ptr 0, .int t]) (fun _ _ => True) (fun (form, t) s => .bl (stakes form s t)) (fun (form, t) s => swrote form s t) := by
  refine CFn.of (d_wrote T) (m_wrote T) sc_wrote (fun _ _ _ _ _ _ us hl => match us, hl with | [_, _, _], _ => rfl) (fun _ => rfl) (fun (form, t) s _ => ⟨rfl, rfl⟩) ok_stC ?_
  rintro f cdv A outer s H E ⟨form, t⟩ st hr -
  obtain ⟨k, hk⟩ : ∃ k, stakes form st t = k := ⟨_, rfl⟩
  -- 0 form, 1 store, 2 ticket, 3 is_taken
  refine
    ds_set 3 sc_wrote.nd (μ1 := [stC st]) (de_eq (d' := .bl k) (q_cell (F_takes T) 0 (da_cons (de_var 0) (da_cons (de_var 1) (da_cons (de_var 2) da_nil))) (form, t) st rfl rfl trivial) (congrArg D.bl hk)) <|
    ds_fld (fl_Store_told T) (d := oiD (bif isLess t st.told then st.told else some t)) (de_eq (de_if (dt_val (q_call (F_is_less T) (da_cons (de_var 2) (da_cons (q_attr (d := oiD st.told) (de_var 1) (.cell (fl_Store_told T) rfl rfl)) da_nil)) (t, st.told) rfl trivial)) (fun h1 => (q_attr (d := oiD st.told) (de_var 1) (.cell (fl_Store_told T) rfl rfl))) (fun h1 => (de_var 2))) ?_) (de_var 1) rfl (by walk_at "z") <|
    ds_fld (fl_Store_taken T) (d := oiD (bif k then some t else st.taken)) (de_eq (de_if (dt_val (de_var 3)) (fun h2 => (de_var 2)) (fun h2 => (q_attr (d := oiD st.taken) (de_var 1) (.cell (fl_Store_taken T) rfl rfl)))) ?_) (de_var 1) rfl (by walk_at "z") <|
    ds_ret (de_var 3) ⟨?_, [], ?_⟩
  · exact oi_bif (isLess t st.told) st.told (some t)
  · exact oi_bif k (some t) st.taken
  · show D.bl k = D.bl (stakes form st t)
    rw [hk]
  · show _ = [stC (swrote form st t)]
    unfold swrote
    rw [hk]; rfl
end
end Lw

namespace Lw
section
variable {P : Program} {w : World} {K : PySem.W.Frag} {mg : Str → Option Value} {base : Heap}
theorem F_dayInit (T : Tx K mg) : ∃ fd ps, FnOk P w K mg base CX0 1 (He.ma K (He.ga K "InvalidDay") "__init__") fd ps (spExc K (He.ga K "InvalidDay") "at") ∧ Binds K fd ps [] := by
  obtain ⟨fd, F⟩ := d_InvalidDaydd_initdd T
  refine ⟨fd, ["self", "at"], F.ok sc_InvalidDaydd_initdd (fun vs H Q E ⟨a, y, e, _⟩ => by subst e; rfl) fun cdv A outer s H vs Q E hr ⟨a, y, e, ox, no, ha, q⟩ => ?_, F.bindsN fun _ _ _ _ _ _ us hl => match us, hl with | [_, _], _ => rfl⟩
  subst e
  refine ⟨_, pss_cons (ps_expr (pe_upinit (by rfl) (m_SeatError T) (x_InvalidDay T).rd (x_InvalidDay T).up (pa_cons (pe_var (x := "self") (i := 0) rfl (Or.inl rfl)) (pa_cons pe_str pa_nil)))) (pss_cons (ps_ost (pe_var (x := "self") (i := 0) rfl (Or.inl rfl)) (pe_var (x := "at") (i := 1) rfl (Or.inl rfl))) pss_nil), ?_⟩
  exact ⟨V.ref a, rfl, a, He.ga K "InvalidDay", _, rfl, (by show (1 : Nat) ≤ 1000; decide), ox, ha, ⟨y, rfl, V.ref a, rfl, a, He.ga K "InvalidDay", rfl, ox, no, .inl ⟨ha, fun dx nd ne => q dx nd ne⟩⟩⟩
end
end Lw

namespace DL
theorem ptrs_snoc : ∀ (n i : Nat), ptrs i (n + 1) = ptrs i n ++ [.ptr (i + n)]
  | 0, i => rfl
  | n + 1, i => by
    rw [show ptrs i (n + 1 + 1) = .ptr i :: ptrs (i + 1) (n + 1) from rfl, ptrs_snoc n (i + 1), show ptrs i (n + 1) = .ptr i :: ptrs (i + 1) n from rfl, List.cons_append, Nat.add_right_comm i 1 n]; rfl
theorem ptrs_len : ∀ (n i : Nat), (ptrs i n).length = n
  | 0, i => rfl
  | n + 1, i => congrArg (· + 1) (ptrs_len n (i + 1))
theorem ptrs_get : ∀ (n i j : Nat), j < n → (ptrs i n)[j]? = some (.ptr (i + j))
  | 0, _, _, h => absurd h (Nat.not_lt_zero _)
  | n + 1, i, 0, _ => rfl
  | n + 1, i, j + 1, h => by
    show (ptrs (i + 1) n)[j]? = _
    rw [ptrs_get n (i + 1) j (Nat.lt_of_succ_lt_succ h), Nat.add_assoc, Nat.add_comm 1 j]
theorem de_cast {X : Cx} {ct : Nat → Addr} {Γ : Gm} {μ μ1 μ2 : Mu} {e : Expr} {d d' : D} (h : DE X ct Γ μ e d μ1) (q : d = d') (q2 : μ1 = μ2) : DE X ct Γ μ e d' μ2 := by subst q; subst q2; exact h
end DL
namespace Lw
section
variable {P : Program} {w : World} {K : PySem.W.Frag} {mg : Str → Option Value} {base : Heap}
def sts (n : Nat) (nw to_ tk : List (Option Int)) : List St3 := (List.range n).map fun i => ⟨nw.getD i none, to_.getD i none, tk.getD i none⟩
theorem sts_len {n : Nat} {a b c : List (Option Int)} : (sts n a b c).length = n := by simp [sts]
theorem sts_get {n i : Nat} {a b c : List (Option Int)} (h : i < n) : (sts n a b c)[i]? = some ⟨a.getD i none, b.getD i none, c.getD i none⟩ := by simp [sts, h]
theorem getD_set {l : List (Option Int)} {i j : Nat} {v : Option Int} (h : i < l.length) : (l.set i v).getD j none = if i = j then v else l.getD j none := by
  rw [List.getD_eq_getElem?_getD, List.getD_eq_getElem?_getD, List.getElem?_set]
  by_cases e : i = j
  · subst e; simp [h]
  · simp [e]
theorem sts_set {n i : Nat} {a b c : List (Option Int)} (h : i < n) (ha : a.length = n) (hb : b.length = n) (hc : c.length = n) (s : St3) : (sts n a b c).set i s = sts n (a.set i s.newest) (b.set i s.told) (c.set i s.taken) := by
  apply List.ext_getElem?
  intro j
  rw [List.getElem?_set]
  by_cases hj : j < n
  · rw [sts_get hj, sts_get hj, sts_len, getD_set (by omega), getD_set (by omega), getD_set (by omega)]
    by_cases e : i = j
    · subst e; simp [h]
    · simp [e]
  · rw [List.getElem?_eq_none (by rw [sts_len]; omega), List.getElem?_eq_none (by rw [sts_len]; omega), sts_len]
    by_cases e : i = j
    · omega
    · simp [e]
theorem set_getD {l : List (Option Int)} {i : Nat} : l.set i (l.getD i none) = l := by
  apply List.ext_getElem?
  intro j
  rw [List.getElem?_set]
  by_cases e : i = j
  · subst e
    by_cases h : i < l.length
    · simp [h]
    · simp [h]
  · simp [e]
theorem sts_begun (n : Nat) : sts n (List.replicate n none) (List.replicate n none) (List.replicate n none) = List.replicate n ⟨none, none, none⟩ := by
  apply List.ext_getElem?
  intro j
  by_cases h : j < n
  · rw [sts_get h]; simp [h]
  · rw [List.getElem?_eq_none (by rw [sts_len]; omega), List.getElem?_eq_none (by simp; omega)]
def lμ (st : List St3) (tk : List (Int × Int)) (f : List Row) : Mu := st.map stC ++ [.dic (kvD D.int tk), .lst (f.map Row.D)]
section
variable {st : List St3} {tk : List (Int × Int)} {f : List Row} {i : Nat} {s : St3}
theorem lμ_st (h : st[i]? = some s) : (lμ st tk f)[i]? = some (stC s) := by
  unfold lμ
  have := (List.getElem?_eq_some_iff.mp h).1
  rw [List.getElem?_append_left (by simpa using this), List.getElem?_map, h]; rfl
theorem lμ_setSt (h : i < st.length) (s : St3) : (lμ st tk f).set i (stC s) = lμ (st.set i s) tk f := by
  unfold lμ
  rw [List.set_append_left _ _ (by simpa using h), List.map_set]
theorem lμ_tk : (lμ st tk f)[st.length]? = some (.dic (kvD D.int tk)) := by
  unfold lμ
  rw [List.getElem?_append_right (by simp)]; simp
theorem lμ_setTk (t2 : List (Int × Int)) : (lμ st tk f).set st.length (.dic (kvD D.int t2)) = lμ st t2 f := by
  unfold lμ
  rw [List.set_append_right _ _ (by simp)]; simp
theorem lμ_f : (lμ st tk f)[st.length + 1]? = some (.lst (f.map Row.D)) := by
  unfold lμ
  rw [List.getElem?_append_right (by simp)]; simp
theorem lμ_setF (f2 : List Row) : (lμ st tk f).set (st.length + 1) (.lst (f2.map Row.D)) = lμ st tk f2 := by
  unfold lμ
  rw [List.set_append_right _ _ (by simp)]; simp
end
theorem stakes_eq {form : Str} (ok : okForm form) (s : St3) (t : Int) : stakes form s t = ltakes form s.told s.newest t := by
  have key : ∀ o : Option Int, (!isLess t o) = (match o with | none => true | some l => decide (l ≤ t)) := by
    intro o
    cases o with
    | none => rfl
    | some b =>
      show (!decide (t < b)) = decide (b ≤ t)
      by_cases h : t < b
      · simp [h] <;> omega
      · simp [h] <;> omega
  rcases ok with rfl | rfl | rfl
  · rfl
  · show (!isLess t s.told) = _
    rw [key]; rfl
  · show (!isLess t s.newest) = _
    rw [key]; rfl
theorem told_eq (t : Int) (o : Option Int) : (bif isLess t o then o else some t) = bif ogt t o then some t else o := by
  cases o with
  | none => rfl
  | some b =>
    show (bif decide (t < b) then some b else some t) = bif decide (b < t) then some t else some b
    by_cases h : t < b
    · have : ¬ b < t := by omega
      simp [h, this]
    · by_cases h2 : b < t
      · simp [h, h2]
      · have : b = t := by omega
        subst this; simp
def stX (n : Nat) (x : WS) : List St3 := sts n x.newest x.told x.taken
theorem good_of {e : Ev} (ok : e.Ok) (h : ∀ w u, e = .act w u → 0 ≤ u) : evGood e = true := by
  cases e with
  | pass => rfl
  | act w u =>
    have ok' : w ∈ evWords := ok
    have hu := h w u rfl
    have : ∀ w ∈ evWords, decide (w ∈ (["borrow", "word", "back", "crash", "stop", "cut", "join"] : List Str)) = true := by decide +kernel
    show (decide (w ∈ (["borrow", "word", "back", "crash", "stop", "cut", "join"] : List Str)) && decide (0 ≤ u)) = true
    rw [this w ok', decide_eq_true hu]; rfl
theorem seq_eq {dd : D} {l : List D} (h : isSeq dd = some l) : dd = .tup l ∨ dd = .lst l ∨ dd = .scr l := by
  cases dd <;> simp [isSeq] at h
  · subst h; exact .inl rfl
  · subst h; exact .inr (.inl rfl)
  · subst h; exact .inr (.inr rfl)
theorem sq_ok {dd : D} {l : List D} (h : isSeq dd = some l) : OkTy dd := by rcases seq_eq h with rfl | rfl | rfl <;> exact .ty rfl
theorem sq_yes {dd : D} {l : List D} (h : isSeq dd = some l) : isSq dd = true := by rcases seq_eq h with rfl | rfl | rfl <;> rfl
theorem notwr {e : Ev} (ok : e.Ok) : isWrD e.D = false := by
  cases e with
  | pass => rfl
  | act w u => show (decide (w = "write") && _) = false; rw [ok_notWrite (u := u) ok]; rfl
/-- a thing that cannot stand behind s -/
inductive Bad (r : RL) (s : LS) : D → Prop
  | write {u : Int} (h0 : 0 ≤ u) (h : aget s.us u = none) : Bad r s (.tup [.str "write", .int u])
  | none {d : D} (h1 : isWrD d = false) (h2 : isEvD d = false) : Bad r s d
  | ev {e : Ev} (ok : e.Ok) (g : evGood e = true) (h : lcan r s e = false) : Bad r s e.D
inductive TlOk (r : RL) (s : LS) : List D → Prop
  | nil : TlOk r s []
  | cons {b : D} {t : List D} (th : Th b) (ok : okD 0 b = true) (bad : Bad r s b) : TlOk r s (b :: t)
structure LedX (r : RL) (form : Str) (es : List Ev) (tl : List D) (dd : D) : Prop where
  s0 : 0 ≤ r.s
  s1 : r.s ≤ 100
  len : es.length ≤ 500
  fo : okForm form
  ok : wok r form 0 (wbegun r) es
  us : ∀ e ∈ es, ∀ w u, e = .act w u → 0 ≤ u
  okd : okD 0 dd = true
  sq : (isSeq dd = some (es.map Ev.D ++ tl) ∧ TlOk r (wsteps r form 0 (wbegun r) es).s tl) ∨ (isSq dd = false ∧ OkTy dd ∧ es = [] ∧ tl = [.non])
abbrev LX := RL × Str × List Ev × List D × D
def ledD (r : RL) (form : Str) (es : List Ev) : D := .tup [.tup ((wsteps r form 0 (wbegun r) es).found.map Row.D), .lst ((stX r.s.toNat (wsteps r form 0 (wbegun r) es)).map fun s => .ins 2 s.fs)]
def ledO (r : RL) (form : Str) (es : List Ev) (d : D) : List D → Out
  | [] => .val d
  | _ :: _ => .exc 10 [("at", .int (es.length : Nat))]
theorem ledO_ok {r : RL} {form : Str} {es : List Ev} {tl : List D} {d : D} (h : okD 0 d = true) : (match ledO r form es d tl with | .val d => okD 0 d = true | .exc _ fs => okFs 0 fs = true) := by
  cases tl with
  | nil => exact h
  | cons _ _ => rfl
theorem ok_ledD (r : RL) (form : Str) (es : List Ev) : okD 0 (ledD r form es) = true := by
  have : ∀ s : St3, okD 0 (.ins 2 s.fs) = true := fun s => (ok_stC s).1
  simp only [ledD, okDs, okD, ok_map 0 Row.D (fun _ => rfl), ok_map 0 (fun s : St3 => D.ins 2 s.fs) this]; rfl
theorem F_led (T : Tx K mg) : EFn P w K mg base (ct K) "led" 7 (fun ((r, form, es, tl, dd) : LX) => [ruleD r, .str form, dd]) (fun (r, form, es, tl, dd) => LedX r form es tl dd) (fun (r, form, es, tl, _) => ledO r form es (ledD r form es) tl) := by
  obtain ⟨fdI, psI, FI, BI⟩ := F_dayInit (P := P) (w := w) (base := base) T
  refine EFn.of (d_led T) (m_led T) sc_led (fun _ _ _ _ _ _ us hl => match us, hl with | [_, _, _], _ => rfl) (fun _ => rfl) (fun (r, form, es, tl, dd) h => ⟨by simp only [okDs, h.okd]; rfl, ledO_ok (ok_ledD r form es)⟩) ?_
  rintro f cdv A outer s H E ⟨r, form, es, tl, dd⟩ hr ⟨h0, h1, h2, hf, hw, hus, hok, hsq⟩
  obtain ⟨n, hn⟩ : ∃ n, r.s.toNat = n := ⟨_, rfl⟩
  have hrs : r.s = (n : Int) := by omega
  -- 0 rule, 1 form, 2 deeds, 3 stand, 4 stores, 5 tickets, 6 seat, 7 found, 8 many, 9 at, 10 deed, 11 row, 12 ticket
  rcases hsq with ⟨hdd, htl⟩ | ⟨hsq, oty, rfl, rfl⟩
  case inr =>
    exact ds_if (k := true) (dt_eq (dt_not (dt_val (q_call (F_is_sequence T) (da_cons (de_var 2) da_nil) dd rfl ⟨hok, oty⟩))) (by rw [hsq]; rfl)) (fun _ => ds_raise (n := 10) rfl (x_InvalidDay T).o (x_InvalidDay T).no (x_InvalidDay T).ini (x_InvalidDay T).fun_ FI BI (m_InvalidDay T) (da_cons de_int da_nil) ⟨rfl, rfl⟩) (fun h => by cases h)
  refine
    ds_if (k := false) (dt_eq (dt_not (dt_val (q_call (F_is_sequence T) (da_cons (de_var 2) da_nil) dd rfl ⟨hok, sq_ok hdd⟩))) (by rw [sq_yes hdd]; rfl)) (fun h => by cases h) (fun _ =>
      ds_nil <|
      ds_par3 3 4 5 rfl sc_led.nd (μ1 := List.replicate n (stC ⟨none, none, none⟩) ++ [.dic []]) (da_cons (de_eq (d' := (toSD (lbegun r.s)).D) (q_call (F_first_stand T) (da_cons (de_var 0) da_nil) r rfl ⟨h0, by omega⟩) rfl) (da_cons (de_lc (res := ptrs 0 n) (μ2 := List.replicate n (stC ⟨none, none, none⟩)) [("seat", 6)] rfl sc_led.nd (di_rangeM (b_range T) (q_attr (de_var 0) (.ins (fl_Rule_seats T) rfl)) h0 (by omega)) (blkOk_by (show blkC n_led (defScope s_led) _ _ = true by decide +kernel)) (fun i acc μ' => acc = ptrs 0 i ∧ μ' = List.replicate i (stC ⟨none, none, none⟩)) ⟨rfl, rfl⟩ (fun i d acc μ' hx ⟨e1, e2⟩ => ?_) (fun i acc μ' ⟨e1, _⟩ => by rw [e1, ptrs_len]; exact Nat.le_refl _) (fun acc μ' ⟨e1, e2⟩ => ?_)) (da_cons (de_eq (d' := .ptr n) de_dic0M (by simp)) da_nil))) <|
      ds_par 7 8 rfl sc_led.nd (μ1 := lμ (stX n (wbegun r)) [] []) (da_cons (de_cast (d' := .ptr (n + 1)) (μ2 := lμ (stX n (wbegun r)) [] []) (de_lstM da_nil (by walk_at "z")) (by simp) ?_) (da_cons de_int da_nil)) <|
      ds_forJ (hp := passes_of rfl) (S := WS) (fun p : D × Nat => D.tup [.int (p.2 : Nat), p.1]) (es.map Ev.D ++ tl).zipIdx (fun x => [some (ruleD r), some (.str form), some dd, some (toSD x.s).D, some (.lst (ptrs 0 n)), some (.ptr n), none, some (.ptr (n + 1)), some (.int x.many), none, none, none, none]) (fun x => lμ (stX n x) x.tk x.found)
        (fun rs x => ∃ i es', rs = (es'.map Ev.D ++ tl).zipIdx i ∧ i + es'.length = es.length ∧ x.s.Sz (200 + i) ∧ x.s.Inv ∧ (x.newest.length = n ∧ x.told.length = n ∧ x.taken.length = n) ∧ x.tk.length ≤ i ∧ x.found.length ≤ i ∧ (∀ e ∈ es', ∀ w u, e = .act w u → 0 ≤ u) ∧ wok r form i x es' ∧ wsteps r form i x es' = wsteps r form 0 (wbegun r) es)
        (by have := enum_map (fun d : D => d) (es.map Ev.D ++ tl); rw [List.map_id'] at this; rw [← this]; exact di_enum (b_enumerate T) (de_var 2) hdd) ⟨wbegun r, by walk_at "g", rfl, 0, es, rfl, Nat.zero_add _, ⟨Nat.zero_le _, by simp [wbegun, lbegun]; omega, Nat.zero_le _⟩, ⟨by simp [wbegun, lbegun, Keys]⟩, by simp [wbegun, hn], Nat.le_refl _, Nat.le_refl _, hus, hw, rfl⟩ (fun a rs x hJ => ?_) (fun x hJ => ?_))
  · subst e1 e2
    rw [List.getElem?_map, Option.map_eq_some_iff] at hx
    obtain ⟨z, hz, rfl⟩ := hx
    refine ⟨_, true, _, by simp, fun s H C cl fp => dg_name 6 sc_led.nd, fun s H C cl fp => dts_nil, fun _ => ⟨.ptr i, List.replicate (i + 1) (stC ⟨none, none, none⟩), fun s H C cl fp => ?_, ?_, rfl⟩, fun z => by cases z⟩
    · exact de_cast (de_make0M (PMk.mkr (M_Store T)) (Room.mono hr (by decide)) ⟨(), rfl, trivial, rfl, rfl⟩) (by simp) (by simp [List.replicate_succ']; rfl)
    · rw [ptrs_snoc, Nat.zero_add]
  · simp at e1 e2
    rw [hn] at e1 e2
    exact ⟨e1, e2⟩
  · unfold lμ stX wbegun
    rw [hn, sts_begun]
    simp [kvD]
  · obtain ⟨i, es', he, hl, sz, inv, ⟨l1, l2, l3⟩, ht, hfo, hus', hwk, hfin⟩ := hJ
    cases es' with
    | nil =>
      cases htl with
      | nil => cases he
      | @cons b t thb okb bad =>
      rw [List.map_nil, List.nil_append, List.zipIdx_cons] at he
      obtain ⟨rfl, rfl⟩ := List.cons.inj he
      have hx : x = wsteps r form 0 (wbegun r) es := hfin
      obtain rfl : i = es.length := hl
      refine ⟨_, (dg_tup rfl (dgs_cons (dg_name 9 sc_led.nd) (dgs_cons (dg_name 10 sc_led.nd) dgs_nil))), ?_⟩
      rw [← hx] at bad
      cases bad with
      | @write u h0 hu =>
        refine ds_if (k := true) (dt_eq (dt_val (q_call (F_is_write T) (da_cons (de_var 10) da_nil) (.tup [.str "write", .int u]) rfl ⟨thb, okb⟩)) (by show (decide (("write" : Str) = "write") && decide (0 ≤ u)) = true; rw [decide_eq_true h0]; simp)) (fun _ =>
          ds_set 11 sc_led.nd (de_eq (d' := .non) (q_meth (ME_used_by T) (de_var 3) (da_cons (q_ix (d := .int u) (de_var 10) de_int (.tup rfl)) da_nil) (toSD x.s, u) rfl trivial) (by show kpD (aget (toSD x.s).us u) = D.non; rw [sget_us inv, hu]; rfl)) <|
          ds_if (k := true) (qt_cmp (de_var 11) de_non (o2_is rfl)) (fun _ => ds_raise (n := 10) rfl (x_InvalidDay T).o (x_InvalidDay T).no (x_InvalidDay T).ini (x_InvalidDay T).fun_ FI BI (m_InvalidDay T) (da_cons (de_var 9) da_nil) ⟨rfl, rfl⟩) (fun h => by cases h)) (fun h => by cases h)
      | none hw2 he2 =>
        refine ds_if (k := false) (dt_eq (dt_val (q_call (F_is_write T) (da_cons (de_var 10) da_nil) b rfl ⟨thb, okb⟩)) hw2) (fun h => by cases h) (fun _ => ds_nil <|
          ds_if (k := true) (dt_w (dw_or (k := true) (k' := false) (dt_eq (dt_not (dt_val (q_call (F_is_event T) (da_cons (de_var 10) da_nil) b rfl ⟨thb, okb⟩))) (by rw [he2]; rfl)) (fun h => by cases h))) (fun _ => ds_raise (n := 10) rfl (x_InvalidDay T).o (x_InvalidDay T).no (x_InvalidDay T).ini (x_InvalidDay T).fun_ FI BI (m_InvalidDay T) (da_cons (de_var 9) da_nil) ⟨rfl, rfl⟩) (fun h => by cases h))
      | @ev e ok2 g2 hc2 =>
        refine ds_if (k := false) (dt_eq (dt_val (q_call (F_is_write T) (da_cons (de_var 10) da_nil) e.D rfl ⟨thb, okb⟩)) (notwr ok2)) (fun h => by cases h) (fun _ => ds_nil <|
          ds_if (k := true) (dt_w (dw_or (k := false) (k' := true) (dt_eq (dt_not (dt_val (q_call (F_is_event T) (da_cons (de_var 10) da_nil) e.D rfl ⟨thb, okb⟩))) (by rw [isEvD_ev, g2]; rfl)) (fun _ => dw_or1 (dt_eq (dt_not (dt_val (q_call (F_is_possible T) (da_cons (de_var 0) (da_cons (de_var 3) (da_cons (de_var 10) da_nil))) (r, toSD x.s, e) rfl ok2))) (by show (!spossible r (toSD x.s) e) = true; rw [spossible_eq inv ok2, hc2]; rfl))))) (fun _ => ds_raise (n := 10) rfl (x_InvalidDay T).o (x_InvalidDay T).no (x_InvalidDay T).ini (x_InvalidDay T).fun_ FI BI (m_InvalidDay T) (da_cons (de_var 9) da_nil) ⟨rfl, rfl⟩) (fun h => by cases h))
    | cons e es' =>
      rw [List.map_cons, List.cons_append, List.zipIdx_cons] at he
      obtain ⟨rfl, rfl⟩ := List.cons.inj he
      obtain ⟨w1, w2⟩ := hwk
      have hl2 : i + 1 + es'.length = es.length := by simp only [List.length_cons] at hl; omega
      have hl' : i + es'.length + 1 ≤ 500 := by omega
      have sl : (stX n x).length = n := sts_len
      refine ⟨_, (dg_tup rfl (dgs_cons (dg_name 9 sc_led.nd) (dgs_cons (dg_name 10 sc_led.nd) dgs_nil))), ?_⟩
      have hus2 : ∀ e ∈ es', ∀ w u, e = .act w u → 0 ≤ u := fun e h => hus' e (List.mem_cons_of_mem _ h)
      have go : ∀ x' : WS, wstep r form x i e = x' → x'.s.Sz (200 + (i + 1)) → x'.s.Inv → (x'.newest.length = n ∧ x'.told.length = n ∧ x'.taken.length = n) → x'.tk.length ≤ i + 1 → x'.found.length ≤ i + 1 → ∀ (Γ' : Gm) (μ' : Mu), μ' = lμ (stX n x') x'.tk x'.found → GLe [some (ruleD r), some (.str form), some dd, some (toSD x'.s).D, some (.lst (ptrs 0 n)), some (.ptr n), none, some (.ptr (n + 1)), some (.int x'.many), none, none, none, none] Γ' →
          ∃ s' : WS, GLe [some (ruleD r), some (.str form), some dd, some (toSD s'.s).D, some (.lst (ptrs 0 n)), some (.ptr n), none, some (.ptr (n + 1)), some (.int s'.many), none, none, none, none] Γ' ∧ μ' = lμ (stX n s') s'.tk s'.found ∧ ∃ i_1 es'_1, (es'.map Ev.D ++ tl).zipIdx (i + 1) = (es'_1.map Ev.D ++ tl).zipIdx i_1 ∧ i_1 + es'_1.length = es.length ∧ s'.s.Sz (200 + i_1) ∧ s'.s.Inv ∧ (s'.newest.length = n ∧ s'.told.length = n ∧ s'.taken.length = n) ∧ s'.tk.length ≤ i_1 ∧ s'.found.length ≤ i_1 ∧ (∀ e ∈ es'_1, ∀ w u, e = .act w u → 0 ≤ u) ∧ wok r form i_1 s' es'_1 ∧ wsteps r form i_1 s' es'_1 = wsteps r form 0 (wbegun r) es := by
        rintro x' rfl h1 h2 h3 h4 h5 Γ' _ rfl g
        exact ⟨_, g, rfl, i + 1, es', rfl, hl2, h1, h2, h3, h4, h5, hus2, w2, hfin⟩
      have szb : ∀ e', (lbehind r x.s e').1.Sz (200 + (i + 1)) := fun e' => sz_behind sz e'
      have poss : ∀ e' : Ev, e'.Ok → lcan r x.s e' = true → spossible r (toSD x.s) e' = true := fun e' ok h => by rw [spossible_eq inv ok]; exact h
      have beh : ∀ e' : Ev, e'.Ok → (sbehind r (toSD x.s) e').1 = toSD (lbehind r x.s e').1 := fun e' ok => sbehind_eq inv ok
      cases e with
      | pass =>
        refine ds_if (k := false) (dt_val (q_call (F_is_write T) (da_cons (de_var 10) da_nil) Ev.pass.D rfl ⟨th_ev _, rfl⟩)) (fun h => by cases h) (fun _ => ds_nil <|
          ds_if (k := false) (dt_w (dw_or (k := false) (k' := false) (dt_not (dt_val (q_call (F_is_event T) (da_cons (de_var 10) da_nil) Ev.pass.D rfl ⟨th_ev _, rfl⟩))) (fun _ => dw_or1 (dt_eq (dt_not (dt_val (q_call (F_is_possible T) (da_cons (de_var 0) (da_cons (de_var 3) (da_cons (de_var 10) da_nil))) (r, toSD x.s, Ev.pass) rfl trivial))) (by show (!spossible r (toSD x.s) .pass) = false; rw [poss .pass trivial w1]; rfl))))) (fun h => by cases h) (fun _ => ds_nil <|
          ds_set 3 sc_led.nd (d := (toSD (lbehind r x.s .pass).1).D) (q_ix (q_call (F_behind T) (da_cons (de_var 0) (da_cons (de_var 3) (da_cons (de_var 10) da_nil))) (r, toSD x.s, Ev.pass) rfl ⟨toSD_sz (sz.mono (by omega)), trivial⟩) de_int (.tup (by show some (sbehind r (toSD x.s) .pass).1.D = _; rw [beh .pass trivial]))) <|
          ds_set 11 sc_led.nd (d := .non) (de_if' (k := false) (qt_cmp (q_ix (de_var 10) de_int (.tup rfl)) de_str (o2_eqZ)) (fun h => by cases h) (fun _ => de_non)) <|
          ds_if (k := !true) (qt_cmp (de_var 11) de_non (o2_isnt rfl)) (fun h => absurd h (by decide)) (fun _ => ds_nil <| ds_nil ?_)))
        exact go _ rfl (szb .pass) (inv_behind inv .pass) ⟨l1, l2, l3⟩ (Nat.le_succ_of_le ht) (Nat.le_succ_of_le hfo) _ _ rfl (by walk_at "g")
      | act w u =>
        have hu : 0 ≤ u := hus' _ List.mem_cons_self w u rfl
        by_cases hwr : w = "write"
        · subst hwr
          obtain ⟨⟨q, hq, hin⟩, t, htk⟩ : (∃ q, aget x.s.us u = some q ∧ seatIn x q.1) ∧ ∃ t, aget x.tk u = some t := by
            have : wok1 r x (.act "write" u) := w1
            simp only [wok1, if_pos] at this
            exact this
          have qn : q.1.toNat < n := by have := hin.2.1; omega
          have at1 : atI (ptrs 0 n) q.1 = some (.ptr q.1.toNat) := by
            rw [atI_lt hin.1 (by rw [ptrs_len]; exact qn)]
            have := ptrs_get n 0 q.1.toNat qn
            rw [List.getElem?_eq_getElem (by rw [ptrs_len]; exact qn), Nat.zero_add] at this
            exact this
          obtain ⟨o, ho⟩ : ∃ o, x.told.getD q.1.toNat none = o := ⟨_, rfl⟩
          obtain ⟨nw, hnw⟩ : ∃ o, x.newest.getD q.1.toNat none = o := ⟨_, rfl⟩
          obtain ⟨tkn, htkn⟩ : ∃ o, x.taken.getD q.1.toNat none = o := ⟨_, rfl⟩
          have st0 : (stX n x)[q.1.toNat]? = some ⟨nw, o, tkn⟩ := by unfold stX; rw [sts_get qn, ho, hnw, htkn]
          obtain ⟨ok, hok'⟩ : ∃ k, ltakes form o nw t = k := ⟨_, rfl⟩
          have hsk : stakes form ⟨nw, o, tkn⟩ t = ok := by rw [stakes_eq hf]; exact hok'
          have ex : wstep r form x i (.act "write" u) = ⟨x.s, x.tk, x.many, x.found ++ [⟨i, u, q.1, t, ok⟩], x.told.set q.1.toNat (bif ogt t o then some t else o), x.newest, x.taken.set q.1.toNat (bif ok then some t else tkn)⟩ := by
            simp only [wstep, if_pos, wwrite, hq, htk, Option.getD_some, ho, hnw, htkn, hok']
          have hst : (stX n x).set q.1.toNat (swrote form ⟨nw, o, tkn⟩ t) = sts n x.newest (x.told.set q.1.toNat (bif ogt t o then some t else o)) (x.taken.set q.1.toNat (bif ok then some t else tkn)) := by
            unfold stX
            rw [sts_set qn l1 l2 l3]
            unfold swrote
            rw [hsk, told_eq]
            simp only
            rw [← hnw, set_getD]
          have hgu : kpD (aget (toSD x.s).us u) = prD q := by rw [sget_us inv, hq]; rfl
          refine ds_if (k := true) (dt_eq (dt_val (q_call (F_is_write T) (da_cons (de_var 10) da_nil) (Ev.act "write" u).D rfl ⟨th_ev _, rfl⟩)) (by show (decide (("write" : Str) = "write") && decide (0 ≤ u)) = true; rw [decide_eq_true hu]; simp)) (fun _ =>
            ds_set 11 sc_led.nd (de_eq (d' := prD q) (q_meth (ME_used_by T) (de_var 3) (da_cons (q_ix (d := .int u) (de_var 10) de_int (.tup rfl)) da_nil) (toSD x.s, u) rfl trivial) hgu) <|
            ds_if (k := false) (qt_cmp (de_var 11) de_non (o2_is rfl)) (fun h => by cases h) (fun _ => ds_nil <|
            ds_set 12 sc_led.nd (q_ix (d := .int t) (de_var 5) (q_ix (d := .int u) (de_var 10) de_int (.tup rfl)) (ix_kv (f := D.int) (by have := lμ_tk (st := stX n x) (tk := x.tk) (f := x.found); rw [sl] at this; exact this) htk)) <|
            ds_expr (de_append (l := x.found.map Row.D) (μ2 := (lμ (stX n x) x.tk x.found).set q.1.toNat (stC (swrote form ⟨nw, o, tkn⟩ t))) (d := Row.D ⟨i, u, q.1, t, ok⟩) (de_var 7) (de_tup (da_cons (de_var 9) (da_cons (q_ix (d := .int u) (de_var 10) de_int (.tup rfl)) (da_cons (q_ix (d := .int q.1) (de_var 11) de_int (.tup rfl)) (da_cons (de_var 12) (da_cons (de_eq (d' := .bl ok) (q_cell (F_wrote T) q.1.toNat (da_cons (de_var 1) (da_cons (q_ix (d := .ptr q.1.toNat) (de_var 4) (q_ix (d := .int q.1) (de_var 11) de_int (.tup rfl)) (.lst at1)) (da_cons (de_var 12) da_nil))) (form, t) ⟨nw, o, tkn⟩ rfl (lμ_st st0) trivial) (congrArg D.bl hsk)) da_nil))))) (by walk_at "z")) ⟨_, by have := lμ_f (st := stX n x) (tk := x.tk) (f := x.found); rw [sl] at this; exact this⟩ ?_ (Nat.lt_of_lt_of_le (by rw [List.length_map]; omega) (sz_small (Nat.le_refl 1000)))) <|
            ds_cont ?_)) (fun h => by cases h)
          · rw [lμ_setSt (by rw [sl]; exact qn)]
            have := lμ_f (st := (stX n x).set q.1.toNat (swrote form ⟨nw, o, tkn⟩ t)) (tk := x.tk) (f := x.found)
            rw [List.length_set, sl] at this
            exact this
          · refine go _ ex (sz.mono (by omega)) inv ⟨l1, by simpa using l2, by simpa using l3⟩ (Nat.le_succ_of_le ht) (by simp; omega) _ _ ?_ (by walk_at "g")
            rw [lμ_setSt (by rw [sl]; exact qn)]
            have := lμ_setF (st := (stX n x).set q.1.toNat (swrote form ⟨nw, o, tkn⟩ t)) (tk := x.tk) (f := x.found) (x.found ++ [⟨i, u, q.1, t, ok⟩])
            rw [List.length_set, sl, List.map_append] at this
            rw [show (x.found.map Row.D ++ [Row.D ⟨i, u, q.1, t, ok⟩]) = x.found.map Row.D ++ List.map Row.D [⟨i, u, q.1, t, ok⟩] from rfl, this, hst]
            rfl
        · obtain ⟨wm, wc, wb⟩ : w ∈ evWords ∧ lcan r x.s (.act w u) = true ∧ (w = "borrow" → ∀ q, aget (lbehind r x.s (.act w u)).1.us u = some q → seatIn x q.1) := by
            have : wok1 r x (.act w u) := w1
            simp only [wok1, if_neg hwr] at this
            exact this
          have eok : (Ev.act w u).Ok := wm
          have est : wstep r form x i (.act w u) = wled r x (.act w u) := by simp only [wstep, if_neg hwr]
          have gd : evGood (.act w u) = true := good_of eok fun w' u' e => by cases e; exact hu
          have inv2 := inv_behind (r := r) inv (.act w u)
          have plain : ∀ {Γ' : Gm} {μ' : Mu}, wled r x (.act w u) = ⟨(lbehind r x.s (.act w u)).1, x.tk, x.many, x.found, x.told, x.newest, x.taken⟩ → _ := fun {Γ' μ'} ex => go _ (est.trans ex) (szb _) inv2 ⟨l1, l2, l3⟩ (Nat.le_succ_of_le ht) (Nat.le_succ_of_le hfo) Γ' μ'
          refine ds_if (k := false) (dt_eq (dt_val (q_call (F_is_write T) (da_cons (de_var 10) da_nil) (Ev.act w u).D rfl ⟨th_ev _, rfl⟩)) (by show (decide _ && decide (0 ≤ u)) = false; rw [decide_eq_false hwr]; rfl)) (fun h => by cases h) (fun _ => ds_nil <|
            ds_if (k := false) (dt_w (dw_or (k := false) (k' := false) (dt_eq (dt_not (dt_val (q_call (F_is_event T) (da_cons (de_var 10) da_nil) (Ev.act w u).D rfl ⟨th_ev _, rfl⟩))) (by show (!evGood (.act w u)) = false; rw [gd]; rfl)) (fun _ => dw_or1 (dt_eq (dt_not (dt_val (q_call (F_is_possible T) (da_cons (de_var 0) (da_cons (de_var 3) (da_cons (de_var 10) da_nil))) (r, toSD x.s, Ev.act w u) rfl eok))) (by show (!spossible r (toSD x.s) (.act w u)) = false; rw [poss _ eok wc]; rfl))))) (fun h => by cases h) (fun _ => ds_nil <|
            ds_set 3 sc_led.nd (d := (toSD (lbehind r x.s (.act w u)).1).D) (q_ix (q_call (F_behind T) (da_cons (de_var 0) (da_cons (de_var 3) (da_cons (de_var 10) da_nil))) (r, toSD x.s, Ev.act w u) rfl ⟨toSD_sz (sz.mono (by omega)), eok⟩) de_int (.tup (by show some (sbehind r (toSD x.s) (.act w u)).1.D = _; rw [beh _ eok]))) ?_))
          by_cases hb : w = "borrow"
          · have hbb : decide (w = "borrow") = true := decide_eq_true hb
            cases hq : aget (lbehind r x.s (.act w u)).1.us u with
            | none =>
              have hgu : kpD (aget (toSD (lbehind r x.s (.act w u)).1).us u) = .non := by rw [sget_us inv2, hq]; rfl
              refine ds_set 11 sc_led.nd (d := .non) (de_if' (k := true) (dt_eq (qt_cmp (q_ix (d := .str w) (de_var 10) de_int (.tup rfl)) de_str o2_eqZ) hbb) (fun _ => de_eq (q_meth (ME_used_by T) (de_var 3) (da_cons (q_ix (d := .int u) (de_var 10) de_int (.tup rfl)) da_nil) (toSD (lbehind r x.s (.act w u)).1, u) rfl trivial) hgu) (fun h => by cases h)) <|
                ds_if (k := !true) (qt_cmp (de_var 11) de_non (o2_isnt rfl)) (fun h => absurd h (by decide)) (fun _ => ds_nil <| ds_nil ?_)
              exact plain (by unfold wled; simp only [hq]) rfl (by walk_at "g")
            | some q =>
              have sin := wb hb q hq
              have qn : q.1.toNat < n := by have := sin.2.1; omega
              have at1 : atI (ptrs 0 n) q.1 = some (.ptr q.1.toNat) := by
                rw [atI_lt sin.1 (by rw [ptrs_len]; exact qn)]
                have := ptrs_get n 0 q.1.toNat qn
                rw [List.getElem?_eq_getElem (by rw [ptrs_len]; exact qn), Nat.zero_add] at this
                exact this
              obtain ⟨o, ho⟩ : ∃ o, x.told.getD q.1.toNat none = o := ⟨_, rfl⟩
              obtain ⟨nw, hnw⟩ : ∃ o, x.newest.getD q.1.toNat none = o := ⟨_, rfl⟩
              obtain ⟨tkn, htkn⟩ : ∃ o, x.taken.getD q.1.toNat none = o := ⟨_, rfl⟩
              have st0 : (stX n x)[q.1.toNat]? = some ⟨nw, o, tkn⟩ := by unfold stX; rw [sts_get qn, ho, hnw, htkn]
              have hgu : kpD (aget (toSD (lbehind r x.s (.act w u)).1).us u) = prD q := by rw [sget_us inv2, hq]; rfl
              have hst : (stX n x).set q.1.toNat ⟨some x.many, o, tkn⟩ = sts n (x.newest.set q.1.toNat (some x.many)) x.told x.taken := by
                unfold stX
                rw [sts_set qn l1 l2 l3]
                simp only
                rw [← ho, ← htkn, set_getD, set_getD]
              have ex : wled r x (.act w u) = ⟨(lbehind r x.s (.act w u)).1, aput x.tk u x.many, x.many + 1, x.found, x.told, x.newest.set q.1.toNat (some x.many), x.taken⟩ := by
                unfold wled; simp only [hq, hbb, cond_true]
              have mtk : (lμ (stX n x) x.tk x.found).set n (.dic (dput (kvD D.int x.tk) (.inl u) (.int x.many))) = lμ (stX n x) (aput x.tk u x.many) x.found := by
                rw [dput_kv]
                have := lμ_setTk (st := stX n x) (tk := x.tk) (f := x.found) (aput x.tk u x.many)
                rw [sl] at this
                exact this
              refine ds_set 11 sc_led.nd (d := prD q) (de_if' (k := true) (dt_eq (qt_cmp (q_ix (d := .str w) (de_var 10) de_int (.tup rfl)) de_str o2_eqZ) hbb) (fun _ => de_eq (q_meth (ME_used_by T) (de_var 3) (da_cons (q_ix (d := .int u) (de_var 10) de_int (.tup rfl)) da_nil) (toSD (lbehind r x.s (.act w u)).1, u) rfl trivial) hgu) (fun h => by cases h)) <|
                ds_if (k := !false) (qt_cmp (de_var 11) de_non (o2_isnt rfl)) (fun _ =>
                  ds_dput (kds := kvD D.int x.tk) (hu_of hr) (de_var 8) (de_var 5) (q_ix (d := .int u) (de_var 10) de_int (.tup rfl)) .int (by have := lμ_tk (st := stX n x) (tk := x.tk) (f := x.found); rw [sl] at this; exact this) (by rw [kvD_len]; exact Nat.lt_of_lt_of_le (by omega : x.tk.length < 1000) (sz_small (Nat.le_refl 1000))) ?_) (fun h => absurd h (by decide))
              rw [mtk]
              refine ds_fld (fl_Store_newest T) (n := 2) (fs := (⟨nw, o, tkn⟩ : St3).fs) (de_var 8) (q_ix (d := .ptr q.1.toNat) (de_var 4) (q_ix (d := .int q.1) (de_var 11) de_int (.tup rfl)) (.lst at1)) (lμ_st st0) (by walk_at "z") <|
                ds_aug (i := 8) (z := 0) (fun i j => i + j) sc_led.nd rfl ip_add de_int <| ds_nil <| ds_nil ?_
              refine go _ (est.trans ex) (szb _) inv2 ⟨by simpa using l1, l2, l3⟩ (Nat.le_trans (aput_len _ _ _) (by omega)) (Nat.le_succ_of_le hfo) _ _ ?_ (by walk_at "g")
              have := lμ_setSt (st := stX n x) (tk := aput x.tk u x.many) (f := x.found) (i := q.1.toNat) (by rw [sl]; exact qn) ⟨some x.many, o, tkn⟩
              rw [hst] at this
              exact this
          · have hbb : decide (w = "borrow") = false := decide_eq_false hb
            refine ds_set 11 sc_led.nd (d := .non) (de_if' (k := false) (dt_eq (qt_cmp (q_ix (d := .str w) (de_var 10) de_int (.tup rfl)) de_str o2_eqZ) hbb) (fun h => by cases h) (fun _ => de_non)) <|
              ds_if (k := !true) (qt_cmp (de_var 11) de_non (o2_isnt rfl)) (fun h => absurd h (by decide)) (fun _ => ds_nil <| ds_nil ?_)
            refine plain ?_ rfl (by walk_at "g")
            unfold wled
            cases hq : aget (lbehind r x.s (.act w u)).1.us u with
            | none => simp only [hq]
            | some q => simp only [hq, hbb, cond_false]
  · obtain ⟨i, es', he, hl, sz, inv, ln, ht, hfo, hus', hwk, hfin⟩ := hJ
    cases es' with
    | cons e es' => rw [List.map_cons, List.cons_append, List.zipIdx_cons] at he; cases he
    | nil =>
      cases htl with
      | cons _ _ _ => rw [List.map_nil, List.nil_append, List.zipIdx_cons] at he; cases he
      | nil =>
      have hx : x = wsteps r form 0 (wbegun r) es := hfin
      subst hx
      have sl : (stX n (wsteps r form 0 (wbegun r) es)).length = n := sts_len
      refine ds_fzL 4 (tl := [.dic (kvD D.int (wsteps r form 0 (wbegun r) es).tk), .lst ((wsteps r form 0 (wbegun r) es).found.map Row.D)]) ((stX n (wsteps r form 0 (wbegun r) es)).map fun s => (2, s.fs)) [] _ _ ?_ ?_ ?_
      · simp only [List.length_map, sl]; rfl
      · unfold lμ
        rw [List.map_map]; rfl
      · refine ds_ret (de_tup (da_cons (q_tuple (l := (wsteps r form 0 (wbegun r) es).found.map Row.D) (b_tuple T) (de_var 7) (.cell ?_)) (da_cons (de_var 4) da_nil)) (by walk_at "z")) ?_
        · simp [sl]
        · show _ = D.tup [_, D.lst ((stX r.s.toNat _).map _)]
          rw [hn]
          simp only [List.nil_append, List.map_map]; rfl
end
end Lw

namespace Lw
section
variable {P : Program} {wd : World} {K : PySem.W.Frag} {mg : Str → Option Value} {base : Heap}
theorem steps_len (r : RL) (form : Str) : ∀ (es : List Ev) (i : Nat) (x : WS), (wsteps r form i x es).newest.length = x.newest.length ∧ (wsteps r form i x es).told.length = x.told.length ∧ (wsteps r form i x es).taken.length = x.taken.length
  | [], _, _ => ⟨rfl, rfl, rfl⟩
  | e :: es, i, x => by
    have ih := steps_len r form es (i + 1) (wstep r form x i e)
    have h : (wstep r form x i e).newest.length = x.newest.length ∧ (wstep r form x i e).told.length = x.told.length ∧ (wstep r form x i e).taken.length = x.taken.length := by
      have hl : ∀ e, (wled r x e).newest.length = x.newest.length ∧ (wled r x e).told.length = x.told.length ∧ (wled r x e).taken.length = x.taken.length := by
        intro e
        cases e with
        | pass => exact ⟨rfl, rfl, rfl⟩
        | act w u =>
          unfold wled
          simp only
          cases aget (lbehind r x.s (.act w u)).1.us u with
          | none => exact ⟨rfl, rfl, rfl⟩
          | some q => cases decide (w = "borrow") <;> simp
      cases e with
      | pass => exact hl _
      | act w u =>
        unfold wstep
        simp only
        split
        · unfold wwrite; simp
        · exact hl _
    exact ⟨ih.1.trans h.1, ih.2.1.trans h.2.1, ih.2.2.trans h.2.2⟩
theorem sts_taken {n : Nat} {a b c : List (Option Int)} (h : c.length = n) : (sts n a b c).map (·.taken) = c := by
  apply List.ext_getElem?
  intro i
  rw [List.getElem?_map]
  by_cases hi : i < n
  · rw [sts_get hi]
    show some (c.getD i none) = c[i]?
    rw [List.getD_eq_getElem?_getD, List.getElem?_eq_getElem (l := c) (by omega)]; rfl
  · rw [List.getElem?_eq_none (l := sts n a b c) (by rw [sts_len]; omega), List.getElem?_eq_none (l := c) (by omega)]; rfl
theorem stX_taken (r : RL) (form : Str) (es : List Ev) : (stX r.s.toNat (wsteps r form 0 (wbegun r) es)).map (·.taken) = (wsteps r form 0 (wbegun r) es).taken :=
  sts_taken (by rw [(steps_len r form es 0 (wbegun r)).2.2]; simp [wbegun])
abbrev tkD (r : RL) (form : Str) (es : List Ev) : D := .tup ((wsteps r form 0 (wbegun r) es).taken.map oiD)
abbrev fdD (r : RL) (form : Str) (es : List Ev) : D := .tup ((wsteps r form 0 (wbegun r) es).found.map Row.D)
theorem F_written (T : Tx K mg) : EFn P wd K mg base (ct K) "written" 8 (fun ((r, form, es, tl, dd) : LX) => [ruleD r, .str form, dd]) (fun (r, form, es, tl, dd) => LedX r form es tl dd) (fun (r, form, es, tl, _) => ledO r form es (fdD r form es) tl) := by
  refine EFn.of (d_written T) (m_written T) sc_written (fun _ _ _ _ _ _ us hl => match us, hl with | [_, _, _], _ => rfl) (fun _ => rfl) (fun (r, form, es, tl, dd) h => ⟨by simp only [okDs, h.okd]; rfl, ledO_ok (by simp only [okD, ok_map 0 Row.D (fun _ => rfl)])⟩) ?_
  rintro f cdv A outer s H E ⟨r, form, es, tl, dd⟩ hr ok
  cases tl with
  | nil => exact ds_ret (q_ix (q_ecall (F_led T) (da_cons (de_var 0) (da_cons (de_var 1) (da_cons (de_var 2) da_nil))) (r, form, es, [], dd) rfl ok rfl) (de_int) (.tup rfl)) rfl
  | cons b t => exact ds_retX (dx_ix (q_ecallX (F_led T) (da_cons (de_var 0) (da_cons (de_var 1) (da_cons (de_var 2) da_nil))) (r, form, es, b :: t, dd) rfl ok rfl)) ⟨rfl, rfl⟩
theorem F__law_state (T : Tx K mg) : PFn P wd K mg base (ct K) "_law_state" 3 (fun ((r, es) : RL × List Ev) => [r.gv, .lst (es.map Ev.D)]) (fun (r, es) => (0 ≤ r.s ∧ r.s ≤ 100) ∧ es.length ≤ 500 ∧ lgo r (lbegun r.s) es) (fun (r, es) => (lstate r (lbegun r.s) es).D) := by
  refine PFn.of (d__law_state T) (m__law_state T) sc__law_state (fun _ _ _ _ _ _ us hl => match us, hl with | [_, _], _ => rfl) (fun _ => rfl) (fun (r, es) h => ⟨by simp only [okDs, okD, ok_map 0 Ev.D (ok_ev 0)]; rfl, ok_ls _ _⟩) ?_
  rintro f cdv A outer s H E ⟨r, es⟩ hr ⟨⟨h0, h1⟩, hl, hg⟩
  obtain ⟨L, hL⟩ : ∃ L, lstate r (lbegun r.s) es = L := ⟨_, rfl⟩
  -- 0 given, 1 events, 2 state, 3 event
  refine
    ds_set 2 sc__law_state.nd (q_call (F__law_begun T) (da_cons (de_var 0) da_nil) r rfl ⟨h0, by omega⟩) <|
    ds_forJ (S := LS) Ev.D es (fun s => [some r.gv, some (.lst (es.map Ev.D)), some s.D, none]) (fun _ => []) (fun rs s => (∃ i, i + rs.length ≤ 500 ∧ s.Sz (200 + i)) ∧ lgo r s rs ∧ lstate r s rs = L)
      (di_seq (de_var 1) rfl) ⟨lbegun r.s, by walk_at "g", rfl, ⟨0, by omega, ⟨Nat.zero_le _, by simp [lbegun]; omega, Nat.zero_le _⟩⟩, hg, hL⟩ (fun e rs s hJ => ⟨_, (dg_name 3 sc__law_state.nd), ?_⟩) (fun s hJ => ds_ret (de_var 2) ?_)
  · obtain ⟨⟨i, hi, sz⟩, ⟨ok, can, hg2⟩, hst⟩ := hJ
    simp only [List.length_cons] at hi
    exact ds_set 2 sc__law_state.nd (d := (lbehind r s e).1.D) (q_ix (q_call (F__law_behind T) (da_cons (de_var 0) (da_cons (de_var 2) (da_cons (de_var 3) da_nil))) (r, s, e) rfl ⟨sz.mono (by omega), ok, can⟩) (de_int) (.tup rfl)) <| ds_nil ⟨(lbehind r s e).1, by walk_at "g", rfl, ⟨i + 1, by omega, sz_behind sz e⟩, hg2, hst⟩
  · obtain ⟨-, -, hst⟩ := hJ
    show s.D = (lstate r (lbegun r.s) es).D
    rw [hL, ← hst]; rfl
end
end Lw

namespace Lw
section
variable {P : Program} {wd : World} {K : PySem.W.Frag} {mg : Str → Option Value} {base : Heap}
def spanD (r : RL) (form : Str) : D := bif decide (form = "sealed") || decide (r.g + r.t - r.l < 0) then .non else .int (r.g + r.t - r.l)
theorem F_late_span (T : Tx K mg) : PFn P wd K mg base (ct K) "late_span" 2 (fun ((r, form) : RL × Str) => [ruleD r, .str form]) (fun _ => True) (fun (r, form) => spanD r form) := by
  refine PFn.of (d_late_span T) (m_late_span T) sc_late_span (fun _ _ _ _ _ _ us hl => match us, hl with | [_, _], _ => rfl) (fun _ => rfl) (fun (r, form) _ => ⟨rfl, by show okD 0 (spanD r form) = true; unfold spanD; cases (decide (form = "sealed") || decide (r.g + r.t - r.l < 0)) <;> rfl⟩) ?_
  rintro f cdv A outer s H E ⟨r, form⟩ hr -
  -- 0 rule, 1 form, 2 found
  exact
    ds_set 2 sc_late_span.nd (q_op (q_call (F_reach T) (da_cons (de_var 0) da_nil) r rfl trivial) (q_attr (de_var 0) (.ins (fl_Rule_lapse T) rfl)) o2_sub) <|
    ds_ret (de_if (dt_w (dw_or (qt_cmp (de_var 1) de_str (by walk_at "o")) (fun _ => dw_or1 (qt_cmp (de_var 2) de_int o2_lt)))) (fun _ => de_non) (fun _ => de_var 2)) rfl
def safeI (r : RL) (form : Str) : Int := bif decide (form = "sealed") then 1 else r.g + r.t + 1
theorem F_safe_store (T : Tx K mg) : PFn P wd K mg base (ct K) "safe_store" 2 (fun ((r, form) : RL × Str) => [ruleD r, .str form]) (fun _ => True) (fun (r, form) => .int (safeI r form)) := by
  refine PFn.of (d_safe_store T) (m_safe_store T) sc_safe_store (fun _ _ _ _ _ _ us hl => match us, hl with | [_, _], _ => rfl) (fun _ => rfl) (fun (r, form) _ => ⟨rfl, rfl⟩) ?_
  rintro f cdv A outer s H E ⟨r, form⟩ hr -
  refine ds_ret (de_if (qt_cmp (de_var 1) de_str (by walk_at "o")) (fun _ => de_int) (fun _ => q_op (q_call (F_reach T) (da_cons (de_var 0) da_nil) r rfl trivial) de_int o2_add)) ?_
  show (bif decide (form = "sealed") then D.int 1 else D.int (r.g + r.t + 1)) = D.int (safeI r form)
  unfold safeI
  cases decide (form = "sealed") <;> rfl
theorem ME_numbers (T : Tx K mg) : PMe P wd K mg base (ct K) 0 "numbers" 1 (fun (r : RL) => [ruleD r]) (fun _ => True) (fun r => r.gv) := by
  refine PMe.of (d_Rule_numbers T) rfl (cl_Rule T) (me_Rule_numbers T) sc_Rule_numbers (fun _ _ _ _ _ _ us hl => match us, hl with | [_], _ => rfl) (fun _ => rfl) (fun r _ => ⟨rfl, rfl⟩) ?_
  rintro f cdv A outer s H E r hr -
  exact ds_ret (de_tup (da_cons (q_attr (de_var 0) (.ins (fl_Rule_seats T) rfl)) (da_cons (q_attr (de_var 0) (.ins (fl_Rule_lapse T) rfl)) (da_cons (q_attr (de_var 0) (.ins (fl_Rule_beat T) rfl)) (da_cons (q_attr (de_var 0) (.ins (fl_Rule_grace T) rfl)) (da_cons (q_attr (de_var 0) (.ins (fl_Rule_late T) rfl)) da_nil))))) (by walk_at "z")) rfl
def ruleWords : List Str := ["seats", "lapse", "beat", "grace", "late"]
def pairsOf (r : RL) : List (Str × Int) := [("seats", r.s), ("lapse", r.l), ("beat", r.b), ("grace", r.g), ("late", r.t)]
def butI (w : Str) (v : Int) (p : Str × Int) : Int := bif decide (p.1 = w) then v else p.2
def butR (r : RL) (w : Str) (v : Int) : RL := ⟨butI w v ("seats", r.s), butI w v ("lapse", r.l), butI w v ("beat", r.b), butI w v ("grace", r.g), butI w v ("late", r.t)⟩
theorem ME_but (T : Tx K mg) : PMe P wd K mg base (ct K) 0 "but" 5 (fun ((r, w, v) : RL × Str × Int) => [ruleD r, .str w, .int v]) (fun (r, w, v) => w ∈ ruleWords ∧ (butR r w v).Pos) (fun (r, w, v) => ruleD (butR r w v)) := by
  refine PMe.of (d_Rule_but T) rfl (cl_Rule T) (me_Rule_but T) sc_Rule_but (fun _ _ _ _ _ _ us hl => match us, hl with | [_, _, _], _ => rfl) (fun _ => rfl) (fun (r, w, v) _ => ⟨rfl, rfl⟩) ?_
  rintro f cdv A outer s H E ⟨r, w, v⟩ hr ⟨hw, ok⟩
  have known : decide (w ∈ (["seats", "lapse", "beat", "grace", "late"] : List Str)) = true := decide_eq_true hw
  -- 0 self, 1 word, 2 number, 3 given, 4 other, 5 known
  refine
    ds_if (k := false) (dt_w (dw_or (k := false) (k' := false) (dt_not (dt_val (q_isi (b_isinstance T) (de_var 1) (de_tystr (b_str T)) rfl (kit_t (by decide +kernel))))) (fun _ => dw_or1 (dt_eq (qt_nin (de_var 1) (de_glob (c_WORDS T)) (.strs (ns := ["seats", "lapse", "beat", "grace", "late"]) rfl)) (by rw [known]; rfl))))) (fun h => by cases h) (fun _ => ds_nil <|
    ds_setLcU 3 [("other", 4), ("known", 5)] (pairsOf r) (fun p => D.tup [.str p.1, .int p.2]) (fun p => D.int (butI w v p)) sc_Rule_but.nd (di_zip (xs := [.str "seats", .str "lapse", .str "beat", .str "grace", .str "late"]) (ys := [.int r.s, .int r.l, .int r.b, .int r.g, .int r.t]) (b_zip T) (da_cons (de_glob (c_WORDS T)) (da_cons (q_meth0 (ME_numbers T) (de_var 0) r rfl trivial) da_nil)) rfl) (blkOk_by (show blkC n_Rule_but (defScope s_Rule_but) _ _ = true by decide +kernel))
      (fun z hz => ⟨_, (by simp), (fun s H C cl fp => dg_tup rfl (dgs_cons (dg_name 4 sc_Rule_but.nd) (dgs_cons (dg_name 5 sc_Rule_but.nd) dgs_nil))), (fun s H C cl fp => de_eq (de_if (qt_cmp (de_var 4) (de_var 1) (o2_eqS rfl rfl rfl)) (fun _ => de_var 2) (fun _ => de_var 5)) ?_)⟩) <|
    ds_ret (q_make (M_Rule5 T) (da_cons (q_ix (d := .int (butR r w v).s) (de_var 3) de_int (.lst rfl)) (da_cons (q_ix (d := .int (butR r w v).l) (de_var 3) de_int (.lst rfl)) (da_cons (q_ix (d := .int (butR r w v).b) (de_var 3) de_int (.lst rfl)) (da_cons (q_ix (d := .int (butR r w v).g) (de_var 3) de_int (.lst rfl)) (da_cons (q_ix (d := .int (butR r w v).t) (de_var 3) de_int (.lst rfl)) da_nil))))) (butR r w v) rfl ok) rfl)
  show _ = D.int (bif decide (z.1 = w) then v else z.2)
  obtain ⟨kn, hkn⟩ : ∃ kn, decide (z.1 = w) = kn := ⟨_, rfl⟩
  have e : decide (V.str z.1 = V.str w) = kn := by
    rw [← hkn]
    by_cases h : z.1 = w
    · rw [h]; simp
    · have : ¬ V.str z.1 = V.str w := fun q => h (by cases q; rfl)
      rw [decide_eq_false h, decide_eq_false this]
  rw [hkn, e]
  cases kn <;> rfl
end
end Lw

namespace Lw
section
variable {P : Program} {wd : World} {K : PySem.W.Frag} {mg : Str → Option Value} {base : Heap}
structure Drawn (r : RL) : Prop where
  s1 : 1 ≤ r.s
  s2 : r.s ≤ 4
  l1 : 1 ≤ r.l
  l2 : r.l ≤ 9
  b1 : 1 ≤ r.b
  b2 : r.b ≤ 9
  g1 : 1 ≤ r.g
  g2 : r.g ≤ 9
  t0 : 0 ≤ r.t
  t1 : r.t ≤ 3
theorem Drawn.pos {r : RL} (h : Drawn r) : r.Pos := ⟨h.s1, h.l1, h.b1, h.g1, h.t0⟩
theorem spanD_no {r : RL} {form : Str} (h : r.g + r.t - r.l < 0) : spanD r form = .non := by unfold spanD; rw [decide_eq_true h, Bool.or_true]; rfl
theorem spanD_yes {r : RL} {form : Str} (fo : form = "open" ∨ form = "highest") (h : ¬ r.g + r.t - r.l < 0) : spanD r form = .int (r.g + r.t - r.l) := by
  have e : decide (form = "sealed") = false := by rcases fo with rfl | rfl <;> decide +kernel
  unfold spanD; rw [e, decide_eq_false h]; rfl
theorem rowD_sm {j : Nat} (h : j ≤ 100) : Sm (.tup [Row.D ⟨j, 0, 0, 0, true⟩]) := by
  refine ⟨?_, ?_, ?_⟩
  · simp only [Row.D, smD, smDs, Bool.and_eq_true, decide_eq_true_eq]
    refine ⟨⟨?_, ?_, ?_, ?_, trivial, trivial⟩, trivial⟩ <;> omega
  · simp [Row.D, dpD, dpDs]
  · simp [Row.D, wtD, wtDs]
theorem ok_evl (es : List Ev) : okD 0 (.lst (es.map Ev.D)) = true := by simp only [okD, ok_map 0 Ev.D (ok_ev 0)]
theorem slots_len {K : PySem.W.Frag} {ct : Nat → Addr} {A : List Addr} {F : Hp} : ∀ {Γ : Gm} {σ : L2.St}, Slots K ct A F Γ σ → Γ.length = σ.length
  | _, _, .nil => rfl
  | _, _, .any h => congrArg (· + 1) (slots_len h)
  | _, _, .cons _ h => congrArg (· + 1) (slots_len h)
theorem F__law_span_right (T : Tx K mg) : EFn P wd K mg base (ct K) "_law_span_right" 10 (fun ((r, form) : RL × Str) => [r.gv, .str form]) (fun (r, form) => Drawn r ∧ (form = "open" ∨ form = "highest")) (fun _ => .val (.bl true)) := by
  refine EFn.of (d__law_span_right T) (m__law_span_right T) sc__law_span_right (fun _ _ _ _ _ _ us hl => match us, hl with | [_, _], _ => rfl) (fun _ => rfl) (fun (r, form) _ => ⟨rfl, rfl⟩) ?_
  rintro f cdv A outer s H E ⟨r, form⟩ hr ⟨dr, fo⟩
  have hu := hu64 hr
  have rp := dr.pos
  obtain ⟨s1, s2, l1, l2, b1, b2, g1, g2, t0, t1⟩ := dr
  have fo3 : okForm form := by
    rcases fo with h | h
    · exact .inl h
    · exact .inr (.inl h)
  obtain ⟨l, hl⟩ : ∃ l : Nat, r.l = (l : Int) := ⟨r.l.toNat, by omega⟩
  have hlz : r.l.toNat = l := by omega
  obtain ⟨m, hm⟩ : ∃ m : Nat, l = m + 1 := ⟨l - 1, by omega⟩
  -- 0 given, 1 form, 2 ahead, 3 found, 4 deeds, 5 rows, 6 refused, 7 e
  refine
    ds_set 2 sc__law_span_right.nd (d := .lst ((headE l).map Ev.D)) (de_eq (q_op (q_op (de_lst (da_cons (de_tup (da_cons de_str (da_cons de_int da_nil)) (by walk_at "z")) (da_cons (de_tup (da_cons de_str (da_cons de_int da_nil)) (by walk_at "z")) da_nil)) (by walk_at "z")) (q_op (de_lst (da_cons (de_tup (da_cons de_str da_nil) (by walk_at "z")) da_nil) (by walk_at "z")) (q_ix (d := .int r.l) (de_var 0) de_int (.tup rfl)) (o2_repL (by omega) (by omega) (sz_small (by simp; omega)))) (o2_catL (sz_small (by simp; omega)))) (de_lst (da_cons (de_tup (da_cons de_str (da_cons de_int da_nil)) (by walk_at "z")) (da_cons (de_tup (da_cons de_str (da_cons de_int da_nil)) (by walk_at "z")) da_nil)) (by walk_at "z")) (o2_catL (sz_small (by simp; omega)))) ?_) <|
    ds_set 3 sc__law_span_right.nd (d := spanD r form) (q_call (F_late_span T) (da_cons (q_call (F__law_ruled T) (da_cons (de_var 0) da_nil) r rfl rp) (da_cons (de_var 1) da_nil)) (r, form) rfl trivial) ?_
  · rw [rep1, hlz]
    simp [headE, Ev.D]
  by_cases neg : r.g + r.t - r.l < 0
  · rw [spanD_no neg]
    have le : decide (r.l ≤ r.g + r.t) = false := decide_eq_false (by omega)
    exact
      ds_if (k := !(!true == false)) (qt_cmp (q_cmp (de_var 3) de_non (o2_isnt rfl)) (de_eq (d' := .bl false) (q_cmp (q_ix (d := .int r.l) (de_var 0) de_int (.tup rfl)) (q_op (q_ix (d := .int r.g) (de_var 0) de_int (.tup rfl)) (q_ix (d := .int r.t) (de_var 0) de_int (.tup rfl)) o2_add) o2_le) (congrArg D.bl le)) o2_neB) (fun h => absurd h (by decide)) (fun _ => ds_nil <|
      ds_if (k := true) (qt_cmp (de_var 3) de_non (o2_is rfl)) (fun _ => ds_ret de_bl rfl) (fun h => by cases h))
  · rw [spanD_yes fo neg]
    have le : decide (r.l ≤ r.g + r.t) = true := decide_eq_true (by omega)
    obtain ⟨fn, hf⟩ : ∃ fn : Nat, r.g + r.t - r.l = (fn : Int) := ⟨(r.g + r.t - r.l).toNat, by omega⟩
    have hfz : (r.g + r.t - r.l).toNat = fn := by omega
    have ft : Fit r (r.s.toNat - 1) true m := ⟨by omega, by omega, by omega, by omega, .inl rfl⟩
    have reach : r.l + fn ≤ r.g + r.t := by omega
    have w3 := late_ok ft form fn reach
    have f3 := late_found ft form fo fn reach
    have w2 := ahead_ok ft form fn reach
    rw [← hm] at w3 f3 w2
    obtain ⟨E2, hE2⟩ : ∃ E2, headE l ++ List.replicate fn Ev.pass = E2 := ⟨_, rfl⟩
    have nw := headE_nwr l fn
    have us3 := headE_us l fn [.act "write" 0] (fun e he w u ee => by simp at he; subst he; cases ee; decide)
    have us2 := headE_us l fn [] (fun e he => by cases he)
    rw [List.append_nil] at us2
    rw [hE2] at w3 f3 w2 nw us3 us2
    have len2 : E2.length = l + 4 + fn := by rw [← hE2, List.length_append, headE_len, List.length_replicate]
    have st2 := steps_state r form E2 0 (wbegun r) w2.1
    rw [w2.2, nw] at st2
    have stuck : lcan r (lstate r (lbegun r.s) E2) .pass = false := by
      rw [← show StC _ _ _ = lstate r (lbegun r.s) E2 from st2.1, canPC]
      exact decide_eq_false (by omega)
    have sz2 : (lstate r (lbegun r.s) E2).Sz 1000 := by
      rw [← show StC _ _ _ = lstate r (lbegun r.s) E2 from st2.1]
      exact ⟨by simp [StC], by simp [StC]; omega, by simp [StC]⟩
    have lx3 : LedX r form (E2 ++ [Ev.act "write" 0]) [] (.lst ((E2 ++ [Ev.act "write" 0]).map Ev.D)) := ⟨by omega, by omega, by simp; omega, fo3, w3, us3, ok_evl _, .inl ⟨by rw [List.append_nil]; rfl, .nil⟩⟩
    have bad : Bad r (wsteps r form 0 (wbegun r) E2).s Ev.pass.D := .ev (e := .pass) trivial rfl (by rw [w2.2, canPC]; exact decide_eq_false (by omega))
    have lx4 : LedX r form E2 [Ev.pass.D, (Ev.act "write" 0).D] (.lst (E2.map Ev.D ++ [Ev.pass.D, (Ev.act "write" 0).D])) := ⟨by omega, by omega, by omega, fo3, w2.1, us2, by simp only [okD, okDs_app, ok_map 0 Ev.D (ok_ev 0)]; rfl, .inl ⟨rfl, .cons (th_ev .pass) rfl bad⟩⟩
    have lst2 : (headE l).map Ev.D ++ List.replicate fn (D.tup [.str "pass"]) = E2.map Ev.D := by rw [← hE2]; simp [Ev.D]
    have lst4 : (headE l).map Ev.D ++ List.replicate (fn + 1) (D.tup [.str "pass"]) ++ [D.tup [.str "write", .int 0]] = E2.map Ev.D ++ [Ev.pass.D, (Ev.act "write" 0).D] := by rw [← lst2, List.replicate_succ']; simp [Ev.D]
    have hlen : ((headE l).map Ev.D).length = l + 4 := by rw [List.length_map, headE_len]
    have row3 : fdD r form (E2 ++ [Ev.act "write" 0]) = .tup [Row.D ⟨m + 5 + fn, 0, 0, 0, true⟩] := by
      show D.tup ((wsteps r form 0 (wbegun r) (E2 ++ [Ev.act "write" 0])).found.map Row.D) = _
      rw [f3]; rfl
    have sm := rowD_sm (j := m + 5 + fn) (by omega)
    have pre3 : 0 ≤ r.s ∧ r.s ≤ 100 := by omega
    refine
      ds_if (k := !(!false == true)) (qt_cmp (q_cmp (de_var 3) de_non (o2_isnt rfl)) (de_eq (d' := .bl true) (q_cmp (q_ix (d := .int r.l) (de_var 0) de_int (.tup rfl)) (q_op (q_ix (d := .int r.g) (de_var 0) de_int (.tup rfl)) (q_ix (d := .int r.t) (de_var 0) de_int (.tup rfl)) o2_add) o2_le) (congrArg D.bl le)) o2_neB) (fun h => absurd h (by decide)) (fun _ => ds_nil <|
      ds_if (k := false) (qt_cmp (de_var 3) de_non (o2_is rfl)) (fun h => by cases h) (fun _ => ds_nil <|
      ds_set 4 sc__law_span_right.nd (d := .lst ((E2 ++ [Ev.act "write" 0]).map Ev.D)) (de_eq (q_op (q_op (de_var 2) (q_op (de_lst (da_cons (de_tup (da_cons de_str da_nil) (by walk_at "z")) da_nil) (by walk_at "z")) (de_var 3) (o2_repL (by omega) (by omega) (sz_small (by simp; omega)))) (o2_catL (sz_small (by simp [hlen]; omega)))) (de_lst (da_cons (de_tup (da_cons de_str (da_cons de_int da_nil)) (by walk_at "z")) da_nil) (by walk_at "z")) (o2_catL (sz_small (by simp [hlen]; omega)))) (by rw [rep1, hfz, lst2]; simp [Ev.D])) <|
      ds_set 5 sc__law_span_right.nd (d := .tup [Row.D ⟨m + 5 + fn, 0, 0, 0, true⟩]) (de_eq (q_ecall (F_written T) (da_cons (q_call (F__law_ruled T) (da_cons (de_var 0) da_nil) r rfl rp) (da_cons (de_var 1) (da_cons (de_var 4) da_nil))) (r, form, E2 ++ [Ev.act "write" 0], [], .lst ((E2 ++ [Ev.act "write" 0]).map Ev.D)) rfl lx3 rfl) row3) <|
      ds_if (k := false) (dt_w (dw_or (k := false) (k' := false) (qt_cmp (de_var 5) (de_eq (d' := .tup [Row.D ⟨m + 5 + fn, 0, 0, 0, true⟩]) (q_ix (q_call (F__law_written T) (da_cons (de_var 0) (da_cons (de_var 1) (da_cons (de_var 4) da_nil))) (r, form, E2 ++ [Ev.act "write" 0], .lst ((E2 ++ [Ev.act "write" 0]).map Ev.D)) rfl ⟨pre3.1, pre3.2, by simp; omega, fo3, w3, rfl, ok_evl _⟩) de_int (.tup rfl)) row3) (o2_same hu sm).2) (fun _ => dw_or (k := !(true == true)) (k' := false) (qt_cmp (q_ix (d := .bl true) (q_ix (d := Row.D ⟨m + 5 + fn, 0, 0, 0, true⟩) (de_var 5) de_int (.tup rfl)) de_int (.tup rfl)) de_bl o2_isntB) (fun _ => dw_or1 (dt_eq (qt_cmp (q_ix (d := .int 0) (q_ix (d := Row.D ⟨m + 5 + fn, 0, 0, 0, true⟩) (de_var 5) de_int (.tup rfl)) de_int (.tup rfl)) de_int o2_neI) rfl))))) (fun h => by cases h) (fun _ => ds_nil <|
      ds_if (k := false) (dt_eq (dt_val (q_call (F__law_can T) (da_cons (de_var 0) (da_cons (q_call (F__law_state T) (da_cons (de_var 0) (da_cons (de_eq (d' := .lst (E2.map Ev.D)) (q_op (de_var 2) (q_op (de_lst (da_cons (de_tup (da_cons de_str da_nil) (by walk_at "z")) da_nil) (by walk_at "z")) (de_var 3) (o2_repL (by omega) (by omega) (sz_small (by simp; omega)))) (o2_catL (sz_small (by simp [hlen]; omega)))) (by rw [rep1, hfz, lst2])) da_nil)) (r, E2) rfl ⟨pre3, by omega, st2.2⟩) (da_cons (de_tup (da_cons de_str da_nil) (by walk_at "z")) da_nil))) (r, lstate r (lbegun r.s) E2, Ev.pass) rfl ⟨sz2, trivial⟩)) stuck) (fun h => by cases h) (fun _ => ds_nil <|
      ds_set 6 sc__law_span_right.nd (de_non) <|
      ds_tryA (m := 10) 7 rfl rfl sc__law_span_right.nd rfl rfl ⟨rfl, by decide, .inl (m_InvalidDay T)⟩ fun pn xe po =>
        ds_exprX (q_ecallX (F_written T) (da_cons (q_call (F__law_ruled T) (da_cons (de_var 0) da_nil) r rfl rp) (da_cons (de_var 1) (da_cons (de_eq (d' := .lst (E2.map Ev.D ++ [Ev.pass.D, (Ev.act "write" 0).D])) (q_op (q_op (de_var 2) (q_op (de_lst (da_cons (de_tup (da_cons de_str da_nil) (by walk_at "z")) da_nil) (by walk_at "z")) (q_op (de_var 3) de_int o2_add) (o2_repL (by omega) (by omega) (sz_small (by simp; omega)))) (o2_catL (sz_small (by simp [hlen]; omega)))) (de_lst (da_cons (de_tup (da_cons de_str (da_cons de_int da_nil)) (by walk_at "z")) da_nil) (by walk_at "z")) (o2_catL (sz_small (by simp [hlen]; omega)))) (by rw [rep1, show (r.g + r.t - r.l + 1).toNat = fn + 1 by omega, lst4])) da_nil))) (r, form, E2, [Ev.pass.D, (Ev.act "write" 0).D], .lst (E2.map Ev.D ++ [Ev.pass.D, (Ev.act "write" 0).D])) rfl lx4 rfl) ⟨(x_InvalidDay T).hit, ?_⟩))))
    intro a oe dd pn2 hz hf2
    cases dd with
    | none => exact ⟨_, pss_never, fun D σ H F A rl na xo k => by
        rcases xo with xo | ⟨dx, vfs, e1, _⟩
        · cases xo
        · cases e1⟩
    | some dx =>
      refine ⟨_, pss_cons (ps_set (i := 6) sc__law_span_right.nd rfl (.inl rfl) (pe_xf (x_InvalidDay T).xf (x_InvalidDay T).no hz hf2 (pe_excName (i := 7) rfl))) pss_nil, ?_⟩
      intro D σ H F A rl na xo k
      rcases xo with xo | ⟨dx', vfs, e1, e2, e3, e4⟩
      · cases xo
      cases e1
      match vfs, e3, e4 with
      | [(nm, v)], e3, e4 =>
        obtain rfl : nm = "at" := (List.cons.inj e3).1
        cases e4 with
        | cons rv _ =>
          have s7 : (σ.set 7 (some (V.ref a)))[7]? = some (some (V.ref a)) := by
            have := slots_len rl.s
            rw [List.getElem?_set_self (by rw [← this]; exact (by decide : (7 : Nat) < 8))]
          refine ⟨s7, rfl, rfl, dx, _, v, rfl, e2, by simp, ?_⟩
          refine k _ _ _ _ F A (.refl _) pr ⟨rl.m, (rl.s.wipe1 7).set rv 6⟩ ?_
          refine ds_ret (q_cmp (d := .bl true) (de_var 6) (q_op (q_len (b_len T) (de_var 2) (.seq rfl)) (de_var 3) o2_add) ?_) rfl
          have eq : decide (((E2.length : Nat) : Int) = ((((headE l).map Ev.D).length : Nat) : Int) + (r.g + r.t - r.l)) = true := decide_eq_true (by rw [hlen, len2, hf]; omega)
          rw [← eq]
          exact o2_eqI
end
end Lw

namespace Lw
section
variable {P : Program} {wd : World} {K : PySem.W.Frag} {mg : Str → Option Value} {base : Heap}
def itB (l : Int) (b : Int × Int) : Nat → Int × Int
  | 0 => b
  | n + 1 => tkN l (itB l b n)
theorem itB_ok {l : Int} (hl : 0 < l) {b : Int × Int} (hb : BoxOk b) : ∀ n, BoxOk (itB l b n)
  | 0 => hb
  | n + 1 => tkN_ok hl (itB_ok hl hb n)
theorem but_lapse (r : RL) (v : Int) : butR r "lapse" v = ⟨r.s, v, r.b, r.g, r.t⟩ := by
  have e1 : decide (("seats" : Str) = "lapse") = false := by decide +kernel
  have e2 : decide (("lapse" : Str) = "lapse") = true := by decide +kernel
  have e3 : decide (("beat" : Str) = "lapse") = false := by decide +kernel
  have e4 : decide (("grace" : Str) = "lapse") = false := by decide +kernel
  have e5 : decide (("late" : Str) = "lapse") = false := by decide +kernel
  simp only [butR, butI, e1, e3, e4, e5, cond_false]
  rfl
theorem in_lapse : ("lapse" : Str) ∈ ruleWords := by decide +kernel
theorem none_met (r : RL) (u v : Int) (form : Str) (h : r.g + r.t < v) : faultsOf ⟨r.s, v, r.b, r.g, r.t⟩ u form = [] := by
  have e : decide (r.g + r.t < v) = true := decide_eq_true h
  unfold faultsOf
  rw [List.filter_eq_nil_iff]
  intro x _
  simp [canMeet, e]
theorem safe_of (r : RL) {form : Str} (fo : form = "open" ∨ form = "highest") : safeI r form = r.g + r.t + 1 := by
  have e : decide (form = "sealed") = false := by rcases fo with rfl | rfl <;> decide +kernel
  unfold safeI; rw [e]; rfl
theorem met_of (r : RL) {u : Int} (hu : ¬ u ≤ 1) : canMeet ⟨r.s, r.g + r.t, r.b, r.g, r.t⟩ u "open" "back" = true ∧ canMeet ⟨r.s, r.g + r.t, r.b, r.g, r.t⟩ u "open" "late" = true ∧ canMeet ⟨r.s, r.g + r.t, r.b, r.g, r.t⟩ u "highest" "back" = false ∧ canMeet ⟨r.s, r.g + r.t, r.b, r.g, r.t⟩ u "highest" "late" = true := by
  have e : decide (r.g + r.t < r.g + r.t) = false := decide_eq_false (by omega)
  have e2 : decide (u ≤ 1) = false := decide_eq_false hu
  refine ⟨?_, ?_, ?_, ?_⟩ <;> simp (decide := true) [canMeet, e, e2]
theorem span_sealed (r : RL) : spanD r "sealed" = .non := by
  have e : decide (("sealed" : Str) = "sealed") = true := by decide +kernel
  unfold spanD; rw [e]; rfl
theorem safe_sealed (r : RL) : D.int (safeI r "sealed") = .int 1 := by
  have e : decide (("sealed" : Str) = "sealed") = true := by decide +kernel
  unfold safeI; rw [e]; rfl
theorem faults_open {r : RL} {u : Int} (h1 : canMeet r u "open" "back" = true) (h2 : canMeet r u "open" "late" = true) : D.tup ((faultsOf r u "open").map .str) = .tup [.str "back", .str "late"] := by
  unfold faultsOf
  rw [List.filter_cons, h1, List.filter_cons, h2]; rfl
theorem faults_high {r : RL} {u : Int} (h1 : canMeet r u "highest" "back" = false) (h2 : canMeet r u "highest" "late" = true) : D.tup ((faultsOf r u "highest").map .str) = .tup [.str "late"] := by
  unfold faultsOf
  rw [List.filter_cons, h1, List.filter_cons, h2]; rfl
abbrev great : RL := ⟨2, 400000, 7, 999999, 1⟩
theorem great_span : spanD great "highest" = .int 600000 := (spanD_yes (.inr rfl) (by decide)).trans (congrArg D.int (by decide))
theorem great_safe : safeI great "open" = 1000001 := (safe_of great (.inl rfl)).trans (by decide)
theorem great_least : (bif canMeet great 60 "open" "back" then D.int (leastOf great "back") else .non) = .int 400005 := by
  have c : canMeet great 60 "open" "back" = true := by decide +kernel
  have l : leastOf great "back" = 400005 := by decide +kernel
  rw [c, l]; rfl
theorem great_faults : faultsOf great 2 "highest" = (["late"] : List Str) := by decide +kernel
theorem law_body (T : Tx K mg) (f : Addr) (cdv : Value) (s : Shared) (H : Hp) (sc : List Int) (hr : Room 10 (callerA.deeper (envOfC "law" (defScope s_law) s.heap.objs.size f cdv))) :
    DSs (cxOf CX0 P wd K mg base n_law "law" (defScope s_law) f cdv callerA [] s H fun _ _ _ => False).nox (ct K) (defBody s_law) ((([D.scr (sc.map .int)] : List D)).map some ++ List.replicate (n_law.length - 1) none) [] { nx := fun _ _ => False, rt := fun d2 _ => d2 = .bl true } := by
  have scl : (((sc.map D.int).length : Nat) : Int) = (sc.length : Nat) := by simp
  have hu := hu64 hr
  have sm0 : Sm (.tup []) := ⟨rfl, by decide, by decide⟩
  have sml : Sm (.tup [.str "late"]) := ⟨by simp only [smD, smDs]; decide +kernel, by decide, by decide⟩
  -- 0 script, 1 k, 2 box, 3 turn, 4 some, 5 number, 6 given, 7 rule, 8 form, 9 least, 10 lapse, 11 great
  refine
    ds_forJ (S := Mu) (fun i : Nat => D.int (i : Int)) (List.range (max 1 (min 4 (sc.length : Int))).toNat) (fun _ => [some (.scr (sc.map .int)), none, none, none, none, none, none, none, none, none, none, none]) (fun μ => μ) (fun rs _ => ∀ k ∈ rs, k ≤ 100)
      (di_rangeM (b_range T) (de_eq (de_max rfl (b_max T) (de_int) (de_min rfl (b_min T) (de_int) (q_len (b_len T) (de_var 0) (by walk_at "l")))) (by rw [scl])) (by omega) (by omega)) ⟨[], by walk_at "g", rfl, fun k hk => by rw [List.mem_range] at hk; omega⟩ (fun k rs μ hJ => ⟨_, (dg_name 1 sc_law.nd), ?_⟩) (fun μ _ =>
      ds_set 11 sc_law.nd (d := ruleD great) (q_make (M_Rule5 T) (da_cons de_int (da_cons de_int (da_cons de_int (da_cons de_int (da_cons de_int da_nil))))) great rfl ⟨by decide, by decide, by decide, by decide, by decide⟩) <|
      ds_if (k := false) (dt_w (dw_or (k := false) (k' := false) (dt_eq (qt_cmp (de_eq (q_call (F_late_span T) (da_cons (de_var 11) (da_cons de_str da_nil)) (great, "highest") rfl trivial) great_span) de_int o2_neI) rfl) (fun _ => dw_or1 (dt_eq (qt_cmp (de_eq (q_call (F_safe_store T) (da_cons (de_var 11) (da_cons de_str da_nil)) (great, "open") rfl trivial) (congrArg D.int great_safe)) de_int o2_neI) rfl)))) (fun h => by cases h) (fun _ => ds_nil <|
      ds_if (k := false) (dt_w (dw_or (k := false) (k' := false) (dt_eq (qt_cmp (de_eq (q_call (F_least_deeds T) (da_cons (de_var 11) (da_cons de_int (da_cons de_str (da_cons de_str da_nil)))) (great, 60, "open", "back") rfl (.inl rfl)) great_least) de_int o2_neI) rfl) (fun _ => dw_or1 (qt_cmp (de_eq (d' := .tup [.str "late"]) (q_call (F_store_faults T) (da_cons (de_var 11) (da_cons de_int (da_cons de_str da_nil))) (great, 2, "highest") rfl trivial) (by show D.tup ((faultsOf great 2 "highest").map .str) = _; rw [great_faults]; rfl)) (de_tup (da_cons de_str da_nil) (by walk_at "z")) (o2_same hu sml).2)))) (fun h => by cases h) (fun _ => ds_nil <|
      ds_ret (q_cmp (de_eq (d' := .int 0) (q_call (F_late_span T) (da_cons (q_make (M_Rule4 T) (da_cons (de_int) (da_cons (de_int) (da_cons (de_int) (da_cons (de_int) da_nil)))) (1, 3, 1, 3) rfl ⟨by decide, by decide, by decide, by decide⟩) (da_cons de_str da_nil)) ((⟨1, 3, 1, 3, 0⟩ : RL), "open") rfl trivial) ((spanD_yes (.inl rfl) (by decide)).trans (congrArg D.int (by decide)))) de_int o2_eqI) rfl)))
  have hk := hJ k List.mem_cons_self
  have hJ' : ∀ k ∈ rs, k ≤ 100 := fun k hk => hJ k (List.mem_cons_of_mem _ hk)
  refine ds_set 2 sc_law.nd (q_new (F__law_box T) (da_cons (de_var 0) (da_cons (de_var 1) (da_cons (de_int) da_nil))) (sc, k, 79) rfl ⟨hk, by decide, by decide⟩) <|
    ds_forJ (S := Int × Int) (fun i : Nat => D.int (i : Int)) (List.range 5) (fun _ => [some (.scr (sc.map .int)), none, some (.ptr μ.length), none, none, none, none, none, none, none, none, none]) (fun b => μ ++ [boxC b]) (fun _ b => BoxOk b)
      (di_rangeM (b_range T) (de_int) (by decide) (by decide)) ⟨boxOf sc k 79, by walk_at "g", rfl, boxOf_ok hk (by decide) (by decide)⟩ (fun tn _ b hb => ⟨_, (dg_name 3 sc_law.nd), ?_⟩) (fun b hb => ds_nil ⟨_, by walk_at "g", rfl, hJ'⟩)
  obtain ⟨r, hrr⟩ : ∃ r : RL, r = ⟨1 + tk 4 (itB 9 b 3), 1 + tk 9 b, 1 + tk 9 (itB 9 b 1), 1 + tk 9 (itB 9 b 2), tk 4 (tkN 4 (itB 9 b 3))⟩ := ⟨_, rfl⟩
  have hb3 : BoxOk (itB 9 b 3) := itB_ok (by decide) hb 3
  have hb4 := tkN_ok (l := 4) (by decide) hb3
  have hb5 := tkN_ok (l := 4) (by decide) hb4
  have dr : Drawn r := by
    have a1 := tk_lt (l := 4) (b := itB 9 b 3) (by decide)
    have a2 := tk_lt (l := 9) (b := b) (by decide)
    have a3 := tk_lt (l := 9) (b := itB 9 b 1) (by decide)
    have a4 := tk_lt (l := 9) (b := itB 9 b 2) (by decide)
    have a5 := tk_lt (l := 4) (b := tkN 4 (itB 9 b 3)) (by decide)
    rw [hrr]
    refine ⟨?_, ?_, ?_, ?_, ?_, ?_, ?_, ?_, ?_, ?_⟩ <;> show _ ≤ _ <;> simp only <;> omega
  have rp := dr.pos
  refine ds_setLc 4 [("number", 5)] rfl sc_law.nd (di_rangeM (n := 3) (b_range T) (de_int) (by decide) (by decide)) (blkOk_by (show blkC n_law (defScope s_law) _ _ = true by decide +kernel))
    (fun i acc μ' => acc = (List.range i).map (fun q => D.int (1 + tk 9 (itB 9 b q))) ∧ μ' = μ ++ [boxC (itB 9 b i)]) ⟨rfl, rfl⟩ (fun i d acc μ' hd ⟨h1, h2⟩ => ?_) (fun i acc μ' ⟨h1, h2⟩ => by rw [h1]; simp) (res := [.int (1 + tk 9 b), .int (1 + tk 9 (itB 9 b 1)), .int (1 + tk 9 (itB 9 b 2))]) (μ2 := μ ++ [boxC (itB 9 b 3)]) (fun acc μ' ⟨h1, h2⟩ => ⟨h1, h2⟩) ?_ rfl rfl rfl (by intro _; rfl)
  · subst h1 h2
    refine ⟨[(5, d)], true, _, (by simp), (fun s H C cl fp => dg_name 5 sc_law.nd), (fun s H C cl fp => dts_nil), fun _ => ⟨_, _, (fun s H C cl fp => q_op de_int (q_boxL (F__law_take T) (da_cons (de_var 2) (da_cons de_int da_nil)) 9 rfl ⟨by decide, by decide, itB_ok (by decide) hb i⟩) (by walk_at "o")), ?_, rfl⟩, fun z => by cases z⟩
    rw [List.range_succ, List.map_append]; rfl
  refine
    ds_set 6 sc_law.nd (d := r.gv) (de_eq (de_tup (da_cons (q_op (de_int) (q_boxL (F__law_take T) (da_cons (de_var 2) (da_cons (de_int) da_nil)) 4 rfl ⟨by decide, by decide, hb3⟩) (by walk_at "o")) (da_cons (q_ix (de_var 4) (de_int) (.lst rfl)) (da_cons (q_ix (de_var 4) (de_int) (.lst rfl)) (da_cons (q_ix (de_var 4) (de_int) (.lst rfl)) (da_cons (q_boxL (F__law_take T) (da_cons (de_var 2) (da_cons (de_int) da_nil)) 4 rfl ⟨by decide, by decide, hb4⟩) da_nil))))) (by walk_at "z")) (by rw [hrr]; rfl)) <|
    ds_set 7 sc_law.nd (d := ruleD r) (q_call (F__law_ruled T) (da_cons (de_var 6) da_nil) r rfl rp) <|
    ds_if (k := false) (dt_w (dw_or (k := !true) (k' := false) (qt_cmp (de_eq (d' := .non) (q_call (F_late_span T) (da_cons (de_var 7) (da_cons de_str da_nil)) (r, "sealed") rfl trivial) (span_sealed r)) de_non (o2_isnt rfl)) (fun _ => dw_or1 (dt_eq (qt_cmp (de_eq (d' := .int 1) (q_call (F_safe_store T) (da_cons (de_var 7) (da_cons de_str da_nil)) (r, "sealed") rfl trivial) (safe_sealed r)) de_int o2_neI) rfl)))) (fun h => by cases h) (fun _ => ds_nil <|
    ds_forJ (S := Unit) D.str (["open", "highest"] : List Str) (fun _ => [some (.scr (sc.map .int)), none, some (.ptr μ.length), none, none, none, some r.gv, some (ruleD r), none, none, none, none]) (fun _ => μ ++ [boxC (tkN 4 (tkN 4 (itB 9 b 3)))]) (fun rs _ => ∀ x ∈ rs, x = "open" ∨ x = "highest")
      (di_seq (de_tup (da_cons (de_str) (da_cons (de_str) da_nil)) (by walk_at "z")) rfl) ⟨(), by walk_at "g", rfl, fun x hx => by simpa using hx⟩ (fun form fs _ hF => ⟨_, (dg_name 8 sc_law.nd), ?_⟩) (fun _ _ => ds_nil ⟨_, by walk_at "g", rfl, hb5⟩))
  have fo := hF form List.mem_cons_self
  have hF' : ∀ x ∈ fs, x = "open" ∨ x = "highest" := fun x hx => hF x (List.mem_cons_of_mem _ hx)
  have g1 := dr.g1
  have g2 := dr.g2
  have t0 := dr.t0
  have t1 := dr.t1
  have bp : ∀ v : Int, 1 ≤ v → (butR r "lapse" v).Pos := fun v hv => by rw [but_lapse]; exact ⟨rp.s, hv, rp.b, rp.g, rp.t⟩
  have mets := met_of r (u := 2) (by decide)
  have mets9 := met_of r (u := 9) (by decide)
  have ec : r.g + r.t + 1 - 1 = r.g + r.t := by omega
  refine
    ds_if (k := false) (dt_eq (dt_not (dt_val (q_ecall (F__law_span_right T) (da_cons (de_var 6) (da_cons (de_var 8) da_nil)) (r, form) rfl ⟨dr, fo⟩ rfl))) rfl) (fun h => by cases h) (fun _ => ds_nil <|
    ds_set 9 sc_law.nd (d := .int (r.g + r.t + 1)) (de_eq (q_call (F_safe_store T) (da_cons (de_var 7) (da_cons (de_var 8) da_nil)) (r, form) rfl trivial) (congrArg D.int (safe_of r fo))) <|
    ds_forJ (S := Unit) D.int [r.g + r.t + 1, r.g + r.t + 1 + 1, r.g + r.t + 1 + 40] (fun _ => [some (.scr (sc.map .int)), none, some (.ptr μ.length), none, none, none, some r.gv, some (ruleD r), some (.str form), some (.int (r.g + r.t + 1)), none, none]) (fun _ => μ ++ [boxC (tkN 4 (tkN 4 (itB 9 b 3)))]) (fun rs _ => ∀ v ∈ rs, r.g + r.t < v)
      (di_seq (de_tup (da_cons (de_var 9) (da_cons (q_op (de_var 9) de_int o2_add) (da_cons (q_op (de_var 9) de_int o2_add) da_nil))) (by walk_at "z")) rfl) ⟨(), by walk_at "g", rfl, fun v hv => by simp at hv; omega⟩ (fun v vs _ hV => ⟨_, (dg_name 10 sc_law.nd), ?_⟩) (fun _ _ => ?_))
  · have hv := hV v List.mem_cons_self
    exact ds_if (k := false) (qt_cmp (de_eq (d' := .tup []) (q_call (F_store_faults T) (da_cons (q_meth (ME_but T) (de_var 7) (da_cons de_str (da_cons (de_var 10) da_nil)) (r, "lapse", v) rfl ⟨in_lapse, bp v (by omega)⟩) (da_cons de_int (da_cons (de_var 8) da_nil))) (butR r "lapse" v, 60, form) rfl trivial) (by show D.tup ((faultsOf (butR r "lapse" v) 60 form).map .str) = _; rw [but_lapse, none_met r 60 v form hv]; rfl)) (de_tup da_nil (by walk_at "z")) (o2_same hu sm0).2) (fun h => by cases h) (fun _ => ds_nil <| ds_nil ⟨(), by walk_at "g", rfl, fun x hx => hV x (List.mem_cons_of_mem _ hx)⟩)
  · have big : decide (r.g + r.t + 1 < 2) = false := decide_eq_false (by omega)
    have bpos := bp (r.g + r.t + 1 - 1) (by omega)
    have eb : butR r "lapse" (r.g + r.t + 1 - 1) = ⟨r.s, r.g + r.t, r.b, r.g, r.t⟩ := by rw [but_lapse, ec]
    rcases fo with rfl | rfl
    · exact
        ds_if (k := false) (dt_w (dw_or (k := false) (k' := false) (dt_eq (qt_cmp (de_var 9) de_int o2_lt) big) (fun _ => dw_or1 (dt_eq (qt_cmp (de_eq (d' := .tup [.str "back", .str "late"]) (q_call (F_store_faults T) (da_cons (q_meth (ME_but T) (de_var 7) (da_cons de_str (da_cons (q_op (de_var 9) de_int o2_sub) da_nil)) (r, "lapse", r.g + r.t + 1 - 1) rfl ⟨in_lapse, bpos⟩) (da_cons de_int (da_cons (de_var 8) da_nil))) (butR r "lapse" (r.g + r.t + 1 - 1), 2, "open") rfl trivial) (by show D.tup ((faultsOf (butR r "lapse" (r.g + r.t + 1 - 1)) 2 "open").map .str) = _; rw [eb]; exact faults_open mets.1 mets.2.1)) (de_tup da_nil (by walk_at "z")) (o2_eqD (pa := .tuple [.str "back", .str "late"]) (pb := .tuple []) hu rfl rfl (by decide +kernel) (by decide +kernel))) (by simp [PyData.eqv, PyData.eqvAll]))))) (fun h => by cases h) (fun _ => ds_nil <|
        ds_if (k := false) (qt_cmp (de_eq (d' := .int (leastOf ⟨r.s, r.g + r.t, r.b, r.g, r.t⟩ "late")) (q_call (F_least_deeds T) (da_cons (q_meth (ME_but T) (de_var 7) (da_cons de_str (da_cons (q_op (de_var 9) de_int o2_sub) da_nil)) (r, "lapse", r.g + r.t + 1 - 1) rfl ⟨in_lapse, bpos⟩) (da_cons de_int (da_cons (de_var 8) (da_cons de_str da_nil)))) (butR r "lapse" (r.g + r.t + 1 - 1), 9, "open", "late") rfl (.inr rfl)) (by show (bif canMeet (butR r "lapse" (r.g + r.t + 1 - 1)) 9 "open" "late" then D.int (leastOf (butR r "lapse" (r.g + r.t + 1 - 1)) "late") else .non) = _; rw [eb, mets9.2.1]; rfl)) de_non (o2_is rfl)) (fun h => by cases h) (fun _ => ds_nil <|
        ds_nil ⟨(), by walk_at "g", rfl, hF'⟩))
    · exact
        ds_if (k := false) (dt_w (dw_or (k := false) (k' := false) (dt_eq (qt_cmp (de_var 9) de_int o2_lt) big) (fun _ => dw_or1 (dt_eq (qt_cmp (de_eq (d' := .tup [.str "late"]) (q_call (F_store_faults T) (da_cons (q_meth (ME_but T) (de_var 7) (da_cons de_str (da_cons (q_op (de_var 9) de_int o2_sub) da_nil)) (r, "lapse", r.g + r.t + 1 - 1) rfl ⟨in_lapse, bpos⟩) (da_cons de_int (da_cons (de_var 8) da_nil))) (butR r "lapse" (r.g + r.t + 1 - 1), 2, "highest") rfl trivial) (by show D.tup ((faultsOf (butR r "lapse" (r.g + r.t + 1 - 1)) 2 "highest").map .str) = _; rw [eb]; exact faults_high mets.2.2.1 mets.2.2.2)) (de_tup da_nil (by walk_at "z")) (o2_eqD (pa := .tuple [.str "late"]) (pb := .tuple []) hu rfl rfl (by decide +kernel) (by decide +kernel))) (by simp [PyData.eqv, PyData.eqvAll]))))) (fun h => by cases h) (fun _ => ds_nil <|
        ds_if (k := false) (qt_cmp (de_eq (d' := .int (leastOf ⟨r.s, r.g + r.t, r.b, r.g, r.t⟩ "late")) (q_call (F_least_deeds T) (da_cons (q_meth (ME_but T) (de_var 7) (da_cons de_str (da_cons (q_op (de_var 9) de_int o2_sub) da_nil)) (r, "lapse", r.g + r.t + 1 - 1) rfl ⟨in_lapse, bpos⟩) (da_cons de_int (da_cons (de_var 8) (da_cons de_str da_nil)))) (butR r "lapse" (r.g + r.t + 1 - 1), 9, "highest", "late") rfl (.inr rfl)) (by show (bif canMeet (butR r "lapse" (r.g + r.t + 1 - 1)) 9 "highest" "late" then D.int (leastOf (butR r "lapse" (r.g + r.t + 1 - 1)) "late") else .non) = _; rw [eb, mets9.2.2.2]; rfl)) de_non (o2_is rfl)) (fun h => by cases h) (fun _ => ds_nil <|
        ds_nil ⟨(), by walk_at "g", rfl, hF'⟩))
end
end Lw

end

namespace Lw
open PySem PySem.Spec PyProof.Rows L2 DL
theorem run (w : World) : HandSHeadRun.RunEq R (PySem.W.view R.prog [ilaw]) hk ob 8000 others w := by
  intro os
  kernel_rfl
end Lw

namespace Lw
open PySem PySem.Spec PyProof.Rows L2 DL
theorem facts {P : Program} {w : World} {K : PySem.W.Frag} {h : Heap} {mg mb : Str → Option Value} {f a : Addr} {vs : List Value} {ns : List Int} {st : Shared} (X : K.In h) (G : h.Ns mainGlobals mg) (hfa : mg ("law" : Str) = some (.ref f)) (c : SaysX fa fn xb K)
    (inH : K.In st.heap) (main : st.heap.Ns mainGlobals mg) (bl : st.heap.Ns builtinsNs mb) (boot : ∀ y : Str, y ≠ "__name__" → mb y = bootBuiltins y) (lim : st.heap.NoLimit) (gen : st.gens = #[])
    (obj : st.heap.get? a = some { cls := .type "list", data := .seq vs.toArray }) (nums : IntsAre vs ns) (small : ns.length ≤ sizeLine) :
    codeAny (model P w) callerA (.call (.ref f) ⟨[.ref a], []⟩) (fun r s' => r = .ok (.ret (.bool true)) ∧ OldK st.heap s'.heap ∧ s'.os = st.os ∧ AllBare s'.gens) st := by
  have T : Tx K mg := ⟨h, X, G, c⟩
  obtain ⟨fd, F⟩ := d_law T
  have e := hfa.symm.trans (m_law T)
  cases e
  have b := FunD.bindsA (ps := ["script"]) F fun _ _ _ _ _ _ us hl => match us, hl with | [_], _ => rfl
  have hr : Room 11 callerA := ⟨rfl, by decide, by decide⟩
  exact law_here (ct := ct K) (k := 10) inH main bl boot lim gen obj nums small hr F sc_law (fun s v => b s [v] rfl) fun base cdv s H => law_body T _ cdv s H ns (hr.deeper _)
end Lw
open PySem PySem.W PySem.Calls PyProof.Rows
theorem PySem.Challenge.cw_lapseseats_k79_late_spans_and_safe_lapse_holds : PySem.Challenge.rw_lapseseats_k79_late_spans_and_safe_lapse.Holds := by
  w_on; o_law
  refine HandSHeadRun.head_any (r := OpenLaw.row PySem.Challenge.rw_lapseseats_k79_late_spans_and_safe_lapse) (q := view (OpenLaw.row PySem.Challenge.rw_lapseseats_k79_late_spans_and_safe_lapse).prog [Lw.ilaw]) (H := Lw.hk) (ob := Lw.ob) (M := 8000) (loose := Lw.others) (d := HandSHeadRun.topDef (OpenLaw.row PySem.Challenge.rw_lapseseats_k79_late_spans_and_safe_lapse).prog Lw.ilaw) (kwd := []) Lw.ob_eq
    (by kernel_rfl) (fun s => by kernel_rfl) Lw.run (by kernel_rfl) (by kernel_rfl) (by kernel_rfl) (by rfl) (by first | assumption | decide +kernel) (by decide +kernel) ⟨rfl, rfl, rfl, rfl, rfl, by decide +kernel⟩ ?hw ?hc
  case hw => w_witness2
  case hc =>
    refine Att.attach_call (l := PySem.Challenge.rw_lapseseats_k79_late_spans_and_safe_lapse) (n := 63) rfl rfl fun w s₀ s₁ mg mb fa o pm cd doc a vs ns G Y ho hd hcd hmg0 hobj hints hlen hg => ?_
    obtain ⟨K, KX, c⟩ := Y
    have hmg : mg ("law" : PySem.Str) = some (.ref fa) := by
      have e : (HandSHeadRun.topDef (OpenLaw.row PySem.Challenge.rw_lapseseats_k79_late_spans_and_safe_lapse).prog Lw.ilaw).name = ("law" : PySem.Str) := by kernel_rfl
      rw [← e]
      exact hmg0
    exact Lw.facts (P := (PySem.Challenge.rw_lapseseats_k79_late_spans_and_safe_lapse).prog) (w := w) KX G.T.g hmg c KX G.T.g G.T.b G.T.builtins G.T.nolimit hg hobj hints (Nat.le_trans hlen (by decide))

