import PyProof.Rows.All
import HandS.ForMost
import HandS.Evl
import HandS.Flow
import HandS.Deep
import HandS.TupAny
import HandS.Rev
import HandS.Zip
import KE.Datum
import KE.SortData
import HandS.Style
import HandS.Conv
import HandS.IsInst
import HandS.Text
import KE.DataCmp
import KE.DataEq
import KE.DataFind
import KE.DataMinMax
import KE.DataAny
import HandS.Walk
import HandS.Iter
import PySem.Challenge.RW_nobodywaits_k45_whole_most_pieces_that_f
set_option Elab.async false
set_option linter.all false
set_option maxRecDepth 100000
set_option maxHeartbeats 4000000
/-! Data layer, part 1: plain data over the heap; two worlds (what stays, what is); expressions by what data they give. -/
namespace Dl
open PySem L2 PySem.Spec PyProof.Rows
open Evl (Ex)

abbrev D := PyData

/-! ### a value that stands for data, in a heap where what it leans on never changes -/
mutual
inductive Rep (K : PySem.W.Frag) (B : Hp) : V → D → Prop
  | non : Rep K B .non .none
  | bl (b : Bool) : Rep K B (.bl b) (.bool b)
  | int (i : Int) : Rep K B (.int i) (.int i)
  | str (x : Str) : Rep K B (.str x) (.str x)
  | lst {a : Addr} {xs : List V} {ds : List D} : B a = some (.lst xs) → Reps K B xs ds → Rep K B (.ref a) (.list ds)
  | tup {a : Addr} {xs : List V} {ds : List D} : SqT K B a xs → Reps K B xs ds → Rep K B (.ref a) (.tuple ds)
inductive Reps (K : PySem.W.Frag) (B : Hp) : List V → List D → Prop
  | nil : Reps K B [] []
  | cons {v : V} {vs : List V} {d : D} {ds : List D} : Rep K B v d → Reps K B vs ds → Reps K B (v :: vs) (d :: ds)
end

section
variable {K : PySem.W.Frag} {B H B' H' B2 H2 : Hp}
mutual
theorem Rep.up (e : Ex B H) : ∀ {v : V} {d : D}, Rep K B v d → Rep K H v d
  | _, _, .non => .non
  | _, _, .bl b => .bl b
  | _, _, .int i => .int i
  | _, _, .str x => .str x
  | _, _, .lst h r => .lst (e _ _ h) (Reps.up e r)
  | _, _, .tup h r => .tup (Evl.ex_t e h) (Reps.up e r)
theorem Reps.up (e : Ex B H) : ∀ {vs : List V} {ds : List D}, Reps K B vs ds → Reps K H vs ds
  | _, _, .nil => .nil
  | _, _, .cons h r => .cons (Rep.up e h) (Reps.up e r)
end
mutual
theorem Rep.dp : ∀ {v : V} {d : D}, Rep K B v d → Dp K B v d
  | _, _, .non => .non
  | _, _, .bl b => .bl b
  | _, _, .int i => .int i
  | _, _, .str x => .str x
  | _, _, .lst h r => .lst (.inl (.inl h)) (Reps.dp r)
  | _, _, .tup h r => .tup h (Reps.dp r)
theorem Reps.dp : ∀ {vs : List V} {ds : List D}, Reps K B vs ds → DpAll K B vs ds
  | _, _, .nil => .nil
  | _, _, .cons h r => .cons (Rep.dp h) (Reps.dp r)
end
theorem Reps.len : ∀ {vs : List V} {ds : List D}, Reps K B vs ds → vs.length = ds.length
  | _, _, .nil => rfl
  | _, _, .cons _ r => by simp [Reps.len r]
theorem Reps.app : ∀ {vs us : List V} {ds es : List D}, Reps K B vs ds → Reps K B us es → Reps K B (vs ++ us) (ds ++ es)
  | _, _, _, _, .nil, r => r
  | _, _, _, _, .cons h t, r => .cons h (Reps.app t r)
theorem Reps.at : ∀ {vs : List V} {ds : List D} {i : Nat} {d : D}, Reps K B vs ds → ds[i]? = some d → ∃ v, vs[i]? = some v ∧ Rep K B v d
  | _, _, _, _, .nil, h => by simp at h
  | _, _, 0, _, .cons h _, e => by simp at e; subst e; exact ⟨_, rfl, h⟩
  | _, _, i + 1, d, .cons _ r, e => by
    obtain ⟨v, h1, h2⟩ := Reps.at (i := i) (d := d) r (by simpa using e)
    exact ⟨v, by simpa using h1, h2⟩
theorem Reps.atV : ∀ {vs : List V} {ds : List D} {i : Nat} {v : V}, Reps K B vs ds → vs[i]? = some v → ∃ d, ds[i]? = some d ∧ Rep K B v d
  | _, _, _, _, .nil, h => by simp at h
  | _, _, 0, _, .cons h _, e => by simp at e; subst e; exact ⟨_, rfl, h⟩
  | _, _, i + 1, v, .cons _ r, e => by
    obtain ⟨d, h1, h2⟩ := Reps.atV (i := i) (v := v) r (by simpa using e)
    exact ⟨d, by simpa using h1, h2⟩
theorem Reps.take : ∀ {vs : List V} {ds : List D} (n : Nat), Reps K B vs ds → Reps K B (vs.take n) (ds.take n)
  | _, _, 0, _ => .nil
  | _, _, _ + 1, .nil => .nil
  | _, _, n + 1, .cons h r => .cons h (Reps.take n r)
theorem Reps.drop : ∀ {vs : List V} {ds : List D} (n : Nat), Reps K B vs ds → Reps K B (vs.drop n) (ds.drop n)
  | _, _, 0, r => r
  | _, _, _ + 1, .nil => .nil
  | _, _, n + 1, .cons _ r => Reps.drop n r
theorem Reps.set {x : V} {d : D} (q : Rep K B x d) : ∀ {vs : List V} {ds : List D} (i : Nat), Reps K B vs ds → Reps K B (vs.set i x) (ds.set i d)
  | _, _, _, .nil => .nil
  | _, _, 0, .cons _ r => .cons q r
  | _, _, i + 1, .cons h r => .cons h (Reps.set q i r)
theorem Reps.rev : ∀ {vs : List V} {ds : List D}, Reps K B vs ds → Reps K B vs.reverse ds.reverse
  | _, _, .nil => .nil
  | _, _, .cons h r => by
    rw [List.reverse_cons, List.reverse_cons]
    exact (Reps.rev r).app (.cons h .nil)
theorem Reps.ints : ∀ {ns : List Int} {vs : List V}, Reps K B vs (ns.map PyData.int) → vs = ns.map V.int
  | [], _, .nil => rfl
  | n :: r, _, .cons h t => by cases h; rw [Reps.ints t]; rfl
theorem Reps.of_ints : ∀ (ns : List Int), Reps K B (ns.map V.int) (ns.map PyData.int)
  | [] => .nil
  | n :: r => .cons (.int n) (Reps.of_ints r)
theorem Reps.bools : ∀ {bs : List Bool} {vs : List V}, Reps K B vs (bs.map PyData.bool) → vs = bs.map V.bl
  | [], _, .nil => rfl
  | n :: r, _, .cons h t => by cases h; rw [Reps.bools t]; rfl
theorem Reps.of_bools : ∀ (ns : List Bool), Reps K B (ns.map V.bl) (ns.map PyData.bool)
  | [] => .nil
  | n :: r => .cons (.bl n) (Reps.of_bools r)
theorem Reps.strs : ∀ {bs : List Str} {vs : List V}, Reps K B vs (bs.map PyData.str) → vs = bs.map V.str
  | [], _, .nil => rfl
  | n :: r, _, .cons h t => by cases h; rw [Reps.strs t]; rfl
theorem Reps.of_strs : ∀ (ns : List Str), Reps K B (ns.map V.str) (ns.map PyData.str)
  | [] => .nil
  | n :: r => .cons (.str n) (Reps.of_strs r)

/-! ### two worlds: B stays for ever, H is the heap; B' and H' behind -/
def Nx (B H B' H' : Hp) : Prop := Ex B B' ∧ Ex H H' ∧ Ex B' H' ∧ ∀ a, H a ≠ none → B a = none → B' a = none
theorem Nx.refl (h : Ex B H) : Nx B H B H := ⟨Ex.refl B, Ex.refl H, h, fun _ _ e => e⟩
theorem Nx.trans (x : Nx B H B' H') (y : Nx B' H' B2 H2) : Nx B H B2 H2 := ⟨x.1.trans y.1, x.2.1.trans y.2.1, y.2.2.1, fun a h b => by
  have h' : H' a ≠ none := fun z => by
    cases q : H a with
    | none => exact h q
    | some o => rw [x.2.1 a o q] at z; cases z
  exact y.2.2.2 a h' (x.2.2.2 a h b)⟩
theorem Ex.none {p : Addr} (e : Ex B H) (h : H p = none) : B p = none := Evl.fresh_back e h
/-- a new object that will never change -/
theorem Nx.new {p : Addr} {o : HO} (e : Ex B H) (hp : H p = none) : Nx B H (upd B p o) (upd H p o) := by
  refine ⟨Ex.new (Ex.none e hp), Ex.new hp, fun a u z => ?_, fun a h b => ?_⟩
  · by_cases ha : a = p
    · subst ha; rw [upd_same] at z ⊢; exact z
    · rw [upd_ne ha] at z ⊢; exact e a u z
  · have ha : a ≠ p := fun z => h (by rw [z]; exact hp)
    rw [upd_ne ha]; exact b
/-- a new object that may still change -/
theorem Nx.own {p : Addr} {o : HO} (e : Ex B H) (hp : H p = none) : Nx B H B (upd H p o) := by
  refine ⟨Ex.refl B, Ex.new hp, fun a u z => ?_, fun a h b => b⟩
  have ha : a ≠ p := fun y => by rw [y, Ex.none e hp] at z; cases z
  rw [upd_ne ha]; exact e a u z
theorem Nx.lst {p : Addr} {vs : List V} {ds : List D} (r : Reps K B vs ds) (e : Ex B H) (hp : H p = none) : Rep K (upd B p (.lst vs)) (.ref p) (.list ds) :=
  .lst upd_same (Reps.up (Ex.new (Ex.none e hp)) r)
theorem Nx.tup {p : Addr} {vs : List V} {ds : List D} (r : Reps K B vs ds) (e : Ex B H) (hp : H p = none) : Rep K (upd B p (.tup vs)) (.ref p) (.tuple ds) :=
  .tup (.inl (.inl upd_same)) (Reps.up (Ex.new (Ex.none e hp)) r)
/-- a list just made is frozen -/
theorem Nx.freeze {p : Addr} {vs : List V} (n : Nx B H B' H') (hp : H p = none) (hb : B' p = none) (hh : H' p = some (.lst vs)) : Nx B H (upd B' p (.lst vs)) H' := by
  refine ⟨n.1.trans (Ex.new hb), n.2.1, fun a u z => ?_, fun a h b => ?_⟩
  · by_cases ha : a = p
    · subst ha; rw [upd_same] at z; rw [hh]; exact z
    · rw [upd_ne ha] at z; exact n.2.2.1 a u z
  · have ha : a ≠ p := fun z => h (by rw [z]; exact hp)
    rw [upd_ne ha]; exact n.2.2.2 a h b
end

/-! ### slots -/
inductive Sl where
  | no
  | val (d : D)
  | own (ds : List D)
  | scr (ns : List Int)
abbrev Env := List Sl

structure Holds (K : PySem.W.Frag) (B0 H0 : Hp) (ρ : Env) (σ : L2.St) (B H : Hp) : Prop where
  nx : Nx B0 H0 B H
  len : σ.length = ρ.length
  val : ∀ (i : Nat) (d : D), ρ[i]? = some (.val d) → ∃ v, σ[i]? = some (some v) ∧ Rep K B v d
  own : ∀ (i : Nat) (ds : List D), ρ[i]? = some (.own ds) → ∃ p vs, σ[i]? = some (some (.ref p)) ∧ H0 p = none ∧ B p = none ∧ H p = some (.lst vs) ∧ Reps K B vs ds
  scr : ∀ (i : Nat) (ns : List Int), ρ[i]? = some (.scr ns) → ∃ a, σ[i]? = some (some (.ref a)) ∧ SqL K B a (ns.map V.int)
  apart : ∀ (i j : Nat) (ds es : List D) (p : Addr), ρ[i]? = some (.own ds) → ρ[j]? = some (.own es) → σ[i]? = some (some (.ref p)) → σ[j]? = some (some (.ref p)) → i = j

section
variable {K : PySem.W.Frag} {B0 H0 B H B' H' : Hp} {ρ ρ' : Env} {σ : L2.St} {i : Nat} {v : V} {d : D}
theorem Holds.ex (h : Holds K B0 H0 ρ σ B H) : Ex B H := h.nx.2.2.1
theorem Holds.step (h : Holds K B0 H0 ρ σ B H) (n : Nx B H B' H') : Holds K B0 H0 ρ σ B' H' where
  nx := h.nx.trans n
  len := h.len
  val := fun i d e => by
    obtain ⟨v, h1, h2⟩ := h.val i d e
    exact ⟨v, h1, h2.up n.1⟩
  own := fun i ds e => by
    obtain ⟨p, vs, h1, h2, h3, h4, h5⟩ := h.own i ds e
    exact ⟨p, vs, h1, h2, n.2.2.2 p (by rw [h4]; simp) h3, n.2.1 p _ h4, h5.up n.1⟩
  scr := fun i ns e => by
    obtain ⟨a, h1, h2⟩ := h.scr i ns e
    exact ⟨a, h1, Evl.ex_l n.1 h2⟩
  apart := h.apart
theorem getset {α : Type} {l : List α} {i j : Nat} {x y : α} (h : (l.set i x)[j]? = some y) : (j = i ∧ x = y) ∨ (j ≠ i ∧ l[j]? = some y) := by
  by_cases e : i = j
  · subst e
    by_cases hl : i < l.length
    · rw [List.getElem?_set_self hl] at h
      exact .inl ⟨rfl, Option.some.inj h⟩
    · rw [List.getElem?_eq_none (by simpa using hl)] at h; cases h
  · rw [List.getElem?_set_ne e] at h
    exact .inr ⟨fun z => e z.symm, h⟩
/-- a slot is stored -/
theorem Holds.setv (h : Holds K B0 H0 ρ σ B H) (r : Rep K B v d) : Holds K B0 H0 (ρ.set i (.val d)) (σ.set i (some v)) B H where
  nx := h.nx
  len := by rw [List.length_set, List.length_set]; exact h.len
  val := fun j e q => by
    rcases getset q with ⟨rfl, z⟩ | ⟨ne, z⟩
    · cases z
      have hl : j < σ.length := by
        have := (List.getElem?_eq_some_iff.mp q).1
        rw [List.length_set] at this
        rw [h.len]; exact this
      exact ⟨v, List.getElem?_set_self hl, r⟩
    · rw [List.getElem?_set_ne (fun z => ne z.symm)]
      exact h.val j e z
  own := fun j ds q => by
    rcases getset q with ⟨_, z⟩ | ⟨ne, z⟩
    · cases z
    · rw [List.getElem?_set_ne (fun z => ne z.symm)]
      exact h.own j ds z
  scr := fun j ns q => by
    rcases getset q with ⟨_, z⟩ | ⟨ne, z⟩
    · cases z
    · rw [List.getElem?_set_ne (fun z => ne z.symm)]
      exact h.scr j ns z
  apart := fun j k ds es p q1 q2 q3 q4 => by
    rcases getset q1 with ⟨_, z⟩ | ⟨n1, z1⟩
    · cases z
    rcases getset q2 with ⟨_, z⟩ | ⟨n2, z2⟩
    · cases z
    rw [List.getElem?_set_ne (fun z => n1 z.symm)] at q3
    rw [List.getElem?_set_ne (fun z => n2 z.symm)] at q4
    exact h.apart j k ds es p z1 z2 q3 q4
/-- a slot that holds a list of its own -/
theorem Holds.seto {p : Addr} {vs : List V} {ds : List D} (h : Holds K B0 H0 ρ σ B H) (r : Reps K B vs ds) (h0 : H0 p = none) (hb : B p = none) (hh : H p = some (.lst vs))
    (ap : ∀ (j : Nat) (es : List D), j ≠ i → ρ[j]? = some (.own es) → σ[j]? ≠ some (some (.ref p))) : Holds K B0 H0 (ρ.set i (.own ds)) (σ.set i (some (.ref p))) B H where
  nx := h.nx
  len := by rw [List.length_set, List.length_set]; exact h.len
  val := fun j e q => by
    rcases getset q with ⟨_, z⟩ | ⟨ne, z⟩
    · cases z
    · rw [List.getElem?_set_ne (fun z => ne z.symm)]
      exact h.val j e z
  own := fun j es q => by
    rcases getset q with ⟨rfl, z⟩ | ⟨ne, z⟩
    · cases z
      have hl : j < σ.length := by
        have := (List.getElem?_eq_some_iff.mp q).1
        rw [List.length_set] at this
        rw [h.len]; exact this
      exact ⟨p, vs, List.getElem?_set_self hl, h0, hb, hh, r⟩
    · rw [List.getElem?_set_ne (fun z => ne z.symm)]
      exact h.own j es z
  scr := fun j ns q => by
    rcases getset q with ⟨_, z⟩ | ⟨ne, z⟩
    · cases z
    · rw [List.getElem?_set_ne (fun z => ne z.symm)]
      exact h.scr j ns z
  apart := fun j k es fs q q1 q2 q3 q4 => by
    rcases getset q1 with ⟨e1, z1⟩ | ⟨n1, z1⟩
    · rcases getset q2 with ⟨e2, z2⟩ | ⟨n2, z2⟩
      · rw [e1, e2]
      · exfalso
        rw [List.getElem?_set_ne (fun z => n2 z.symm)] at q4
        rcases getset q3 with ⟨_, z3⟩ | ⟨n3, z3⟩
        · cases z3
          exact ap k fs n2 z2 q4
        · exact n3 e1
    · rw [List.getElem?_set_ne (fun z => n1 z.symm)] at q3
      rcases getset q2 with ⟨e2, z2⟩ | ⟨n2, z2⟩
      · exfalso
        rcases getset q4 with ⟨_, z4⟩ | ⟨n4, z4⟩
        · cases z4
          exact ap j es n1 z1 q3
        · exact n4 e2
      · rw [List.getElem?_set_ne (fun z => n2 z.symm)] at q4
        exact h.apart j k es fs q z1 z2 q3 q4
/-- some slots forgotten -/
inductive Wk : Env → Env → Prop
  | nil : Wk [] []
  | k {x : Sl} {r s : Env} : Wk r s → Wk (x :: r) (x :: s)
  | n {x : Sl} {r s : Env} : Wk r s → Wk (x :: r) (.no :: s)
theorem Wk.at : ∀ {r s : Env}, Wk r s → r.length = s.length ∧ ∀ (i : Nat) (x : Sl), s[i]? = some x → x = .no ∨ r[i]? = some x
  | _, _, .nil => ⟨rfl, fun i x h => by simp at h⟩
  | _, _, .k w => ⟨by simp [w.at.1], fun i x h => by
      cases i with
      | zero => exact .inr h
      | succ i => exact w.at.2 i x (by simpa using h)⟩
  | _, _, .n w => ⟨by simp [w.at.1], fun i x h => by
      cases i with
      | zero => simp at h; exact .inl h.symm
      | succ i => exact w.at.2 i x (by simpa using h)⟩
theorem Wk.refl : ∀ (r : Env), Wk r r
  | [] => .nil
  | _ :: r => .k (Wk.refl r)
theorem Holds.wk (h : Holds K B0 H0 ρ σ B H) (w : Wk ρ ρ') : Holds K B0 H0 ρ' σ B H where
  nx := h.nx
  len := h.len.trans w.at.1
  val := fun i d e => (w.at.2 i _ e).elim (fun z => by cases z) fun z => h.val i d z
  own := fun i d e => (w.at.2 i _ e).elim (fun z => by cases z) fun z => h.own i d z
  scr := fun i d e => (w.at.2 i _ e).elim (fun z => by cases z) fun z => h.scr i d z
  apart := fun i j ds es p e1 e2 => (w.at.2 i _ e1).elim (fun z => by cases z) fun z1 => (w.at.2 j _ e2).elim (fun z => by cases z) fun z2 => h.apart i j ds es p z1 z2
def wipeE (ρ : Env) : List Nat → Env
  | [] => ρ
  | v :: vs => (wipeE ρ vs).set v .no
theorem Holds.wipe1 (h : Holds K B0 H0 ρ σ B H) (j : Nat) : Holds K B0 H0 (ρ.set j .no) (σ.set j none) B H where
  nx := h.nx
  len := by rw [List.length_set, List.length_set]; exact h.len
  val := fun i d e => by
    rcases getset e with ⟨_, z⟩ | ⟨ne, z⟩
    · cases z
    · rw [List.getElem?_set_ne (fun z => ne z.symm)]; exact h.val i d z
  own := fun i d e => by
    rcases getset e with ⟨_, z⟩ | ⟨ne, z⟩
    · cases z
    · rw [List.getElem?_set_ne (fun z => ne z.symm)]; exact h.own i d z
  scr := fun i d e => by
    rcases getset e with ⟨_, z⟩ | ⟨ne, z⟩
    · cases z
    · rw [List.getElem?_set_ne (fun z => ne z.symm)]; exact h.scr i d z
  apart := fun i k ds es p q1 q2 q3 q4 => by
    rcases getset q1 with ⟨_, z⟩ | ⟨n1, z1⟩
    · cases z
    rcases getset q2 with ⟨_, z⟩ | ⟨n2, z2⟩
    · cases z
    rw [List.getElem?_set_ne (fun z => n1 z.symm)] at q3
    rw [List.getElem?_set_ne (fun z => n2 z.symm)] at q4
    exact h.apart i k ds es p z1 z2 q3 q4
theorem Holds.wipe (h : Holds K B0 H0 ρ σ B H) : ∀ (vs : List Nat), Holds K B0 H0 (wipeE ρ vs) (L2.wipe σ vs) B H
  | [] => h
  | v :: vs => (Holds.wipe h vs).wipe1 v
end
end Dl

/-! Data layer, part 2: judgements of expressions, operators on data. -/
namespace Dl
open PySem L2 PySem.Spec PyProof.Rows
open Evl (Ex)

/-! ### what an expression gives, as data (none: nothing is said) -/
def cT (K : PySem.W.Frag) (ρ : Env) (m : Option D) : TE := fun σ H Q => ∃ B0 H0 B, Holds K B0 H0 ρ σ B H ∧ ∃ d, m = some d ∧ ∀ v B' H', Nx B H B' H' → Rep K B' v d → Q v H'
def cB (K : PySem.W.Frag) (ρ : Env) (m : Option Bool) : TT := fun σ H Q => ∃ B0 H0 B, Holds K B0 H0 ρ σ B H ∧ ∃ b, m = some b ∧ ∀ B' H', Nx B H B' H' → Q b H'
def cA (K : PySem.W.Frag) (ρ : Env) (m : Option (List D)) : TA := fun σ H Q => ∃ B0 H0 B, Holds K B0 H0 ρ σ B H ∧ ∃ ds, m = some ds ∧ ∀ vs B' H', Nx B H B' H' → Reps K B' vs ds → Q vs H'
/-- a list that was just made -/
def cF (K : PySem.W.Frag) (ρ : Env) (m : Option (List D)) : TE := fun σ H Q => ∃ B0 H0 B, Holds K B0 H0 ρ σ B H ∧ ∃ ds, m = some ds ∧
  ∀ p vs B' H', Nx B H B' H' → H p = none → B' p = none → H' p = some (.lst vs) → Reps K B' vs ds → Q (.ref p) H'
structure DE (X : Cx) (e : Expr) (ρ : Env) (m : Option D) : Prop where
  pe : PE X e (cT X.K ρ m)
structure DT (X : Cx) (e : Expr) (ρ : Env) (m : Option Bool) : Prop where
  pt : PT X e (cB X.K ρ m)
structure DW (X : Cx) (e : Expr) (ρ : Env) (m : Option Bool) : Prop where
  pw : PW X e (cB X.K ρ m)
structure DA (X : Cx) (es : List Expr) (ρ : Env) (m : Option (List D)) : Prop where
  pa : PA X es (cA X.K ρ m)
structure DF (X : Cx) (e : Expr) (ρ : Env) (m : Option (List D)) : Prop where
  pe : PE X e (cF X.K ρ m)

section
variable {X : Cx} {e a b c : Expr} {es : List Expr} {ρ : Env} {pos : Pos}
theorem peI {t t' : TE} (h : PE X e t) (f : ∀ σ H Q, t' σ H Q → t σ H Q) : PE X e t' := ⟨fun pins s σ H Q I w => h.run pins s σ H Q I (f σ H Q w)⟩
theorem ptI {t t' : TT} (h : PT X e t) (f : ∀ σ H Q, t' σ H Q → t σ H Q) : PT X e t' := ⟨fun pins s σ H Q I w => h.run pins s σ H Q I (f σ H Q w)⟩
theorem pwI {t t' : TT} (h : PW X e t) (f : ∀ σ H Q, t' σ H Q → t σ H Q) : PW X e t' := ⟨fun whole pins s σ H Q I w => h.run whole pins s σ H Q I (f σ H Q w)⟩
theorem paI {t t' : TA} (h : PA X es t) (f : ∀ σ H Q, t' σ H Q → t σ H Q) : PA X es t' := ⟨fun pos pins s σ H Q I w => h.run pos pins s σ H Q I (f σ H Q w)⟩
theorem bind_some {α β : Type} {m : Option α} {f : α → Option β} {b : β} (h : m.bind f = some b) : ∃ a, m = some a ∧ f a = some b := by
  cases m with
  | none => cases h
  | some a => exact ⟨a, rfl, h⟩
theorem DE.of {m n : Option D} (h : DE X e ρ m) (q : m = n) : DE X e ρ n := q ▸ h
theorem DT.of {m n : Option Bool} (h : DT X e ρ m) (q : m = n) : DT X e ρ n := q ▸ h

/-! ### operators, by data -/
abbrev b2 (m n : Option D) (f : D → D → Option D) : Option D := m.bind fun x => n.bind fun y => f x y
def rD (K : PySem.W.Frag) (f : D → D → Option D) : R2 := fun x y H Q => ∃ B d e r, Ex B H ∧ Rep K B x d ∧ Rep K B y e ∧ f d e = some r ∧ ∀ v B' H', Nx B H B' H' → Rep K B' v r → Q v H'
def rD1 (K : PySem.W.Frag) (f : D → Option D) : V → Hp → VK → Prop := fun x H Q => ∃ B d r, Ex B H ∧ Rep K B x d ∧ f d = some r ∧ ∀ v B' H', Nx B H B' H' → Rep K B' v r → Q v H'
def rDL (K : PySem.W.Frag) (f : List D → Option D) : List V → Hp → VK → Prop := fun xs H Q => ∃ B ds r, Ex B H ∧ Reps K B xs ds ∧ f ds = some r ∧ ∀ v B' H', Nx B H B' H' → Rep K B' v r → Q v H'
/-- .. a new list -/
def rDF (K : PySem.W.Frag) (f : List D → Option (List D)) : List V → Hp → VK → Prop := fun xs H Q => ∃ B ds r, Ex B H ∧ Reps K B xs ds ∧ f ds = some r ∧
  ∀ p vs B' H', Nx B H B' H' → H p = none → B' p = none → H' p = some (.lst vs) → Reps K B' vs r → Q (.ref p) H'

theorem tOpD {f : D → D → Option D} {m n : Option D} : ∀ (σ : L2.St) (H : Hp) (Q : VK), cT X.K ρ (b2 m n f) σ H Q → tOp (rD X.K f) (cT X.K ρ m) (cT X.K ρ n) σ H Q := by
  intro σ H Q ⟨B0, H0, B, hh, d, hm, q⟩
  obtain ⟨x, hx, hm⟩ := bind_some hm
  obtain ⟨y, hy, hf⟩ := bind_some hm
  exact ⟨B0, H0, B, hh, x, hx, fun v B1 H1 n1 r1 => ⟨B0, H0, B1, hh.step n1, y, hy, fun u B2 H2 n2 r2 => ⟨B2, x, y, d, n2.2.2.1, r1.up n2.1, r2, hf, fun w B3 H3 n3 r3 => q w B3 H3 ((n1.trans n2).trans n3) r3⟩⟩⟩
theorem de_op {op : Operator} {f : D → D → Option D} {m n : Option D} (ho : OpR X (binaryOp op) (rD X.K f)) (ha : DE X a ρ m) (hb : DE X b ρ n) : DE X (.BinOp a op b pos) ρ (b2 m n f) := ⟨peI (pe_op ho ha.pe hb.pe) tOpD⟩
theorem de_cmp {op : CmpOp} {f : D → D → Option D} {m n : Option D} (ho : OpR X (compareOp op) (rD X.K f)) (ha : DE X a ρ m) (hb : DE X b ρ n) (hm : behindInMarks op b = false) : DE X (.Compare a [op] [b] pos) ρ (b2 m n f) := ⟨peI (pe_cmpR ho ha.pe hb.pe hm) tOpD⟩
theorem de_ix {f : D → D → Option D} {m n : Option D} (hr : IxR X (rD X.K f)) (ha : DE X a ρ m) (hb : DE X b ρ n) (hs : PlainIx b) : DE X (.Subscript a b pos) ρ (b2 m n f) := ⟨peI (pe_ix hr ha.pe hb.pe hs) tOpD⟩
theorem de_un {op : UnaryOp} {f : D → Option D} {m : Option D} (ho : UnR X (unaryOp op) (rD1 X.K f)) (ha : DE X a ρ m) : DE X (.UnaryOp op a pos) ρ (m.bind f) := ⟨peI (pe_un ho ha.pe) (by
  intro σ H Q ⟨B0, H0, B, hh, d, hm, q⟩
  obtain ⟨x, hx, hf⟩ := bind_some hm
  exact ⟨B0, H0, B, hh, x, hx, fun v B1 H1 n1 r1 => ⟨B1, x, d, n1.2.2.1, r1, hf, fun w B3 H3 n3 r3 => q w B3 H3 (n1.trans n3) r3⟩⟩)⟩

/-! ### names, constants -/
def look (ρ : Env) (i : Nat) : Option D := match ρ[i]? with
  | some (.val d) => some d
  | _ => none
theorem look_some {i : Nat} {d : D} (h : look ρ i = some d) : ρ[i]? = some (.val d) := by
  unfold look at h
  split at h
  · rename_i z; cases h; exact z
  · cases h
theorem de_var {i : Nat} {x : Str} {d : D} (hl : look ρ i = some d) (hN : X.N[i]? = some x) (hv : Vis X.env.scope x) (hd : (x == ("__debug__" : Str)) = false) (hcd : (x == ("__classdict__" : Str)) = false) : DE X (.Name x pos) ρ (some d) :=
  ⟨peI (pe_var hN hv hd hcd) (by
    intro σ H Q ⟨B0, H0, B, hh, d', hm, q⟩
    cases hm
    obtain ⟨v, h1, h2⟩ := hh.val i d (look_some hl)
    exact ⟨v, h1, q v B H (Nx.refl hh.ex) h2⟩)⟩
theorem de_c {v : V} {d : D} (h : PE X e (tC v)) (r : ∀ K B, Rep K B v d) : DE X e ρ (some d) := ⟨peI h (by
  intro σ H Q ⟨B0, H0, B, hh, d', hm, q⟩
  cases hm
  exact q v B H (Nx.refl hh.ex) (r _ _))⟩
theorem de_int {i : Int} {j : Nat} : DE X (.Constant (.int i) j pos) ρ (some (.int i)) := de_c pe_int fun _ _ => .int i
theorem de_bl {i : Bool} {j : Nat} : DE X (.Constant (.bool i) j pos) ρ (some (.bool i)) := de_c pe_bl fun _ _ => .bl i
theorem de_non {j : Nat} : DE X (.Constant .none j pos) ρ (some .none) := de_c pe_non fun _ _ => .non
theorem de_str {i : Str} {j : Nat} : DE X (.Constant (.str i) j pos) ρ (some (.str i)) := de_c pe_str fun _ _ => .str i
theorem de_glob {x : Str} {v : V} {d : D} {u : Value} (hg : Gl X x) (hm : X.mg x = some u) (r : RelV v u) (rd : ∀ K B, Rep K B v d) (hd : (x == ("__debug__" : Str)) = false) : DE X (.Name x pos) ρ (some d) := de_c (pe_glob hg hm r hd) rd

/-! ### arguments, displays -/
abbrev c2 (m : Option D) (n : Option (List D)) : Option (List D) := m.bind fun x => n.bind fun xs => some (x :: xs)
theorem da_nil : DA X [] ρ (some []) := ⟨paI pa_nil (by
  intro σ H Q ⟨B0, H0, B, hh, d', hm, q⟩
  cases hm
  exact q [] B H (Nx.refl hh.ex) .nil)⟩
theorem da_cons {m : Option D} {n : Option (List D)} (ha : DE X e ρ m) (hr : DA X es ρ n) (hs : starEach (e :: es) X.env = (false, eval e X.env) :: starEach es X.env) : DA X (e :: es) ρ (c2 m n) := ⟨paI (pa_cons ha.pe hr.pa hs) (by
  intro σ H Q ⟨B0, H0, B, hh, d', hm, q⟩
  obtain ⟨x, hx, hm⟩ := bind_some hm
  obtain ⟨xs, hy, hf⟩ := bind_some hm
  cases hf
  exact ⟨B0, H0, B, hh, x, hx, fun v B1 H1 n1 r1 => ⟨B0, H0, B1, hh.step n1, xs, hy, fun vs B2 H2 n2 r2 => q (v :: vs) B2 H2 (n1.trans n2) (.cons (r1.up n2.1) r2)⟩⟩)⟩
def fit {α : Type} (n : Nat) (x : α) : Option α := if n ≤ 16777216 then some x else none
theorem fit_some {α : Type} {n : Nat} {x y : α} (h : fit n x = some y) : n ≤ sizeLine ∧ x = y := by
  unfold fit at h
  split at h
  · cases h; rw [sizeLine_eq]; exact ⟨by assumption, rfl⟩
  · cases h
theorem fit_ok {α : Type} {n : Nat} {x : α} (h : n ≤ 16777216) : fit n x = some x := if_pos h
theorem de_tup {x1} {m : Option (List D)} (h : DA X es ρ m) : DE X (.Tuple es x1 pos) ρ (m.bind fun xs => fit xs.length (.tuple xs)) := ⟨peI (pe_tup h.pa) (by
  intro σ H Q ⟨B0, H0, B, hh, d', hm, q⟩
  obtain ⟨xs, hx, hf⟩ := bind_some hm
  obtain ⟨hz, rfl⟩ := fit_some hf
  exact ⟨B0, H0, B, hh, xs, hx, fun vs B1 H1 n1 r1 => ⟨by rw [r1.len]; exact hz, fun p hp => q _ _ _ (n1.trans (Nx.new n1.2.2.1 hp)) (Nx.tup r1 n1.2.2.1 hp)⟩⟩)⟩
theorem df_lst {m : Option (List D)} (h : DA X es ρ m) : DF X (.List es pos) ρ (m.bind fun xs => fit xs.length xs) := ⟨peI (pe_lst h.pa) (by
  intro σ H Q ⟨B0, H0, B, hh, d', hm, q⟩
  obtain ⟨xs, hx, hf⟩ := bind_some hm
  obtain ⟨hz, rfl⟩ := fit_some hf
  refine ⟨B0, H0, B, hh, xs, hx, fun vs B1 H1 n1 r1 => ⟨by rw [r1.len]; exact hz, fun p hp => ?_⟩⟩
  exact q p vs B1 _ (n1.trans (Nx.own n1.2.2.1 hp)) (Ex.none n1.2.1 hp) (Ex.none n1.2.2.1 hp) upd_same r1)⟩
theorem DF.de {m : Option (List D)} (h : DF X e ρ m) : DE X e ρ (m.map .list) := ⟨peI h.pe (by
  intro σ H Q ⟨B0, H0, B, hh, d', hm, q⟩
  cases m with
  | none => cases hm
  | some ds =>
    cases hm
    refine ⟨B0, H0, B, hh, ds, rfl, fun p vs B1 H1 n1 hp hb he r1 => ?_⟩
    exact q _ _ _ (n1.freeze hp hb he) (.lst upd_same (r1.up (Ex.new hb))))⟩

/-! ### tests -/
def truth : D → Option Bool
  | .none => some false
  | .bool b => some b
  | .int i => some (i != 0)
  | .str x => if x.length ≤ 16777216 then some ((x.length : Int) != 0) else none
  | .list xs => some (!xs.isEmpty)
  | .tuple xs => some (!xs.isEmpty)
  | .dict _ => none
theorem truth_ok {K : PySem.W.Frag} {B H : Hp} {v : V} {d : D} {k : Bool} (r : Rep K B v d) (e : Ex B H) (h : truth d = some k) : TruV K v H k := by
  cases r with
  | non => cases h; exact (rfl : false = false)
  | bl b => cases h; exact (rfl : k = k)
  | int i => exact (Option.some.inj h).symm
  | str x =>
    simp only [truth] at h
    split at h
    · cases h; exact ⟨by rw [sizeLine_eq]; assumption, rfl⟩
    · cases h
  | lst hl rr =>
    cases h
    refine .inl ⟨_, .inl (.inl (e _ _ hl)), ?_⟩
    have := rr.len
    revert this
    cases rr <;> simp
  | tup hl rr =>
    cases h
    refine .inr (.inl ⟨_, Evl.ex_t e hl, ?_⟩)
    have := rr.len
    revert this
    cases rr <;> simp
theorem dt_truth {m : Option D} (h : DE X e ρ m) (he : ∀ whole, isTrue e X.env whole = (do let v ← whole; standAt e.pos; holding [v] (truthy v))) : DT X e ρ (m.bind truth) := ⟨ptI (pt_truth h.pe he) (by
  intro σ H Q ⟨B0, H0, B, hh, d', hm, q⟩
  obtain ⟨x, hx, hf⟩ := bind_some hm
  exact ⟨B0, H0, B, hh, x, hx, fun v B1 H1 n1 r1 => ⟨d', truth_ok r1 n1.2.2.1 hf, q B1 H1 n1⟩⟩)⟩
def isB : D → Option Bool
  | .bool b => some b
  | _ => none
theorem isB_some {K : PySem.W.Frag} {B : Hp} {v : V} {d : D} {k : Bool} (r : Rep K B v d) (h : isB d = some k) : v = .bl k := by
  cases r <;> simp [isB] at h
  · subst h; rfl
theorem dt_cmp {op : CmpOp} {f : D → D → Option D} {m n : Option D} (ho : OpR X (compareOp op) (rD X.K f)) (ha : DE X a ρ m) (hb : DE X b ρ n) (hm : behindInMarks op b = false) : DT X (.Compare a [op] [b] pos) ρ ((b2 m n f).bind isB) := ⟨ptI (pt_cmpR ho ha.pe hb.pe hm) (by
  intro σ H Q ⟨B0, H0, B, hh, d', hm, q⟩
  obtain ⟨x, hx, hf⟩ := bind_some hm
  refine tOpD σ H _ ⟨B0, H0, B, hh, x, hx, fun v B1 H1 n1 r1 => ?_⟩
  exact ⟨d', isB_some r1 hf, q B1 H1 n1⟩)⟩
theorem dt_not {m : Option Bool} (h : DT X a ρ m) : DT X (.UnaryOp .Not a pos) ρ (m.map (!·)) := ⟨ptI (pt_not h.pt) (by
  intro σ H Q ⟨B0, H0, B, hh, d', hm, q⟩
  cases m with
  | none => cases hm
  | some k => cases hm; exact ⟨B0, H0, B, hh, k, rfl, fun B1 H1 n1 => q B1 H1 n1⟩)⟩
theorem DW.dt {m : Option Bool} (h : DW X e ρ m) : DT X e ρ m := ⟨h.pw.pt⟩
theorem dw_and1 {m : Option Bool} (h : DT X a ρ m) : DW X (.BoolOp .And [a] pos) ρ m := ⟨pw_and1 h.pt⟩
theorem dw_or1 {m : Option Bool} (h : DT X a ρ m) : DW X (.BoolOp .Or [a] pos) ρ m := ⟨pw_or1 h.pt⟩
abbrev andB (m n : Option Bool) : Option Bool := m.bind fun k => if k then n else some false
abbrev orB (m n : Option Bool) : Option Bool := m.bind fun k => if k then some true else n
theorem dw_and {rest : List Expr} {m n : Option Bool} (ha : DT X a ρ m) (hb : DW X (.BoolOp .And (b :: rest) pos) ρ n) : DW X (.BoolOp .And (a :: b :: rest) pos) ρ (andB m n) := ⟨pwI (pw_and ha.pt hb.pw) (by
  intro σ H Q ⟨B0, H0, B, hh, d', hm, q⟩
  obtain ⟨k, hx, hf⟩ := bind_some hm
  refine ⟨B0, H0, B, hh, k, hx, fun B1 H1 n1 => ?_⟩
  cases k with
  | true => exact ⟨B0, H0, B1, hh.step n1, d', hf, fun B2 H2 n2 => q B2 H2 (n1.trans n2)⟩
  | false => cases hf; exact q B1 H1 n1)⟩
theorem dw_or {rest : List Expr} {m n : Option Bool} (ha : DT X a ρ m) (hb : DW X (.BoolOp .Or (b :: rest) pos) ρ n) : DW X (.BoolOp .Or (a :: b :: rest) pos) ρ (orB m n) := ⟨pwI (pw_or ha.pt hb.pw) (by
  intro σ H Q ⟨B0, H0, B, hh, d', hm, q⟩
  obtain ⟨k, hx, hf⟩ := bind_some hm
  refine ⟨B0, H0, B, hh, k, hx, fun B1 H1 n1 => ?_⟩
  cases k with
  | false => exact ⟨B0, H0, B1, hh.step n1, d', hf, fun B2 H2 n2 => q B2 H2 (n1.trans n2)⟩
  | true => cases hf; exact q B1 H1 n1)⟩

/-! ### and, or, not, if as values -/
abbrev andV (m n : Option D) : Option D := m.bind fun x => (truth x).bind fun k => if k then n else some x
abbrev orV (m n : Option D) : Option D := m.bind fun x => (truth x).bind fun k => if k then some x else n
theorem de_one {op} {m : Option D} (h : DE X a ρ m) : DE X (.BoolOp op [a] pos) ρ m := ⟨pe_one h.pe⟩
theorem de_and {rest : List Expr} {m n : Option D} (ha : DE X a ρ m) (hb : DE X (.BoolOp .And (b :: rest) pos) ρ n) : DE X (.BoolOp .And (a :: b :: rest) pos) ρ (andV m n) := ⟨peI (pe_andT ha.pe hb.pe) (by
  intro σ H Q ⟨B0, H0, B, hh, d', hm, q⟩
  obtain ⟨x, hx, hm⟩ := bind_some hm
  obtain ⟨k, hk, hf⟩ := bind_some hm
  refine ⟨B0, H0, B, hh, x, hx, fun v B1 H1 n1 r1 => ⟨k, truth_ok r1 n1.2.2.1 hk, ?_⟩⟩
  cases k with
  | true => exact ⟨B0, H0, B1, hh.step n1, d', hf, fun w B2 H2 n2 r2 => q w B2 H2 (n1.trans n2) r2⟩
  | false => cases hf; exact q v B1 H1 n1 r1)⟩
theorem de_or {rest : List Expr} {m n : Option D} (ha : DE X a ρ m) (hb : DE X (.BoolOp .Or (b :: rest) pos) ρ n) : DE X (.BoolOp .Or (a :: b :: rest) pos) ρ (orV m n) := ⟨peI (pe_orT ha.pe hb.pe) (by
  intro σ H Q ⟨B0, H0, B, hh, d', hm, q⟩
  obtain ⟨x, hx, hm⟩ := bind_some hm
  obtain ⟨k, hk, hf⟩ := bind_some hm
  refine ⟨B0, H0, B, hh, x, hx, fun v B1 H1 n1 r1 => ⟨k, truth_ok r1 n1.2.2.1 hk, ?_⟩⟩
  cases k with
  | false => exact ⟨B0, H0, B1, hh.step n1, d', hf, fun w B2 H2 n2 r2 => q w B2 H2 (n1.trans n2) r2⟩
  | true => cases hf; exact q v B1 H1 n1 r1)⟩
theorem de_not {m : Option D} (h : DE X a ρ m) : DE X (.UnaryOp .Not a pos) ρ (m.bind fun x => (truth x).map fun k => .bool (!k)) := ⟨peI (pe_notT h.pe) (by
  intro σ H Q ⟨B0, H0, B, hh, d', hm, q⟩
  obtain ⟨x, hx, hf⟩ := bind_some hm
  cases hk : truth x with
  | none => rw [hk] at hf; cases hf
  | some k =>
    rw [hk] at hf
    cases hf
    exact ⟨B0, H0, B, hh, x, hx, fun v B1 H1 n1 r1 => ⟨k, truth_ok r1 n1.2.2.1 hk, q _ B1 H1 n1 (.bl _)⟩⟩)⟩
abbrev iteM {α : Type} (c : Option Bool) (m n : Option α) : Option α := c.bind fun k => if k then m else n
theorem de_if {k : Option Bool} {m n : Option D} (hc : DT X c ρ k) (ha : DE X a ρ m) (hb : DE X b ρ n) : DE X (.IfExp c a b pos) ρ (iteM k m n) := ⟨peI (pe_ifExp hc.pt ha.pe hb.pe) (by
  intro σ H Q ⟨B0, H0, B, hh, d', hm, q⟩
  obtain ⟨k, hx, hf⟩ := bind_some hm
  refine ⟨B0, H0, B, hh, k, hx, fun B1 H1 n1 => ?_⟩
  cases k with
  | true => exact ⟨B0, H0, B1, hh.step n1, d', hf, fun w B2 H2 n2 r2 => q w B2 H2 (n1.trans n2) r2⟩
  | false => exact ⟨B0, H0, B1, hh.step n1, d', hf, fun w B2 H2 n2 r2 => q w B2 H2 (n1.trans n2) r2⟩)⟩
end
end Dl

/-! Data layer, part 3: the operators' rules. -/
namespace Dl
open PySem L2 PySem.Spec PyProof.Rows PySem.W PySem.SeqAt
open Evl (Ex)

section
variable {X : Cx} {pins : List (Addr × Obj)} {σ : L2.St} {H B : Hp} {s : Shared}
theorem Rep.reads {v : V} {u : Value} {d : D} {K : PySem.W.Frag} (r : Rep K B v d) (hK : K = X.K) (I : Inv X pins σ H s) (e : Ex B H) (rv : RelV v u) : ∃ as, Reads s.heap u d as := by
  subst hK
  exact (r.up e).dp.reads I d v u rv
mutual
theorem Rep.plain {K : PySem.W.Frag} : ∀ {v : V} {d : D}, Rep K B v d → d.plain = true
  | _, _, .non => rfl
  | _, _, .bl b => rfl
  | _, _, .int i => rfl
  | _, _, .str x => rfl
  | _, _, .lst h r => by rw [PyData.plain]; exact Reps.plain r
  | _, _, .tup h r => by rw [PyData.plain]; exact Reps.plain r
theorem Reps.plain {K : PySem.W.Frag} : ∀ {vs : List V} {ds : List D}, Reps K B vs ds → PyData.plainAll ds = true
  | _, _, .nil => rfl
  | _, _, .cons h r => by rw [PyData.plainAll, Rep.plain h, Reps.plain r]; rfl
end

/-! ### arithmetic -/
def addD : D → D → Option D
  | .int i, .int j => some (.int (i + j))
  | .str a, .str b => fit (a.length + b.length) (.str (a ++ b))
  | .list a, .list b => fit (a.length + b.length) (.list (a ++ b))
  | .tuple a, .tuple b => fit (a.length + b.length) (.tuple (a ++ b))
  | _, _ => none
theorem op_addD : OpR X (binaryOp .Add) (rD X.K addD) := by
  intro pins s σ H x y v u Q I rx ry ⟨B, d, e, r, ex, hd, he, hf, q⟩
  cases hd with
  | int i =>
    cases he with
    | int j => cases hf; exact op_add pins s σ H _ _ v u Q I rx ry ⟨i, j, rfl, rfl, q _ B H (Nx.refl ex) (.int _)⟩
    | _ => simp [addD] at hf
  | str a =>
    cases he with
    | str b =>
      obtain ⟨hz, rfl⟩ := fit_some hf
      exact op_add_str pins s σ H _ _ v u Q I rx ry ⟨a, b, rfl, rfl, hz, q _ B H (Nx.refl ex) (.str _)⟩
    | _ => simp [addD] at hf
  | @lst l xs ds h1 r1 =>
    cases he with
    | @lst b zs es h2 r2 =>
      obtain ⟨hz, rfl⟩ := fit_some hf
      refine op_cat pins s σ H _ _ v u Q I rx ry ⟨l, b, xs, zs, rfl, rfl, ex _ _ h1, ex _ _ h2, by rw [r1.len, r2.len]; exact hz, fun p hp => ?_⟩
      exact q _ _ _ (Nx.new ex hp) (Nx.lst (r1.app r2) ex hp)
    | _ => simp [addD] at hf
  | @tup l xs ds h1 r1 =>
    cases he with
    | @tup b zs es h2 r2 =>
      obtain ⟨hz, rfl⟩ := fit_some hf
      have k1 := r1.len
      have k2 := r2.len
      refine op_catA pins s σ H _ _ v u Q I rx ry ⟨l, b, xs, zs, rfl, rfl, Evl.ex_t ex h1, Evl.ex_t ex h2, by rw [k1, k2]; exact hz, fun e => ?_, fun _ e => ?_, fun _ _ p hp => ?_⟩
      · subst e
        cases r1
        exact q _ B H (Nx.refl ex) (.tup h2 r2)
      · subst e
        cases r2
        rw [List.append_nil] at q
        exact q _ B H (Nx.refl ex) (.tup h1 r1)
      · exact q _ _ _ (Nx.new ex hp) (Nx.tup (r1.app r2) ex hp)
    | _ => simp [addD] at hf
  | _ => cases he <;> simp [addD] at hf
def subD : D → D → Option D
  | .int i, .int j => some (.int (i - j))
  | _, _ => none
theorem op_subD : OpR X (binaryOp .Sub) (rD X.K subD) := by
  intro pins s σ H x y v u Q I rx ry ⟨B, d, e, r, ex, hd, he, hf, q⟩
  cases hd with
  | int i =>
    cases he with
    | int j => cases hf; exact op_sub pins s σ H _ _ v u Q I rx ry ⟨i, j, rfl, rfl, q _ B H (Nx.refl ex) (.int _)⟩
    | _ => simp [subD] at hf
  | _ => cases he <;> simp [subD] at hf
def small64 (i : Int) : Prop := -18446744073709551616 < i ∧ i < 18446744073709551616
instance (i : Int) : Decidable (small64 i) := inferInstanceAs (Decidable (_ ∧ _))
def mulD : D → D → Option D
  | .int i, .int j => if small64 i ∨ small64 j then some (.int (i * j)) else none
  | .list a, .int k => if -9223372036854775808 ≤ k ∧ k < 9223372036854775808 ∧ a.length * k.toNat ≤ 16777216 then some (.list (List.replicate k.toNat a).flatten) else none
  | _, _ => none
theorem Reps.rep {K : PySem.W.Frag} {vs : List V} {ds : List D} (r : Reps K B vs ds) : ∀ k : Nat, Reps K B (List.replicate k vs).flatten (List.replicate k ds).flatten
  | 0 => .nil
  | k + 1 => by
    rw [List.replicate_succ, List.replicate_succ, List.flatten_cons, List.flatten_cons]
    exact r.app (Reps.rep r k)
theorem op_mulD : OpR X (binaryOp .Mult) (rD X.K mulD) := by
  intro pins s σ H x y v u Q I rx ry ⟨B, d, e, r, ex, hd, he, hf, q⟩
  cases hd with
  | int i =>
    cases he with
    | int j =>
      simp only [mulD] at hf
      split at hf
      · rename_i hc
        cases hf
        refine op_mul pins s σ H _ _ v u Q I rx ry ⟨i, j, rfl, rfl, ?_, q _ B H (Nx.refl ex) (.int _)⟩
        rcases hc with ⟨h1, h2⟩ | ⟨h1, h2⟩
        · exact .inl ⟨by omega, by omega⟩
        · exact .inr ⟨by omega, by omega⟩
      · cases hf
    | _ => simp [mulD] at hf
  | @lst l xs ds h1 r1 =>
    cases he with
    | int k =>
      simp only [mulD] at hf
      split at hf
      · rename_i hc
        cases hf
        refine op_rep pins s σ H _ _ v u Q I rx ry ⟨l, k, xs, rfl, rfl, ex _ _ h1, by omega, by omega, by rw [r1.len, sizeLine_eq]; exact hc.2.2, fun p hp => ?_⟩
        exact q _ _ _ (Nx.new ex hp) (Nx.lst (r1.rep _) ex hp)
      · cases hf
    | _ => simp [mulD] at hf
  | _ => cases he <;> simp [mulD] at hf

def fdivD : D → D → Option D
  | .int i, .int j => if j ≠ 0 ∧ j.natAbs < 1073741824 then some (.int (i.fdiv j)) else none
  | _, _ => none
theorem op_fdivD : OpR X (binaryOp .FloorDiv) (rD X.K fdivD) := by
  intro pins s σ H x y v u Q I rx ry ⟨B, d, e, r, ex, hd, he, hf, q⟩
  cases hd with
  | int i =>
    cases he with
    | int j =>
      simp only [fdivD] at hf
      split at hf
      · rename_i hc
        cases hf
        exact op_fdivN pins s σ H _ _ v u Q I rx ry ⟨i, j, rfl, rfl, hc, q _ B H (Nx.refl ex) (.int _)⟩
      · cases hf
    | _ => simp [fdivD] at hf
  | _ => cases he <;> simp [fdivD] at hf
def modD : D → D → Option D
  | .int i, .int j => if j ≠ 0 then some (.int (i.fmod j)) else none
  | _, _ => none
theorem op_modD : OpR X (binaryOp .Mod) (rD X.K modD) := by
  intro pins s σ H x y v u Q I rx ry ⟨B, d, e, r, ex, hd, he, hf, q⟩
  cases hd with
  | int i =>
    cases he with
    | int j =>
      simp only [modD] at hf
      split at hf
      · rename_i hc
        cases hf
        exact op_modN pins s σ H _ _ v u Q I rx ry ⟨i, j, rfl, rfl, hc, q _ B H (Nx.refl ex) (.int _)⟩
      · cases hf
    | _ => simp [modD] at hf
  | _ => cases he <;> simp [modD] at hf
def powD : D → D → Option D
  | .int i, .int j => if 0 ≤ j ∧ j ≤ 1000000 ∧ i.natAbs < 18446744073709551616 then some (.int (i ^ j.toNat)) else none
  | _, _ => none
theorem op_powD : OpR X (binaryOp .Pow) (rD X.K powD) := by
  intro pins s σ H x y v u Q I rx ry ⟨B, d, e, r, ex, hd, he, hf, q⟩
  cases hd with
  | int i =>
    cases he with
    | int j =>
      simp only [powD] at hf
      split at hf
      · rename_i hc
        cases hf
        exact op_pow pins s σ H _ _ v u Q I rx ry ⟨i, j, rfl, rfl, ⟨hc.1, hc.2.1, by have := hc.2.2; omega⟩, q _ B H (Nx.refl ex) (.int _)⟩
      · cases hf
    | _ => simp [powD] at hf
  | _ => cases he <;> simp [powD] at hf
def negD : D → Option D
  | .int i => some (.int (-i))
  | _ => none
theorem un_negD : UnR X (unaryOp .USub) (rD1 X.K negD) := by
  intro pins s σ H x v Q I rx ⟨B, d, r, ex, hd, hf, q⟩
  cases hd with
  | int i => cases hf; exact un_neg pins s σ H _ v Q I rx ⟨i, rfl, q _ B H (Nx.refl ex) (.int _)⟩
  | _ => simp [negD] at hf

/-! ### comparisons -/
def shal (d e : D) : Prop := d.depth ≤ 64 ∨ e.depth ≤ 64
instance (d e : D) : Decidable (shal d e) := inferInstanceAs (Decidable (_ ∨ _))
theorem shal_room {A : Around} {d e : D} {k : Nat} (h : shal d e) (hu : A.units + 200 < cLine) (hk : k ≤ 100) : A.units + k + min d.depth e.depth < cLine := by
  rcases h with h | h <;> omega
noncomputable def eqD (d e : D) : Option D := @ite _ (shal d e) (Classical.propDecidable _) (some (.bool (PyData.eqv d e))) none
noncomputable def neD (d e : D) : Option D := @ite _ (shal d e) (Classical.propDecidable _) (some (.bool (!PyData.eqv d e))) none
theorem op_eqD' (hu : X.A.units + 200 < cLine) : OpR X (compareOp .Eq) (rD X.K eqD) := by
  intro pins s σ H x y v u Q I rx ry ⟨B, d, e, r, ex, hd, he, hf, q⟩
  simp only [eqD] at hf
  split at hf
  · rename_i hc
    cases hf
    obtain ⟨as, r1⟩ := hd.reads rfl I ex rx
    obtain ⟨bs, r2⟩ := he.reads rfl I ex ry
    exact eq_plain r1 r2 hd.plain he.plain (shal_room (k := 0) hc hu (by decide)) ⟨.bl _, H, I, rfl, q _ B H (Nx.refl ex) (.bl _)⟩
  · cases hf
theorem op_neD' (hu : X.A.units + 200 < cLine) : OpR X (compareOp .NotEq) (rD X.K neD) := by
  intro pins s σ H x y v u Q I rx ry ⟨B, d, e, r, ex, hd, he, hf, q⟩
  simp only [neD] at hf
  split at hf
  · rename_i hc
    cases hf
    obtain ⟨as, r1⟩ := hd.reads rfl I ex rx
    obtain ⟨bs, r2⟩ := he.reads rfl I ex ry
    exact ne_plain r1 r2 hd.plain he.plain (shal_room (k := 0) hc hu (by decide)) ⟨.bl _, H, I, rfl, q _ B H (Nx.refl ex) (.bl _)⟩
  · cases hf
def ordOk (d e : D) : Prop := alike d e = true ∧ d ≠ .none ∧ shal d e
open Classical in
noncomputable def ltD : D → D → Option D
  | .int i, .int j => some (.bool (decide (i < j)))
  | d, e => if ordOk d e then some (.bool (dataLt d e)) else none
open Classical in
noncomputable def leD : D → D → Option D
  | .int i, .int j => some (.bool (decide (i ≤ j)))
  | d, e => if ordOk d e then some (.bool (!dataLt e d)) else none
open Classical in
noncomputable def gtD : D → D → Option D
  | .int i, .int j => some (.bool (decide (j < i)))
  | d, e => if ordOk d e then some (.bool (dataLt e d)) else none
open Classical in
noncomputable def geD : D → D → Option D
  | .int i, .int j => some (.bool (decide (j ≤ i)))
  | d, e => if ordOk d e then some (.bool (!dataLt d e)) else none
theorem ord_cases {f : D → D → Option D} {p : Int → Int → Bool} {g : D → D → Bool} (hI : ∀ i j, f (.int i) (.int j) = some (.bool (p i j))) (hg : ∀ i j, g (.int i) (.int j) = p i j)
    (ho : ∀ d e r, f d e = some r → (∃ i j, d = .int i ∧ e = .int j) ∨ (ordOk d e ∧ r = .bool (g d e))) {d e r : D} (h : f d e = some r) : ordOk d e ∧ r = .bool (g d e) := by
  rcases ho d e r h with ⟨i, j, rfl, rfl⟩ | z
  · rw [hI] at h
    cases h
    exact ⟨⟨by simp [alike], by simp, .inl (by simp [PyData.depth])⟩, by rw [hg]⟩
  · exact z
theorem not_lt' (i j : Int) : (!decide (i < j)) = decide (j ≤ i) := by
  by_cases h : i < j <;> simp [h] <;> omega
theorem ltD_ok {d e r : D} (h : ltD d e = some r) : ordOk d e ∧ r = .bool (dataLt d e) := by
  refine ord_cases (f := ltD) (p := fun i j => decide (i < j)) (fun _ _ => rfl) (fun i j => dataLt_int i j) (fun d e r h => ?_) h
  unfold ltD at h
  split at h
  · exact .inl ⟨_, _, rfl, rfl⟩
  · split at h
    · rename_i z; cases h; exact .inr ⟨z, rfl⟩
    · cases h
theorem leD_ok {d e r : D} (h : leD d e = some r) : ordOk d e ∧ r = .bool (!dataLt e d) := by
  refine ord_cases (f := leD) (p := fun i j => decide (i ≤ j)) (g := fun d e => !dataLt e d) (fun _ _ => rfl) (fun i j => by rw [dataLt_int, not_lt']) (fun d e r h => ?_) h
  unfold leD at h
  split at h
  · exact .inl ⟨_, _, rfl, rfl⟩
  · split at h
    · rename_i z; cases h; exact .inr ⟨z, rfl⟩
    · cases h
theorem gtD_ok {d e r : D} (h : gtD d e = some r) : ordOk d e ∧ r = .bool (dataLt e d) := by
  refine ord_cases (f := gtD) (p := fun i j => decide (j < i)) (g := fun d e => dataLt e d) (fun _ _ => rfl) (fun i j => dataLt_int j i) (fun d e r h => ?_) h
  unfold gtD at h
  split at h
  · exact .inl ⟨_, _, rfl, rfl⟩
  · split at h
    · rename_i z; cases h; exact .inr ⟨z, rfl⟩
    · cases h
theorem geD_ok {d e r : D} (h : geD d e = some r) : ordOk d e ∧ r = .bool (!dataLt d e) := by
  refine ord_cases (f := geD) (p := fun i j => decide (j ≤ i)) (g := fun d e => !dataLt d e) (fun _ _ => rfl) (fun i j => by rw [dataLt_int, not_lt']) (fun d e r h => ?_) h
  unfold geD at h
  split at h
  · exact .inl ⟨_, _, rfl, rfl⟩
  · split at h
    · rename_i z; cases h; exact .inr ⟨z, rfl⟩
    · cases h
theorem op_ltD' (hu : X.A.units + 200 < cLine) : OpR X (compareOp .Lt) (rD X.K ltD) := by
  intro pins s σ H x y v u Q I rx ry ⟨B, d, e, r, ex, hd, he, hf, q⟩
  obtain ⟨⟨h1, h2, h3⟩, rfl⟩ := ltD_ok hf
  obtain ⟨as, r1⟩ := hd.reads rfl I ex rx
  obtain ⟨bs, r2⟩ := he.reads rfl I ex ry
  exact lt_data r1 r2 h1 h2 (shal_room (k := 0) h3 hu (by decide)) ⟨.bl _, H, I, rfl, q _ B H (Nx.refl ex) (.bl _)⟩
theorem op_leD' (hu : X.A.units + 200 < cLine) : OpR X (compareOp .LtE) (rD X.K leD) := by
  intro pins s σ H x y v u Q I rx ry ⟨B, d, e, r, ex, hd, he, hf, q⟩
  obtain ⟨⟨h1, h2, h3⟩, rfl⟩ := leD_ok hf
  obtain ⟨as, r1⟩ := hd.reads rfl I ex rx
  obtain ⟨bs, r2⟩ := he.reads rfl I ex ry
  exact le_data r1 r2 h1 h2 (shal_room (k := 0) h3 hu (by decide)) ⟨.bl _, H, I, rfl, q _ B H (Nx.refl ex) (.bl _)⟩
theorem op_gtD' (hu : X.A.units + 200 < cLine) : OpR X (compareOp .Gt) (rD X.K gtD) := by
  intro pins s σ H x y v u Q I rx ry ⟨B, d, e, r, ex, hd, he, hf, q⟩
  obtain ⟨⟨h1, h2, h3⟩, rfl⟩ := gtD_ok hf
  obtain ⟨as, r1⟩ := hd.reads rfl I ex rx
  obtain ⟨bs, r2⟩ := he.reads rfl I ex ry
  exact gt_data r1 r2 h1 h2 (shal_room (k := 0) h3 hu (by decide)) ⟨.bl _, H, I, rfl, q _ B H (Nx.refl ex) (.bl _)⟩
theorem op_geD' (hu : X.A.units + 200 < cLine) : OpR X (compareOp .GtE) (rD X.K geD) := by
  intro pins s σ H x y v u Q I rx ry ⟨B, d, e, r, ex, hd, he, hf, q⟩
  obtain ⟨⟨h1, h2, h3⟩, rfl⟩ := geD_ok hf
  obtain ⟨as, r1⟩ := hd.reads rfl I ex rx
  obtain ⟨bs, r2⟩ := he.reads rfl I ex ry
  exact ge_data r1 r2 h1 h2 (shal_room (k := 0) h3 hu (by decide)) ⟨.bl _, H, I, rfl, q _ B H (Nx.refl ex) (.bl _)⟩
def isNoneB : D → Bool
  | .none => true
  | _ => false
theorem isNone_rep {K : PySem.W.Frag} {v : V} {d : D} (r : Rep K B v d) : decide (v = .non) = isNoneB d := by
  cases r <;> simp [isNoneB]
def isD : D → D → Option D
  | d, .none => some (.bool (isNoneB d))
  | _, _ => none
def isNotD : D → D → Option D
  | d, .none => some (.bool (!isNoneB d))
  | _, _ => none
theorem op_isD : OpR X (compareOp .Is) (rD X.K isD) := by
  intro pins s σ H x y v u Q I rx ry ⟨B, d, e, r, ex, hd, he, hf, q⟩
  cases he with
  | non =>
    simp only [isD] at hf
    cases hf
    refine op_isN pins s σ H _ _ v u Q I rx ry ⟨rfl, ?_⟩
    rw [isNone_rep hd]
    exact q _ B H (Nx.refl ex) (.bl _)
  | _ => simp [isD] at hf
theorem op_isNotD : OpR X (compareOp .IsNot) (rD X.K isNotD) := by
  intro pins s σ H x y v u Q I rx ry ⟨B, d, e, r, ex, hd, he, hf, q⟩
  cases he with
  | non =>
    simp only [isNotD] at hf
    cases hf
    refine op_notN pins s σ H _ _ v u Q I rx ry ⟨rfl, ?_⟩
    rw [isNone_rep hd]
    exact q _ B H (Nx.refl ex) (.bl _)
  | _ => simp [isNotD] at hf
def hasD (ds : List D) (d : D) : Bool := ds.any fun y => PyData.eqv y d
def shalAll (ds : List D) (d : D) : Prop := PyData.depthAll ds ≤ 64 ∨ d.depth ≤ 64
instance (ds : List D) (d : D) : Decidable (shalAll ds d) := inferInstanceAs (Decidable (_ ∨ _))
theorem shalAll_room {A : Around} {ds : List D} {d : D} (h : shalAll ds d) (hu : A.units + 200 < cLine) : A.units + 1 + min (PyData.depthAll ds) d.depth < cLine := by
  rcases h with h | h <;> omega
noncomputable def inD : D → D → Option D
  | d, .list ds => @ite _ (shalAll ds d) (Classical.propDecidable _) (some (.bool (hasD ds d))) none
  | d, .tuple ds => @ite _ (shalAll ds d) (Classical.propDecidable _) (some (.bool (hasD ds d))) none
  | .str a, .str b => some (.bool (!(Builtin.Str.occurrences b a 0 b.length 1).isEmpty))
  | _, _ => none
noncomputable def notInD : D → D → Option D
  | d, .list ds => @ite _ (shalAll ds d) (Classical.propDecidable _) (some (.bool (!hasD ds d))) none
  | d, .tuple ds => @ite _ (shalAll ds d) (Classical.propDecidable _) (some (.bool (!hasD ds d))) none
  | .str a, .str b => some (.bool (!(!(Builtin.Str.occurrences b a 0 b.length 1).isEmpty)))
  | _, _ => none
theorem op_inD' (hu : X.A.units + 200 < cLine) : OpR X (compareOp .In) (rD X.K inD) := by
  intro pins s σ H x y v u Q I rx ry ⟨B, d, e, r, ex, hd, he, hf, q⟩
  obtain ⟨as, r1⟩ := hd.reads rfl I ex rx
  obtain ⟨bs, r2⟩ := he.reads rfl I ex ry
  have pl := he.plain
  cases he with
  | lst h1 rr =>
    simp only [inD] at hf
    split at hf
    · rename_i hc
      cases hf
      exact in_list_data r2 r1 (by rw [PyData.plain] at pl; exact pl) hd.plain (shalAll_room hc hu) ⟨.bl _, H, I, rfl, q _ B H (Nx.refl ex) (.bl _)⟩
    · cases hf
  | tup h1 rr =>
    simp only [inD] at hf
    split at hf
    · rename_i hc
      cases hf
      exact in_tuple_data r2 r1 (by rw [PyData.plain] at pl; exact pl) hd.plain (shalAll_room hc hu) ⟨.bl _, H, I, rfl, q _ B H (Nx.refl ex) (.bl _)⟩
    · cases hf
  | str b =>
    cases hd with
    | str a =>
      cases hf
      exact op_in_str pins s σ H _ _ v u Q I rx ry ⟨a, b, rfl, rfl, q _ B H (Nx.refl ex) (.bl _)⟩
    | _ => simp [inD] at hf
  | _ => cases hd <;> simp [inD] at hf
theorem op_notInD' (hu : X.A.units + 200 < cLine) : OpR X (compareOp .NotIn) (rD X.K notInD) := by
  intro pins s σ H x y v u Q I rx ry ⟨B, d, e, r, ex, hd, he, hf, q⟩
  obtain ⟨as, r1⟩ := hd.reads rfl I ex rx
  obtain ⟨bs, r2⟩ := he.reads rfl I ex ry
  have pl := he.plain
  cases he with
  | lst h1 rr =>
    simp only [notInD] at hf
    split at hf
    · rename_i hc
      cases hf
      exact notIn_list_data r2 r1 (by rw [PyData.plain] at pl; exact pl) hd.plain (shalAll_room hc hu) ⟨.bl _, H, I, rfl, q _ B H (Nx.refl ex) (.bl _)⟩
    · cases hf
  | tup h1 rr =>
    simp only [notInD] at hf
    split at hf
    · rename_i hc
      cases hf
      exact notIn_tuple_data r2 r1 (by rw [PyData.plain] at pl; exact pl) hd.plain (shalAll_room hc hu) ⟨.bl _, H, I, rfl, q _ B H (Nx.refl ex) (.bl _)⟩
    · cases hf
  | str b =>
    cases hd with
    | str a =>
      cases hf
      exact op_notin_str pins s σ H _ _ v u Q I rx ry ⟨a, b, rfl, rfl, q _ B H (Nx.refl ex) (.bl _)⟩
    | _ => simp [notInD] at hf
  | _ => cases hd <;> simp [notInD] at hf

/-! ### items, cuts -/
def idxD : D → D → Option D
  | .list ds, .int i => atI ds i
  | .tuple ds, .int i => atI ds i
  | .str z, .int i => if z.length ≤ 16777216 then (atI z.cps.toList i).map fun c => .str ⟨#[c]⟩ else none
  | _, _ => none
theorem Reps.atI {K : PySem.W.Frag} {vs : List V} {ds : List D} {i : Int} {d : D} (r : Reps K B vs ds) (h : L2.atI ds i = some d) : ∃ v, L2.atI vs i = some v ∧ Rep K B v d := by
  unfold L2.atI at h ⊢
  rw [r.len]
  obtain ⟨j, hj, e⟩ := bind_some h
  obtain ⟨v, e1, e2⟩ := r.at e
  exact ⟨v, by rw [hj]; exact e1, e2⟩
theorem ix_D : IxR X (rD X.K idxD) := by
  intro value slice pins s σ H x y v u Q I rx ry ⟨B, d, e, r, ex, hd, he, hf, q⟩ hs
  cases hd with
  | @lst l xs ds h1 r1 =>
    cases he with
    | int i =>
      obtain ⟨w, e1, e2⟩ := r1.atI hf
      exact ix_list value slice pins s σ H _ _ v u Q I rx ry ⟨l, xs, i, w, rfl, rfl, .inl (.inl (ex _ _ h1)), e1, q _ B H (Nx.refl ex) e2⟩ hs
    | _ => simp [idxD] at hf
  | @tup l xs ds h1 r1 =>
    cases he with
    | int i =>
      obtain ⟨w, e1, e2⟩ := r1.atI hf
      exact ix_tup value slice pins s σ H _ _ v u Q I rx ry ⟨l, xs, i, w, rfl, rfl, Evl.ex_t ex h1, e1, q _ B H (Nx.refl ex) e2⟩ hs
    | _ => simp [idxD] at hf
  | str z =>
    cases he with
    | int i =>
      simp only [idxD] at hf
      split at hf
      · rename_i hz
        cases hc : atI z.cps.toList i with
        | none => rw [hc] at hf; cases hf
        | some c =>
          rw [hc] at hf
          cases hf
          exact ix_str value slice pins s σ H _ _ v u Q I rx ry ⟨z, i, c, rfl, rfl, by rw [sizeLine_eq]; exact hz, hc, q _ B H (Nx.refl ex) (.str _)⟩ hs
      · cases hf
    | _ => simp [idxD] at hf
  | _ => cases he <;> simp [idxD] at hf
def cutL {α : Type} (xs : List α) (lo hi : Option Int) : List α := (xs.drop (HT.sIx xs.length 0 lo)).take (HT.sIx xs.length xs.length hi - HT.sIx xs.length 0 lo)
theorem Reps.cut {K : PySem.W.Frag} {vs : List V} {ds : List D} (r : Reps K B vs ds) (lo hi : Option Int) : Reps K B (cutV vs lo hi) (cutL ds lo hi) := by
  unfold cutV cutL
  rw [r.len]
  exact (r.drop _).take _
theorem cut_whole {K : PySem.W.Frag} {vs : List V} {ds : List D} {lo hi : Option Int} (r : Reps K B vs ds) (h : HT.sIx vs.length 0 lo = 0 ∧ HT.sIx vs.length vs.length hi = vs.length) : cutL ds lo hi = ds := by
  have e := r.len
  unfold cutL
  rw [← e, h.1, h.2, List.drop_zero, Nat.sub_zero, e, List.take_length]
def sliceD (d : D) (lo hi : Option Int) : Option D := match d with
  | .list ds => some (.list (cutL ds lo hi))
  | .tuple ds => some (.tuple (cutL ds lo hi))
  | .str z => if z.length ≤ 16777216 then some (.str (cutS z lo hi)) else none
  | _ => none
def rSlD (K : PySem.W.Frag) : V → Option Int → Option Int → Hp → VK → Prop := fun x lo hi H Q => ∃ B d r, Ex B H ∧ Rep K B x d ∧ sliceD d lo hi = some r ∧ ∀ v B' H', Nx B H B' H' → Rep K B' v r → Q v H'
theorem sl_D : SlR X (rSlD X.K) := by
  intro pins s σ H x v vl vu lo hi sl Q I rx hs pl pu ⟨B, d, r, ex, hd, hf, q⟩
  cases hd with
  | @lst l xs ds h1 r1 =>
    cases hf
    refine sl_list pins s σ H _ v vl vu lo hi sl Q I rx hs pl pu ⟨l, xs, rfl, .inl (.inl (ex _ _ h1)), fun p hp => ?_⟩
    exact q _ _ _ (Nx.new ex hp) (Nx.lst (r1.cut lo hi) ex hp)
  | @tup l xs ds h1 r1 =>
    cases hf
    refine sl_tupA pins s σ H _ v vl vu lo hi sl Q I rx hs pl pu ⟨l, xs, rfl, Evl.ex_t ex h1, fun hw => ?_, fun _ p hp => ?_⟩
    · rw [cut_whole r1 hw] at q
      exact q _ B H (Nx.refl ex) (.tup h1 r1)
    · exact q _ _ _ (Nx.new ex hp) (Nx.tup (r1.cut lo hi) ex hp)
  | str z =>
    simp only [sliceD] at hf
    split at hf
    · rename_i hz
      cases hf
      exact sl_str pins s σ H _ v vl vu lo hi sl Q I rx hs pl pu ⟨z, rfl, by rw [sizeLine_eq]; exact hz, q _ B H (Nx.refl ex) (.str _)⟩
    · cases hf
  | _ => simp [sliceD] at hf
end
end Dl

/-! Data layer, part 4: calls, what is walked, targets, comprehensions. -/
namespace Dl
open PySem L2 PySem.Spec PyProof.Rows PySem.W PySem.SeqAt
open Evl (Ex)

section
variable {X : Cx} {e a b : Expr} {es : List Expr} {ρ : Env} {pos : Pos}
/-! ### slices -/
def oI (m : Option D) : Option (Option Int) := m.bind fun d => match d with
  | .int i => some (some i)
  | _ => none
def cO (K : PySem.W.Frag) (ρ : Env) (m : Option (Option Int)) : TO := fun σ H Q => ∃ B0 H0 B, Holds K B0 H0 ρ σ B H ∧ ∃ o, m = some o ∧ ∀ B' H', Nx B H B' H' → Q o H'
structure DO (X : Cx) (e : Option Expr) (ρ : Env) (m : Option (Option Int)) : Prop where
  po : PO X e (cO X.K ρ m)
theorem do_none : DO X none ρ (some none) := ⟨⟨by
  intro s pins σ H Q I h
  have := po_none (X := X)
  refine this.run s pins σ H Q I ?_
  obtain ⟨B0, H0, B, hh, o, hm, q⟩ := h
  cases hm
  exact q B H (Nx.refl hh.ex)⟩⟩
theorem do_some {m : Option D} (h : DE X e ρ m) : DO X (some e) ρ (oI m) := ⟨⟨by
  intro s pins σ H Q I w
  refine (po_some h.pe).run s pins σ H Q I ?_
  obtain ⟨B0, H0, B, hh, o, hm, q⟩ := w
  obtain ⟨x, hx, hf⟩ := bind_some hm
  refine ⟨B0, H0, B, hh, x, hx, fun v B1 H1 n1 r1 => ?_⟩
  cases r1 <;> simp at hf
  · cases hf
    exact ⟨_, rfl, q B1 H1 n1⟩⟩⟩
abbrev b3 (m : Option D) (l h : Option (Option Int)) : Option D := m.bind fun d => l.bind fun lo => h.bind fun hi => sliceD d lo hi
theorem de_slice {lo hi : Option Expr} {p2 : Pos} {m : Option D} {l h : Option (Option Int)} (he : DE X e ρ m) (hl : DO X lo ρ l) (hh : DO X hi ρ h) : DE X (.Subscript e (.Slice lo hi none p2) pos) ρ (b3 m l h) := ⟨peI (pe_slice sl_D he.pe hl.po hh.po) (by
  intro σ H Q ⟨B0, H0, B, hh, d', hm, q⟩
  obtain ⟨x, hx, hm⟩ := bind_some hm
  obtain ⟨i, hi, hm⟩ := bind_some hm
  obtain ⟨j, hj, hf⟩ := bind_some hm
  exact ⟨B0, H0, B, hh, x, hx, fun v B1 H1 n1 r1 => ⟨B0, H0, B1, hh.step n1, i, hi, fun B2 H2 n2 => ⟨B0, H0, B2, (hh.step n1).step n2, j, hj, fun B3 H3 n3 =>
    ⟨B3, x, d', n3.2.2.1, r1.up (n2.1.trans n3.1), hf, fun w B4 H4 n4 r4 => q w B4 H4 (((n1.trans n2).trans n3).trans n4) r4⟩⟩⟩⟩)⟩
def revD : D → Option D
  | .list ds => some (.list ds.reverse)
  | _ => none
theorem de_rev {k : Nat} {p1 p2 p3 : Pos} {m : Option D} (he : DE X e ρ m) : DE X (.Subscript e (.Slice none none (some (.UnaryOp .USub (.Constant (.int 1) k p1) p2)) p3) pos) ρ (m.bind revD) := ⟨peI (pe_revL he.pe) (by
  intro σ H Q ⟨B0, H0, B, hh, d', hm, q⟩
  obtain ⟨x, hx, hf⟩ := bind_some hm
  refine ⟨B0, H0, B, hh, x, hx, fun v B1 H1 n1 r1 => ?_⟩
  cases r1 with
  | @lst l xs ds h1 rr =>
    cases hf
    exact ⟨l, xs, rfl, .inl (.inl (n1.2.2.1 _ _ h1)), fun p hp => q _ _ _ (n1.trans (Nx.new n1.2.2.1 hp)) (Nx.lst rr.rev n1.2.2.1 hp)⟩
  | _ => simp [revD] at hf)⟩

/-! ### calls of built-ins -/
section
variable {x id : Str} {n T : String} {p : Pos} {f : List D → Option D} {g : List D → Option (List D)} {m : Option (List D)}
theorem de_callB (hc : CallR X (.builtin n) (rDL X.K f)) (hg : Gl X x) (hm : X.mg x = none) (hv : bootBuiltins x = some (.builtin n)) (ha : DA X (e :: es) ρ m) (hn : x ≠ "__name__") (hdb : (x == ("__debug__" : Str)) = false)
    (he : starEach (e :: es) X.env = (false, eval e X.env) :: starEach es X.env) (hpl : (backTo pos (starEach es X.env)).any (·.1) = false) : DE X (.Call (.Name x p) (e :: es) [] pos) ρ (m.bind f) := ⟨peI (pe_callB hc hg hm hv ha.pa hn hdb he hpl) (by
  intro σ H Q ⟨B0, H0, B, hh, d', hm, q⟩
  obtain ⟨ds, hx, hf⟩ := bind_some hm
  exact ⟨B0, H0, B, hh, ds, hx, fun vs B1 H1 n1 r1 => ⟨B1, ds, d', n1.2.2.1, r1, hf, fun w B2 H2 n2 r2 => q w B2 H2 (n1.trans n2) r2⟩⟩)⟩
theorem de_callT (hc : CallR X (.type T) (rDL X.K f)) (hg : Gl X x) (hm : X.mg x = none) (hv : bootBuiltins x = some (.type T)) (ha : DA X (e :: es) ρ m) (hn : x ≠ "__name__") (hdb : (x == ("__debug__" : Str)) = false)
    (he : starEach (e :: es) X.env = (false, eval e X.env) :: starEach es X.env) (hpl : (backTo pos (starEach es X.env)).any (·.1) = false) : DE X (.Call (.Name x p) (e :: es) [] pos) ρ (m.bind f) := ⟨peI (pe_callTy hc hg hm hv ha.pa hn hdb he hpl) (by
  intro σ H Q ⟨B0, H0, B, hh, d', hm, q⟩
  obtain ⟨ds, hx, hf⟩ := bind_some hm
  exact ⟨B0, H0, B, hh, ds, hx, fun vs B1 H1 n1 r1 => ⟨B1, ds, d', n1.2.2.1, r1, hf, fun w B2 H2 n2 r2 => q w B2 H2 (n1.trans n2) r2⟩⟩)⟩
theorem tcF {K : PySem.W.Frag} : ∀ (σ : L2.St) (H : Hp) (Q : VK), cF K ρ (m.bind g) σ H Q → tCB (rDF K g) (cA K ρ m) σ H Q := by
  intro σ H Q ⟨B0, H0, B, hh, d', hm, q⟩
  obtain ⟨ds, hx, hf⟩ := bind_some hm
  refine ⟨B0, H0, B, hh, ds, hx, fun vs B1 H1 n1 r1 => ⟨B1, ds, d', n1.2.2.1, r1, hf, fun p ws B2 H2 n2 hp hb he r2 => ?_⟩⟩
  exact q p ws B2 H2 (n1.trans n2) (Ex.none n1.2.1 hp) hb he r2
theorem df_callB (hc : CallR X (.builtin n) (rDF X.K g)) (hg : Gl X x) (hm : X.mg x = none) (hv : bootBuiltins x = some (.builtin n)) (ha : DA X (e :: es) ρ m) (hn : x ≠ "__name__") (hdb : (x == ("__debug__" : Str)) = false)
    (he : starEach (e :: es) X.env = (false, eval e X.env) :: starEach es X.env) (hpl : (backTo pos (starEach es X.env)).any (·.1) = false) : DF X (.Call (.Name x p) (e :: es) [] pos) ρ (m.bind g) := ⟨peI (pe_callB hc hg hm hv ha.pa hn hdb he hpl) tcF⟩
theorem df_callT (hc : CallR X (.type T) (rDF X.K g)) (hg : Gl X x) (hm : X.mg x = none) (hv : bootBuiltins x = some (.type T)) (ha : DA X (e :: es) ρ m) (hn : x ≠ "__name__") (hdb : (x == ("__debug__" : Str)) = false)
    (he : starEach (e :: es) X.env = (false, eval e X.env) :: starEach es X.env) (hpl : (backTo pos (starEach es X.env)).any (·.1) = false) : DF X (.Call (.Name x p) (e :: es) [] pos) ρ (m.bind g) := ⟨peI (pe_callTy hc hg hm hv ha.pa hn hdb he hpl) tcF⟩
end

/-! ### built-ins, by data -/
def intsOf : List D → Option (List Int)
  | [] => some []
  | .int i :: r => (intsOf r).map (i :: ·)
  | _ => none
theorem intsOf_some : ∀ {ds : List D} {ns : List Int}, intsOf ds = some ns → ds = ns.map .int
  | [], ns, h => by cases h; rfl
  | .int i :: r, ns, h => by
    simp only [intsOf] at h
    cases q : intsOf r with
    | none => rw [q] at h; cases h
    | some l => rw [q] at h; cases h; rw [intsOf_some q]; rfl
  | .none :: _, _, h | .bool _ :: _, _, h | .str _ :: _, _, h | .list _ :: _, _, h | .tuple _ :: _, _, h | .dict _ :: _, _, h => by simp [intsOf] at h
theorem intsOf_map : ∀ ns : List Int, intsOf (ns.map .int) = some ns
  | [] => rfl
  | i :: r => by
    show (intsOf (r.map .int)).map (i :: ·) = _
    rw [intsOf_map r]; rfl
def boolsOf : List D → Option (List Bool)
  | [] => some []
  | .bool i :: r => (boolsOf r).map (i :: ·)
  | _ => none
theorem boolsOf_some : ∀ {ds : List D} {ns : List Bool}, boolsOf ds = some ns → ds = ns.map .bool
  | [], ns, h => by cases h; rfl
  | .bool i :: r, ns, h => by
    simp only [boolsOf] at h
    cases q : boolsOf r with
    | none => rw [q] at h; cases h
    | some l => rw [q] at h; cases h; rw [boolsOf_some q]; rfl
  | .none :: _, _, h | .int _ :: _, _, h | .str _ :: _, _, h | .list _ :: _, _, h | .tuple _ :: _, _, h | .dict _ :: _, _, h => by simp [boolsOf] at h
theorem boolsOf_map : ∀ ns : List Bool, boolsOf (ns.map .bool) = some ns
  | [] => rfl
  | i :: r => by
    show (boolsOf (r.map .bool)).map (i :: ·) = _
    rw [boolsOf_map r]; rfl
def lenL : List D → Option D
  | [.list ds] => some (.int ds.length)
  | [.tuple ds] => some (.int ds.length)
  | [.str z] => fit z.length (.int z.length)
  | _ => none
theorem one_rep {K : PySem.W.Frag} {B : Hp} {xs : List V} {d : D} (r : Reps K B xs [d]) : ∃ v, xs = [v] ∧ Rep K B v d := by
  cases r with
  | cons h t => cases t; exact ⟨_, rfl, h⟩
theorem two_rep {K : PySem.W.Frag} {B : Hp} {xs : List V} {d d' : D} (r : Reps K B xs [d, d']) : ∃ v v', xs = [v, v'] ∧ Rep K B v d ∧ Rep K B v' d' := by
  cases r with
  | cons h t =>
    obtain ⟨v, rfl, h2⟩ := one_rep t
    exact ⟨_, _, rfl, h, h2⟩
theorem cb_len : CallR X (.builtin "len") (rDL X.K lenL) := by
  intro pins s σ H xs us Q I rv ⟨B, ds, r, ex, hr, hf, q⟩
  unfold lenL at hf
  split at hf
  · cases hf
    obtain ⟨v, rfl, h1⟩ := one_rep hr
    cases h1 with
    | lst h2 rr => exact call_len pins s σ H _ us Q I rv ⟨_, _, rfl, .inl ⟨_, .inl (.inl (ex _ _ h2)), rfl⟩, by rw [rr.len]; exact q _ B H (Nx.refl ex) (.int _)⟩
  · cases hf
    obtain ⟨v, rfl, h1⟩ := one_rep hr
    cases h1 with
    | tup h2 rr => exact call_len pins s σ H _ us Q I rv ⟨_, _, rfl, .inr ⟨_, Evl.ex_t ex h2, rfl⟩, by rw [rr.len]; exact q _ B H (Nx.refl ex) (.int _)⟩
  · obtain ⟨v, rfl, h1⟩ := one_rep hr
    obtain ⟨hz, rfl⟩ := fit_some hf
    cases h1 with
    | str z => exact call_len pins s σ H _ us Q I rv ⟨_, _, rfl, ⟨hz, rfl⟩, q _ B H (Nx.refl ex) (.int _)⟩
  · cases hf
def minL : List D → Option D
  | [.int i, .int j] => some (.int (if j < i then j else i))
  | [.list ds] => (intsOf ds).bind fun ns => ns.min?.map .int
  | [.tuple ds] => (intsOf ds).bind fun ns => ns.min?.map .int
  | _ => none
def maxL : List D → Option D
  | [.int i, .int j] => some (.int (if j > i then j else i))
  | [.list ds] => (intsOf ds).bind fun ns => ns.max?.map .int
  | [.tuple ds] => (intsOf ds).bind fun ns => ns.max?.map .int
  | _ => none
theorem int_le_min {l : List Int} {m k : Int} (h : l.min? = some m) (hk : k ∈ l) (hl : ∀ y ∈ l, k ≤ y) : k = m := by
  have h1 := List.min?_eq_some_iff.mp h
  have a := hl m h1.1
  have b := h1.2 k hk
  omega
theorem int_le_max {l : List Int} {m k : Int} (h : l.max? = some m) (hk : k ∈ l) (hl : ∀ y ∈ l, y ≤ k) : k = m := by
  have h1 := List.max?_eq_some_iff.mp h
  have a := hl m h1.1
  have b := h1.2 k hk
  omega
theorem map_some {α β : Type} {m : Option α} {f : α → β} {b : β} (h : m.map f = some b) : ∃ a, m = some a ∧ f a = b := by
  cases m with
  | none => cases h
  | some a => exact ⟨a, rfl, Option.some.inj h⟩
theorem foldl_min : ∀ (ns : List Int) (n : Int), ns.foldl min n = (n :: ns).min?.getD 0 := by
  intro ns n
  rfl
theorem alike_intsAll (n : Int) (ns : List Int) : AlikeAll ((.int n : D) :: ns.map .int) := by
  have h : ∀ x ∈ ((.int n : D) :: ns.map .int), ∃ k, x = .int k := fun x hx => by
    rcases List.mem_cons.mp hx with rfl | hx
    · exact ⟨_, rfl⟩
    · obtain ⟨k, _, rfl⟩ := List.mem_map.mp hx; exact ⟨k, rfl⟩
  exact ⟨fun x hx y hy => by
    obtain ⟨i, rfl⟩ := h x hx
    obtain ⟨j, rfl⟩ := h y hy
    simp [alike], fun x hx => by obtain ⟨i, rfl⟩ := h x hx; simp⟩
theorem depth_int1 (n : Int) (ns : List Int) : PyData.depthAll ((.int n : D) :: ns.map .int) = 0 := depth_ints (n :: ns)
theorem cb_min (hc : X.calm = true) (hu : X.A.units + 200 < cLine) : CallR X (.builtin "min") (rDL X.K minL) := by
  intro pins s σ H xs us Q I rv ⟨B, ds, r, ex, hr, hf, q⟩
  unfold minL at hf
  split at hf
  · cases hf
    obtain ⟨v, v', rfl, h1, h2⟩ := two_rep hr
    cases h1 with
    | int i => cases h2 with
      | int j => exact call_min2 hc pins s σ H _ us Q I rv ⟨_, _, rfl, q _ B H (Nx.refl ex) (.int _)⟩
  · obtain ⟨ns, hn, hf⟩ := bind_some hf
    obtain ⟨m, hm, rfl⟩ := map_some hf
    obtain rfl := intsOf_some hn
    obtain ⟨v, rfl, h1⟩ := one_rep hr
    cases h1 with
    | lst h2 rr =>
      obtain rfl := rr.ints
      refine cr_min hc pins s σ H _ us Q I rv ⟨_, ns, rfl, .inl (.inl (ex _ _ h2)), ?_, fun k hk hl => ?_⟩
      · cases ns with
        | nil => cases hm
        | cons => simp
      · rw [int_le_min hm hk hl]; exact q _ B H (Nx.refl ex) (.int _)
  · obtain ⟨ns, hn, hf⟩ := bind_some hf
    obtain ⟨m, hm, rfl⟩ := map_some hf
    obtain rfl := intsOf_some hn
    obtain ⟨v, rfl, h1⟩ := one_rep hr
    cases h1 with
    | @tup a vs _ h2 rr =>
      obtain rfl := rr.ints
      obtain ⟨its, rvv, pl, hz⟩ := I.tuple (Evl.ex_t ex h2)
      rw [Vals.ref1 rv]
      cases ns with
      | nil => cases hm
      | cons n ns =>
        have rrr : ∃ as, ReadsAll s.heap its ((n :: ns).map PyData.int) as := Dp.readsAll I _ _ _ (Reps.dp (Reps.up ex (Reps.of_ints (K := X.K) (n :: ns)))) rvv
        obtain ⟨as, ra⟩ := rrr
        refine min_tuple_data (I.ok.hd hc) pl (by simpa using ra) (alike_intsAll n ns) (by rw [depth_int1]; omega) fun i w h' tk bs hw hR hk => ?_
        rw [minD_ints] at hR
        cases hR with
        | int k t =>
          have e : m = ns.foldl min n := by
            have : (n :: ns).min? = some (ns.foldl min n) := rfl
            rw [this] at hm; exact (Option.some.inj hm).symm
          subst e
          exact ⟨.int _, H, I.kept hk, ⟨_, rfl⟩, q _ B H (Nx.refl ex) (.int _)⟩
  · cases hf
theorem cb_max (hc : X.calm = true) (hu : X.A.units + 200 < cLine) : CallR X (.builtin "max") (rDL X.K maxL) := by
  intro pins s σ H xs us Q I rv ⟨B, ds, r, ex, hr, hf, q⟩
  unfold maxL at hf
  split at hf
  · cases hf
    obtain ⟨v, v', rfl, h1, h2⟩ := two_rep hr
    cases h1 with
    | int i => cases h2 with
      | int j => exact call_max2 hc pins s σ H _ us Q I rv ⟨_, _, rfl, q _ B H (Nx.refl ex) (.int _)⟩
  · obtain ⟨ns, hn, hf⟩ := bind_some hf
    obtain ⟨m, hm, rfl⟩ := map_some hf
    obtain rfl := intsOf_some hn
    obtain ⟨v, rfl, h1⟩ := one_rep hr
    cases h1 with
    | lst h2 rr =>
      obtain rfl := rr.ints
      refine cr_max hc pins s σ H _ us Q I rv ⟨_, ns, rfl, .inl (.inl (ex _ _ h2)), ?_, fun k hk hl => ?_⟩
      · cases ns with
        | nil => cases hm
        | cons => simp
      · rw [int_le_max hm hk hl]; exact q _ B H (Nx.refl ex) (.int _)
  · obtain ⟨ns, hn, hf⟩ := bind_some hf
    obtain ⟨m, hm, rfl⟩ := map_some hf
    obtain rfl := intsOf_some hn
    obtain ⟨v, rfl, h1⟩ := one_rep hr
    cases h1 with
    | @tup a vs _ h2 rr =>
      obtain rfl := rr.ints
      obtain ⟨its, rvv, pl, hz⟩ := I.tuple (Evl.ex_t ex h2)
      rw [Vals.ref1 rv]
      cases ns with
      | nil => cases hm
      | cons n ns =>
        have rrr : ∃ as, ReadsAll s.heap its ((n :: ns).map PyData.int) as := Dp.readsAll I _ _ _ (Reps.dp (Reps.up ex (Reps.of_ints (K := X.K) (n :: ns)))) rvv
        obtain ⟨as, ra⟩ := rrr
        refine max_tuple_data (I.ok.hd hc) pl (by simpa using ra) (alike_intsAll n ns) (by rw [depth_int1]; omega) fun i w h' tk bs hw hR hk => ?_
        rw [maxD_ints] at hR
        cases hR with
        | int k t =>
          have e : m = ns.foldl max n := by
            have : (n :: ns).max? = some (ns.foldl max n) := rfl
            rw [this] at hm; exact (Option.some.inj hm).symm
          subst e
          exact ⟨.int _, H, I.kept hk, ⟨_, rfl⟩, q _ B H (Nx.refl ex) (.int _)⟩
  · cases hf
def sumL : List D → Option D
  | [.list ds] => (intsOf ds).map fun ns => .int ns.sum
  | _ => none
theorem cb_sum (hc : X.calm = true) : CallR X (.builtin "sum") (rDL X.K sumL) := by
  intro pins s σ H xs us Q I rv ⟨B, ds, r, ex, hr, hf, q⟩
  unfold sumL at hf
  split at hf
  · obtain ⟨ns, hn, rfl⟩ := map_some hf
    obtain rfl := intsOf_some hn
    obtain ⟨v, rfl, h1⟩ := one_rep hr
    cases h1 with
    | lst h2 rr =>
      obtain rfl := rr.ints
      exact cr_sum hc pins s σ H _ us Q I rv ⟨_, ns, rfl, .inl (.inl (ex _ _ h2)), q _ B H (Nx.refl ex) (.int _)⟩
  · cases hf
def anyL : List D → Option D
  | [.list ds] => (boolsOf ds).map fun ns => .bool (ns.any id)
  | _ => none
def allL : List D → Option D
  | [.list ds] => (boolsOf ds).map fun ns => .bool (ns.all id)
  | _ => none
theorem cb_any (hc : X.calm = true) : CallR X (.builtin "any") (rDL X.K anyL) := by
  intro pins s σ H xs us Q I rv ⟨B, ds, r, ex, hr, hf, q⟩
  unfold anyL at hf
  split at hf
  · obtain ⟨ns, hn, rfl⟩ := map_some hf
    obtain rfl := boolsOf_some hn
    obtain ⟨v, rfl, h1⟩ := one_rep hr
    cases h1 with
    | lst h2 rr =>
      obtain rfl := rr.bools
      exact cr_any hc pins s σ H _ us Q I rv ⟨_, ns, rfl, .inl (.inl (ex _ _ h2)), q _ B H (Nx.refl ex) (.bl _)⟩
  · cases hf
theorem cb_all (hc : X.calm = true) : CallR X (.builtin "all") (rDL X.K allL) := by
  intro pins s σ H xs us Q I rv ⟨B, ds, r, ex, hr, hf, q⟩
  unfold allL at hf
  split at hf
  · obtain ⟨ns, hn, rfl⟩ := map_some hf
    obtain rfl := boolsOf_some hn
    obtain ⟨v, rfl, h1⟩ := one_rep hr
    cases h1 with
    | lst h2 rr =>
      obtain rfl := rr.bools
      exact cr_all hc pins s σ H _ us Q I rv ⟨_, ns, rfl, .inl (.inl (ex _ _ h2)), q _ B H (Nx.refl ex) (.bl _)⟩
  · cases hf
def absL : List D → Option D
  | [.int i] => some (.int (if i < 0 then -i else i))
  | _ => none
theorem cb_abs : CallR X (.builtin "abs") (rDL X.K absL) := by
  intro pins s σ H xs us Q I rv ⟨B, ds, r, ex, hr, hf, q⟩
  unfold absL at hf
  split at hf
  · cases hf
    obtain ⟨v, rfl, h1⟩ := one_rep hr
    cases h1 with
    | int i => exact call_abs pins s σ H _ us Q I rv ⟨_, rfl, q _ B H (Nx.refl ex) (.int _)⟩
  · cases hf
def intL : List D → Option D
  | [.int i] => some (.int i)
  | [.bool b] => some (.int (if b then 1 else 0))
  | _ => none
theorem ct_int : CallR X (.type "int") (rDL X.K intL) := by
  intro pins s σ H xs us Q I rv ⟨B, ds, r, ex, hr, hf, q⟩
  unfold intL at hf
  split at hf
  · cases hf
    obtain ⟨v, rfl, h1⟩ := one_rep hr
    cases h1 with
    | int i => exact call_int1 pins s σ H _ us Q I rv (.inl ⟨_, rfl, q _ B H (Nx.refl ex) (.int _)⟩)
  · cases hf
    obtain ⟨v, rfl, h1⟩ := one_rep hr
    cases h1 with
    | bl i => exact call_int1 pins s σ H _ us Q I rv (.inr ⟨_, rfl, q _ B H (Nx.refl ex) (.int _)⟩)
  · cases hf
def strL : List D → Option D
  | [.int i] => if i.natAbs.log2 < 1920 then some (.str (toString i)) else none
  | _ => none
theorem ct_str : CallR X (.type "str") (rDL X.K strL) := by
  intro pins s σ H xs us Q I rv ⟨B, ds, r, ex, hr, hf, q⟩
  unfold strL at hf
  split at hf
  · split at hf
    · rename_i hc
      cases hf
      obtain ⟨v, rfl, h1⟩ := one_rep hr
      cases h1 with
      | int i => exact call_str_int pins s σ H _ us Q I rv ⟨_, rfl, hc, q _ B H (Nx.refl ex) (.str _)⟩
    · cases hf
  · cases hf
def listF : List D → Option (List D)
  | [.list ds] => some ds
  | [.tuple ds] => some ds
  | _ => none
theorem ct_list : CallR X (.type "list") (rDF X.K listF) := by
  intro pins s σ H xs us Q I rv ⟨B, ds, r, ex, hr, hf, q⟩
  unfold listF at hf
  split at hf
  · cases hf
    obtain ⟨v, rfl, h1⟩ := one_rep hr
    cases h1 with
    | lst h2 rr => exact call_list_of pins s σ H _ us Q I rv ⟨_, _, rfl, .inl (.inl (.inl (ex _ _ h2))), fun p hp => q p _ B _ (Nx.own ex hp) hp (Ex.none ex hp) upd_same rr⟩
  · cases hf
    obtain ⟨v, rfl, h1⟩ := one_rep hr
    cases h1 with
    | tup h2 rr => exact call_list_of pins s σ H _ us Q I rv ⟨_, _, rfl, .inr (Evl.ex_t ex h2), fun p hp => q p _ B _ (Nx.own ex hp) hp (Ex.none ex hp) upd_same rr⟩
  · cases hf
def tupL : List D → Option D
  | [.list ds] => some (.tuple ds)
  | [.tuple ds] => some (.tuple ds)
  | _ => none
theorem ct_tuple : CallR X (.type "tuple") (rDL X.K tupL) := by
  intro pins s σ H xs us Q I rv ⟨B, ds, r, ex, hr, hf, q⟩
  unfold tupL at hf
  split at hf
  · cases hf
    obtain ⟨v, rfl, h1⟩ := one_rep hr
    cases h1 with
    | lst h2 rr => exact call_tuple_of pins s σ H _ us Q I rv ⟨_, _, rfl, .inl ⟨.inl (.inl (ex _ _ h2)), fun p hp => q _ _ _ (Nx.new ex hp) (Nx.tup rr ex hp)⟩⟩
  · cases hf
    obtain ⟨v, rfl, h1⟩ := one_rep hr
    cases h1 with
    | tup h2 rr => exact call_tuple_of pins s σ H _ us Q I rv ⟨_, _, rfl, .inr ⟨Evl.ex_t ex h2, q _ B H (Nx.refl ex) (.tup h2 rr)⟩⟩
  · cases hf
open Classical in
noncomputable def sortF : List D → Option (List D)
  | [.list ds] => if AllAlike ds ∧ Sortable ds ∧ PyData.depthAll ds ≤ 64 then some (ds.mergeSort (dataLe false id)) else none
  | _ => none
theorem each_of {K : PySem.W.Frag} {R : Value → D → Prop} : ∀ {vs : List V} {ds : List D} {us : List Value}, Reps K B vs ds → Vals vs us → (∀ v d u, Rep K B v d → RelV v u → R u d) → EachIs R us ds
  | _, _, _, .nil, .nil, _ => .nil
  | _, _, _, .cons h t, .cons r rr, f => .cons (f _ _ _ h r) (each_of t rr f)
theorem of_each {K : PySem.W.Frag} : ∀ {us : List Value} {ds : List D}, EachIs (fun u d => ∃ v, RelV v u ∧ Rep K B v d) us ds → ∃ vs, Vals vs us ∧ Reps K B vs ds
  | _, _, .nil => ⟨[], .nil, .nil⟩
  | _, _, .cons ⟨v, h1, h2⟩ t => by
    obtain ⟨vs, h3, h4⟩ := of_each t
    exact ⟨v :: vs, .cons h1 h3, .cons h2 h4⟩
theorem depth_mem : ∀ {ds : List D} {d : D}, d ∈ ds → d.depth ≤ PyData.depthAll ds
  | x :: xs, d, h => by
    rw [PyData.depthAll]
    rcases List.mem_cons.mp h with rfl | h
    · omega
    · have := depth_mem h; omega
theorem cb_sorted (hu : X.A.units + 200 < cLine) : CallR X (.builtin "sorted") (rDF X.K sortF) := by
  intro pins s σ H xs us Q I rv ⟨B, ds, r, ex, hr, hf, q⟩
  unfold sortF at hf
  split at hf
  · rename_i l
    split at hf
    · rename_i hc
      obtain ⟨h1, h2, h3⟩ := hc
      cases hf
      obtain ⟨v, rfl, hv⟩ := one_rep hr
      cases hv with
      | @lst a vs _ ha rr =>
        obtain ⟨its, rvv, pl, hz⟩ := I.list (.inl (.inl (ex _ _ ha)))
        rw [Vals.ref1 rv]
        have e1 : EachIs (fun u d => ∃ v, RelV v u ∧ Rep X.K B v d) its l := each_of rr rvv fun v d u h w => ⟨v, w, h⟩
        have e2 : EachIs (fun u (d : D) => ∃ as, Reads s.heap u (id d) as) its l := each_of rr rvv fun v d u h w => h.reads rfl I ex w
        refine sorted_data (enc := id) pl.isList e1 e2 (by rw [List.map_id]; exact h1) (by rw [List.map_id]; exact h2) (by rw [← rr.len]; exact hz) (fun d hd => ?_) fun out hl ho => ?_
        · have := depth_mem hd
          show X.A.units + 2 + d.depth < cLine
          omega
        · obtain ⟨ws, w1, w2⟩ := of_each ho
          obtain ⟨ep, he'⟩ := PyProof.Rows.sortedAll_at s.heap its out.toArray
          have hp := I.hok.fresh (Nat.le_succ s.heap.objs.size)
          have hlen : ws.length ≤ sizeLine := by
            rw [w1.length, hl, ← rr.len]; exact hz
          refine ⟨.ref (s.heap.objs.size + 1), upd H (s.heap.objs.size + 1) (.lst ws), I.laid (t' := s.toks) (fun _ _ => PyProof.Rows.sortedAll_old) (Nat.le_succ _) ⟨hlen, out, ep, w1, he'⟩, rfl, ?_⟩
          exact q _ ws B _ (Nx.own ex hp) hp (Ex.none ex hp) upd_same w2
    · cases hf
  · cases hf
end
end Dl

/-! Data layer, part 5: what is walked, targets, comprehensions. -/
namespace Dl
open PySem L2 PySem.Spec PyProof.Rows PySem.W PySem.SeqAt
open Evl (Ex)

/-! ### what is walked, by data -/
structure WkD (K : PySem.W.Frag) (B : Hp) (J : It) (ds : List D) : Prop where
  len : ds.length ≤ sizeLine
  go : ∀ (i : Nat) (H : Hp), i < ds.length → Ex B H → J.go i H
  st : ∀ (H : Hp), Ex B H → J.stop ds.length H
  yl : ∀ (i : Nat) (H : Hp) (x : V) (H' Bc : Hp) (d : D), ds[i]? = some d → Ex B Bc → Ex Bc H → J.yld i H x H' → ∃ B2, Nx Bc H B2 H' ∧ Rep K B2 x d
theorem WkD.up {K : PySem.W.Frag} {B B' : Hp} {J : It} {ds : List D} (w : WkD K B J ds) (e : Ex B B') : WkD K B' J ds :=
  ⟨w.len, fun i H hi h => w.go i H hi (e.trans h), fun H h => w.st H (e.trans h), fun i H x H' Bc d hd h1 h2 y => w.yl i H x H' Bc d hd (e.trans h1) h2 y⟩
def iT (K : PySem.W.Frag) (ρ : Env) (m : Option (List D)) : TI := fun σ H R => ∃ B0 H0 B, Holds K B0 H0 ρ σ B H ∧ ∃ ds, m = some ds ∧ ∀ J B' H', Nx B H B' H' → WkD K B' J ds → R J H'
structure DI (X : Cx) (tg e : Expr) (ρ : Env) (m : Option (List D)) : Prop where
  pi : PI X tg e (iT X.K ρ m)

section
variable {X : Cx} {tg e a b c : Expr} {es : List Expr} {ρ : Env} {pos : Pos}
theorem piI {t t' : TI} (h : PI X tg e t) (f : ∀ σ H Q, t' σ H Q → t σ H Q) : PI X tg e t' := ⟨fun pins s σ H Q I w => h.run pins s σ H Q I (f σ H Q w)⟩
theorem atV {K : PySem.W.Frag} {B : Hp} {vs : List V} {ds : List D} (r : Reps K B vs ds) {i : Nat} {x : V} {d : D} (h1 : vs[i]? = some x) (h2 : ds[i]? = some d) : Rep K B x d := by
  obtain ⟨d', h3, h4⟩ := r.atV h1
  rw [h2] at h3; cases h3; exact h4
theorem wk_list {K : PySem.W.Frag} {B : Hp} {a : Addr} {xs : List V} {ds : List D} (h : SqL K B a xs) (r : Reps K B xs ds) (hz : xs.length ≤ sizeLine) : WkD K B (Itl K a) ds where
  len := by rw [← r.len]; exact hz
  go := fun i H hi e => walk_list.goes i H (by rw [r.len]; exact hi) (Evl.ex_l e h)
  st := fun H e => by rw [← r.len]; exact walk_list.stops H (Evl.ex_l e h)
  yl := fun i H x H' Bc d hd e1 e2 y => by
    have hi := (List.getElem?_eq_some_iff.mp hd).1
    obtain ⟨rfl, hx⟩ := walk_list.yields i H x H' (by rw [r.len]; exact hi) (Evl.ex_l (e1.trans e2) h) y
    exact ⟨Bc, Nx.refl e2, (atV r hx hd).up e1⟩
theorem wk_tup {K : PySem.W.Frag} {B : Hp} {a : Addr} {xs : List V} {ds : List D} (h : SqT K B a xs) (r : Reps K B xs ds) (hz : xs.length ≤ sizeLine) : WkD K B (Itt K a) ds where
  len := by rw [← r.len]; exact hz
  go := fun i H hi e => walk_tup.goes i H (by rw [r.len]; exact hi) (Evl.ex_t e h)
  st := fun H e => by rw [← r.len]; exact walk_tup.stops H (Evl.ex_t e h)
  yl := fun i H x H' Bc d hd e1 e2 y => by
    have hi := (List.getElem?_eq_some_iff.mp hd).1
    obtain ⟨rfl, hx⟩ := walk_tup.yields i H x H' (by rw [r.len]; exact hi) (Evl.ex_t (e1.trans e2) h) y
    exact ⟨Bc, Nx.refl e2, (atV r hx hd).up e1⟩
def chars (z : Str) : List D := z.cps.toList.map fun c => .str ⟨#[c]⟩
/-- what a for walks: a list, a tuple, a text -/
def itemsD : D → Option (List D)
  | .list ds => some ds
  | .tuple ds => some ds
  | .str z => fit z.cps.size (chars z)
  | _ => none
theorem di_seq {m : Option D} (he : DE X e ρ m) : DI X tg e ρ (m.bind itemsD) := ⟨⟨fun pins s σ H R I h => by
  obtain ⟨B0, H0, B, hh, ds, hm, q⟩ := h
  obtain ⟨d, hx, hf⟩ := bind_some hm
  refine thn (he.pe.run pins s σ H (fun v H1 => ∃ B1, Nx B H B1 H1 ∧ Rep X.K B1 v d) I ⟨B0, H0, B, hh, d, hx, fun v B1 H1 n1 r1 => ⟨B1, n1, r1⟩⟩) fun v s1 ⟨x, H1, I1, rx, B1, n1, r1⟩ => ?_
  cases r1 with
  | @lst l xs es h1 rr =>
    cases hf
    cases rx
    obtain ⟨its, rv, p, hz⟩ := I1.list (.inl (.inl (n1.2.2.1 _ _ h1)))
    refine wpAny_pyIter_list p.isList (pi_one (tk := s1.toks) I1 _ (turn_list l _) ⟨_, Heap.get?_push_size _ rfl, rfl, rfl⟩ ?_)
    exact q _ B1 H1 n1 (wk_list (.inl (.inl h1)) rr hz)
  | @tup l xs es h1 rr =>
    cases hf
    cases rx
    obtain ⟨its, rv, p, hz⟩ := I1.tuple (Evl.ex_t n1.2.2.1 h1)
    refine wpAny_pyIter_tuple (show s1.heap.IsTuple l its.toArray from p) (pi_one (tk := s1.toks) I1 _ (turn_tuple l _) ⟨_, Heap.get?_push_size _ rfl, rfl, rfl⟩ ?_)
    exact q _ B1 H1 n1 (wk_tup h1 rr hz)
  | str z =>
    obtain ⟨hz, rfl⟩ := fit_some hf
    obtain ⟨t, rfl⟩ := rx
    have W : WkD X.K B1 (Its z) (chars z) := by
      refine ⟨by unfold chars; simpa using hz, fun i H hi e => ?_, fun H e => ?_, fun i H x H' Bc d hd e1 e2 y => ?_⟩
      · unfold chars at hi; simp at hi; exact hi
      · show z.cps.size ≤ _
        unfold chars; simp
      · obtain ⟨rfl, c, hc, rfl⟩ := y
        have e : d = .str ⟨#[c]⟩ := by
          unfold chars at hd
          simp [hc] at hd
          exact hd.symm
        subst e
        exact ⟨Bc, Nx.refl e2, .str _⟩
    cases ha : z.cps.all (· < 128)
    · exact wpAny_pyIter_wide ha (pi_one (tk := s1.toks) I1 _ (turn_str _ z t "str_iterator" (.inr rfl)) ⟨_, Heap.get?_push_size _ rfl, rfl, rfl⟩ (q _ B1 H1 n1 W))
    · exact wpAny_pyIter_ascii ha (pi_one (tk := s1.toks) I1 _ (turn_str _ z t "str_ascii_iterator" (.inl rfl)) ⟨_, Heap.get?_push_size _ rfl, rfl, rfl⟩ (q _ B1 H1 n1 W))
  | _ => simp [itemsD] at hf⟩⟩
def rangeI (lo : Int) (n : Nat) : List D := (List.range n).map fun (i : Nat) => .int (lo + (i : Int))
/-- range's turns -/
def rng1D : List D → Option (List D)
  | [.int j] => if -4611686018427387904 ≤ j then fit j.toNat (rangeI 0 j.toNat) else none
  | _ => none
def rng2D : List D → Option (List D)
  | [.int i, .int j] => if (-4611686018427387904 ≤ i ∧ i < 4611686018427387904) ∧ -4611686018427387904 ≤ j ∧ j < 4611686018427387904 then fit (j - i).toNat (rangeI i (j - i).toNat) else none
  | _ => none
theorem wk_rng {K : PySem.W.Frag} {B : Hp} (lo : Int) {n : Nat} (h : n ≤ sizeLine) : WkD K B (Itr lo n) (rangeI lo n) := by
  refine ⟨by unfold rangeI; simpa using h, fun i H hi e => ?_, fun H e => ?_, fun i H x H' Bc d hd e1 e2 y => ?_⟩
  · unfold rangeI at hi; simp at hi; exact hi
  · show n ≤ _
    unfold rangeI; simp
  · obtain ⟨rfl, rfl⟩ := y
    have e : d = .int (lo + i) := by
      unfold rangeI at hd
      rw [List.getElem?_map] at hd
      obtain ⟨j, hj, rfl⟩ := map_some hd
      have := List.getElem?_eq_some_iff.mp hj
      obtain ⟨h1, h2⟩ := this
      simp at h2
      rw [h2]
    subst e
    exact ⟨Bc, Nx.refl e2, .int _⟩
theorem di_rng1 {m : Option (List D)} {p : Pos} (hg : Gl X "range") (hm : X.mg "range" = none) (ha : DA X [a] ρ m) (hs : starEach [a] X.env = [(false, eval a X.env)]) : DI X tg (.Call (.Name "range" p) [a] [] pos) ρ (m.bind rng1D) := ⟨piI (pi_range1 hg hm ha.pa hs) (by
  intro σ H R ⟨B0, H0, B, hh, ds, hm, q⟩
  obtain ⟨xs, hx, hf⟩ := bind_some hm
  refine ⟨B0, H0, B, hh, xs, hx, fun vs B1 H1 n1 r1 => ?_⟩
  unfold rng1D at hf
  split at hf
  · split at hf
    · rename_i j hj
      obtain ⟨hz, rfl⟩ := fit_some hf
      obtain ⟨v, rfl, h1⟩ := one_rep r1
      cases h1 with
      | int k =>
        have : (sizeLine : Nat) = 16777216 := sizeLine_eq
        exact ⟨_, rfl, by omega, by omega, q _ B1 H1 n1 (wk_rng 0 hz)⟩
    · cases hf
  · cases hf)⟩
theorem di_rng2 {m : Option (List D)} {p : Pos} (hg : Gl X "range") (hm : X.mg "range" = none) (ha : DA X [a, b] ρ m) (hs : starEach [a, b] X.env = [(false, eval a X.env), (false, eval b X.env)]) (hs2 : starEach [b] X.env = [(false, eval b X.env)]) : DI X tg (.Call (.Name "range" p) [a, b] [] pos) ρ (m.bind rng2D) := ⟨piI (pi_range2 hg hm ha.pa hs hs2) (by
  intro σ H R ⟨B0, H0, B, hh, ds, hm, q⟩
  obtain ⟨xs, hx, hf⟩ := bind_some hm
  refine ⟨B0, H0, B, hh, xs, hx, fun vs B1 H1 n1 r1 => ?_⟩
  unfold rng2D at hf
  split at hf
  · split at hf
    · rename_i i j hj
      obtain ⟨hz, rfl⟩ := fit_some hf
      obtain ⟨v, v', rfl, h1, h2⟩ := two_rep r1
      cases h1 with
      | int k =>
        cases h2 with
        | int k2 => exact ⟨_, _, rfl, ⟨by omega, by omega, by omega, by omega⟩, q _ B1 H1 n1 (wk_rng _ hz)⟩
    · cases hf
  · cases hf)⟩
end

/-! ### targets: what they take apart, the slots behind -/
def gT (K : PySem.W.Frag) {T : Type} (ρ : Env) (f : D → Option T) (post : T → Env) (js : List Nat) : TG := fun v σ H Q => ∃ B0 H0 B d t, Holds K B0 H0 ρ σ B H ∧ Rep K B v d ∧ f d = some t ∧
  ∀ σ', (∀ vs : List Nat, (∀ j ∈ js, j ∈ vs) → L2.wipe σ' vs = L2.wipe σ vs) → Holds K B0 H0 (post t) σ' B H → Q σ' H
structure DG (X : Cx) (tg : Expr) {T : Type} (ρ : Env) (f : D → Option T) (post : T → Env) (js : List Nat) : Prop where
  pg : PG X tg (gT X.K ρ f post js)
theorem wipe_set {σ : L2.St} {j : Nat} {o : Option V} : ∀ {vs : List Nat}, j ∈ vs → L2.wipe (σ.set j o) vs = L2.wipe σ vs
  | v :: vs, h => by
    by_cases e : j ∈ vs
    · unfold L2.wipe
      rw [wipe_set e]
    · have e' : j = v := (List.mem_cons.mp h).resolve_right e
      subst e'
      have key : ∀ {vs : List Nat}, j ∉ vs → L2.wipe (σ.set j o) vs = (L2.wipe σ vs).set j o := by
        intro vs
        induction vs with
        | nil => intro _; rfl
        | cons w ws ih =>
          intro hn
          unfold L2.wipe
          rw [ih (fun z => hn (List.mem_cons_of_mem _ z))]
          exact List.set_comm _ _ (fun z => hn (by rw [z]; exact List.mem_cons_self))
      unfold L2.wipe
      rw [key e, List.set_set]
theorem wipe_wipe (σ : L2.St) (vs : List Nat) : L2.wipe (L2.wipe σ vs) vs = L2.wipe σ vs := by
  have key : ∀ (us : List Nat), (∀ u ∈ us, u ∈ vs) → L2.wipe (L2.wipe σ us) vs = L2.wipe σ vs := by
    intro us
    induction us with
    | nil => intro _; rfl
    | cons u us ih =>
      intro h
      show L2.wipe ((L2.wipe σ us).set u none) vs = _
      rw [wipe_set (h u List.mem_cons_self)]
      exact ih fun w hw => h w (List.mem_cons_of_mem _ hw)
  exact key vs fun _ h => h
section
variable {X : Cx} {tg e a b c : Expr} {es : List Expr} {ρ : Env} {pos : Pos}
theorem pgI {t t' : TG} (h : PG X tg t) (f : ∀ v σ H Q, t' v σ H Q → t v σ H Q) : PG X tg t' := ⟨fun pins s σ H v u Q I r w => h.run pins s σ H v u Q I r (f v σ H Q w)⟩
theorem dg_name {i : Nat} {x : Str} (hN : X.N.Nodup) (hi : X.N[i]? = some x) (hx : Loc X.env.scope x) (hf : X.fn x = true ∨ X.env.scope.names.lookup x = some .local) : DG X (.Name x pos) ρ (fun d => some d) (fun d => ρ.set i (.val d)) [i] := ⟨pgI (pg_name hN hi hx hf) (by
  intro v σ H Q ⟨B0, H0, B, d, t, hh, r, ht, q⟩
  cases ht
  exact q _ (fun vs h => wipe_set (h i List.mem_cons_self)) (hh.setv r))⟩
def un2 : D → Option (D × D)
  | .tuple [x, y] => some (x, y)
  | _ => none
def un3 : D → Option (D × D × D)
  | .tuple [x, y, z] => some (x, y, z)
  | _ => none
def un4 : D → Option (D × D × D × D)
  | .tuple [x, y, z, w] => some (x, y, z, w)
  | _ => none
/-- several targets, by one list of data -/
def gTs (K : PySem.W.Frag) (ρ : Env) (n : Nat) (post : List D → Env) (js : List Nat) : TGs := fun us σ H Q => ∃ B0 H0 B ds, Holds K B0 H0 ρ σ B H ∧ Reps K B us ds ∧ ds.length = n ∧
  ∀ σ', (∀ vs : List Nat, (∀ j ∈ js, j ∈ vs) → L2.wipe σ' vs = L2.wipe σ vs) → Holds K B0 H0 (post ds) σ' B H → Q σ' H
structure DGs (X : Cx) (ts : List Expr) (ρ : Env) (n : Nat) (post : List D → Env) (js : List Nat) : Prop where
  pg : PGs X ts (gTs X.K ρ n post js)
theorem pgsI {ts : List Expr} {t t' : TGs} (h : PGs X ts t) (f : ∀ v σ H Q, t' v σ H Q → t v σ H Q) : PGs X ts t' := ⟨fun pins s σ H v u Q I r w => h.run pins s σ H v u Q I r (f v σ H Q w)⟩
theorem dgs_nil : DGs X [] ρ 0 (fun _ => ρ) [] := ⟨pgsI pgs_nil (by
  intro v σ H Q ⟨B0, H0, B, ds, hh, r, ht, q⟩
  cases ds with
  | nil => cases r; exact ⟨rfl, q σ (fun _ _ => rfl) hh⟩
  | cons => cases ht)⟩
/-- a name, then the rest -/
theorem dgs_cons {ts : List Expr} {i n : Nat} {x : Str} {post : D → List D → Env} {js : List Nat} (hN : X.N.Nodup) (hi : X.N[i]? = some x) (hx : Loc X.env.scope x) (hf : X.fn x = true ∨ X.env.scope.names.lookup x = some .local)
    (hr : ∀ d, DGs X ts (ρ.set i (.val d)) n (post d) js) : DGs X (.Name x pos :: ts) ρ (n + 1) (fun ds => post (ds.headD .none) ds.tail) (i :: js) := ⟨⟨by
  intro pins s σ H vs us Q I rv w
  obtain ⟨B0, H0, B, ds, hh, r, ht, q⟩ := w
  cases r with
  | nil => cases ht
  | @cons v vs d ds h1 h2 =>
    refine (pgs_cons (pg_name hN hi hx hf) (hr d).pg).run pins s σ H _ us Q I rv ⟨v, vs, rfl, ?_⟩
    refine ⟨B0, H0, B, ds, hh.setv h1, h2, by simpa using ht, fun σ' hw hh' => ?_⟩
    exact q σ' (fun ws h => (hw ws fun j hj => h j (List.mem_cons_of_mem _ hj)).trans (wipe_set (h i List.mem_cons_self))) hh'⟩⟩
theorem dg_tup {T : Type} {k n : Nat} {post : List D → Env} {js : List Nat} {f : D → Option T} {pst : T → Env} (hc : X.calm = true) (h : DGs X es ρ n post js) (hst : (assignEach es X.env).findIdx? (·.1) = none) (hlen : (assignEach es X.env).length = n)
    (hf : ∀ d t, f d = some t → ∃ ds, d = .tuple ds ∧ ds.length = n ∧ pst t = post ds) : DG X (.Tuple es k pos) ρ f pst js := ⟨pgI (pg_tup (n := n) hc h.pg hlen hst) (by
  intro v σ H Q ⟨B0, H0, B, d, t, hh, r, ht, q⟩
  obtain ⟨ds, rfl, hl, hp⟩ := hf d t ht
  cases r with
  | @tup a vs _ h1 rr =>
    refine ⟨a, vs, rfl, Evl.ex_t hh.ex h1, by rw [rr.len]; exact hl, ⟨B0, H0, B, ds, hh, rr, hl, fun σ' hw hh' => q σ' hw (by rw [hp]; exact hh')⟩⟩)⟩
theorem dg_tup2 {k : Nat} {post : List D → Env} {js : List Nat} {pst : D × D → Env} (hc : X.calm = true) (h : DGs X es ρ 2 post js) (hst : (assignEach es X.env).findIdx? (·.1) = none) (hlen : (assignEach es X.env).length = 2)
    (hp : ∀ x y, pst (x, y) = post [x, y]) : DG X (.Tuple es k pos) ρ un2 pst js := dg_tup hc h hst hlen fun d t e => by
  unfold un2 at e
  split at e
  · cases e; exact ⟨_, rfl, rfl, hp _ _⟩
  · cases e
theorem dg_tup3 {k : Nat} {post : List D → Env} {js : List Nat} {pst : D × D × D → Env} (hc : X.calm = true) (h : DGs X es ρ 3 post js) (hst : (assignEach es X.env).findIdx? (·.1) = none) (hlen : (assignEach es X.env).length = 3)
    (hp : ∀ x y z, pst (x, y, z) = post [x, y, z]) : DG X (.Tuple es k pos) ρ un3 pst js := dg_tup hc h hst hlen fun d t e => by
  unfold un3 at e
  split at e
  · cases e; exact ⟨_, rfl, rfl, hp _ _ _⟩
  · cases e
theorem dg_tup4 {k : Nat} {post : List D → Env} {js : List Nat} {pst : D × D × D × D → Env} (hc : X.calm = true) (h : DGs X es ρ 4 post js) (hst : (assignEach es X.env).findIdx? (·.1) = none) (hlen : (assignEach es X.env).length = 4)
    (hp : ∀ x y z w, pst (x, y, z, w) = post [x, y, z, w]) : DG X (.Tuple es k pos) ρ un4 pst js := dg_tup hc h hst hlen fun d t e => by
  unfold un4 at e
  split at e
  · cases e; exact ⟨_, rfl, rfl, hp _ _ _ _⟩
  · cases e

/-! ### list comprehensions -/
def compM {α β : Type} (h : α → Option (Option β)) : List α → Option (List β)
  | [] => some []
  | d :: r => (h d).bind fun o => (compM h r).bind fun ys => some (o.toList ++ ys)
theorem compM_app {α β : Type} {h : α → Option (Option β)} : ∀ (xs ys : List α), compM h (xs ++ ys) = (compM h xs).bind fun us => (compM h ys).bind fun ws => some (us ++ ws)
  | [], ys => by cases q : compM h ys <;> simp [compM, q]
  | x :: xs, ys => by
    show ((h x).bind fun o => (compM h (xs ++ ys)).bind fun zs => some (o.toList ++ zs)) = _
    rw [compM_app xs ys]
    cases q : h x <;> simp [compM, q]
    cases q2 : compM h xs <;> simp
    cases q3 : compM h ys <;> simp
theorem compM_len {α β : Type} {h : α → Option (Option β)} : ∀ {xs : List α} {ys : List β}, compM h xs = some ys → ys.length ≤ xs.length
  | [], ys, e => by cases e; simp
  | x :: xs, ys, e => by
    obtain ⟨o, h1, e⟩ := bind_some (show ((h x).bind fun o => (compM h xs).bind fun ys => some (o.toList ++ ys)) = some ys from e)
    obtain ⟨zs, h2, e⟩ := bind_some e
    cases e
    have := compM_len h2
    cases o <;> simp <;> omega
/-- the turns one by one -/
theorem compM_step {α β : Type} {h : α → Option (Option β)} {xs : List α} {ys : List β} (e : compM h xs = some ys) {i : Nat} {x : α} (hx : xs[i]? = some x) {acc : List β} (ha : compM h (xs.take i) = some acc) :
    ∃ o, h x = some o ∧ compM h (xs.take (i + 1)) = some (acc ++ o.toList) := by
  have hl := (List.getElem?_eq_some_iff.mp hx).1
  have e1 : xs = xs.take i ++ (x :: xs.drop (i + 1)) := by
    have : xs.drop i = x :: xs.drop (i + 1) := by
      rw [List.drop_eq_getElem_cons hl]
      have := (List.getElem?_eq_some_iff.mp hx).2
      rw [this]
    rw [← this, List.take_append_drop]
  rw [e1, compM_app, ha] at e
  obtain ⟨us, h0, e⟩ := bind_some e
  cases h0
  obtain ⟨ws, h1, e⟩ := bind_some e
  obtain ⟨o, h2, h3⟩ := bind_some (show ((h x).bind fun o => (compM h (xs.drop (i + 1))).bind fun ys => some (o.toList ++ ys)) = some ws from h1)
  refine ⟨o, h2, ?_⟩
  rw [List.take_add_one, hx, compM_app, ha]
  show (some acc).bind _ = _
  simp [compM, h2]
/-- one turn of a comprehension -/
abbrev turnC {T : Type} (f : D → Option T) (k : T → Option Bool) (g : T → Option D) (d : D) : Option (Option D) := (f d).bind fun t => (k t).bind fun b => if b then (g t).map some else some none
theorem tLcD {T : Type} {m : Option (List D)} {f : D → Option T} {post : T → Env} {js vs : List Nat} {k : T → Option Bool} {g : T → Option D} {K : PySem.W.Frag} {wi : TI} {gg : TG} {tt : TT} {te : TE}
    (hwi : ∀ σ H R, iT K ρ m σ H R → wi σ H R) (hgg : ∀ v σ H Q, gT K (wipeE ρ vs) f post js v σ H Q → gg v σ H Q) (htt : ∀ t σ H Q, cB K (post t) (k t) σ H Q → tt σ H Q) (hte : ∀ t σ H Q, cT K (post t) (g t) σ H Q → te σ H Q)
    (hj : ∀ j ∈ js, j ∈ vs) : ∀ σ H Q, cF K ρ (m.bind (compM (turnC f k g))) σ H Q → tLc wi gg tt te vs σ H Q := by
  intro σ H Q ⟨B0, H0, B, hh, ys, hm, q⟩
  obtain ⟨ds, hx, hf⟩ := bind_some hm
  refine hwi σ H _ ⟨B0, H0, B, hh, ds, hx, fun J B1 H1 n1 w => ?_⟩
  intro Da hD
  have h1 := hh.step n1
  -- the word between the turns
  let P : Nat → Hp → Prop := fun i H' => ∃ Bc ws acc, Nx B1 H1 Bc H' ∧ Bc Da = none ∧ H' Da = some (.lst ws) ∧ Reps K Bc ws acc ∧ compM (turnC f k g) (ds.take i) = some acc
  refine ⟨fun i n H' => n = ds.length - i ∧ i ≤ ds.length ∧ P i H', ⟨ds.length, by simp, Nat.zero_le _, B1, [], [], Nx.own n1.2.2.1 hD, Ex.none n1.2.2.1 hD, upd_same, .nil, rfl⟩, ?_⟩
  rintro i n H' ⟨rfl, hi, Bc, ws, acc, nx, hb, hd, rr, hc⟩
  by_cases hlt : i < ds.length
  · refine .inr ⟨w.go i H' hlt (nx.1.trans nx.2.2.1), P (i + 1), fun H2 p => ⟨ds.length - (i + 1), by omega, rfl, hlt, p⟩, fun x H2 y => ?_⟩
    have hdi : ds[i]? = some ds[i] := by simp [hlt]
    obtain ⟨o, ho, hc'⟩ := compM_step hf hdi hc
    obtain ⟨t, ht, ho⟩ := bind_some ho
    obtain ⟨b, hk, ho⟩ := bind_some ho
    obtain ⟨B2, n2, r2⟩ := w.yl i H' x H2 Bc ds[i] hdi nx.1 nx.2.2.1 y
    have hD2 : H2 Da = some (.lst ws) := n2.2.1 _ _ hd
    have hB2 : B2 Da = none := n2.2.2.2 Da (by rw [hd]; simp) hb
    have nx2 := nx.trans n2
    have acl : ws.length < sizeLine := by
      have e1 := compM_len hc
      have e2 := rr.len
      have e3 := w.len
      rw [List.length_take] at e1
      omega
    refine hgg x _ H2 _ ⟨B0, H0, B2, ds[i], t, (h1.step nx2).wipe vs, r2, ht, fun σ' hw h3 => ?_⟩
    refine ⟨by rw [hw vs hj, wipe_wipe], ?_⟩
    refine htt t σ' H2 _ ⟨B0, H0, B2, h3, b, hk, fun B3 H3 n3 => ?_⟩
    have hD3 : H3 Da = some (.lst ws) := n3.2.1 _ _ hD2
    have hB3 : B3 Da = none := n3.2.2.2 Da (by rw [hD2]; simp) hB2
    have nx3 := nx2.trans n3
    cases b with
    | false =>
      cases ho
      refine L2.iteF (B := P (i + 1) H3) ?_
      refine ⟨B3, ws, acc, nx3, hB3, hD3, rr.up (n2.1.trans n3.1), ?_⟩
      rw [hc', Option.toList_none, List.append_nil]
    | true =>
      refine L2.iteT (A := te σ' H3 _) ?_
      obtain ⟨z, hz, rfl⟩ := map_some (show (g t).map some = some o from ho)
      refine hte t σ' H3 _ ⟨B0, H0, B3, h3.step n3, z, hz, fun v B4 H4 n4 r4 => ?_⟩
      have hD4 : H4 Da = some (.lst ws) := n4.2.1 _ _ hD3
      have hB4 : B4 Da = none := n4.2.2.2 Da (by rw [hD3]; simp) hB3
      have nx4 := nx3.trans n4
      refine ⟨ws, hD4, acl, B4, ws ++ [v], acc ++ [z], ?_, hB4, upd_same, (rr.up ((n2.1.trans n3.1).trans n4.1)).app (.cons r4 .nil), hc'⟩
      refine ⟨nx4.1, fun a u z => ?_, fun a u z => ?_, nx4.2.2.2⟩
      · have ha : a ≠ Da := ne_of_none z hD
        rw [upd_ne ha]; exact nx4.2.1 a u z
      · have ha : a ≠ Da := ne_of_none z hB4
        rw [upd_ne ha]; exact nx4.2.2.1 a u z
  · have e : i = ds.length := by omega
    subst e
    rw [List.take_length, hf] at hc
    cases hc
    refine .inl ⟨w.st H' (nx.1.trans nx.2.2.1), ?_⟩
    exact q Da ws Bc H' (n1.trans nx) (Ex.none n1.2.1 hD) hb hd rr
section
variable {T : Type} {m : Option (List D)} {f : D → Option T} {post : T → Env} {js : List Nat} {k : T → Option Bool} {g : T → Option D} {elt iter : Expr} {ifs : List Expr} {scope : Scope} {own : List (Str × Nat)}
/-- the tests of a clause -/
structure DTs (X : Cx) (ifs : List Expr) (ρ : Env) (m : Option Bool) : Prop where
  pts : PTs X ifs (cB X.K ρ m)
theorem dts_nil : DTs X [] ρ (some true) := ⟨⟨fun pins s σ H Q I w => pts_nil.run pins s σ H Q I (by
  obtain ⟨B0, H0, B, hh, b, hm, q⟩ := w
  cases hm
  exact q B H (Nx.refl hh.ex))⟩⟩
theorem dts_one {m : Option Bool} (h : DT X c ρ m) : DTs X [c] ρ m := ⟨⟨fun pins s σ H Q I w => (pts_one h.pt).run pins s σ H Q I w⟩⟩
/-- any data: the judgements of the block hold for every datum of the target, as one reading -/
theorem peA {T : Type} {X : Cx} {e : Expr} {t : T → TE} (h : ∀ x, PE X e (t x)) : PE X e (fun σ H Q => ∃ x, t x σ H Q) := ⟨fun pins s σ H Q I ⟨x, w⟩ => (h x).run pins s σ H Q I w⟩
theorem ptsA {T : Type} {X : Cx} {es : List Expr} {t : T → TT} (h : ∀ x, PTs X es (t x)) : PTs X es (fun σ H Q => ∃ x, t x σ H Q) := ⟨fun pins s σ H Q I ⟨x, w⟩ => (h x).run pins s σ H Q I w⟩
theorem df_lc (hc : X.calm = true) (hN : X.N.Nodup) (hi : DI X tg iter ρ m) (ok : BlkOk X.N X.env.scope scope own)
    (hg : ∀ (s : Shared) (H : Hp) (C : Addr) (cl : List (Str × Addr)) (fp : List Addr), DG (X.blk s H scope (compEnvC scope cl C X.env) fp) tg (wipeE ρ (own.map (·.2))) f post js)
    (ht : ∀ (s : Shared) (H : Hp) (C : Addr) (cl : List (Str × Addr)) (fp : List Addr) (t : T), DTs (X.blk s H scope (compEnvC scope cl C X.env) fp) ifs (post t) (k t))
    (he : ∀ (s : Shared) (H : Hp) (C : Addr) (cl : List (Str × Addr)) (fp : List Addr) (t : T), DE (X.blk s H scope (compEnvC scope cl C X.env) fp) elt (post t) (g t))
    (hj : ∀ j ∈ js, j ∈ own.map (·.2)) (hs : ∀ x, foldedSetIterable iter X.env x = pure x) : DF X (.ListComp elt [⟨tg, iter, ifs, 0⟩] scope pos) ρ (m.bind (compM (turnC f k g))) :=
  ⟨peI (pe_lc (own := own) hc hN hi.pi ok (fun s H C cl fp => (hg s H C cl fp).pg) (fun s H C cl fp => ptsA fun t => (ht s H C cl fp t).pts) (fun s H C cl fp => peA fun t => (he s H C cl fp t).pe) hs)
    (tLcD (fun _ _ _ h => h) (fun _ _ _ _ h => h) (fun t _ _ _ h => ⟨t, h⟩) (fun t _ _ _ h => ⟨t, h⟩) hj)⟩
end
end
end Dl

/-! Data layer, part 6: statements, own functions. -/
namespace Dl
open PySem L2 PySem.Spec PyProof.Rows PySem.W PySem.SeqAt
open Evl (Ex)

inductive Fl (S L : Type) where
  | nx (s : S)
  | rt (d : D)
  | bk (l : L)
  | ct (l : L)
/-- what is wanted of a return -/
abbrev RT := PySem.W.Frag → Hp → Hp → D → VK → Prop
def rV : RT := fun K B0 H0 d k => ∀ v B' H', Nx B0 H0 B' H' → Rep K B' v d → k v H'
/-- a new list -/
def rF : RT := fun K B0 H0 d k => ∀ ds, d = .list ds → ∀ p vs B' H', Nx B0 H0 B' H' → H0 p = none → B' p = none → H' p = some (.lst vs) → Reps K B' vs ds → k (.ref p) H'
def cS (K : PySem.W.Frag) (R : RT) (ρ : Env) {S L : Type} (m : Option (Fl S L)) (post : S → Env) (lp : L → Env) : TS := fun Dn σ H => ∃ B0 H0 B, Holds K B0 H0 ρ σ B H ∧ ∃ f, m = some f ∧ match f with
  | .nx s => ∀ σ' B' H', Holds K B0 H0 (post s) σ' B' H' → Ex B B' → Dn.nx σ' H'
  | .bk l => ∀ σ' B' H', Holds K B0 H0 (lp l) σ' B' H' → Ex B B' → Dn.bk σ' H'
  | .ct l => ∀ σ' B' H', Holds K B0 H0 (lp l) σ' B' H' → Ex B B' → Dn.ct σ' H'
  | .rt d => R K B0 H0 d Dn.rt
structure DS (X : Cx) (R : RT) (st : Stmt) (ρ : Env) {S L : Type} (m : Option (Fl S L)) (post : S → Env) (lp : L → Env) : Prop where
  ps : PS X st (cS X.K R ρ m post lp)
structure DB (X : Cx) (R : RT) (sts : List Stmt) (ρ : Env) {S L : Type} (m : Option (Fl S L)) (post : S → Env) (lp : L → Env) : Prop where
  ps : PSs X sts (cS X.K R ρ m post lp)
/-- one statement, then the rest -/
@[irreducible] def seqF {S T L : Type} (m : Option (Fl S L)) (n : S → Option (Fl T L)) : Option (Fl T L) := m.bind fun f => match f with
  | .nx s => n s
  | .rt d => some (.rt d)
  | .bk l => some (.bk l)
  | .ct l => some (.ct l)
theorem seqF_some {S T L : Type} {m : Option (Fl S L)} {n : S → Option (Fl T L)} {f : Fl T L} (h : seqF m n = some f) : ∃ g, m = some g ∧ (match g with
  | .nx s => n s
  | .rt d => some (.rt d)
  | .bk l => some (.bk l)
  | .ct l => some (.ct l)) = some f := by
  unfold seqF at h
  exact bind_some h
/-- a for's turns -/
def forF {α L M : Type} (F : α → L → Option (Fl L L)) : List α → L → Option (Fl L M)
  | [], l => some (.nx l)
  | d :: r, l => (F d l).bind fun f => match f with
    | .nx l' => forF F r l'
    | .ct l' => forF F r l'
    | .bk l' => some (.nx l')
    | .rt d => some (.rt d)
/-- a while's turns, at most n -/
def whileF {L M : Type} (c : L → Option Bool) (F : L → Option (Fl L L)) : Nat → L → Option (Fl L M)
  | 0, _ => none
  | n + 1, l => (c l).bind fun b => if b then (F l).bind fun f => (match f with
    | .nx l' => whileF c F n l'
    | .ct l' => whileF c F n l'
    | .bk l' => some (.nx l')
    | .rt d => some (.rt d)) else some (.nx l)

section
variable {X : Cx} {R : RT} {tg e a b c : Expr} {es : List Expr} {ρ : Env} {pos : Pos} {st : Stmt} {sts : List Stmt}
theorem psI {t t' : TS} (h : PS X st t) (f : ∀ D σ H, t' D σ H → t D σ H) : PS X st t' := ⟨fun pins s σ H D I w => h.run pins s σ H D I (f D σ H w)⟩
theorem pssI {t t' : TS} (h : PSs X sts t) (f : ∀ D σ H, t' D σ H → t D σ H) : PSs X sts t' := ⟨fun pins s σ H D I w => h.run pins s σ H D I (f D σ H w)⟩
theorem pssA {T : Type} {t : T → TS} (h : ∀ x, PSs X sts (t x)) : PSs X sts (fun D σ H => ∃ x, t x D σ H) := ⟨fun pins s σ H D I ⟨x, w⟩ => (h x).run pins s σ H D I w⟩
section
variable {S T L : Type} {lp : L → Env}
theorem db_nil {post : S → Env} {s : S} (w : Wk ρ (post s)) : DB X R [] ρ (some (.nx s)) post lp := ⟨pssI pss_nil (by
  intro D σ H ⟨B0, H0, B, hh, f, hm, q⟩
  cases hm
  exact q σ B H (hh.wk w) (Ex.refl B))⟩
theorem db_cons {p1 : S → Env} {p2 : T → Env} {m : Option (Fl S L)} {n : S → Option (Fl T L)} (h1 : DS X R st ρ m p1 lp) (h2 : ∀ s, DB X R sts (p1 s) (n s) p2 lp) : DB X R (st :: sts) ρ (seqF m n) p2 lp := ⟨pssI (pss_cons h1.ps (pssA fun s => (h2 s).ps)) (by
  intro D σ H ⟨B0, H0, B, hh, f, hm, q⟩
  obtain ⟨g, hg, hm⟩ := seqF_some hm
  refine ⟨B0, H0, B, hh, g, hg, ?_⟩
  cases g with
  | nx s =>
    intro σ' B' H' h' e
    refine ⟨s, B0, H0, B', h', f, hm, ?_⟩
    cases f with
    | nx t => exact fun σ'' B'' H'' h'' e' => q σ'' B'' H'' h'' (e.trans e')
    | bk t => exact fun σ'' B'' H'' h'' e' => q σ'' B'' H'' h'' (e.trans e')
    | ct t => exact fun σ'' B'' H'' h'' e' => q σ'' B'' H'' h'' (e.trans e')
    | rt d => exact q
  | rt d => cases hm; exact q
  | bk l => cases hm; exact q
  | ct l => cases hm; exact q)⟩
theorem db_one {post : S → Env} {m : Option (Fl S L)} (h : DS X R st ρ m post lp) : DB X R [st] ρ m post lp := ⟨pss_one h.ps⟩
theorem db_wk {ρ' : Env} {post : S → Env} {m : Option (Fl S L)} (w : Wk ρ ρ') (h : DB X R sts ρ' m post lp) : DB X R sts ρ m post lp := ⟨pssI h.ps (by
  intro D σ H ⟨B0, H0, B, hh, q⟩
  exact ⟨B0, H0, B, hh.wk w, q⟩)⟩
/-- a list of one's own is never changed from here on -/
theorem db_frz {i : Nat} {ds : List D} {post : S → Env} {m : Option (Fl S L)} (hi : ρ[i]? = some (.own ds)) (h : DB X R sts (ρ.set i (.val (.list ds))) m post lp) : DB X R sts ρ m post lp := ⟨pssI h.ps (by
  intro D σ H ⟨B0, H0, B, hh, f, hm, q⟩
  obtain ⟨p, vs, h1, h2, h3, h4, h5⟩ := hh.own i ds hi
  have hE : Ex B (upd B p (.lst vs)) := Ex.new h3
  have nn : Nx B0 H0 (upd B p (.lst vs)) H := by
    refine ⟨hh.nx.1.trans hE, hh.nx.2.1, fun a u z => ?_, fun a ha hb => ?_⟩
    · by_cases e : a = p
      · subst e; rw [upd_same] at z; rw [h4]; exact z
      · rw [upd_ne e] at z; exact hh.ex a u z
    · have e : a ≠ p := fun z => ha (by rw [z]; exact h2)
      rw [upd_ne e]; exact hh.nx.2.2.2 a ha hb
  have gs : ∀ {j : Nat} {x : Sl}, (ρ.set i (.val (.list ds)))[j]? = some x → (j = i ∧ x = .val (.list ds)) ∨ (j ≠ i ∧ ρ[j]? = some x) := fun {j x} z => by
    rcases getset z with ⟨e1, e2⟩ | z
    · exact .inl ⟨e1, e2.symm⟩
    · exact .inr z
  have K2 : Holds X.K B0 H0 (ρ.set i (.val (.list ds))) σ (upd B p (.lst vs)) H := by
    refine ⟨nn, by rw [List.length_set]; exact hh.len, fun j d z => ?_, fun j es z => ?_, fun j ns z => ?_, fun j k es fs r z1 z2 z3 z4 => ?_⟩
    · rcases gs z with ⟨rfl, e2⟩ | ⟨_, z⟩
      · cases e2
        exact ⟨_, h1, .lst upd_same (h5.up hE)⟩
      · obtain ⟨v, g1, g2⟩ := hh.val j d z
        exact ⟨v, g1, g2.up hE⟩
    · rcases gs z with ⟨_, e2⟩ | ⟨ne, z⟩
      · cases e2
      · obtain ⟨p', vs', g1, g2, g3, g4, g5⟩ := hh.own j es z
        have np : p' ≠ p := fun e => ne (hh.apart j i es ds p' z hi g1 (by rw [e]; exact h1))
        exact ⟨p', vs', g1, g2, by rw [upd_ne np]; exact g3, g4, g5.up hE⟩
    · rcases gs z with ⟨_, e2⟩ | ⟨ne, z⟩
      · cases e2
      · obtain ⟨a, g1, g2⟩ := hh.scr j ns z
        exact ⟨a, g1, Evl.ex_l hE g2⟩
    · rcases gs z1 with ⟨_, e2⟩ | ⟨_, y1⟩
      · cases e2
      · rcases gs z2 with ⟨_, e2⟩ | ⟨_, y2⟩
        · cases e2
        · exact hh.apart j k es fs r y1 y2 z3 z4
  refine ⟨B0, H0, _, K2, f, hm, ?_⟩
  cases f with
  | nx t => exact fun σ'' B'' H'' h'' e' => q σ'' B'' H'' h'' (hE.trans e')
  | bk t => exact fun σ'' B'' H'' h'' e' => q σ'' B'' H'' h'' (hE.trans e')
  | ct t => exact fun σ'' B'' H'' h'' e' => q σ'' B'' H'' h'' (hE.trans e')
  | rt d => exact q)⟩

/-! ### assignments -/
abbrev nxt {S L : Type} (m : Option S) : Option (Fl S L) := m.map .nx
theorem nxt_some {m : Option S} {f : Fl S L} (h : (nxt m : Option (Fl S L)) = some f) : ∃ s, m = some s ∧ f = .nx s := by
  obtain ⟨s, h1, h2⟩ := map_some h
  exact ⟨s, h1, h2.symm⟩
theorem ds_asg {i : Nat} {x : Str} {pos' : Pos} {m : Option D} (hN : X.N.Nodup) (hi : X.N[i]? = some x) (hx : Loc X.env.scope x) (he : DE X e ρ m) (hs : swapsWith e (some (.Name x pos')) pos.line X.env = pure false) (hf : X.fn x = true ∨ X.env.scope.names.lookup x = some .local) :
    DS X R (.Assign [.Name x pos'] e pos) ρ (nxt m) (fun d => ρ.set i (.val d)) lp := ⟨psI (ps_set hN hi hx he.pe hs hf) (by
  intro D σ H ⟨B0, H0, B, hh, f, hm, q⟩
  obtain ⟨d, hd, rfl⟩ := nxt_some hm
  exact ⟨B0, H0, B, hh, d, hd, fun v B1 H1 n1 r1 => q _ B1 H1 ((hh.step n1).setv r1) n1.1⟩)⟩
theorem Holds.newOwn {K : PySem.W.Frag} {B0 H0 B H B1 H1 : Hp} {σ : L2.St} {p : Addr} {vs : List V} {ds : List D} {i : Nat} (hh : Holds K B0 H0 ρ σ B H) (n1 : Nx B H B1 H1) (hp : H p = none) (hb : B1 p = none) (he : H1 p = some (.lst vs)) (r : Reps K B1 vs ds) :
    Holds K B0 H0 (ρ.set i (.own ds)) (σ.set i (some (.ref p))) B1 H1 := by
  refine (hh.step n1).seto r (Ex.none hh.nx.2.1 hp) hb he fun j es hj hr z => ?_
  obtain ⟨p', vs', g1, g2, g3, g4, g5⟩ := hh.own j es hr
  rw [g1] at z
  cases z
  rw [hp] at g4; cases g4
theorem ds_asgF {i : Nat} {x : Str} {pos' : Pos} {m : Option (List D)} (hN : X.N.Nodup) (hi : X.N[i]? = some x) (hx : Loc X.env.scope x) (he : DF X e ρ m) (hs : swapsWith e (some (.Name x pos')) pos.line X.env = pure false) (hf : X.fn x = true ∨ X.env.scope.names.lookup x = some .local) :
    DS X R (.Assign [.Name x pos'] e pos) ρ (nxt m) (fun d => ρ.set i (.own d)) lp := ⟨psI (ps_set hN hi hx he.pe hs hf) (by
  intro D σ H ⟨B0, H0, B, hh, f, hm, q⟩
  obtain ⟨d, hd, rfl⟩ := nxt_some hm
  exact ⟨B0, H0, B, hh, d, hd, fun p vs B1 H1 n1 hp hb he r1 => q _ B1 H1 (hh.newOwn n1 hp hb he r1) n1.1⟩)⟩
/-- a, b = e -/
theorem ds_tg {T : Type} {f : D → Option T} {post : T → Env} {js : List Nat} {m : Option D} (he : DE X e ρ m) (hg : DG X tg ρ f post js) (hs : swapsWithSole [tg] e pos.line X.env = pure false) (hw : swappedStores [tg] e X.env = pure none) (h1 : (assignEach [tg] X.env).map (·.2) = [assign tg X.env]) :
    DS X R (.Assign [tg] e pos) ρ (nxt (m.bind f)) post lp := ⟨⟨fun pins s σ H D I w => by
  obtain ⟨B0, H0, B, hh, f', hm, q⟩ := w
  obtain ⟨t, ht, rfl⟩ := nxt_some hm
  obtain ⟨d, hd, ht⟩ := bind_some ht
  refine (ps_asg (g := fun v σ' H' Q => ∃ B1, Nx B H B1 H' ∧ Rep X.K B1 v d ∧ σ' = σ ∧ gT X.K ρ f post js v σ' H' Q) he.pe (pgI hg.pg fun v σ' H' Q ⟨B1, n1, r1, e1, w⟩ => w) hs hw h1).run pins s σ H D I ?_
  refine ⟨B0, H0, B, hh, d, hd, fun v B1 H1 n1 r1 => ⟨B1, n1, r1, rfl, B0, H0, B1, d, t, hh.step n1, r1, ht, fun σ' _ h' => q σ' B1 H1 h' n1.1⟩⟩⟩⟩
theorem ds_aug {i : Nat} {x : Str} {pos' : Pos} {op : Operator} {f : D → D → Option D} {m : Option D} {d0 : D} (hl : look ρ i = some d0) (hN : X.N.Nodup) (hi : X.N[i]? = some x) (hx : Loc X.env.scope x) (he : DE X e ρ m) (ho : PIp X op (rD X.K f)) (hf : X.fn x = true ∨ X.env.scope.names.lookup x = some .local) :
    DS X R (.AugAssign (.Name x pos') op e pos) ρ (nxt (m.bind fun y => f d0 y)) (fun d => ρ.set i (.val d)) lp := ⟨psI (ps_aug hN hi hx he.pe ho hf) (by
  intro D σ H ⟨B0, H0, B, hh, f', hm, q⟩
  obtain ⟨t, ht, rfl⟩ := nxt_some hm
  obtain ⟨y, hy, ht⟩ := bind_some ht
  obtain ⟨v0, g1, g2⟩ := hh.val i d0 (look_some hl)
  refine ⟨v0, g1, B0, H0, B, hh, y, hy, fun v B1 H1 n1 r1 => ⟨B1, d0, y, t, n1.2.2.1, g2.up n1.1, r1, ht, fun w B2 H2 n2 r2 => ?_⟩⟩
  exact q _ B2 H2 (((hh.step n1).step n2).setv r2) (n1.1.trans n2.1))⟩
def iaddD : D → D → Option D
  | .int i, .int j => some (.int (i + j))
  | _, _ => none
theorem ip_addD : PIp X .Add (rD X.K iaddD) := by
  intro pins s σ H x y v u Q I rx ry ⟨B, d, e, r, ex, hd, he, hf, q⟩
  cases hd with
  | int i =>
    cases he with
    | int j => cases hf; exact ip_add pins s σ H _ _ v u Q I rx ry ⟨i, j, rfl, rfl, q _ B H (Nx.refl ex) (.int _)⟩
    | _ => simp [iaddD] at hf
  | _ => cases he <;> simp [iaddD] at hf
theorem ip_subD : PIp X .Sub (rD X.K subD) := by
  intro pins s σ H x y v u Q I rx ry ⟨B, d, e, r, ex, hd, he, hf, q⟩
  cases hd with
  | int i =>
    cases he with
    | int j => cases hf; exact ip_sub pins s σ H _ _ v u Q I rx ry ⟨i, j, rfl, rfl, q _ B H (Nx.refl ex) (.int _)⟩
    | _ => simp [subD] at hf
  | _ => cases he <;> simp [subD] at hf
end
end
end Dl

/-! Data layer, part 7: the rest of the statements, own functions. -/
namespace Dl
open PySem L2 PySem.Spec PyProof.Rows PySem.W PySem.SeqAt
open Evl (Ex)

section
variable {X : Cx} {R : RT} {tg e a b c : Expr} {es : List Expr} {ρ : Env} {pos : Pos} {st : Stmt} {sts : List Stmt} {S T L : Type} {lp : L → Env}
section
variable {T : Type} {m : Option (List D)} {f : D → Option T} {post : T → Env} {js : List Nat} {k : T → Option Bool} {g : T → Option D} {elt iter : Expr} {ifs : List Expr} {scope : Scope} {own : List (Str × Nat)}
/-- name = [.. for ..], the name a local -/
theorem ds_setLc {i : Nat} {y : Str} {py : Pos} {spos : Pos} (hc : X.calm = true) (hN : X.N.Nodup) (hy : X.N[i]? = some y) (hyl : X.env.scope.names.lookup y = some .local)
    (hsw : swapsWith (.ListComp elt [⟨tg, iter, ifs, 0⟩] scope pos) (some (.Name y py)) spos.line X.env = pure true) (hi : DI X tg iter ρ m) (ok : BlkOk X.N X.env.scope scope own)
    (hg : ∀ (s : Shared) (H : Hp) (C : Addr) (cl : List (Str × Addr)) (fp : List Addr), DG (X.blk s H scope (compEnvC scope cl C X.env) fp) tg (wipeE ρ (own.map (·.2))) f post js)
    (ht : ∀ (s : Shared) (H : Hp) (C : Addr) (cl : List (Str × Addr)) (fp : List Addr) (t : T), DTs (X.blk s H scope (compEnvC scope cl C X.env) fp) ifs (post t) (k t))
    (he : ∀ (s : Shared) (H : Hp) (C : Addr) (cl : List (Str × Addr)) (fp : List Addr) (t : T), DE (X.blk s H scope (compEnvC scope cl C X.env) fp) elt (post t) (g t))
    (hj : ∀ j ∈ js, j ∈ own.map (·.2)) (hs : ∀ x, foldedSetIterable iter X.env x = pure x) :
    DS X R (.Assign [.Name y py] (.ListComp elt [⟨tg, iter, ifs, 0⟩] scope pos) spos) ρ (nxt (m.bind (compM (turnC f k g)))) (fun ys => ρ.set i (.own ys)) lp :=
  ⟨psI (ps_setLc (own := own) hc hN hy hyl hsw hi.pi ok (fun s H C cl fp => (hg s H C cl fp).pg) (fun s H C cl fp => ptsA fun t => (ht s H C cl fp t).pts) (fun s H C cl fp => peA fun t => (he s H C cl fp t).pe) hs) (by
    intro Dn σ H ⟨B0, H0, B, hh, f', hm, q⟩
    obtain ⟨ys, hd, rfl⟩ := nxt_some hm
    refine tLcD (post := post) (f := f) (k := k) (g := g) (fun _ _ _ h => h) (fun _ _ _ _ h => h) (fun t _ _ _ h => ⟨t, h⟩) (fun t _ _ _ h => ⟨t, h⟩) hj σ H _ ⟨B0, H0, B, hh, ys, hd, fun p vs B1 H1 n1 hp hb he r1 => ?_⟩
    exact q _ B1 H1 (hh.newOwn n1 hp hb he r1) n1.1)⟩
end
/-- an own list gets a change: its object is rewritten -/
theorem Holds.reown {K : PySem.W.Frag} {B0 H0 B H : Hp} {σ : L2.St} {i : Nat} {p : Addr} {us vs : List V} {ds es : List D} (hh : Holds K B0 H0 ρ σ B H) (hi : ρ[i]? = some (.own ds)) (hp : σ[i]? = some (some (.ref p)))
    (h0 : H0 p = none) (hb : B p = none) (hl : H p = some (.lst us)) (r : Reps K B vs es) : Holds K B0 H0 (ρ.set i (.own es)) σ B (upd H p (.lst vs)) := by
  have gs : ∀ {j : Nat} {x : Sl}, (ρ.set i (.own es))[j]? = some x → (j = i ∧ x = .own es) ∨ (j ≠ i ∧ ρ[j]? = some x) := fun {j x} z => by
    rcases getset z with ⟨e1, e2⟩ | z
    · exact .inl ⟨e1, e2.symm⟩
    · exact .inr z
  refine ⟨⟨hh.nx.1, fun a u z => ?_, fun a u z => ?_, hh.nx.2.2.2⟩, by rw [List.length_set]; exact hh.len, fun j d z => ?_, fun j fs z => ?_, fun j ns z => ?_, fun j k fs gs' q z1 z2 z3 z4 => ?_⟩
  · have ne : a ≠ p := ne_of_none z h0
    rw [upd_ne ne]; exact hh.nx.2.1 a u z
  · have ne : a ≠ p := ne_of_none z hb
    rw [upd_ne ne]; exact hh.ex a u z
  · rcases gs z with ⟨_, e2⟩ | ⟨_, z⟩
    · cases e2
    · exact hh.val j d z
  · rcases gs z with ⟨rfl, e2⟩ | ⟨ne, z⟩
    · cases e2
      exact ⟨p, vs, hp, h0, hb, upd_same, r⟩
    · obtain ⟨p', vs', g1, g2, g3, g4, g5⟩ := hh.own j fs z
      have np : p' ≠ p := fun e => ne (hh.apart j i fs ds p' z hi g1 (by rw [e]; exact hp))
      exact ⟨p', vs', g1, g2, g3, by rw [upd_ne np]; exact g4, g5⟩
  · rcases gs z with ⟨_, e2⟩ | ⟨_, z⟩
    · cases e2
    · exact hh.scr j ns z
  · have o1 : ∃ fs, ρ[j]? = some (.own fs) := by
      rcases gs z1 with ⟨e1, _⟩ | ⟨_, y⟩
      · exact ⟨ds, by rw [e1]; exact hi⟩
      · exact ⟨_, y⟩
    have o2 : ∃ fs, ρ[k]? = some (.own fs) := by
      rcases gs z2 with ⟨e1, _⟩ | ⟨_, y⟩
      · exact ⟨ds, by rw [e1]; exact hi⟩
      · exact ⟨_, y⟩
    obtain ⟨f1, o1⟩ := o1
    obtain ⟨f2, o2⟩ := o2
    exact hh.apart j k f1 f2 q o1 o2 z3 z4
/-- x.append(e), x a list of one's own -/
theorem ds_app {i : Nat} {x : Str} {p1 p2 p3 : Pos} {m : Option D} {ds : List D} (hi : ρ[i]? = some (.own ds)) (hN : X.N[i]? = some x) (hv : Vis X.env.scope x) (hd : (x == ("__debug__" : Str)) = false) (hcd : (x == ("__classdict__" : Str)) = false)
    (he : DE X e ρ m) (hq : PE X (.Call (.Attribute (.Name x p1) "append" p2) [e] [] p3) (tBM X.K "list" rAppend (tVar i) (tCons (cT X.K ρ m) tNil)))
    (hs : swapsWith (.Call (.Attribute (.Name x p1) "append" p2) [e] [] p3) none pos.line X.env = pure false) :
    DS X R (.Expr (.Call (.Attribute (.Name x p1) "append" p2) [e] [] p3) pos) ρ (nxt (m.bind fun d => fit (ds.length + 1) d)) (fun d => ρ.set i (.own (ds ++ [d]))) lp := ⟨psI (ps_expr hq hs) (by
  intro Dn σ H ⟨B0, H0, B, hh, f', hm, q⟩
  obtain ⟨d, hd0, rfl⟩ := nxt_some hm
  obtain ⟨d', hd1, hf⟩ := bind_some hd0
  obtain ⟨hz, rfl⟩ := fit_some hf
  obtain ⟨p, vs, g1, g2, g3, g4, g5⟩ := hh.own i ds hi
  refine ⟨.ref p, g1, .inl ⟨rfl, vs, .inl (.inl g4)⟩, B0, H0, B, hh, d', hd1, fun v B1 H1 n1 r1 => ?_⟩
  have k1 : H1 p = some (.lst vs) := n1.2.1 _ _ g4
  have kb : B1 p = none := n1.2.2.2 p (by rw [g4]; simp) g3
  refine ⟨p, vs, v, rfl, rfl, k1, by rw [g5.len]; exact hz, ?_⟩
  exact q _ B1 _ ((hh.step n1).reown hi g1 g2 kb k1 ((g5.up n1.1).app (.cons r1 .nil))) n1.1)⟩
/-- x[i] = e, x a list of one's own -/
theorem ds_seti {i : Nat} {x : Str} {p1 p2 : Pos} {m n : Option D} {ds : List D} (hi : ρ[i]? = some (.own ds)) (hN : X.N[i]? = some x) (hv : Vis X.env.scope x) (hd : (x == ("__debug__" : Str)) = false) (hcd : (x == ("__classdict__" : Str)) = false)
    (he : DE X e ρ m) (hk : DE X a ρ n) (hq : PG X (.Subscript (.Name x p1) a p2) (gSub (tVar i) (cT X.K ρ n) rSetL))
    (hs : swapsWithSole [.Subscript (.Name x p1) a p2] e pos.line X.env = pure false) (hw : swappedStores [.Subscript (.Name x p1) a p2] e X.env = pure none) (h1 : (assignEach [.Subscript (.Name x p1) a p2] X.env).map (·.2) = [assign (.Subscript (.Name x p1) a p2) X.env]) :
    DS X R (.Assign [.Subscript (.Name x p1) a p2] e pos) ρ (nxt (m.bind fun d => n.bind fun k => match k with | .int j => (ixN ds.length j).map fun t => ds.set t d | _ => none)) (fun es => ρ.set i (.own es)) lp := ⟨psI (ps_asg he.pe hq hs hw h1) (by
  intro Dn σ H ⟨B0, H0, B, hh, f', hm, q⟩
  obtain ⟨es, hd, rfl⟩ := nxt_some hm
  obtain ⟨d, hd, hf⟩ := bind_some hd
  obtain ⟨k, hk, hf⟩ := bind_some hf
  obtain ⟨p, vs, g1, g2, g3, g4, g5⟩ := hh.own i ds hi
  refine ⟨B0, H0, B, hh, d, hd, fun v B1 H1 n1 r1 => ⟨.ref p, g1, B0, H0, B1, hh.step n1, k, hk, fun w B2 H2 n2 r2 => ?_⟩⟩
  cases r2 with
  | int j =>
    obtain ⟨t, ht, rfl⟩ := map_some hf
    have k2 : H2 p = some (.lst vs) := n2.2.1 _ _ (n1.2.1 _ _ g4)
    have kb1 : B1 p = none := n1.2.2.2 p (by rw [g4]; simp) g3
    have kb2 : B2 p = none := n2.2.2.2 p (by rw [n1.2.1 _ _ g4]; simp) kb1
    refine ⟨p, vs, j, t, rfl, rfl, k2, by rw [g5.len]; exact ht, ?_⟩
    exact q _ B2 _ (((hh.step n1).step n2).reown hi g1 g2 kb2 k2 ((g5.up (n1.1.trans n2.1)).set (r1.up n2.1) t)) (n1.1.trans n2.1)
  | _ => simp at hf)⟩
/-- an expression alone -/
theorem ds_expr {m : Option D} (he : DE X e ρ m) (hs : swapsWith e none pos.line X.env = pure false) : DS X R (.Expr e pos) ρ (nxt (m.map fun _ => ())) (fun _ => ρ) lp := ⟨psI (ps_expr he.pe hs) (by
  intro Dn σ H ⟨B0, H0, B, hh, f', hm, q⟩
  obtain ⟨es, hd, rfl⟩ := nxt_some hm
  obtain ⟨d, hd, _⟩ := map_some hd
  exact ⟨B0, H0, B, hh, d, hd, fun v B1 H1 n1 r1 => q σ B1 H1 (hh.step n1) n1.1⟩)⟩
theorem ds_pass : DS X R (.Pass pos) ρ (some (.nx ())) (fun _ => ρ) lp := ⟨psI ps_pass (by
  intro Dn σ H ⟨B0, H0, B, hh, f', hm, q⟩
  cases hm
  exact q σ B H hh (Ex.refl B))⟩
theorem ds_if {p q : List Stmt} {post : S → Env} {k : Option Bool} {m n : Option (Fl S L)} (hc : DT X c ρ k) (ha : DB X R p ρ m post lp) (hb : DB X R q ρ n post lp) : DS X R (.If c p q pos) ρ (iteM k m n) post lp := ⟨psI (ps_if hc.pt ha.ps hb.ps) (by
  intro Dn σ H ⟨B0, H0, B, hh, f, hm, q⟩
  obtain ⟨k, hk, hm⟩ := bind_some hm
  refine ⟨B0, H0, B, hh, k, hk, fun B1 H1 n1 => ?_⟩
  have fin : cS X.K R ρ (if k = true then m else n) post lp Dn σ H1 := by
    refine ⟨B0, H0, B1, hh.step n1, f, hm, ?_⟩
    cases f with
    | nx t => exact fun σ'' B'' H'' h'' e' => q σ'' B'' H'' h'' (n1.1.trans e')
    | bk t => exact fun σ'' B'' H'' h'' e' => q σ'' B'' H'' h'' (n1.1.trans e')
    | ct t => exact fun σ'' B'' H'' h'' e' => q σ'' B'' H'' h'' (n1.1.trans e')
    | rt d => exact q
  cases k with
  | true => exact fin
  | false => exact fin)⟩
theorem ds_ret {post : S → Env} {m : Option D} (he : DE X e ρ m) : DS X rV (.Return (some e) pos) ρ (m.map .rt) post lp := ⟨psI (ps_ret he.pe) (by
  intro Dn σ H ⟨B0, H0, B, hh, f, hm, q⟩
  obtain ⟨d, hd, rfl⟩ := map_some hm
  exact ⟨B0, H0, B, hh, d, hd, fun v B1 H1 n1 r1 => q v B1 H1 (hh.nx.trans n1) r1⟩)⟩
theorem ds_retN {post : S → Env} : DS X rV (.Return none pos) ρ (some (.rt .none)) post lp := ⟨psI ps_retN (by
  intro Dn σ H ⟨B0, H0, B, hh, f, hm, q⟩
  cases hm
  exact q .non B H hh.nx .non)⟩
theorem ds_retF {post : S → Env} {m : Option (List D)} (he : DF X e ρ m) : DS X rF (.Return (some e) pos) ρ (m.map fun ds => .rt (.list ds)) post lp := ⟨psI (ps_ret he.pe) (by
  intro Dn σ H ⟨B0, H0, B, hh, f, hm, q⟩
  obtain ⟨d, hd, rfl⟩ := map_some hm
  exact ⟨B0, H0, B, hh, d, hd, fun p vs B1 H1 n1 hp hb he r1 => q d rfl p vs B1 H1 (hh.nx.trans n1) (Ex.none hh.nx.2.1 hp) hb he r1⟩)⟩
/-- return x, x a list of one's own -/
theorem ds_retO {i : Nat} {x : Str} {p1 : Pos} {ds : List D} {post : S → Env} (hi : ρ[i]? = some (.own ds)) (hN : X.N[i]? = some x) (hv : Vis X.env.scope x) (hd : (x == ("__debug__" : Str)) = false) (hcd : (x == ("__classdict__" : Str)) = false) :
    DS X rF (.Return (some (.Name x p1)) pos) ρ (some (.rt (.list ds))) post lp := ⟨psI (ps_ret (pe_var hN hv hd hcd)) (by
  intro Dn σ H ⟨B0, H0, B, hh, f, hm, q⟩
  cases hm
  obtain ⟨p, vs, g1, g2, g3, g4, g5⟩ := hh.own i ds hi
  exact ⟨.ref p, g1, q ds rfl p vs B H hh.nx g2 g3 g4 g5⟩)⟩
theorem ds_brk {post : S → Env} {l : L} (w : Wk ρ (lp l)) : DS X R (.Break pos) ρ (some (.bk l)) post lp := ⟨psI ps_break (by
  intro Dn σ H ⟨B0, H0, B, hh, f, hm, q⟩
  cases hm
  exact q σ B H (hh.wk w) (Ex.refl B))⟩
theorem ds_cnt {post : S → Env} {l : L} (w : Wk ρ (lp l)) : DS X R (.Continue pos) ρ (some (.ct l)) post lp := ⟨psI ps_continue (by
  intro Dn σ H ⟨B0, H0, B, hh, f, hm, q⟩
  cases hm
  exact q σ B H (hh.wk w) (Ex.refl B))⟩
/-- for -/
theorem ds_for {M : Type} {iter : Expr} {body : List Stmt} {m : Option (List D)} {l0 : L} {f : D → Option T} {pt : L → T → Env} {js : List Nat} {F : L → T → Option (Fl L L)} {lq : M → Env} (hp : PassesOwn (model X.prog X.w) X.A X.env X.xe) (hc : X.calm = true)
    (w0 : Wk ρ (lp l0)) (hi : DI X tg iter ρ m) (hg : ∀ l, DG X tg (lp l) f (pt l) js) (hb : ∀ l t, DB X R body (pt l t) (F l t) lp lp) (hs : ∀ x, foldedSetIterable iter X.env x = pure x) :
    DS X R (.For tg iter body [] pos) ρ (m.bind fun ds => (forF (fun d l => (f d).bind fun t => F l t) ds l0 : Option (Fl L M))) lp lq := by
  have hG : PG X tg (fun v σ H Q => ∃ l, gT X.K (lp l) f (pt l) js v σ H Q) := ⟨fun pins s σ H v u Q I r ⟨l, w⟩ => (hg l).pg.run pins s σ H v u Q I r w⟩
  have hB : PSs X body (fun Dn σ H => ∃ l t, cS X.K R (pt l t) (F l t) lp lp Dn σ H) := ⟨fun pins s σ H Dn I ⟨l, t, w⟩ => (hb l t).ps.run pins s σ H Dn I w⟩
  refine ⟨psI (ps_for hp hc hi.pi hG hB hs) ?_⟩
  intro Dn σ H ⟨B0, H0, B, hh, ft, hm, q⟩
  obtain ⟨ds, hx, hf⟩ := bind_some hm
  refine ⟨B0, H0, B, hh, ds, hx, fun J B1 H1 n1 w => ?_⟩
  let P : Nat → L2.St → Hp → Prop := fun i σ' H' => ∃ l Bc, Holds X.K B0 H0 (lp l) σ' Bc H' ∧ Ex B1 Bc ∧ (forF (fun d l => (f d).bind fun t => F l t) (ds.drop i) l : Option (Fl L M)) = some ft
  refine ⟨fun i n σ' H' => n = ds.length - i ∧ i ≤ ds.length ∧ P i σ' H', ⟨ds.length, by simp, Nat.zero_le _, l0, B1, (hh.step n1).wk w0, Ex.refl B1, hf⟩, ?_⟩
  rintro i n σ' H' ⟨rfl, hi, l, Bc, hc', e1, hr⟩
  by_cases hlt : i < ds.length
  · refine .inr ⟨w.go i H' hlt (e1.trans hc'.ex), P (i + 1), fun σ2 H2 p => ⟨ds.length - (i + 1), by omega, rfl, hlt, p⟩, fun x H2 y => ?_⟩
    have hdi : ds[i]? = some ds[i] := by simp [hlt]
    rw [List.drop_eq_getElem_cons hlt] at hr
    obtain ⟨g, hg', hr⟩ := bind_some hr
    obtain ⟨t, ht, hF⟩ := bind_some hg'
    obtain ⟨B2, n2, r2⟩ := w.yl i H' x H2 Bc ds[i] hdi e1 hc'.ex y
    refine ⟨l, B0, H0, B2, ds[i], t, hc'.step n2, r2, ht, fun σ3 _ h3 => ⟨l, t, B0, H0, B2, h3, g, hF, ?_⟩⟩
    cases g with
    | nx l' => exact fun σ'' B'' H'' h'' e' => ⟨l', B'', h'', (e1.trans n2.1).trans e', hr⟩
    | ct l' => exact fun σ'' B'' H'' h'' e' => ⟨l', B'', h'', (e1.trans n2.1).trans e', hr⟩
    | bk l' =>
      cases hr
      exact fun σ'' B'' H'' h'' e' => q σ'' B'' H'' h'' (n1.1.trans ((e1.trans n2.1).trans e'))
    | rt d =>
      cases hr
      exact q
  · have e : i = ds.length := by omega
    subst e
    rw [List.drop_length] at hr
    cases hr
    exact .inl ⟨w.st H' (e1.trans hc'.ex), q σ' Bc H' hc' (n1.1.trans e1)⟩
/-- while -/
theorem ds_while {M : Type} {body : List Stmt} {l0 : L} {k : L → Option Bool} {F : L → Option (Fl L L)} {lq : M → Env} (n : Nat) (hp : PassesOwn (model X.prog X.w) X.A X.env X.xe) (w0 : Wk ρ (lp l0))
    (ht : ∀ l, DT X c (lp l) (k l)) (hb : ∀ l, DB X R body (lp l) (F l) lp lp) : DS X R (.While c body [] pos) ρ (whileF k F n l0 : Option (Fl L M)) lp lq := by
  have hT : PT X c (fun σ H Q => ∃ l, cB X.K (lp l) (k l) σ H Q) := ⟨fun pins s σ H Q I ⟨l, w⟩ => (ht l).pt.run pins s σ H Q I w⟩
  have hB : PSs X body (fun Dn σ H => ∃ l, cS X.K R (lp l) (F l) lp lp Dn σ H) := ⟨fun pins s σ H Dn I ⟨l, w⟩ => (hb l).ps.run pins s σ H Dn I w⟩
  refine ⟨psI (ps_while hp hT hB) ?_⟩
  intro Dn σ H ⟨B0, H0, B, hh, ft, hm, q⟩
  refine ⟨fun i σ' H' => ∃ l Bc, Holds X.K B0 H0 (lp l) σ' Bc H' ∧ Ex B Bc ∧ (whileF k F i l : Option (Fl L M)) = some ft, ⟨n, l0, B, hh.wk w0, Ex.refl B, hm⟩, ?_⟩
  rintro i σ' H' ⟨l, Bc, hc, e1, hr⟩
  cases i with
  | zero => cases hr
  | succ i =>
    obtain ⟨b, hk, hr⟩ := bind_some hr
    refine ⟨l, B0, H0, Bc, hc, b, hk, fun B2 H2 n2 => ?_⟩
    cases b with
    | false =>
      cases hr
      refine L2.iteF ?_
      exact q σ' B2 H2 (hc.step n2) (e1.trans n2.1)
    | true =>
      obtain ⟨g, hF, hr⟩ := bind_some hr
      refine L2.iteT ?_
      refine ⟨fun σ3 H3 => ∃ l Bc, Holds X.K B0 H0 (lp l) σ3 Bc H3 ∧ Ex B Bc ∧ (whileF k F i l : Option (Fl L M)) = some ft, fun σ3 H3 w => ⟨i, Nat.lt_succ_self i, w⟩, l, B0, H0, B2, hc.step n2, g, hF, ?_⟩
      cases g with
      | nx l' => exact fun σ'' B'' H'' h'' e' => ⟨l', B'', h'', (e1.trans n2.1).trans e', hr⟩
      | ct l' => exact fun σ'' B'' H'' h'' e' => ⟨l', B'', h'', (e1.trans n2.1).trans e', hr⟩
      | bk l' =>
        cases hr
        exact fun σ'' B'' H'' h'' e' => q σ'' B'' H'' h'' ((e1.trans n2.1).trans e')
      | rt d =>
        cases hr
        exact q
end

/-! ### own functions -/
def spD (K : PySem.W.Frag) (g : List D → Option D) : Sp := fun vs H Q _ => ∃ B ds d, Ex B H ∧ Reps K B vs ds ∧ g ds = some d ∧ ∀ v B' H', Nx B H B' H' → Rep K B' v d → Q v H'
/-- .. that hands back a new list -/
def spF (K : PySem.W.Frag) (g : List D → Option (List D)) : Sp := fun vs H Q _ => ∃ B ds r, Ex B H ∧ Reps K B vs ds ∧ g ds = some r ∧ ∀ p us B' H', Nx B H B' H' → H p = none → B' p = none → H' p = some (.lst us) → Reps K B' us r → Q (.ref p) H'
def f1 {α : Type} (f : D → Option α) : List D → Option α
  | [a] => f a
  | _ => none
def f2 {α : Type} (f : D → D → Option α) : List D → Option α
  | [a, b] => f a b
  | _ => none
def f3 {α : Type} (f : D → D → D → Option α) : List D → Option α
  | [a, b, c] => f a b c
  | _ => none
def f4 {α : Type} (f : D → D → D → D → Option α) : List D → Option α
  | [a, b, c, d] => f a b c d
  | _ => none
def f5 {α : Type} (f : D → D → D → D → D → Option α) : List D → Option α
  | [a, b, c, d, e] => f a b c d e
  | _ => none
section
variable {X : Cx} {e : Expr} {es : List Expr} {ρ : Env} {pos p : Pos} {k : Nat} {f : Addr} {fd : FuncData} {ps : List Str} {x : Str} {m : Option (List D)}
theorem de_fn {g : List D → Option D} (F : FnOk X.prog X.w X.K X.mg X.base CX0 k f fd ps (spD X.K g)) (hr : Room k X.A) (hg : Gl X x) (hm : X.mg x = some (.ref f)) (hk : PySem.W.keepIn X.K (.ref f) = true) (hb : Binds X.K fd ps [])
    (ha : DA X (e :: es) ρ m) (hdb : (x == ("__debug__" : Str)) = false) (he : starEach (e :: es) X.env = (false, eval e X.env) :: starEach es X.env) (hpl : (backTo pos (starEach es X.env)).any (·.1) = false) :
    DE X (.Call (.Name x p) (e :: es) [] pos) ρ (m.bind g) := ⟨peI (pe_call F hr hg hm hk hb .nil pass0 ha.pa hdb he hpl) (by
  intro σ H Q ⟨B0, H0, B, hh, d', hm, q⟩
  obtain ⟨ds, hx, hf⟩ := bind_some hm
  refine ⟨B0, H0, B, hh, ds, hx, fun vs B1 H1 n1 r1 => ?_⟩
  show spD X.K g (vs ++ []) H1 Q _
  rw [List.append_nil]
  exact ⟨B1, ds, d', n1.2.2.1, r1, hf, fun w B2 H2 n2 r2 => q w B2 H2 (n1.trans n2) r2⟩)⟩
theorem df_fn {g : List D → Option (List D)} (F : FnOk X.prog X.w X.K X.mg X.base CX0 k f fd ps (spF X.K g)) (hr : Room k X.A) (hg : Gl X x) (hm : X.mg x = some (.ref f)) (hk : PySem.W.keepIn X.K (.ref f) = true) (hb : Binds X.K fd ps [])
    (ha : DA X (e :: es) ρ m) (hdb : (x == ("__debug__" : Str)) = false) (he : starEach (e :: es) X.env = (false, eval e X.env) :: starEach es X.env) (hpl : (backTo pos (starEach es X.env)).any (·.1) = false) :
    DF X (.Call (.Name x p) (e :: es) [] pos) ρ (m.bind g) := ⟨peI (pe_call F hr hg hm hk hb .nil pass0 ha.pa hdb he hpl) (by
  intro σ H Q ⟨B0, H0, B, hh, d', hm, q⟩
  obtain ⟨ds, hx, hf⟩ := bind_some hm
  refine ⟨B0, H0, B, hh, ds, hx, fun vs B1 H1 n1 r1 => ?_⟩
  show spF X.K g (vs ++ []) H1 Q _
  rw [List.append_nil]
  exact ⟨B1, ds, d', n1.2.2.1, r1, hf, fun p us B2 H2 n2 hp hb he r2 => q p us B2 H2 (n1.trans n2) (Ex.none n1.2.1 hp) hb he r2⟩)⟩
end
/-- the slots at the entry -/
def startE (N : List Str) (ds : List D) : Env := ds.map .val ++ List.replicate (N.length - ds.length) .no
theorem start_holds {K : PySem.W.Frag} {N : List Str} {B H : Hp} {vs : List V} {ds : List D} (e : Ex B H) (r : Reps K B vs ds) : Holds K B H (startE N ds) (L2.start N vs) B H := by
  have hl := r.len
  have noO : ∀ {i : Nat} {x : Sl}, (startE N ds)[i]? = some x → (∃ d, x = .val d ∧ ds[i]? = some d) ∨ x = .no := fun {i x} h => by
    unfold startE at h
    by_cases hi : i < (ds.map Sl.val).length
    · rw [List.getElem?_append_left hi, List.getElem?_map] at h
      obtain ⟨d, h1, h2⟩ := map_some h
      exact .inl ⟨d, h2.symm, h1⟩
    · rw [List.getElem?_append_right (by omega), List.getElem?_replicate] at h
      split at h
      · exact .inr (Option.some.inj h).symm
      · cases h
  refine ⟨Nx.refl e, by unfold startE L2.start; simp [hl], fun i d h => ?_, fun i d h => ?_, fun i d h => ?_, fun i j ds es p h1 h2 => ?_⟩
  · rcases noO h with ⟨d', e1, e2⟩ | e1
    · cases e1
      obtain ⟨v, h1, h2⟩ := r.at e2
      refine ⟨v, ?_, h2⟩
      unfold L2.start
      have hi : i < (vs.map some).length := by
        have := (List.getElem?_eq_some_iff.mp h1).1
        simpa using this
      rw [List.getElem?_append_left hi, List.getElem?_map, h1]
      rfl
    · cases e1
  · rcases noO h with ⟨d', e1, e2⟩ | e1 <;> cases e1
  · rcases noO h with ⟨d', e1, e2⟩ | e1 <;> cases e1
  · rcases noO h1 with ⟨d', e1, e2⟩ | e1 <;> cases e1
/-- what a body hands back: the end without a return is None -/
def outD (m : Option (Fl Unit Unit)) : Option D := m.bind fun f => match f with
  | .nx _ => some .none
  | .rt d => some d
  | _ => none
def outF (m : Option (Fl Unit Unit)) : Option (List D) := m.bind fun f => match f with
  | .rt (.list ds) => some ds
  | _ => none
section
variable {P : Program} {w : World} {K : PySem.W.Frag} {mg : Str → Option Value} {base : Heap}
theorem fn_D {x qual : Str} {st : Stmt} {f : Addr} {fd : FuncData} {N ps : List Str} {k : Nat} {g : List D → Option D} {m : List D → Option (Fl Unit Unit)} (F : Fun K x qual st f fd) (S : FnScope N ps (defScope st)) (hl : ∀ ds d, g ds = some d → ds.length = ps.length)
    (hg : ∀ ds d, g ds = some d → outD (m ds) = some d)
    (hb : ∀ (cdv : Value) (A : Around) (outer : List PySem.Env) (s : Shared) (H : Hp) (E : XK), Room k (A.deeper (envOfC qual (defScope st) s.heap.objs.size f cdv)) → ∀ ds d, g ds = some d → ∃ po lp, DB (cxOf CX0 P w K mg base N qual (defScope st) f cdv A outer s H E).nox rV (defBody st) (startE N ds) (m ds) po lp) :
    FnOk P w K mg base CX0 (k + 1) f fd ps (spD K g) := by
  refine F.ok S (fun vs H Q E ⟨B, ds, d, e, r, hd, q⟩ => by rw [r.len]; exact hl ds d hd) (fun cdv A outer s H vs Q E hr ⟨B, ds, d, e, r, hd, q⟩ => ?_)
  obtain ⟨po, lp, h⟩ := hb cdv A outer s H E hr ds d hd
  refine ⟨_, h.ps, B, H, B, start_holds e r, ?_⟩
  obtain ⟨fl, h1, h2⟩ := bind_some (hg ds d hd)
  refine ⟨fl, h1, ?_⟩
  cases fl with
  | nx s =>
    cases h2
    exact fun σ' B' H' h' e' => q .non B' H' h'.nx .non
  | rt d' =>
    cases h2
    exact q
  | bk l => cases h2
  | ct l => cases h2
theorem fn_F {x qual : Str} {st : Stmt} {f : Addr} {fd : FuncData} {N ps : List Str} {k : Nat} {g : List D → Option (List D)} {m : List D → Option (Fl Unit Unit)} (F : Fun K x qual st f fd) (S : FnScope N ps (defScope st)) (hl : ∀ ds d, g ds = some d → ds.length = ps.length)
    (hg : ∀ ds d, g ds = some d → outF (m ds) = some d)
    (hb : ∀ (cdv : Value) (A : Around) (outer : List PySem.Env) (s : Shared) (H : Hp) (E : XK), Room k (A.deeper (envOfC qual (defScope st) s.heap.objs.size f cdv)) → ∀ ds d, g ds = some d → ∃ po lp, DB (cxOf CX0 P w K mg base N qual (defScope st) f cdv A outer s H E).nox rF (defBody st) (startE N ds) (m ds) po lp) :
    FnOk P w K mg base CX0 (k + 1) f fd ps (spF K g) := by
  refine F.ok S (fun vs H Q E ⟨B, ds, d, e, r, hd, q⟩ => by rw [r.len]; exact hl ds d hd) (fun cdv A outer s H vs Q E hr ⟨B, ds, d, e, r, hd, q⟩ => ?_)
  obtain ⟨po, lp, h⟩ := hb cdv A outer s H E hr ds d hd
  refine ⟨_, h.ps, B, H, B, start_holds e r, ?_⟩
  obtain ⟨fl, h1, h2⟩ := bind_some (hg ds d hd)
  refine ⟨fl, h1, ?_⟩
  cases fl with
  | nx s => cases h2
  | rt d' =>
    intro ds' e'
    subst e'
    cases h2
    exact q
  | bk l => cases h2
  | ct l => cases h2
end
end Dl

/-! Data layer, part 8: lists of one's own that are read; more sources and calls. -/
namespace Dl
open PySem L2 PySem.Spec PyProof.Rows PySem.W PySem.SeqAt
open Evl (Ex)

/-! ### reading lists of one's own -/
inductive Th : Env → Env → Prop
  | nil : Th [] []
  | k {x : Sl} {r s : Env} : Th r s → Th (x :: r) (x :: s)
  | o {ds : List D} {r s : Env} : Th r s → Th (.own ds :: r) (.val (.list ds) :: s)
theorem Th.at : ∀ {r s : Env}, Th r s → r.length = s.length ∧ ∀ (i : Nat) (x : Sl), s[i]? = some x → r[i]? = some x ∨ ∃ ds, x = .val (.list ds) ∧ r[i]? = some (.own ds)
  | _, _, .nil => ⟨rfl, fun i x h => by simp at h⟩
  | _, _, .k w => ⟨by simp [w.at.1], fun i x h => by
      cases i with
      | zero => exact .inl h
      | succ i => exact w.at.2 i x (by simpa using h)⟩
  | _, _, .o w => ⟨by simp [w.at.1], fun i x h => by
      cases i with
      | zero => exact .inr ⟨_, (Option.some.inj h).symm, rfl⟩
      | succ i => exact w.at.2 i x (by simpa using h)⟩
section
variable {K : PySem.W.Frag} {B0 H0 B H : Hp} {ρ ρ' : Env} {σ : L2.St}
def thw (ρ ρ' : Env) (σ : L2.St) (a : Addr) : Prop := ∃ (i : Nat) (ds : List D), ρ[i]? = some (.own ds) ∧ ρ'[i]? = some (.val (.list ds)) ∧ σ[i]? = some (some (.ref a))
open Classical in
theorem Holds.thaw (hh : Holds K B0 H0 ρ σ B H) (t : Th ρ ρ') : ∃ B1, Holds K B0 H0 ρ' σ B1 H ∧ ∀ B2 H2, Nx B1 H B2 H2 → ∃ B3, Nx B H B3 H2 ∧ ∀ v d, Rep K B2 v d → (∀ ds, d ≠ .list ds ∧ d ≠ .tuple ds) → Rep K B3 v d := by
  have hO : ∀ {a : Addr}, thw ρ ρ' σ a → B a = none ∧ H0 a = none ∧ ∃ vs ds, H a = some (.lst vs) ∧ Reps K B vs ds := fun {a} ⟨i, ds, h1, h2, h3⟩ => by
    obtain ⟨p, vs, g1, g2, g3, g4, g5⟩ := hh.own i ds h1
    rw [h3] at g1; cases g1
    exact ⟨g3, g2, vs, ds, g4, g5⟩
  let B1 : Hp := fun a => if thw ρ ρ' σ a then H a else B a
  have b1y : ∀ {a : Addr}, thw ρ ρ' σ a → B1 a = H a := fun h => if_pos h
  have b1n : ∀ {a : Addr}, ¬ thw ρ ρ' σ a → B1 a = B a := fun h => if_neg h
  have e1 : Ex B B1 := fun a u z => by
    rw [b1n (fun h => by rw [(hO h).1] at z; cases z)]; exact z
  refine ⟨B1, ⟨⟨hh.nx.1.trans e1, hh.nx.2.1, fun a u z => ?_, fun a ha hb => ?_⟩, hh.len.trans t.at.1, fun i d z => ?_, fun i ds z => ?_, fun i ns z => ?_, fun i j ds es p z1 z2 z3 z4 => ?_⟩, fun B2 H2 n => ?_⟩
  · by_cases h : thw ρ ρ' σ a
    · rw [b1y h] at z; exact z
    · rw [b1n h] at z; exact hh.ex a u z
  · rw [b1n fun h => ha (hO h).2.1]; exact hh.nx.2.2.2 a ha hb
  · rcases t.at.2 i _ z with y | ⟨ds, y1, y2⟩
    · obtain ⟨v, g1, g2⟩ := hh.val i d y
      exact ⟨v, g1, g2.up e1⟩
    · cases y1
      obtain ⟨p, vs, g1, g2, g3, g4, g5⟩ := hh.own i ds y2
      exact ⟨.ref p, g1, .lst (by rw [b1y ⟨i, ds, y2, z, g1⟩]; exact g4) (g5.up e1)⟩
  · rcases t.at.2 i _ z with y | ⟨_, y1, _⟩
    · obtain ⟨p, vs, g1, g2, g3, g4, g5⟩ := hh.own i ds y
      have hn : ¬ thw ρ ρ' σ p := fun ⟨j, es, h1, h2, h3⟩ => by
        have e := hh.apart i j ds es p y h1 g1 h3
        subst e
        rw [z] at h2; cases h2
      exact ⟨p, vs, g1, g2, (b1n hn).trans g3, g4, g5.up e1⟩
    · cases y1
  · rcases t.at.2 i _ z with y | ⟨_, y1, _⟩
    · obtain ⟨a, g1, g2⟩ := hh.scr i ns y
      exact ⟨a, g1, Evl.ex_l e1 g2⟩
    · cases y1
  · rcases t.at.2 i _ z1 with y1 | ⟨_, y1, _⟩
    · rcases t.at.2 j _ z2 with y2 | ⟨_, y2, _⟩
      · exact hh.apart i j ds es p y1 y2 z3 z4
      · cases y2
    · cases y1
  · let B3 : Hp := fun a => if thw ρ ρ' σ a then none else B2 a
    have b3y : ∀ {a : Addr}, thw ρ ρ' σ a → B3 a = none := fun h => if_pos h
    have b3n : ∀ {a : Addr}, ¬ thw ρ ρ' σ a → B3 a = B2 a := fun h => if_neg h
    refine ⟨B3, ⟨fun a u z => ?_, n.2.1, fun a u z => ?_, fun a ha hb => ?_⟩, fun v d r hd => ?_⟩
    · have hn : ¬ thw ρ ρ' σ a := fun h => by rw [(hO h).1] at z; cases z
      rw [b3n hn]
      exact n.1 a u (by rw [b1n hn]; exact z)
    · by_cases h : thw ρ ρ' σ a
      · rw [b3y h] at z; cases z
      · rw [b3n h] at z; exact n.2.2.1 a u z
    · by_cases h : thw ρ ρ' σ a
      · exact b3y h
      · rw [b3n h]; exact n.2.2.2 a ha (by rw [b1n h]; exact hb)
    · cases r with
      | non => exact .non
      | bl b => exact .bl b
      | int i => exact .int i
      | str x => exact .str x
      | lst _ _ => exact absurd rfl (hd _).1
      | tup _ _ => exact absurd rfl (hd _).2
end
def flatD : D → Option D
  | .list _ => none
  | .tuple _ => none
  | d => some d
theorem flatD_some {d d' : D} (h : flatD d = some d') : d = d' ∧ ∀ ds, d ≠ .list ds ∧ d ≠ .tuple ds := by
  unfold flatD at h
  split at h
  · cases h
  · cases h
  · cases h
    rename_i a b
    exact ⟨rfl, fun ds => ⟨fun e => a ds e, fun e => b ds e⟩⟩
section
variable {X : Cx} {R : RT} {tg e a b c : Expr} {es : List Expr} {ρ ρ' : Env} {pos : Pos}
/-- a value without parts, read where lists of one's own are taken as they stand -/
theorem de_thaw {m : Option D} (t : Th ρ ρ') (h : DE X e ρ' m) : DE X e ρ (m.bind flatD) := ⟨peI h.pe (by
  intro σ H Q ⟨B0, H0, B, hh, d', hm, q⟩
  obtain ⟨d, hd, hf⟩ := bind_some hm
  obtain ⟨rfl, hn⟩ := flatD_some hf
  obtain ⟨B1, h1, f⟩ := hh.thaw t
  refine ⟨B0, H0, B1, h1, d, hd, fun v B2 H2 n2 r2 => ?_⟩
  obtain ⟨B3, n3, g⟩ := f B2 H2 n2
  exact q v B3 H2 n3 (g v d r2 hn))⟩
theorem dt_thaw {m : Option Bool} (t : Th ρ ρ') (h : DT X e ρ' m) : DT X e ρ m := ⟨ptI h.pt (by
  intro σ H Q ⟨B0, H0, B, hh, d, hd, q⟩
  obtain ⟨B1, h1, f⟩ := hh.thaw t
  refine ⟨B0, H0, B1, h1, d, hd, fun B2 H2 n2 => ?_⟩
  obtain ⟨B3, n3, g⟩ := f B2 H2 n2
  exact q B3 H2 n3)⟩
/-- x[i], x a list of one's own -/
theorem de_oix {i : Nat} {x : Str} {p1 : Pos} {ds : List D} {n : Option D} (hi : ρ[i]? = some (.own ds)) (hN : X.N[i]? = some x) (hv : Vis X.env.scope x) (hd : (x == ("__debug__" : Str)) = false) (hcd : (x == ("__classdict__" : Str)) = false) (hb : DE X b ρ n) (hs : PlainIx b) :
    DE X (.Subscript (.Name x p1) b pos) ρ (n.bind fun k => idxD (.list ds) k) := ⟨peI (pe_ix ix_list (pe_var hN hv hd hcd) hb.pe hs) (by
  intro σ H Q ⟨B0, H0, B, hh, d', hm, q⟩
  obtain ⟨k, hk, hf⟩ := bind_some hm
  obtain ⟨p, vs, g1, g2, g3, g4, g5⟩ := hh.own i ds hi
  refine ⟨.ref p, g1, B0, H0, B, hh, k, hk, fun v B1 H1 n1 r1 => ?_⟩
  cases r1 with
  | int j =>
    obtain ⟨w, e1, e2⟩ := (g5.up n1.1).atI hf
    exact ⟨p, vs, j, w, rfl, rfl, .inl (.inl (n1.2.1 _ _ g4)), e1, q w B1 H1 n1 e2⟩
  | _ => simp [idxD] at hf)⟩
/-- a + b as a new list -/
def catF : D → D → Option (List D)
  | .list a, .list b => fit (a.length + b.length) (a ++ b)
  | _, _ => none
abbrev b2F (m n : Option D) (f : D → D → Option (List D)) : Option (List D) := m.bind fun x => n.bind fun y => f x y
theorem df_add {m n : Option D} (ha : DE X a ρ m) (hb : DE X b ρ n) : DF X (.BinOp a .Add b pos) ρ (b2F m n catF) := ⟨peI (pe_op op_cat ha.pe hb.pe) (by
  intro σ H Q ⟨B0, H0, B, hh, d', hm, q⟩
  obtain ⟨x, hx, hm⟩ := bind_some hm
  obtain ⟨y, hy, hf⟩ := bind_some hm
  refine ⟨B0, H0, B, hh, x, hx, fun v B1 H1 n1 r1 => ⟨B0, H0, B1, hh.step n1, y, hy, fun w B2 H2 n2 r2 => ?_⟩⟩
  cases r1 with
  | @lst l xs ds g1 rr =>
    cases r2 with
    | @lst l2 ys es g2 rr2 =>
      obtain ⟨hz, rfl⟩ := fit_some hf
      refine ⟨l, l2, xs, ys, rfl, rfl, n2.2.1 _ _ (n1.2.2.1 _ _ g1), n2.2.2.1 _ _ g2, by rw [rr.len, rr2.len]; exact hz, fun p hp => ?_⟩
      have n3 := n1.trans n2
      exact q p _ B2 _ (n3.trans (Nx.own n3.2.2.1 hp)) (Ex.none n3.2.1 hp) (Ex.none n3.2.2.1 hp) upd_same ((rr.up n2.1).app rr2)
    | _ => simp [catF] at hf
  | _ => cases r2 <;> simp [catF] at hf)⟩
/-- [..] * k as a new list -/
def repF : D → D → Option (List D)
  | .list a, .int k => if -9223372036854775808 ≤ k ∧ k < 9223372036854775808 ∧ a.length * k.toNat ≤ 16777216 then some (List.replicate k.toNat a).flatten else none
  | _, _ => none
theorem df_mul {m n : Option D} (ha : DE X a ρ m) (hb : DE X b ρ n) : DF X (.BinOp a .Mult b pos) ρ (b2F m n repF) := ⟨peI (pe_op op_rep ha.pe hb.pe) (by
  intro σ H Q ⟨B0, H0, B, hh, d', hm, q⟩
  obtain ⟨x, hx, hm⟩ := bind_some hm
  obtain ⟨y, hy, hf⟩ := bind_some hm
  refine ⟨B0, H0, B, hh, x, hx, fun v B1 H1 n1 r1 => ⟨B0, H0, B1, hh.step n1, y, hy, fun w B2 H2 n2 r2 => ?_⟩⟩
  cases r1 with
  | @lst l xs ds g1 rr =>
    cases r2 with
    | int k =>
      simp only [repF] at hf
      split at hf
      · rename_i hc
        cases hf
        refine ⟨l, k, xs, rfl, rfl, n2.2.1 _ _ (n1.2.2.1 _ _ g1), by omega, by omega, by rw [rr.len, sizeLine_eq]; exact hc.2.2, fun p hp => ?_⟩
        have n3 := n1.trans n2
        exact q p _ B2 _ (n3.trans (Nx.own n3.2.2.1 hp)) (Ex.none n3.2.1 hp) (Ex.none n3.2.2.1 hp) upd_same ((rr.up n2.1).rep _)
      · cases hf
    | _ => simp [repF] at hf
  | _ => cases r2 <;> simp [repF] at hf)⟩

/-! ### chains -/
abbrev ch3 (m n : Option D) (f f' : D → D → Option D) (o : Option D) : Option D := m.bind fun x => n.bind fun y => (f x y).bind fun r => (isB r).bind fun k => if k then o.bind fun z => f' y z else some (.bool false)
theorem tChD {f f' : D → D → Option D} {m n o : Option D} : ∀ (σ : L2.St) (H : Hp) (Q : VK), cT X.K ρ (ch3 m n f f' o) σ H Q → tChain (rD X.K f) (rD X.K f') (cT X.K ρ m) (cT X.K ρ n) (cT X.K ρ o) σ H Q := by
  intro σ H Q ⟨B0, H0, B, hh, d, hm, q⟩
  obtain ⟨x, hx, hm⟩ := bind_some hm
  obtain ⟨y, hy, hm⟩ := bind_some hm
  obtain ⟨r, hr, hm⟩ := bind_some hm
  obtain ⟨k, hk, hm⟩ := bind_some hm
  refine ⟨B0, H0, B, hh, x, hx, fun v B1 H1 n1 r1 => ⟨B0, H0, B1, hh.step n1, y, hy, fun w B2 H2 n2 r2 => ⟨B2, x, y, r, n2.2.2.1, r1.up n2.1, r2, hr, fun u B3 H3 n3 r3 => ⟨k, isB_some r3 hk, ?_⟩⟩⟩⟩
  have n123 := (n1.trans n2).trans n3
  cases k with
  | false =>
    cases hm
    exact L2.iteF (q _ B3 H3 n123 (.bl _))
  | true =>
    obtain ⟨z, hz, hf⟩ := bind_some (show (o.bind fun z => f' y z) = some d from hm)
    refine L2.iteT ?_
    refine ⟨B0, H0, B3, hh.step n123, z, hz, fun t B4 H4 n4 r4 => ⟨B4, y, z, d, n4.2.2.1, r2.up (n3.1.trans n4.1), r4, hf, fun w' B5 H5 n5 r5 => q w' B5 H5 ((n123.trans n4).trans n5) r5⟩⟩
theorem de_chain {op op' : CmpOp} {f f' : D → D → Option D} {m n o : Option D} (ho : OpR X (compareOp op) (rD X.K f)) (ho' : OpR X (compareOp op') (rD X.K f')) (ha : DE X a ρ m) (hb : DE X b ρ n) (hc : DE X c ρ o) (hm : lastMarks [op, op'] [b, c] = false) :
    DE X (.Compare a [op, op'] [b, c] pos) ρ (ch3 m n f f' o) := ⟨peI (pe_chain ho ho' ha.pe hb.pe hc.pe hm) tChD⟩
theorem dt_chain {op op' : CmpOp} {f f' : D → D → Option D} {m n o : Option D} (ho : OpR X (compareOp op) (rD X.K f)) (ho' : OpR X (compareOp op') (rD X.K f')) (ha : DE X a ρ m) (hb : DE X b ρ n) (hc : DE X c ρ o) (hm : lastMarks [op, op'] [b, c] = false) :
    DT X (.Compare a [op, op'] [b, c] pos) ρ ((ch3 m n f f' o).bind isB) := ⟨ptI (pt_chain ho ho' ha.pe hb.pe hc.pe hm) (by
  intro σ H Q ⟨B0, H0, B, hh, d', hm, q⟩
  obtain ⟨x, hx, hf⟩ := bind_some hm
  refine tChD σ H _ ⟨B0, H0, B, hh, x, hx, fun v B1 H1 n1 r1 => ?_⟩
  exact ⟨d', isB_some r1 hf, q B1 H1 n1⟩)⟩

/-! ### more sources -/
def enumL (ds : List D) : List D := ds.zipIdx.map fun p => .tuple [.int p.2, p.1]
def enumD : List D → Option (List D)
  | [.list ds] => fit ds.length (enumL ds)
  | _ => none
theorem enumL_at {ds : List D} {i : Nat} {d : D} (h : (enumL ds)[i]? = some d) : ∃ e, ds[i]? = some e ∧ d = .tuple [.int i, e] := by
  unfold enumL at h
  rw [List.getElem?_map, List.getElem?_zipIdx] at h
  obtain ⟨p, h1, h2⟩ := map_some h
  obtain ⟨e, h3, h4⟩ := map_some h1
  subst h4
  refine ⟨e, h3, ?_⟩
  rw [← h2]
  simp
theorem di_enum {elts : List Expr} {kk : Nat} {tpos p : Pos} {m : Option (List D)} (hg : Gl X "enumerate") (hm : X.mg "enumerate" = none) (ha : DA X [e] ρ m) (hs : starEach [e] X.env = [(false, eval e X.env)]) :
    DI X (.Tuple elts kk tpos) (.Call (.Name "enumerate" p) [e] [] pos) ρ (m.bind enumD) := ⟨⟨fun pins s σ H R I w => by
  obtain ⟨B0, H0, B, hh, ds, hm', q⟩ := w
  obtain ⟨xs, hx, hf⟩ := bind_some hm'
  unfold enumD at hf
  split at hf
  · rename_i es
    obtain ⟨hz, rfl⟩ := fit_some hf
    refine (pi_enum hg hm (ha.pa) hs).run pins s σ H R I ⟨B0, H0, B, hh, _, hx, fun vs B1 H1 n1 r1 => ?_⟩
    obtain ⟨v, rfl, h1⟩ := one_rep r1
    cases h1 with
    | @lst l us _ g1 rr =>
      refine ⟨l, us, rfl, .inl (.inl (n1.2.2.1 _ _ g1)), q _ B1 H1 n1 ⟨?_, fun i H hi e => ?_, fun H e => ?_, fun i H x H' Bc d hd e1 e2 y => ?_⟩⟩
      · simpa [enumL] using hz
      · exact walk_enum.goes i H (by rw [rr.len]; simpa [enumL] using hi) (.inl (.inl (e _ _ g1)))
      · have := (walk_enum (K := X.K) (a := l) (xs := us)).stops H (.inl (.inl (e _ _ g1)))
        rw [rr.len] at this
        simpa [enumL] using this
      · obtain ⟨z, hz, rfl⟩ := enumL_at hd
        have hi := (List.getElem?_eq_some_iff.mp hz).1
        obtain ⟨T, x1, x2, rfl, hT, rfl, f1, f2⟩ := walk_enum.yields i H x H' (by rw [rr.len]; exact hi) (.inl (.inl ((e1.trans e2) _ _ g1))) y
        cases f1
        exact ⟨_, Nx.new e2 hT, Nx.tup (.cons (.int _) (.cons ((atV rr f2 hz).up e1) .nil)) e2 hT⟩
  · cases hf⟩⟩

def revF : List D → Option (List D)
  | [.list ds] => fit ds.length ds.reverse
  | _ => none
theorem di_rev {p : Pos} {m : Option (List D)} (hg : Gl X "reversed") (hm : X.mg "reversed" = none) (ha : DA X [e] ρ m) (hs : starEach [e] X.env = [(false, eval e X.env)]) : DI X tg (.Call (.Name "reversed" p) [e] [] pos) ρ (m.bind revF) := ⟨⟨fun pins s σ H R I w => by
  obtain ⟨B0, H0, B, hh, ds, hm', q⟩ := w
  obtain ⟨xs, hx, hf⟩ := bind_some hm'
  unfold revF at hf
  split at hf
  · rename_i es
    obtain ⟨hz, rfl⟩ := fit_some hf
    refine (pi_reversed hg hm (ha.pa) hs).run pins s σ H R I ⟨B0, H0, B, hh, _, hx, fun vs B1 H1 n1 r1 => ?_⟩
    obtain ⟨v, rfl, h1⟩ := one_rep r1
    cases h1 with
    | @lst l us _ g1 rr =>
      have hl := rr.len
      refine ⟨l, us, rfl, .inl (.inl (n1.2.2.1 _ _ g1)), q _ B1 H1 n1 ⟨by simpa using hz, fun i H hi e => ?_, fun H e => ?_, fun i H x H' Bc d hd e1 e2 y => ?_⟩⟩
      · exact (walk_rev (K := X.K) (a := l) (xs := us)).goes i H (by rw [hl]; simpa using hi) (.inl (.inl (e _ _ g1)))
      · have := (walk_rev (K := X.K) (a := l) (xs := us)).stops H (.inl (.inl (e _ _ g1)))
        rw [hl] at this
        rw [hl]
        simpa using this
      · have hi := (List.getElem?_eq_some_iff.mp hd).1
        rw [List.length_reverse] at hi
        obtain ⟨rfl, hx'⟩ := (walk_rev (K := X.K) (a := l) (xs := us)).yields i H x H' (by rw [hl]; exact hi) (.inl (.inl ((e1.trans e2) _ _ g1))) y
        rw [List.getElem?_reverse hi] at hd
        rw [hl] at hx'
        exact ⟨Bc, Nx.refl e2, (atV rr hx' hd).up e1⟩
  · cases hf⟩⟩
def zipL (xs ys : List D) : List D := (xs.zip ys).map fun p => .tuple [p.1, p.2]
def zipD : List D → Option (List D)
  | [.list xs, .list ys] => fit xs.length (zipL xs ys)
  | _ => none
theorem di_zip {elts : List Expr} {kk : Nat} {tpos p : Pos} {m : Option (List D)} (hg : Gl X "zip") (hm : X.mg "zip" = none) (ha : DA X [a, b] ρ m) (hs : starEach [a, b] X.env = (false, eval a X.env) :: starEach [b] X.env) (hpl : (backTo pos (starEach [b] X.env)).any (·.1) = false) :
    DI X (.Tuple elts kk tpos) (.Call (.Name "zip" p) [a, b] [] pos) ρ (m.bind zipD) := ⟨⟨fun pins s σ H R I w => by
  obtain ⟨B0, H0, B, hh, ds, hm', q⟩ := w
  obtain ⟨xs, hx, hf⟩ := bind_some hm'
  unfold zipD at hf
  split at hf
  · rename_i es fs
    obtain ⟨hz, rfl⟩ := fit_some hf
    refine (pi_zip hg hm (ha.pa) hs hpl).run pins s σ H R I ⟨B0, H0, B, hh, _, hx, fun vs B1 H1 n1 r1 => ?_⟩
    obtain ⟨v, v', rfl, h1, h2⟩ := two_rep r1
    cases h1 with
    | @lst l us _ g1 rr =>
      cases h2 with
      | @lst l2 us2 _ g2 rr2 =>
        have hl := rr.len
        have hl2 := rr2.len
        have hn : (zipL es fs).length = min us.length us2.length := by unfold zipL; rw [List.length_map, List.length_zip, hl, hl2]
        have W := walk_zip (K := X.K) (a := l) (b := l2) (xs := us) (ys := us2) hn
        refine ⟨l, l2, us, us2, rfl, .inl (.inl (n1.2.2.1 _ _ g1)), .inl (.inl (n1.2.2.1 _ _ g2)), q _ B1 H1 n1 ⟨by rw [hn]; omega, fun i H hi e => W.goes i H hi ⟨.inl (.inl (e _ _ g1)), .inl (.inl (e _ _ g2))⟩, fun H e => W.stops H ⟨.inl (.inl (e _ _ g1)), .inl (.inl (e _ _ g2))⟩, fun i H x H' Bc d hd e1 e2 y => ?_⟩⟩
        have hi := (List.getElem?_eq_some_iff.mp hd).1
        obtain ⟨T, x1, x2, rfl, hT, rfl, f1, f2⟩ := W.yields i H x H' hi ⟨.inl (.inl ((e1.trans e2) _ _ g1)), .inl (.inl ((e1.trans e2) _ _ g2))⟩ y
        obtain ⟨d1, k1, k2⟩ := rr.atV f1
        obtain ⟨d2, k3, k4⟩ := rr2.atV f2
        have e : d = .tuple [d1, d2] := by
          unfold zipL at hd
          rw [List.getElem?_map, (List.getElem?_zip_eq_some (z := (d1, d2))).mpr ⟨k1, k3⟩] at hd
          exact (Option.some.inj hd).symm
        subst e
        exact ⟨_, Nx.new e2 hT, Nx.tup (.cons (k2.up e1) (.cons (k4.up e1) .nil)) e2 hT⟩
  · cases hf⟩⟩
/-- list(range(..)) -/
def cR (K : PySem.W.Frag) (ρ : Env) (m : Option (Int × Int)) : L2.St → Hp → (Int → Int → Hp → Prop) → Prop := fun σ H Q => ∃ B0 H0 B, Holds K B0 H0 ρ σ B H ∧ ∃ p, m = some p ∧ ∀ B' H', Nx B H B' H' → Q p.1 p.2 H'
def int1 : List D → Option (Int × Int)
  | [.int j] => some (0, j)
  | _ => none
def int2 : List D → Option (Int × Int)
  | [.int i, .int j] => some (i, j)
  | _ => none
structure DR (X : Cx) (e : Expr) (ρ : Env) (m : Option (Int × Int)) : Prop where
  pr : PRg X e (cR X.K ρ m)
theorem prI {t t' : L2.St → Hp → (Int → Int → Hp → Prop) → Prop} (h : PRg X e t) (f : ∀ σ H Q, t' σ H Q → t σ H Q) : PRg X e t' := fun pins s σ H Q I w => h pins s σ H Q I (f σ H Q w)
theorem dr_1 {p : Pos} {m : Option D} (hg : Gl X "range") (hm : X.mg "range" = none) (ha : DE X a ρ m) (na : starEach [a] X.env = (false, eval a X.env) :: starEach [] X.env) : DR X (.Call (.Name "range" p) [a] [] pos) ρ ((c2 m (some [])).bind int1) := ⟨prI (prg_1 hg hm ha.pe na) (by
  intro σ H Q ⟨B0, H0, B, hh, p', hm, q⟩
  obtain ⟨ds, hd0, hf⟩ := bind_some hm
  obtain ⟨d, hd, hd2⟩ := bind_some hd0
  cases hd2
  refine ⟨B0, H0, B, hh, d, hd, fun v B1 H1 n1 r1 => ?_⟩
  cases r1 <;> simp [int1] at hf
  · subst hf
    exact ⟨_, rfl, q B1 H1 n1⟩)⟩
theorem dr_2 {p : Pos} {m n : Option D} (hg : Gl X "range") (hm : X.mg "range" = none) (ha : DE X a ρ m) (hb : DE X b ρ n) (na : starEach [a, b] X.env = (false, eval a X.env) :: starEach [b] X.env) (nb : starEach [b] X.env = (false, eval b X.env) :: starEach [] X.env) (hpl : (backTo pos (starEach [b] X.env)).any (·.1) = false) : DR X (.Call (.Name "range" p) [a, b] [] pos) ρ ((c2 m (c2 n (some []))).bind int2) := ⟨prI (prg_2 hg hm ha.pe hb.pe na nb hpl) (by
  intro σ H Q ⟨B0, H0, B, hh, p', hm, q⟩
  obtain ⟨ds, hd0, hf⟩ := bind_some hm
  obtain ⟨d, hd, hd2⟩ := bind_some hd0
  obtain ⟨es, he0, hd3⟩ := bind_some hd2
  obtain ⟨e', he, he2⟩ := bind_some he0
  cases he2
  cases hd3
  refine ⟨B0, H0, B, hh, d, hd, fun v B1 H1 n1 r1 => ⟨B0, H0, B1, hh.step n1, e', he, fun w B2 H2 n2 r2 => ?_⟩⟩
  cases r1 <;> cases r2 <;> simp [int2] at hf
  · subst hf
    exact ⟨_, _, rfl, rfl, q B2 H2 (n1.trans n2)⟩)⟩
def rngF (p : Int × Int) : Option (List D) := if (-4611686018427387904 ≤ p.1 ∧ p.1 < 4611686018427387904) ∧ -4611686018427387904 ≤ p.2 ∧ p.2 < 4611686018427387904 then fit (p.2 - p.1).toNat (rangeI p.1 (p.2 - p.1).toNat) else none
theorem reps_rng {K : PySem.W.Frag} {B : Hp} (lo : Int) (f : Nat → V) (h : ∀ i, f i = .int (lo + (i : Int))) : ∀ n : Nat, Reps K B ((List.range n).map f) (rangeI lo n)
  | 0 => .nil
  | n + 1 => by
    unfold rangeI
    rw [List.range_succ, List.map_append, List.map_append]
    exact (reps_rng lo f h n).app (.cons (by rw [h n]; exact .int _) .nil)
theorem df_listRg {p : Pos} {m : Option (Int × Int)} (hc : X.calm = true) (hg : Gl X "list") (hm : X.mg "list" = none) (he : DR X e ρ m) (na : starEach [e] X.env = (false, eval e X.env) :: starEach [] X.env) : DF X (.Call (.Name "list" p) [e] [] pos) ρ (m.bind rngF) := ⟨peI (pe_listRg hc hg hm he.pr na) (by
  intro σ H Q ⟨B0, H0, B, hh, ds, hm, q⟩
  obtain ⟨pr, hd, hf⟩ := bind_some hm
  unfold rngF at hf
  split at hf
  · rename_i hj
    obtain ⟨hz, rfl⟩ := fit_some hf
    have hs : (sizeLine : Nat) = 16777216 := sizeLine_eq
    refine ⟨B0, H0, B, hh, pr, hd, fun B1 H1 n1 => ⟨⟨by omega, by omega, by omega, by omega, by omega⟩, fun p hp => ?_⟩⟩
    exact q p _ B1 _ (n1.trans (Nx.own n1.2.2.1 hp)) (Ex.none n1.2.1 hp) (Ex.none n1.2.2.1 hp) upd_same (reps_rng _ _ (fun _ => rfl) _)
  · cases hf)⟩
/-! ### isinstance -/
def tyName : D → String
  | .none => "NoneType"
  | .bool _ => "bool"
  | .int _ => "int"
  | .str _ => "str"
  | .list _ => "list"
  | .tuple _ => "tuple"
  | .dict _ => "dict"
def insD (T : String) (d : D) : Option D := (kitB (tyName d) T).map .bool
theorem de_isi {T : String} {y : Str} {p p2 : Pos} {m : Option D} (hg : Gl X "isinstance") (hm : X.mg "isinstance" = none) (hg2 : Gl X y) (hm2 : X.mg y = none) (hv2 : bootBuiltins y = some (.type T)) (he : DE X e ρ m) (hn2 : y ≠ "__name__") (hd2 : (y == ("__debug__" : Str)) = false)
    (h1 : starEach [e, .Name y p2] X.env = (false, eval e X.env) :: starEach [.Name y p2] X.env) (h2 : starEach [.Name y p2] X.env = (false, eval (.Name y p2) X.env) :: starEach [] X.env) (hpl : (backTo pos (starEach [.Name y p2] X.env)).any (·.1) = false) :
    DE X (.Call (.Name "isinstance" p) [e, .Name y p2] [] pos) ρ (m.bind (insD T)) := ⟨peI (pe_callB call_isi hg hm PyProof.Rows.boot_isinstance (pa_cons he.pe (pa_cons (pe_bltn (v := .ty T) hg2 hm2 hv2 rfl hn2 hd2) pa_nil h2) h1) (by decide) (by decide) h1 hpl) (by
  intro σ H Q ⟨B0, H0, B, hh, d', hm, q⟩
  obtain ⟨d, hd, hf⟩ := bind_some hm
  obtain ⟨k, hk, rfl⟩ := map_some hf
  refine ⟨B0, H0, B, hh, d, hd, fun v B1 H1 n1 r1 => ?_⟩
  refine ⟨v, .ty T, .type (tyName d), .type T, k, rfl, .ty T, ?_, kit_ty hk, q _ B1 H1 n1 (.bl _)⟩
  cases r1 with
  | non => exact .base .non
  | bl b => exact .base (.bl b)
  | int b => exact .base (.int b)
  | str b => exact .base (.str b)
  | lst g rr => exact .base (.lst (n1.2.2.1 _ _ g))
  | tup g rr =>
    rcases Evl.ex_t n1.2.2.1 g with (g | ⟨o, g⟩) | ⟨o, its, n, g, gc, _⟩
    · exact .base (.tup g)
    · exact .fTuple g
    · exact .kTuple g gc)⟩
end
end Dl

/-! Data layer, part 9: short words for printed derivations. -/
namespace Dl
open PySem L2 PySem.Spec PyProof.Rows PySem.W PySem.SeqAt
open Evl (Ex)

structure Nm (x : Str) : Prop where
  d : (x == ("__debug__" : Str)) = false
  c : (x == ("__classdict__" : Str)) = false

section
variable {X : Cx} {R : RT} {tg e a b c : Expr} {es : List Expr} {ρ : Env} {pos : Pos} {st : Stmt} {sts : List Stmt} {S T L : Type} {lp : L → Env}
theorem de_v {i : Nat} {x : Str} {d : D} (n : Nm x) (hl : look ρ i = some d) (hN : X.N[i]? = some x) (hv : Vis X.env.scope x) : DE X (.Name x pos) ρ (some d) := de_var hl hN hv n.d n.c
theorem de_ox {i : Nat} {x : Str} {p1 : Pos} {ds : List D} {n : Option D} (nm : Nm x) (hi : ρ[i]? = some (.own ds)) (hN : X.N[i]? = some x) (hv : Vis X.env.scope x) (hb : DE X b ρ n) (hs : PlainIx b) :
    DE X (.Subscript (.Name x p1) b pos) ρ (n.bind fun k => idxD (.list ds) k) := de_oix hi hN hv nm.d nm.c hb hs
theorem ds_rO {i : Nat} {x : Str} {p1 : Pos} {ds : List D} {post : S → Env} (n : Nm x) (hi : ρ[i]? = some (.own ds)) (hN : X.N[i]? = some x) (hv : Vis X.env.scope x) :
    DS X rF (.Return (some (.Name x p1)) pos) ρ (some (.rt (.list ds))) post lp := ds_retO hi hN hv n.d n.c
theorem db_at (ρ' : Env) {post : S → Env} {m : Option (Fl S L)} (h : ρ = ρ') (x : DB X R sts ρ' m post lp) : DB X R sts ρ m post lp := h ▸ x
theorem ds_ap {i : Nat} {x : Str} {p1 p2 p3 : Pos} {m : Option D} {ds : List D} (n : Nm x) (hi : ρ[i]? = some (.own ds)) (hN : X.N[i]? = some x) (hv : Vis X.env.scope x) (he : DE X e ρ m)
    (hbase : attributeBase (.Name x p1) "append" X.env (eval (.Name x p1) X.env) = eval (.Name x p1) X.env)
    (hfew : ((backTo p3 (starEach [e] X.env)).all (fun x => !x.1) && (backToKw p3 (keywordEach [] X.env)).all (fun x => x.1.isSome) && decide ([e].length + ([] : List Keyword).length + (if ([] : List Keyword).isEmpty then 0 else 1) < 30)) = true)
    (hline : (p2.endLine == p3.line) = true) (hs : starEach [e] X.env = (false, eval e X.env) :: starEach [] X.env) (hplain : (backTo p3 (starEach [] X.env)).any (·.1) = false)
    (hsw : swapsWith (.Call (.Attribute (.Name x p1) "append" p2) [e] [] p3) none pos.line X.env = pure false) :
    DS X R (.Expr (.Call (.Attribute (.Name x p1) "append" p2) [e] [] p3) pos) ρ (nxt (m.bind fun d => fit (ds.length + 1) d)) (fun d => ρ.set i (.own (ds ++ [d]))) lp :=
  ds_app hi hN hv n.d n.c he (pe_bm PySem.F.plainAttrs_list PySem.F.slot_list_append PySem.F.type_list_append mt_append (pe_var hN hv n.d n.c) (pa_cons he.pe pa_nil hs) hbase hfew hline hs hplain) hsw
def setM (ds : List D) (m n : Option D) : Option (List D) := m.bind fun d => n.bind fun k => match k with
  | .int j => (ixN ds.length j).map fun t => ds.set t d
  | _ => none
theorem ds_st {i : Nat} {x : Str} {p1 p2 : Pos} {m n : Option D} {ds : List D} (nm : Nm x) (hi : ρ[i]? = some (.own ds)) (hN : X.N[i]? = some x) (hv : Vis X.env.scope x) (he : DE X e ρ m) (hk : DE X a ρ n)
    (hs : swapsWithSole [.Subscript (.Name x p1) a p2] e pos.line X.env = pure false) (hw : swappedStores [.Subscript (.Name x p1) a p2] e X.env = pure none) (h1 : (assignEach [.Subscript (.Name x p1) a p2] X.env).map (·.2) = [assign (.Subscript (.Name x p1) a p2) X.env])
    (hq : ∀ {to ti : TE} {t : TSet}, PE X (.Name x p1) to → PE X a ti → PSet X t → PG X (.Subscript (.Name x p1) a p2) (gSub to ti t)) :
    DS X R (.Assign [.Subscript (.Name x p1) a p2] e pos) ρ (nxt (setM ds m n)) (fun es => ρ.set i (.own es)) lp :=
  ds_seti hi hN hv nm.d nm.c he hk (hq (pe_var hN hv nm.d nm.c) hk.pe set_list) hs hw h1
/-- x[a], x[b] = e -/
def setM2 (ds : List D) (m n : Option D) (o : List D → Option D) : Option (List D) := (m.bind un2).bind fun p => (setM ds (some p.1) n).bind fun es => setM es (some p.2) (o es)
theorem ds_st2 {i kt : Nat} {x : Str} {p1 p2 p3 p4 pt : Pos} {m n : Option D} {o : List D → Option D} {ds : List D} (nm : Nm x) (hi : ρ[i]? = some (.own ds)) (hN : X.N[i]? = some x) (hv : Vis X.env.scope x) (hc : X.calm = true) (he : DE X e ρ m) (hk : DE X a ρ n) (hk2 : ∀ es, DE X b (ρ.set i (.own es)) (o es))
    (hq : ∀ {to ti t to' ti' t'}, PE X (.Name x p1) to → PE X a ti → PSet X t → PE X (.Name x p3) to' → PE X b ti' → PSet X t' → PG X (.Tuple [.Subscript (.Name x p1) a p2, .Subscript (.Name x p3) b p4] kt pt) (gTup X.K 2 (gCons (gSub to ti t) (gCons (gSub to' ti' t') gNil))))
    (hs : swapsWithSole [.Tuple [.Subscript (.Name x p1) a p2, .Subscript (.Name x p3) b p4] kt pt] e pos.line X.env = pure false) (hw : swappedStores [.Tuple [.Subscript (.Name x p1) a p2, .Subscript (.Name x p3) b p4] kt pt] e X.env = pure none)
    (h1 : (assignEach [.Tuple [.Subscript (.Name x p1) a p2, .Subscript (.Name x p3) b p4] kt pt] X.env).map (·.2) = [assign (.Tuple [.Subscript (.Name x p1) a p2, .Subscript (.Name x p3) b p4] kt pt) X.env]) :
    DS X R (.Assign [.Tuple [.Subscript (.Name x p1) a p2, .Subscript (.Name x p3) b p4] kt pt] e pos) ρ (nxt (setM2 ds m n o)) (fun es => ρ.set i (.own es)) lp := by
  have hX : PE X b (fun σ H Q => ∃ es, cT X.K (ρ.set i (.own es)) (o es) σ H Q) := ⟨fun pins s σ H Q I ⟨es, w⟩ => (hk2 es).pe.run pins s σ H Q I w⟩
  refine ⟨psI (ps_asg he.pe (hq (pe_var hN hv nm.d nm.c) hk.pe set_list (pe_var hN hv nm.d nm.c) hX set_list) hs hw h1) ?_⟩
  intro Dn σ H ⟨B0, H0, B, hh, f', hm, q⟩
  obtain ⟨es, hd, rfl⟩ := nxt_some hm
  obtain ⟨pr, hd, hf⟩ := bind_some hd
  obtain ⟨d, hd, hu⟩ := bind_some hd
  obtain ⟨es1, g1, g2⟩ := bind_some hf
  obtain ⟨p, vs, k1, k2, k3, k4, k5⟩ := hh.own i ds hi
  refine ⟨B0, H0, B, hh, d, hd, fun v B1 H1 n1 r1 => ?_⟩
  unfold un2 at hu
  split at hu
  · rename_i x1 x2
    cases hu
    cases r1 with
    | @tup t ws _ t1 rr =>
      obtain ⟨v1, v2, rfl, w1, w2⟩ := two_rep rr
      obtain ⟨z1, e1, g1⟩ := bind_some g1
      cases e1
      obtain ⟨j1, hj1, g1⟩ := bind_some g1
      obtain ⟨z2, e2, g2⟩ := bind_some g2
      cases e2
      obtain ⟨j2, hj2, g2⟩ := bind_some g2
      refine ⟨t, [v1, v2], rfl, Evl.ex_t n1.2.2.1 t1, rfl, v1, [v2], rfl, .ref p, k1, B0, H0, B1, hh.step n1, j1, hj1, fun w B2 H2 n2 r2 => ?_⟩
      cases r2 with
      | int c1 =>
        obtain ⟨t1', ht1, rfl⟩ := map_some g1
        have a1 : H2 p = some (.lst vs) := n2.2.1 _ _ (n1.2.1 _ _ k4)
        have b1 : B1 p = none := n1.2.2.2 p (by rw [k4]; simp) k3
        have b2 : B2 p = none := n2.2.2.2 p (by rw [n1.2.1 _ _ k4]; simp) b1
        refine ⟨p, vs, c1, t1', rfl, rfl, a1, by rw [k5.len]; exact ht1, ?_⟩
        have K2 := ((hh.step n1).step n2).reown hi k1 k2 b2 a1 ((k5.up (n1.1.trans n2.1)).set (w1.up n2.1) t1')
        refine ⟨v2, [], rfl, .ref p, k1, _, B0, H0, B2, K2, j2, hj2, fun w' B3 H3 n3 r3 => ?_⟩
        cases r3 with
        | int c2 =>
          obtain ⟨t2', ht2, rfl⟩ := map_some g2
          have hi2 : (ρ.set i (.own (ds.set t1' x1)))[i]? = some (.own (ds.set t1' x1)) := List.getElem?_set_self (List.getElem?_eq_some_iff.mp hi).1
          have a2 : H3 p = some (.lst (vs.set t1' v1)) := n3.2.1 _ _ upd_same
          have b3 : B3 p = none := n3.2.2.2 p (by rw [upd_same]; simp) b2
          refine ⟨p, vs.set t1' v1, c2, t2', rfl, rfl, a2, by rw [List.length_set, k5.len]; rw [List.length_set] at ht2; exact ht2, rfl, ?_⟩
          have K3 := (K2.step n3).reown hi2 k1 k2 b3 a2 ((((k5.up (n1.1.trans n2.1)).set (w1.up n2.1) t1').up n3.1).set (w2.up (n2.1.trans n3.1)) t2')
          rw [List.set_set] at K3
          exact q _ B3 _ K3 ((n1.1.trans n2.1).trans n3.1)
        | _ => simp at g2
      | _ => simp at g1
  · cases hu
def un2L : List D → Option (D × D)
  | [x, y] => some (x, y)
  | _ => none
theorem ds_par {i j : Nat} {x y : Str} {px py pt : Pos} {kt k2 : Nat} {pt2 : Pos} {m : Option (List D)} (hc : X.calm = true) (hN : X.N.Nodup) (hi : X.N[i]? = some x) (hj : X.N[j]? = some y) (hij : i ≠ j)
    (hq : ∀ t, PA X [a, b] t → PS X (.Assign [.Tuple [.Name x px, .Name y py] kt pt] (.Tuple [a, b] k2 pt2) pos) (tPar i j t)) (ha : DA X [a, b] ρ m) :
    DS X R (.Assign [.Tuple [.Name x px, .Name y py] kt pt] (.Tuple [a, b] k2 pt2) pos) ρ (nxt (m.bind un2L)) (fun p => (ρ.set i (.val p.1)).set j (.val p.2)) lp := ⟨psI (hq _ ha.pa) (by
  intro Dn σ H ⟨B0, H0, B, hh, f, hm, q⟩
  obtain ⟨p, hp, rfl⟩ := nxt_some hm
  obtain ⟨ds, hd, hf⟩ := bind_some hp
  refine ⟨B0, H0, B, hh, ds, hd, fun vs B1 H1 n1 r1 => ?_⟩
  unfold un2L at hf
  split at hf
  · cases hf
    obtain ⟨v, v', rfl, g1, g2⟩ := two_rep r1
    exact ⟨v, v', rfl, q _ B1 H1 (((hh.step n1).setv g1).setv g2) n1.1⟩
  · cases hf)⟩

/-! ### methods -/
noncomputable def countD : D → D → Option D
  | .list ds, d => @ite _ (shalAll ds d) (Classical.propDecidable _) (some (.int ((ds.countP fun y => PyData.eqv y d : Nat) : Int))) none
  | _, _ => none
def indexD : D → D → Option D
  | .list ds, d => if shalAll ds d then (dataPlace ds d).map fun j => .int (j : Nat) else none
  | _, _ => none
def rMD (K : PySem.W.Frag) (f : D → D → Option D) : V → List V → Hp → VK → Prop := fun x xs H Q => ∃ y, xs = [y] ∧ rD K f x y H Q
theorem mt_countD (hu : X.A.units + 200 < cLine) : MtR X "list.count" (rMD X.K countD) := by
  intro pins s σ H x xs v us Q I rx rxs ⟨y, e, B, d, d', r, ex, hd, he, hf, q⟩
  subst e
  cases hd with
  | @lst l ws ds h1 rr =>
    simp only [countD] at hf
    split at hf
    · rename_i hc
      cases hf
      cases rx
      obtain ⟨uy, rfl, ry⟩ := rxs.one
      obtain ⟨bs, r1⟩ := he.reads rfl I ex ry
      obtain ⟨its, rv, pl, hz⟩ := I.list (.inl (.inl (ex _ _ h1)))
      obtain ⟨as, ra⟩ := Dp.readsAll I _ _ _ (Reps.dp (Reps.up ex rr)) rv
      exact count_list_data pl.isList (by simpa using ra) r1 (Reps.plain rr) he.plain (shalAll_room hc hu) ⟨.int _, H, I.tok _, ⟨_, rfl⟩, q _ B H (Nx.refl ex) (.int _)⟩
    · cases hf
  | _ => simp [countD] at hf
theorem bmD {id : String} {name : Str} {apos cpos : Pos} {f : D → D → Option D} {m n : Option D} (slot : Slot "list" name id) (hty : typeOf (.builtin id) = pure (.type "method_descriptor")) (hm : MtR X id (rMD X.K f)) (hl : ∀ d e r, f d e = some r → ∃ ds, d = .list ds) (ha : DE X a ρ m) (hb : DE X b ρ n)
    (hbase : attributeBase a name X.env (eval a X.env) = eval a X.env)
    (hfew : ((backTo cpos (starEach [b] X.env)).all (fun x => !x.1) && (backToKw cpos (keywordEach [] X.env)).all (fun x => x.1.isSome) && decide ([b].length + ([] : List Keyword).length + (if ([] : List Keyword).isEmpty then 0 else 1) < 30)) = true)
    (hline : (apos.endLine == cpos.line) = true) (hs : starEach [b] X.env = (false, eval b X.env) :: starEach [] X.env) (hplain : (backTo cpos (starEach [] X.env)).any (·.1) = false) :
    DE X (.Call (.Attribute a name apos) [b] [] cpos) ρ (b2 m n f) := ⟨peI (pe_bm PySem.F.plainAttrs_list slot hty hm ha.pe (pa_cons hb.pe pa_nil hs) hbase hfew hline hs hplain) (by
  intro σ H Q ⟨B0, H0, B, hh, d, hm, q⟩
  obtain ⟨x, hx, hm⟩ := bind_some hm
  obtain ⟨y, hy, hf⟩ := bind_some hm
  obtain ⟨ds, rfl⟩ := hl _ _ _ hf
  refine ⟨B0, H0, B, hh, _, hx, fun v B1 H1 n1 r1 => ?_⟩
  have r1' := r1
  cases r1 with
  | @lst l ws _ h1 rr =>
    refine ⟨.inl ⟨rfl, ws, .inl (.inl (n1.2.2.1 _ _ h1))⟩, B0, H0, B1, hh.step n1, y, hy, fun w B2 H2 n2 r2 => ?_⟩
    exact ⟨w, rfl, B2, _, y, d, n2.2.2.1, r1'.up n2.1, r2, hf, fun u B3 H3 n3 r3 => q u B3 H3 ((n1.trans n2).trans n3) r3⟩)⟩
theorem de_count {apos cpos : Pos} {m n : Option D} (hu : X.A.units + 200 < cLine) (ha : DE X a ρ m) (hb : DE X b ρ n) (hbase : attributeBase a "count" X.env (eval a X.env) = eval a X.env)
    (hfew : ((backTo cpos (starEach [b] X.env)).all (fun x => !x.1) && (backToKw cpos (keywordEach [] X.env)).all (fun x => x.1.isSome) && decide ([b].length + ([] : List Keyword).length + (if ([] : List Keyword).isEmpty then 0 else 1) < 30)) = true)
    (hline : (apos.endLine == cpos.line) = true) (hs : starEach [b] X.env = (false, eval b X.env) :: starEach [] X.env) (hplain : (backTo cpos (starEach [] X.env)).any (·.1) = false) :
    DE X (.Call (.Attribute a "count" apos) [b] [] cpos) ρ (b2 m n countD) := bmD PySem.F.slot_list_count PySem.F.type_list_count (mt_countD hu) (fun d e r h => by cases d <;> simp [countD] at h; exact ⟨_, rfl⟩) ha hb hbase hfew hline hs hplain

/-! ### own functions, bundled -/
structure Callee (P : Program) (w : World) (K : PySem.W.Frag) (mg : Str → Option Value) (base : Heap) (x : Str) (ps : List Str) (k : Nat) (sp : Sp) : Prop where
  ex : ∃ f fd, FnOk P w K mg base CX0 k f fd ps sp ∧ mg x = some (.ref f) ∧ PySem.W.keepIn K (.ref f) = true ∧ Binds K fd ps []
theorem de_call {x : Str} {p : Pos} {ps : List Str} {k : Nat} {g : List D → Option D} {m : Option (List D)} (C : Callee X.prog X.w X.K X.mg X.base x ps k (spD X.K g)) (hr : Room k X.A) (ha : DA X (e :: es) ρ m) (hg : Gl X x) (hdb : (x == ("__debug__" : Str)) = false)
    (he : starEach (e :: es) X.env = (false, eval e X.env) :: starEach es X.env) (hpl : (backTo pos (starEach es X.env)).any (·.1) = false) : DE X (.Call (.Name x p) (e :: es) [] pos) ρ (m.bind g) :=
  let ⟨_, _, F, h1, h2, h3⟩ := C.ex
  de_fn F hr hg h1 h2 h3 ha hdb he hpl
theorem df_call {x : Str} {p : Pos} {ps : List Str} {k : Nat} {g : List D → Option (List D)} {m : Option (List D)} (C : Callee X.prog X.w X.K X.mg X.base x ps k (spF X.K g)) (hr : Room k X.A) (ha : DA X (e :: es) ρ m) (hg : Gl X x) (hdb : (x == ("__debug__" : Str)) = false)
    (he : starEach (e :: es) X.env = (false, eval e X.env) :: starEach es X.env) (hpl : (backTo pos (starEach es X.env)).any (·.1) = false) : DF X (.Call (.Name x p) (e :: es) [] pos) ρ (m.bind g) :=
  let ⟨_, _, F, h1, h2, h3⟩ := C.ex
  df_fn F hr hg h1 h2 h3 ha hdb he hpl
/-- a reader of the script -/
def cellD (ns : List Int) : D → Option D
  | .int k => if 0 ≤ k ∧ k < 64 then some (.int (ns.getD k.toNat 0)) else none
  | _ => none
def spCell (K : PySem.W.Frag) : Sp := fun vs H Q _ => ∃ (a : Addr) (k : Int) (ns : List Int) (B : Hp), vs = [.ref a, .int k] ∧ Ex B H ∧ SqL K B a (ns.map V.int) ∧ ns.length ≤ 63 ∧ 0 ≤ k ∧ k < 64 ∧ ∀ B' H', Nx B H B' H' → Q (.int (ns.getD k.toNat 0)) H'
theorem de_cell {x y : Str} {p p1 : Pos} {ps : List Str} {k i : Nat} {ns : List Int} {m : Option D} (C : Callee X.prog X.w X.K X.mg X.base x ps k (spCell X.K)) (hr : Room k X.A) (n : Nm y) (hn : ns.length ≤ 63) (hi : ρ[i]? = some (.scr ns)) (hN : X.N[i]? = some y) (hv : Vis X.env.scope y) (hb : DE X b ρ m) (hg : Gl X x)
    (hdb : (x == ("__debug__" : Str)) = false) (he : starEach [.Name y p1, b] X.env = (false, eval (.Name y p1) X.env) :: starEach [b] X.env) (he2 : starEach [b] X.env = (false, eval b X.env) :: starEach [] X.env) (hpl : (backTo pos (starEach [b] X.env)).any (·.1) = false) :
    DE X (.Call (.Name x p) [.Name y p1, b] [] pos) ρ (m.bind (cellD ns)) := by
  obtain ⟨f, fd, F, h1, h2, h3⟩ := C.ex
  refine ⟨peI (pe_call F hr hg h1 h2 h3 .nil pass0 (pa_cons (pe_var hN hv n.d n.c) (pa_cons hb.pe pa_nil he2) he) hdb he hpl) ?_⟩
  intro σ H Q ⟨B0, H0, B, hh, d, hm, q⟩
  obtain ⟨x, hx, hf⟩ := bind_some hm
  obtain ⟨a, g1, g2⟩ := hh.scr i ns hi
  refine ⟨.ref a, g1, B0, H0, B, hh, x, hx, fun v B1 H1 n1 r1 => ?_⟩
  cases r1 <;> simp [cellD] at hf
  · obtain ⟨⟨c1, c2⟩, rfl⟩ := hf
    exact ⟨a, _, ns, B1, rfl, n1.2.2.1, Evl.ex_l n1.1 g2, hn, c1, c2, fun B' H' n' => q _ B' H' (n1.trans n') (by rw [List.getD_eq_getElem?_getD]; exact .int _)⟩
end

/-! ### defs -/
section
variable {P : Program} {w : World} {K : PySem.W.Frag} {mg : Str → Option Value} {base : Heap} {α : Type}
theorem f1_len {f : D → Option α} : ∀ ds d, f1 f ds = some d → ds.length = 1
  | [_], _, _ => rfl
  | [], _, h | _ :: _ :: _, _, h => by cases h
theorem f2_len {f : D → D → Option α} : ∀ ds d, f2 f ds = some d → ds.length = 2
  | [_, _], _, _ => rfl
  | [], _, h | [_], _, h | _ :: _ :: _ :: _, _, h => by cases h
theorem f3_len {f : D → D → D → Option α} : ∀ ds d, f3 f ds = some d → ds.length = 3
  | [_, _, _], _, _ => rfl
  | [], _, h | [_], _, h | [_, _], _, h | _ :: _ :: _ :: _ :: _, _, h => by cases h
theorem f4_len {f : D → D → D → D → Option α} : ∀ ds d, f4 f ds = some d → ds.length = 4
  | [_, _, _, _], _, _ => rfl
  | [], _, h | [_], _, h | [_, _], _, h | [_, _, _], _, h | _ :: _ :: _ :: _ :: _ :: _, _, h => by cases h
theorem f5_len {f : D → D → D → D → D → Option α} : ∀ ds d, f5 f ds = some d → ds.length = 5
  | [_, _, _, _, _], _, _ => rfl
  | [], _, h | [_], _, h | [_, _], _, h | [_, _, _], _, h | [_, _, _, _], _, h | _ :: _ :: _ :: _ :: _ :: _ :: _, _, h => by cases h
theorem f1_args {f : D → Option α} {ds : List D} {d : α} (h : f1 f ds = some d) : ∃ a, ds = [a] := by
  match ds, f1_len _ _ h with | [a], _ => exact ⟨a, rfl⟩
theorem f2_args {f : D → D → Option α} {ds : List D} {d : α} (h : f2 f ds = some d) : ∃ a b, ds = [a, b] := by
  match ds, f2_len _ _ h with | [a, b], _ => exact ⟨a, b, rfl⟩
theorem f3_args {f : D → D → D → Option α} {ds : List D} {d : α} (h : f3 f ds = some d) : ∃ a b c, ds = [a, b, c] := by
  match ds, f3_len _ _ h with | [a, b, c], _ => exact ⟨a, b, c, rfl⟩
theorem f4_args {f : D → D → D → D → Option α} {ds : List D} {d : α} (h : f4 f ds = some d) : ∃ a b c e, ds = [a, b, c, e] := by
  match ds, f4_len _ _ h with | [a, b, c, e], _ => exact ⟨a, b, c, e, rfl⟩
theorem f5_args {f : D → D → D → D → D → Option α} {ds : List D} {d : α} (h : f5 f ds = some d) : ∃ a b c e g, ds = [a, b, c, e, g] := by
  match ds, f5_len _ _ h with | [a, b, c, e, g], _ => exact ⟨a, b, c, e, g, rfl⟩
theorem f1_outD {f : D → Option D} {b : D → Option (Fl Unit Unit)} (h : ∀ x, f x = outD (b x)) : ∀ ds d, f1 f ds = some d → outD (f1 b ds) = some d := fun ds d e => by
  obtain ⟨a, rfl⟩ := f1_args e
  exact (h a).symm.trans e
theorem f2_outD {f : D → D → Option D} {b : D → D → Option (Fl Unit Unit)} (h : ∀ x y, f x y = outD (b x y)) : ∀ ds d, f2 f ds = some d → outD (f2 b ds) = some d := fun ds d e => by
  obtain ⟨a, c, rfl⟩ := f2_args e
  exact (h a c).symm.trans e
theorem f3_outD {f : D → D → D → Option D} {b : D → D → D → Option (Fl Unit Unit)} (h : ∀ x y z, f x y z = outD (b x y z)) : ∀ ds d, f3 f ds = some d → outD (f3 b ds) = some d := fun ds d e => by
  obtain ⟨a, c, g, rfl⟩ := f3_args e
  exact (h a c g).symm.trans e
theorem f4_outD {f : D → D → D → D → Option D} {b : D → D → D → D → Option (Fl Unit Unit)} (h : ∀ x y z u, f x y z u = outD (b x y z u)) : ∀ ds d, f4 f ds = some d → outD (f4 b ds) = some d := fun ds d e => by
  obtain ⟨a, c, g, k, rfl⟩ := f4_args e
  exact (h a c g k).symm.trans e
theorem f5_outD {f : D → D → D → D → D → Option D} {b : D → D → D → D → D → Option (Fl Unit Unit)} (h : ∀ x y z u v, f x y z u v = outD (b x y z u v)) : ∀ ds d, f5 f ds = some d → outD (f5 b ds) = some d := fun ds d e => by
  obtain ⟨a, c, g, k, l, rfl⟩ := f5_args e
  exact (h a c g k l).symm.trans e
theorem f1_outF {f : D → Option (List D)} {b : D → Option (Fl Unit Unit)} (h : ∀ x, f x = outF (b x)) : ∀ ds d, f1 f ds = some d → outF (f1 b ds) = some d := fun ds d e => by
  obtain ⟨a, rfl⟩ := f1_args e
  exact (h a).symm.trans e
theorem f2_outF {f : D → D → Option (List D)} {b : D → D → Option (Fl Unit Unit)} (h : ∀ x y, f x y = outF (b x y)) : ∀ ds d, f2 f ds = some d → outF (f2 b ds) = some d := fun ds d e => by
  obtain ⟨a, c, rfl⟩ := f2_args e
  exact (h a c).symm.trans e
theorem f3_outF {f : D → D → D → Option (List D)} {b : D → D → D → Option (Fl Unit Unit)} (h : ∀ x y z, f x y z = outF (b x y z)) : ∀ ds d, f3 f ds = some d → outF (f3 b ds) = some d := fun ds d e => by
  obtain ⟨a, c, g, rfl⟩ := f3_args e
  exact (h a c g).symm.trans e
theorem f4_outF {f : D → D → D → D → Option (List D)} {b : D → D → D → D → Option (Fl Unit Unit)} (h : ∀ x y z u, f x y z u = outF (b x y z u)) : ∀ ds d, f4 f ds = some d → outF (f4 b ds) = some d := fun ds d e => by
  obtain ⟨a, c, g, k, rfl⟩ := f4_args e
  exact (h a c g k).symm.trans e
theorem f5_outF {f : D → D → D → D → D → Option (List D)} {b : D → D → D → D → D → Option (Fl Unit Unit)} (h : ∀ x y z u v, f x y z u v = outF (b x y z u v)) : ∀ ds d, f5 f ds = some d → outF (f5 b ds) = some d := fun ds d e => by
  obtain ⟨a, c, g, k, l, rfl⟩ := f5_args e
  exact (h a c g k l).symm.trans e
theorem fn_none {f : Addr} {fd : FuncData} {k : Nat} {ps : List Str} {g : List D → Option D} (h : ∀ ds, g ds = none) : FnOk P w K mg base CX0 k f fd ps (spD K g) :=
  ⟨fun vs H Q E ⟨B, ds, d, _, _, e, _⟩ => by (rw [h ds] at e; cases e), fun A outer s H args us vs Q E _ _ _ _ ⟨B, ds, d, _, _, e, _⟩ => by (rw [h ds] at e; cases e)⟩
/-- the law's promise -/
def spLaw (K : PySem.W.Frag) (g : List Int → Option D) : Sp := fun vs H Q _ => ∃ a ns, vs = [.ref a] ∧ SqL K H a (ns.map V.int) ∧ ns.length ≤ 63 ∧ g ns = some (.bool true) ∧ ∀ H', Q (.bl true) H'
theorem fn_law {x qual : Str} {st : Stmt} {f : Addr} {fd : FuncData} {N : List Str} {sc : Str} {k : Nat} {g : List Int → Option D} {m : List Int → Option (Fl Unit Unit)} (F : Fun K x qual st f fd) (S : FnScope N [sc] (defScope st)) (hg : ∀ ns, g ns = outD (m ns))
    (hb : ∀ (cdv : Value) (A : Around) (outer : List PySem.Env) (s : Shared) (H : Hp) (E : XK), Room k (A.deeper (envOfC qual (defScope st) s.heap.objs.size f cdv)) → ∀ ns : List Int, ns.length ≤ 63 → ∃ po lp, DB (cxOf CX0 P w K mg base N qual (defScope st) f cdv A outer s H E).nox rV (defBody st) (.scr ns :: List.replicate (N.length - 1) .no) (m ns) po lp) :
    FnOk P w K mg base CX0 (k + 1) f fd [sc] (spLaw K g) := by
  refine F.ok S (fun vs H Q E ⟨a, ns, h, _⟩ => by rw [h]; rfl) (fun cdv A outer s H vs Q E hr ⟨a, ns, e, hs, hl, hd, q⟩ => ?_)
  subst e
  obtain ⟨po, lp, h⟩ := hb cdv A outer s H E hr ns hl
  have hN : 1 ≤ N.length := by
    have := S.pre
    have h2 := congrArg List.length this
    simp at h2
    omega
  have hh : Holds K H H (.scr ns :: List.replicate (N.length - 1) .no) (L2.start N [.ref a]) H H := by
    have noO : ∀ {i : Nat} {x : Sl}, ((.scr ns : Sl) :: List.replicate (N.length - 1) .no)[i]? = some x → (i = 0 ∧ x = .scr ns) ∨ x = .no := fun {i x} h => by
      cases i with
      | zero => exact .inl ⟨rfl, (Option.some.inj h).symm⟩
      | succ i =>
        rw [List.getElem?_cons_succ, List.getElem?_replicate] at h
        split at h
        · exact .inr (Option.some.inj h).symm
        · cases h
    refine ⟨Nx.refl (Ex.refl H), by unfold L2.start; simp, fun i d h => ?_, fun i d h => ?_, fun i d h => ?_, fun i j ds es p h1 h2 => ?_⟩
    · rcases noO h with ⟨_, e⟩ | e <;> cases e
    · rcases noO h with ⟨_, e⟩ | e <;> cases e
    · rcases noO h with ⟨rfl, e⟩ | e
      · cases e; exact ⟨a, rfl, hs⟩
      · cases e
    · rcases noO h1 with ⟨_, e⟩ | e <;> cases e
  refine ⟨_, h.ps, H, H, H, hh, ?_⟩
  rw [hg ns] at hd
  obtain ⟨fl, h1, h2⟩ := bind_some hd
  refine ⟨fl, h1, ?_⟩
  cases fl with
  | nx s => cases h2
  | rt d' =>
    cases h2
    intro v B' H' n r
    cases r
    exact q H'
  | bk l => cases h2
  | ct l => cases h2
end
end Dl

/-! Data layer, part 10: functions that hand back a tuple with a list of its own; the caller changes that list. -/
namespace Dl
open PySem L2 PySem.Spec PyProof.Rows PySem.W PySem.SeqAt
open Evl (Ex)

/-- v is a tuple (in B) whose k-th item is a list that did not stand in H -/
def FreshAt (K : PySem.W.Frag) (B H : Hp) (k : Nat) (d : D) (v : V) : Prop := ∃ a xs p ws ds, d = .tuple ds ∧ Reps K B xs ds ∧ v = .ref a ∧ B a = some (.tup xs) ∧ xs[k]? = some (.ref p) ∧ H p = none ∧ B p = some (.lst ws)
def outT (m : Option (Fl Unit Unit)) : Option D := m.bind fun f => match f with
  | .rt d => some d
  | _ => none
def rN (k : Nat) : RT := fun K B0 H0 d kk => ∀ v B' H', Nx B0 H0 B' H' → Rep K B' v d → FreshAt K B' H0 k d v → kk v H'
def spN (K : PySem.W.Frag) (k : Nat) (g : List D → Option D) : Sp := fun vs H Q _ => ∃ B ds d, Ex B H ∧ Reps K B vs ds ∧ g ds = some d ∧ ∀ v B' H', Nx B H B' H' → Rep K B' v d → FreshAt K B' H k d v → Q v H'
/-- the items of a tuple, the k-th a list of one's own -/
def cAN (K : PySem.W.Frag) (ρ : Env) (k : Nat) (m : Option (List D)) : TA := fun σ H Q => ∃ B0 H0 B, Holds K B0 H0 ρ σ B H ∧ ∃ ds, m = some ds ∧
  ∀ vs B' H', Nx B0 H0 B' H' → Ex B B' → Reps K B' vs ds → (∃ p ws, vs[k]? = some (.ref p) ∧ H0 p = none ∧ B' p = some (.lst ws)) → Q vs H'
structure DAN (X : Cx) (es : List Expr) (ρ : Env) (k : Nat) (m : Option (List D)) : Prop where
  pa : PA X es (cAN X.K ρ k m)
section
variable {X : Cx} {e : Expr} {es : List Expr} {ρ : Env} {pos : Pos} {k : Nat}
theorem dan_later {m : Option D} {n : Option (List D)} (ha : DE X e ρ m) (hr : DAN X es ρ k n) (hs : starEach (e :: es) X.env = (false, eval e X.env) :: starEach es X.env) : DAN X (e :: es) ρ (k + 1) (c2 m n) := ⟨paI (pa_cons ha.pe hr.pa hs) (by
  intro σ H Q ⟨B0, H0, B, hh, d', hm, q⟩
  obtain ⟨x, hx, hm⟩ := bind_some hm
  obtain ⟨xs, hy, hf⟩ := bind_some hm
  cases hf
  exact ⟨B0, H0, B, hh, x, hx, fun v B1 H1 n1 r1 => ⟨B0, H0, B1, hh.step n1, xs, hy, fun vs B2 H2 n2 x2 r2 f2 => q (v :: vs) B2 H2 n2 (n1.1.trans x2) (.cons (r1.up x2) r2) f2⟩⟩)⟩
theorem dan_new {m : Option (List D)} {n : Option (List D)} (ha : DF X e ρ m) (hr : DA X es ρ n) (hs : starEach (e :: es) X.env = (false, eval e X.env) :: starEach es X.env) : DAN X (e :: es) ρ 0 (c2 (m.map .list) n) := ⟨paI (pa_cons ha.pe hr.pa hs) (by
  intro σ H Q ⟨B0, H0, B, hh, d', hm, q⟩
  obtain ⟨x, hx, hm⟩ := bind_some hm
  obtain ⟨ys, hx1, rfl⟩ := map_some hx
  obtain ⟨xs, hy, hf⟩ := bind_some hm
  cases hf
  refine ⟨B0, H0, B, hh, ys, hx1, fun p vs B1 H1 n1 hp hb he r1 => ?_⟩
  have nf := n1.freeze hp hb he
  refine ⟨B0, H0, _, hh.step nf, xs, hy, fun us B2 H2 n2 r2 => ?_⟩
  have hl : B2 p = some (.lst vs) := n2.1 _ _ upd_same
  exact q (.ref p :: us) B2 H2 ((hh.nx.trans nf).trans n2) (nf.1.trans n2.1) (.cons (.lst hl (r1.up ((Ex.new hb).trans n2.1))) r2) ⟨p, vs, rfl, Ex.none hh.nx.2.1 hp, hl⟩)⟩
theorem Holds.frz {K : PySem.W.Frag} {B0 H0 B H : Hp} {σ : L2.St} {i : Nat} {ds : List D} {p : Addr} {vs : List V} (hh : Holds K B0 H0 ρ σ B H) (hi : ρ[i]? = some (.own ds)) (h1 : σ[i]? = some (some (.ref p))) (h2 : H0 p = none) (h3 : B p = none) (h4 : H p = some (.lst vs)) (h5 : Reps K B vs ds) :
    Holds K B0 H0 (ρ.set i (.val (.list ds))) σ (upd B p (.lst vs)) H := by
  have hE : Ex B (upd B p (.lst vs)) := Ex.new h3
  have nn : Nx B0 H0 (upd B p (.lst vs)) H := by
    refine ⟨hh.nx.1.trans hE, hh.nx.2.1, fun a u z => ?_, fun a ha hb => ?_⟩
    · by_cases e : a = p
      · subst e; rw [upd_same] at z; rw [h4]; exact z
      · rw [upd_ne e] at z; exact hh.ex a u z
    · have e : a ≠ p := fun z => ha (by rw [z]; exact h2)
      rw [upd_ne e]; exact hh.nx.2.2.2 a ha hb
  have gs : ∀ {j : Nat} {x : Sl}, (ρ.set i (.val (.list ds)))[j]? = some x → (j = i ∧ x = .val (.list ds)) ∨ (j ≠ i ∧ ρ[j]? = some x) := fun {j x} z => by
    rcases getset z with ⟨e1, e2⟩ | z
    · exact .inl ⟨e1, e2.symm⟩
    · exact .inr z
  refine ⟨nn, by rw [List.length_set]; exact hh.len, fun j d z => ?_, fun j es z => ?_, fun j ns z => ?_, fun j k es fs r z1 z2 z3 z4 => ?_⟩
  · rcases gs z with ⟨rfl, e2⟩ | ⟨_, z⟩
    · cases e2
      exact ⟨_, h1, .lst upd_same (h5.up hE)⟩
    · obtain ⟨v, g1, g2⟩ := hh.val j d z
      exact ⟨v, g1, g2.up hE⟩
  · rcases gs z with ⟨_, e2⟩ | ⟨ne, z⟩
    · cases e2
    · obtain ⟨p', vs', g1, g2, g3, g4, g5⟩ := hh.own j es z
      have np : p' ≠ p := fun e => ne (hh.apart j i es ds p' z hi g1 (by rw [e]; exact h1))
      exact ⟨p', vs', g1, g2, by rw [upd_ne np]; exact g3, g4, g5.up hE⟩
  · rcases gs z with ⟨_, e2⟩ | ⟨ne, z⟩
    · cases e2
    · obtain ⟨a, g1, g2⟩ := hh.scr j ns z
      exact ⟨a, g1, Evl.ex_l hE g2⟩
  · rcases gs z1 with ⟨_, e2⟩ | ⟨_, y1⟩
    · cases e2
    · rcases gs z2 with ⟨_, e2⟩ | ⟨_, y2⟩
      · cases e2
      · exact hh.apart j k es fs r y1 y2 z3 z4
theorem dan_own {i : Nat} {x : Str} {p1 : Pos} {ds : List D} {n : Option (List D)} (nm : Nm x) (hi : ρ[i]? = some (.own ds)) (hN : X.N[i]? = some x) (hv : Vis X.env.scope x) (hr : DA X es (ρ.set i (.val (.list ds))) n)
    (hs : starEach (.Name x p1 :: es) X.env = (false, eval (.Name x p1) X.env) :: starEach es X.env) : DAN X (.Name x p1 :: es) ρ 0 (c2 (some (.list ds)) n) := ⟨paI (pa_cons (pe_var hN hv nm.d nm.c) hr.pa hs) (by
  intro σ H Q ⟨B0, H0, B, hh, d', hm, q⟩
  obtain ⟨x, hx, hm⟩ := bind_some hm
  cases hx
  obtain ⟨xs, hy, hf⟩ := bind_some hm
  cases hf
  obtain ⟨p, vs, h1, h2, h3, h4, h5⟩ := hh.own i ds hi
  have hE : Ex B (upd B p (.lst vs)) := Ex.new h3
  refine ⟨.ref p, h1, B0, H0, _, hh.frz hi h1 h2 h3 h4 h5, xs, hy, fun us B2 H2 n2 r2 => ?_⟩
  have hl : B2 p = some (.lst vs) := n2.1 _ _ upd_same
  exact q (.ref p :: us) B2 H2 ((hh.frz hi h1 h2 h3 h4 h5).nx.trans n2) (hE.trans n2.1) (.cons (.lst hl (h5.up (hE.trans n2.1))) r2) ⟨p, vs, rfl, h2, hl⟩)⟩
variable {S L : Type} {R : RT} {lp : L → Env} {x : Str} {p : Pos} {f : Addr} {fd : FuncData} {ps : List Str}
theorem ds_retT {kk : Nat} {post : S → Env} {m : Option (List D)} (h : DAN X es ρ k m) : DS X (rN k) (.Return (some (.Tuple es kk p)) pos) ρ ((m.bind fun xs => fit xs.length (.tuple xs)).map .rt) post lp := ⟨psI (ps_ret (pe_tup h.pa)) (by
  intro Dn σ H ⟨B0, H0, B, hh, f, hm, q⟩
  obtain ⟨d, hd, rfl⟩ := map_some hm
  obtain ⟨xs, hx, hf⟩ := bind_some hd
  obtain ⟨hz, rfl⟩ := fit_some hf
  refine ⟨B0, H0, B, hh, xs, hx, fun vs B1 H1 n1 _ r1 ⟨p, ws, f1, f2, f3⟩ => ⟨by rw [r1.len]; exact hz, fun a ha => ?_⟩⟩
  have hb : B1 a = none := Ex.none n1.2.2.1 ha
  refine q _ _ _ (n1.trans (Nx.new n1.2.2.1 ha)) (Nx.tup r1 n1.2.2.1 ha) ⟨a, vs, p, ws, xs, rfl, r1.up (Ex.new hb), rfl, upd_same, f1, f2, ?_⟩
  have hne : p ≠ a := fun e => by rw [e, hb] at f3; cases f3
  rw [upd_ne hne]; exact f3)⟩
theorem fn_N {P : Program} {w : World} {K : PySem.W.Frag} {mg : Str → Option Value} {base : Heap} {j : Nat} {x qual : Str} {st : Stmt} {f : Addr} {fd : FuncData} {N ps : List Str} {k : Nat} {g : List D → Option D} {m : List D → Option (Fl Unit Unit)} (F : Fun K x qual st f fd) (S : FnScope N ps (defScope st)) (hl : ∀ ds d, g ds = some d → ds.length = ps.length)
    (hg : ∀ ds d, g ds = some d → outT (m ds) = some d)
    (hb : ∀ (cdv : Value) (A : Around) (outer : List PySem.Env) (s : Shared) (H : Hp) (E : XK), Room k (A.deeper (envOfC qual (defScope st) s.heap.objs.size f cdv)) → ∀ ds d, g ds = some d → ∃ po lp, DB (cxOf CX0 P w K mg base N qual (defScope st) f cdv A outer s H E).nox (rN j) (defBody st) (startE N ds) (m ds) po lp) :
    FnOk P w K mg base CX0 (k + 1) f fd ps (spN K j g) := by
  refine F.ok S (fun vs H Q E ⟨B, ds, d, e, r, hd, q⟩ => by rw [r.len]; exact hl ds d hd) (fun cdv A outer s H vs Q E hr ⟨B, ds, d, e, r, hd, q⟩ => ?_)
  obtain ⟨po, lp, h⟩ := hb cdv A outer s H E hr ds d hd
  refine ⟨_, h.ps, B, H, B, start_holds e r, ?_⟩
  obtain ⟨fl, h1, h2⟩ := bind_some (hg ds d hd)
  refine ⟨fl, h1, ?_⟩
  cases fl with
  | nx s => cases h2
  | rt d' => cases h2; exact q
  | bk l => cases h2
  | ct l => cases h2
/-- what the caller of such a function has -/
def cN (K : PySem.W.Frag) (ρ : Env) (k : Nat) (m : Option D) : TE := fun σ H Q => ∃ B0 H0 B, Holds K B0 H0 ρ σ B H ∧ ∃ d, m = some d ∧ ∀ v B' H', Nx B H B' H' → Rep K B' v d → FreshAt K B' H k d v → Q v H'
structure DN (X : Cx) (e : Expr) (ρ : Env) (k : Nat) (m : Option D) : Prop where
  pe : PE X e (cN X.K ρ k m)
theorem FreshAt.old {K : PySem.W.Frag} {B H H1 : Hp} {v : V} {d : D} (f : FreshAt K B H1 k d v) (e : Ex H H1) : FreshAt K B H k d v := by
  obtain ⟨a, xs, p, ws, ds, g1, g2, h1, h2, h3, h4, h5⟩ := f
  exact ⟨a, xs, p, ws, ds, g1, g2, h1, h2, h3, Ex.none e h4, h5⟩
theorem dn_call {j : Nat} {g : List D → Option D} {m : Option (List D)} (C : Callee X.prog X.w X.K X.mg X.base x ps j (spN X.K k g)) (hr : Room j X.A) (ha : DA X (e :: es) ρ m) (hg : Gl X x) (hdb : (x == ("__debug__" : Str)) = false)
    (he : starEach (e :: es) X.env = (false, eval e X.env) :: starEach es X.env) (hpl : (backTo pos (starEach es X.env)).any (·.1) = false) : DN X (.Call (.Name x p) (e :: es) [] pos) ρ k (m.bind g) :=
  let ⟨_, _, F, h1, h2, h3⟩ := C.ex
  ⟨peI (pe_call F hr hg h1 h2 h3 .nil pass0 ha.pa hdb he hpl) (by
  intro σ H Q ⟨B0, H0, B, hh, d', hm, q⟩
  obtain ⟨ds, hx, hf⟩ := bind_some hm
  refine ⟨B0, H0, B, hh, ds, hx, fun vs B1 H1 n1 r1 => ?_⟩
  show spN X.K k g (vs ++ []) H1 Q _
  rw [List.append_nil]
  exact ⟨B1, ds, d', n1.2.2.1, r1, hf, fun w B2 H2 n2 r2 f2 => q w B2 H2 (n1.trans n2) r2 (f2.old n1.2.1)⟩)⟩
theorem Callee.plain {P : Program} {w : World} {K : PySem.W.Frag} {mg : Str → Option Value} {base : Heap} {j : Nat} {g : List D → Option D} (C : Callee P w K mg base x ps j (spN K k g)) : Callee P w K mg base x ps j (spD K g) :=
  let ⟨f, fd, F, h1, h2, h3⟩ := C.ex
  ⟨f, fd, F.imp fun vs H Q E ⟨B, ds, d, q1, q2, q3, q4⟩ => ⟨B, ds, d, q1, q2, q3, fun v B' H' n r _ => q4 v B' H' n r⟩, h1, h2, h3⟩
/-- the change: the list in the k-th place takes one more -/
def appN (k : Nat) (d : D) : Option Unit := match d with
  | .tuple ds => match ds[k]? with
    | some (.list es) => fit (es.length + 1) ()
    | _ => none
  | _ => none
theorem Holds.late {K : PySem.W.Frag} {B0 H0 B H H' : Hp} {σ : L2.St} (hh : Holds K B0 H0 ρ σ B H) (e : Ex H H') : Holds K B0 H0 ρ σ B H' := hh.step ⟨Ex.refl B, e, hh.ex.trans e, fun _ _ h => h⟩
theorem Holds.junk {K : PySem.W.Frag} {B0 H0 B H : Hp} {σ : L2.St} (hh : Holds K B0 H0 ρ σ B H) (i : Nat) (o : Option V) : Holds K B0 H0 (ρ.set i .no) (σ.set i o) B H where
  nx := hh.nx
  len := by rw [List.length_set, List.length_set]; exact hh.len
  val := fun j d e => by
    rcases getset e with ⟨_, z⟩ | ⟨ne, z⟩
    · cases z
    · rw [List.getElem?_set_ne (fun z => ne z.symm)]; exact hh.val j d z
  own := fun j d e => by
    rcases getset e with ⟨_, z⟩ | ⟨ne, z⟩
    · cases z
    · rw [List.getElem?_set_ne (fun z => ne z.symm)]; exact hh.own j d z
  scr := fun j d e => by
    rcases getset e with ⟨_, z⟩ | ⟨ne, z⟩
    · cases z
    · rw [List.getElem?_set_ne (fun z => ne z.symm)]; exact hh.scr j d z
  apart := fun j k es fs r q1 q2 q3 q4 => by
    rcases getset q1 with ⟨_, z⟩ | ⟨n1, z1⟩
    · cases z
    rcases getset q2 with ⟨_, z⟩ | ⟨n2, z2⟩
    · cases z
    rw [List.getElem?_set_ne (fun z => n1 z.symm)] at q3
    rw [List.getElem?_set_ne (fun z => n2 z.symm)] at q4
    exact hh.apart j k es fs r z1 z2 q3 q4
/-- told = f(..); if c: return False; told[k].append(a) -/
theorem db_told {S : Type} {i k j1 j2 : Nat} {y : Str} {call a c : Expr} {rest : List Stmt} {pa pb p1 p2 p3 p4 p5 p6 p7 p8 pos1 : Pos} {post : S → Env} {m : Option D} {cc : D → Option Bool} {mx : D → Option D} {n : Option (Fl S L)}
    (hN : X.N.Nodup) (hi : X.N[i]? = some y) (hl : i < ρ.length) (hx : Loc X.env.scope y) (hv : Vis X.env.scope y) (nm : Nm y) (hf : X.fn y = true ∨ X.env.scope.names.lookup y = some .local) (hcall : DN X call ρ k m) (hs : swapsWith call (some (.Name y pa)) pos1.line X.env = pure false)
    (hc : ∀ d, DT X c (ρ.set i (.val d)) (cc d)) (ha : ∀ d, DE X a (ρ.set i (.val d)) (mx d)) (hpi : PlainIx (.Constant (.int (k : Int)) j1 p7))
    (hbase : attributeBase (.Subscript (.Name y p8) (.Constant (.int (k : Int)) j1 p7) p1) "append" X.env (eval (.Subscript (.Name y p8) (.Constant (.int (k : Int)) j1 p7) p1) X.env) = eval (.Subscript (.Name y p8) (.Constant (.int (k : Int)) j1 p7) p1) X.env)
    (hfew : ((backTo p3 (starEach [a] X.env)).all (fun x => !x.1) && (backToKw p3 (keywordEach [] X.env)).all (fun x => x.1.isSome) && decide ([a].length + ([] : List Keyword).length + (if ([] : List Keyword).isEmpty then 0 else 1) < 30)) = true)
    (hline : (p2.endLine == p3.line) = true) (hsa : starEach [a] X.env = (false, eval a X.env) :: starEach [] X.env) (hplain : (backTo p3 (starEach [] X.env)).any (·.1) = false)
    (hs3 : swapsWith (.Call (.Attribute (.Subscript (.Name y p8) (.Constant (.int (k : Int)) j1 p7) p1) "append" p2) [a] [] p3) none p4.line X.env = pure false) (hrest : DB X rV rest (ρ.set i .no) n post lp) :
    DB X rV (.Assign [.Name y pa] call pos1 :: .If c [.Return (some (.Constant (.bool false) j2 pb)) p5] [] p6 :: .Expr (.Call (.Attribute (.Subscript (.Name y p8) (.Constant (.int (k : Int)) j1 p7) p1) "append" p2) [a] [] p3) p4 :: rest) ρ
      (seqF (nxt m) fun d => seqF (iteM (cc d) (some (.rt (.bool false))) (some (.nx ()))) fun (_ : Unit) => seqF (nxt ((mx d).bind fun _ => appN k d)) fun (_ : Unit) => n) post lp := by
  have hct : PT X c (fun σ H Q => ∃ d, cB X.K (ρ.set i (.val d)) (cc d) σ H Q) := ⟨fun pins s σ H Q I ⟨d, w⟩ => (hc d).pt.run pins s σ H Q I w⟩
  have hat : PE X a (fun σ H Q => ∃ d, cT X.K (ρ.set i (.val d)) (mx d) σ H Q) := ⟨fun pins s σ H Q I ⟨d, w⟩ => (ha d).pe.run pins s σ H Q I w⟩
  refine ⟨pssI (pss_cons (ps_set hN hi hx hcall.pe hs hf) (pss_cons (ps_if hct (pss_one (ps_ret pe_bl)) pss_nil) (pss_cons (ps_expr (pe_bm PySem.F.plainAttrs_list PySem.F.slot_list_append PySem.F.type_list_append mt_append (pe_ix ix_tup (pe_var hi hv nm.d nm.c) pe_int hpi) (pa_cons hat pa_nil hsa) hbase hfew hline hsa hplain) hs3) hrest.ps))) ?_⟩
  intro Dn σ H ⟨B0, H0, B, hh, f, hm, q⟩
  obtain ⟨g, hg, hm⟩ := seqF_some hm
  obtain ⟨d, hd, rfl⟩ := nxt_some hg
  obtain ⟨g2, hg2, hm⟩ := seqF_some hm
  obtain ⟨b, hb, hg2⟩ := bind_some hg2
  have hσ : ∀ v : V, (σ.set i (some v))[i]? = some (some v) := fun v => by rw [List.getElem?_set_self (by rw [hh.len]; exact hl)]
  refine ⟨B0, H0, B, hh, d, hd, fun v B1 H1 n1 r1 f1 => ?_⟩
  have h1 := (hh.step n1).setv (i := i) r1
  refine ⟨d, B0, H0, B1, h1, b, hb, fun B2 H2 n2 => ?_⟩
  cases b with
  | true =>
    simp only [if_true] at hg2
    cases hg2
    cases hm
    refine L2.iteT ?_
    exact q (.bl false) B2 H2 ((h1.step n2).nx) (.bl false)
  | false =>
    simp only [Bool.false_eq_true, if_false] at hg2
    cases hg2
    refine L2.iteF ?_
    obtain ⟨g3, hg3, hm3⟩ := seqF_some hm
    obtain ⟨u, hu, rfl⟩ := nxt_some hg3
    obtain ⟨dx, hdx, hu⟩ := bind_some hu
    obtain ⟨a0, xs, p, ws, ds, g1, rr, e1, e2, e3, e4, e5⟩ := f1
    subst e1 g1
    -- the data that stand there
    have e2' : B2 a0 = some (.tup xs) := n2.1 _ _ e2
    have e5' : B2 p = some (.lst ws) := n2.1 _ _ e5
    have h2 := h1.step n2
    have hk : atI xs (k : Int) = some (.ref p) := by
      have hlt := (List.getElem?_eq_some_iff.mp e3).1
      unfold atI ixN
      rw [if_pos (by omega), if_pos (by omega)]
      simpa using e3
    have hwl : ws.length < sizeLine := by
      unfold appN at hu
      obtain ⟨dk, d1, d2⟩ := rr.atV e3
      simp only [d1] at hu
      cases d2 with
      | @lst l2 us es g2 rr2 =>
        rw [e5] at g2; cases g2
        simp only at hu
        obtain ⟨hz, _⟩ := fit_some hu
        have := rr2.len
        omega
      | _ => simp at hu
    refine ⟨.ref a0, hσ _, ?_⟩
    refine ⟨a0, xs, (k : Int), .ref p, rfl, rfl, .inl (.inl (h2.ex _ _ e2')), hk, ?_⟩
    refine ⟨.inl ⟨rfl, ws, .inl (.inl (h2.ex _ _ e5'))⟩, .tuple ds, B0, H0, B2, h2, dx, hdx, fun vx B3 H3 n3 r3 => ?_⟩
    have hp3 : H3 p = some (.lst ws) := n3.2.1 _ _ (h2.ex _ _ e5')
    refine ⟨p, ws, vx, rfl, rfl, hp3, hwl, ?_⟩
    have hE : Ex H (upd H3 p (.lst (ws ++ [vx]))) := fun z u hz => by
      have hne : z ≠ p := fun e => by rw [e, e4] at hz; cases hz
      rw [upd_ne hne]
      exact n3.2.1 _ _ (n2.2.1 _ _ (n1.2.1 _ _ hz))
    exact ⟨B0, H0, B, (hh.late hE).junk i _, f, hm3, q⟩
end
theorem f1_outN {f : D → Option D} {b : D → Option (Fl Unit Unit)} (h : ∀ x, f x = outT (b x)) : ∀ ds d, f1 f ds = some d → outT (f1 b ds) = some d := fun ds d e => by
  obtain ⟨a0, rfl⟩ := f1_args e
  exact (h a0).symm.trans e
theorem f2_outN {f : D → D → Option D} {b : D → D → Option (Fl Unit Unit)} (h : ∀ x y, f x y = outT (b x y)) : ∀ ds d, f2 f ds = some d → outT (f2 b ds) = some d := fun ds d e => by
  obtain ⟨a0, a1, rfl⟩ := f2_args e
  exact (h a0 a1).symm.trans e
theorem f3_outN {f : D → D → D → Option D} {b : D → D → D → Option (Fl Unit Unit)} (h : ∀ x y z, f x y z = outT (b x y z)) : ∀ ds d, f3 f ds = some d → outT (f3 b ds) = some d := fun ds d e => by
  obtain ⟨a0, a1, a2, rfl⟩ := f3_args e
  exact (h a0 a1 a2).symm.trans e
theorem f4_outN {f : D → D → D → D → Option D} {b : D → D → D → D → Option (Fl Unit Unit)} (h : ∀ x y z u, f x y z u = outT (b x y z u)) : ∀ ds d, f4 f ds = some d → outT (f4 b ds) = some d := fun ds d e => by
  obtain ⟨a0, a1, a2, a3, rfl⟩ := f4_args e
  exact (h a0 a1 a2 a3).symm.trans e
theorem f5_outN {f : D → D → D → D → D → Option D} {b : D → D → D → D → D → Option (Fl Unit Unit)} (h : ∀ x y z u v, f x y z u v = outT (b x y z u v)) : ∀ ds d, f5 f ds = some d → outT (f5 b ds) = some d := fun ds d e => by
  obtain ⟨a0, a1, a2, a3, a4, rfl⟩ := f5_args e
  exact (h a0 a1 a2 a3 a4).symm.trans e
end Dl

/-! Data layer, part 11: ranges with a step. -/
namespace Dl
open PySem L2 PySem.Spec PyProof.Rows PySem.W PySem.SeqAt
open Evl (Ex)
def stepI (lo c : Int) (n : Nat) : List D := (List.range n).map fun (i : Nat) => .int (lo + (i : Int) * c)
def rng3D : List D → Option (List D)
  | [.int i, .int j, .int c] => if (c ≠ 0 ∧ c.natAbs < 1073741824) ∧ Builtin.Range.small i j c = true ∧ 0 ≤ Builtin.Range.rangeSize i j c then fit (Builtin.Range.rangeSize i j c).toNat (stepI i c (Builtin.Range.rangeSize i j c).toNat) else none
  | _ => none
theorem wk_rngC {K : PySem.W.Frag} {B : Hp} (lo c : Int) {n : Nat} (h : n ≤ sizeLine) : WkD K B (Itc lo c n) (stepI lo c n) := by
  refine ⟨by unfold stepI; simpa using h, fun i H hi e => ?_, fun H e => ?_, fun i H x H' Bc d hd e1 e2 y => ?_⟩
  · unfold stepI at hi; simp at hi; exact hi
  · show n ≤ _
    unfold stepI; simp
  · obtain ⟨rfl, rfl⟩ := y
    have e : d = .int (lo + (i : Int) * c) := by
      unfold stepI at hd
      rw [List.getElem?_map] at hd
      obtain ⟨j, hj, rfl⟩ := map_some hd
      obtain ⟨h1, h2⟩ := List.getElem?_eq_some_iff.mp hj
      simp at h2
      rw [h2]
    subst e
    exact ⟨Bc, Nx.refl e2, .int _⟩
theorem three_rep {K : PySem.W.Frag} {B : Hp} {xs : List V} {a b c : D} (r : Reps K B xs [a, b, c]) : ∃ u v w, xs = [u, v, w] ∧ Rep K B u a ∧ Rep K B v b ∧ Rep K B w c := by
  cases r with
  | cons h t => cases t with
    | cons h2 t => cases t with
      | cons h3 t => cases t; exact ⟨_, _, _, rfl, h, h2, h3⟩
theorem di_rng3 {X : Cx} {tg a b c : Expr} {ρ : Env} {pos : Pos} {m : Option (List D)} {p : Pos} (hg : Gl X "range") (hm : X.mg "range" = none) (ha : DA X [a, b, c] ρ m) (hs : starEach [a, b, c] X.env = (false, eval a X.env) :: starEach [b, c] X.env) (hs2 : (backTo pos (starEach [b, c] X.env)).any (·.1) = false) :
    DI X tg (.Call (.Name "range" p) [a, b, c] [] pos) ρ (m.bind rng3D) := ⟨piI (pi_range3 hg hm ha.pa hs hs2) (by
  intro σ H R ⟨B0, H0, B, hh, ds, hm, q⟩
  obtain ⟨xs, hx, hf⟩ := bind_some hm
  refine ⟨B0, H0, B, hh, xs, hx, fun vs B1 H1 n1 r1 => ?_⟩
  unfold rng3D at hf
  split at hf
  · split at hf
    · rename_i i j k hc
      obtain ⟨hz, rfl⟩ := fit_some hf
      obtain ⟨u, v, w, rfl, g1, g2, g3⟩ := three_rep r1
      cases g1; cases g2; cases g3
      exact ⟨i, j, k, _, rfl, ⟨hc.1.1, hc.1.2, hc.2.1, by rw [Int.toNat_of_nonneg hc.2.2]⟩, q _ B1 H1 n1 (wk_rngC i k hz)⟩
    · cases hf
  · cases hf)⟩
end Dl

namespace Wk0
open PySem L2 PySem.Spec PyProof.Rows PySem.W PySem.SeqAt Dl
def topS (i : Nat) : Stmt := PySem.Challenge.pw_nobodywaits_k45_whole_most_pieces_that_f.main.body.getD i (.Pass ⟨0, 0, 0, 0⟩)
theorem nm_answer : Nm ("answer" : Str) := ⟨by decide, by decide⟩
theorem nm_cell : Nm ("cell" : Str) := ⟨by decide, by decide⟩
theorem nm_choice : Nm ("choice" : Str) := ⟨by decide, by decide⟩
theorem nm_choices : Nm ("choices" : Str) := ⟨by decide, by decide⟩
theorem nm_count : Nm ("count" : Str) := ⟨by decide, by decide⟩
theorem nm_draws : Nm ("draws" : Str) := ⟨by decide, by decide⟩
theorem nm_due : Nm ("due" : Str) := ⟨by decide, by decide⟩
theorem nm_few : Nm ("few" : Str) := ⟨by decide, by decide⟩
theorem nm_found : Nm ("found" : Str) := ⟨by decide, by decide⟩
theorem nm_good : Nm ("good" : Str) := ⟨by decide, by decide⟩
theorem nm_high : Nm ("high" : Str) := ⟨by decide, by decide⟩
theorem nm_j : Nm ("j" : Str) := ⟨by decide, by decide⟩
theorem nm_k : Nm ("k" : Str) := ⟨by decide, by decide⟩
theorem nm_kept : Nm ("kept" : Str) := ⟨by decide, by decide⟩
theorem nm_limit : Nm ("limit" : Str) := ⟨by decide, by decide⟩
theorem nm_low : Nm ("low" : Str) := ⟨by decide, by decide⟩
theorem nm_minutes : Nm ("minutes" : Str) := ⟨by decide, by decide⟩
theorem nm_mixed : Nm ("mixed" : Str) := ⟨by decide, by decide⟩
theorem nm_more : Nm ("more" : Str) := ⟨by decide, by decide⟩
theorem nm_most : Nm ("most" : Str) := ⟨by decide, by decide⟩
theorem nm_others : Nm ("others" : Str) := ⟨by decide, by decide⟩
theorem nm_paper : Nm ("paper" : Str) := ⟨by decide, by decide⟩
theorem nm_papers : Nm ("papers" : Str) := ⟨by decide, by decide⟩
theorem nm_part : Nm ("part" : Str) := ⟨by decide, by decide⟩
theorem nm_parts : Nm ("parts" : Str) := ⟨by decide, by decide⟩
theorem nm_pause : Nm ("pause" : Str) := ⟨by decide, by decide⟩
theorem nm_ranked : Nm ("ranked" : Str) := ⟨by decide, by decide⟩
theorem nm_room : Nm ("room" : Str) := ⟨by decide, by decide⟩
theorem nm_script : Nm ("script" : Str) := ⟨by decide, by decide⟩
theorem nm_some : Nm ("some" : Str) := ⟨by decide, by decide⟩
theorem nm_told : Nm ("told" : Str) := ⟨by decide, by decide⟩
theorem nm_value : Nm ("value" : Str) := ⟨by decide, by decide⟩
theorem nm_verdict : Nm ("verdict" : Str) := ⟨by decide, by decide⟩
abbrev s__law_numbers : Stmt := topS 13
theorem sc__law_numbers : FnScope ["cell", "count", "limit", "found", "k", "mixed"] ["cell", "count", "limit"] (defScope s__law_numbers) := ⟨rfl, rfl, rfl, by decide +kernel, rfl, by decide +kernel, by decide +kernel⟩
abbrev s__law_cell : Stmt := topS 12
theorem sc__law_cell : FnScope ["script", "k"] ["script", "k"] (defScope s__law_cell) := ⟨rfl, rfl, rfl, by decide +kernel, rfl, by decide +kernel, by decide +kernel⟩
abbrev s_is_whole : Stmt := topS 1
theorem sc_is_whole : FnScope ["value"] ["value"] (defScope s_is_whole) := ⟨rfl, rfl, rfl, by decide +kernel, rfl, by decide +kernel, by decide +kernel⟩
abbrev s_is_within : Stmt := topS 2
theorem sc_is_within : FnScope ["value", "low", "high"] ["value", "low", "high"] (defScope s_is_within) := ⟨rfl, rfl, rfl, by decide +kernel, rfl, by decide +kernel, by decide +kernel⟩
abbrev s_are_numbers : Stmt := topS 4
theorem sc_are_numbers : FnScope ["parts", "count", "k", "part"] ["parts", "count"] (defScope s_are_numbers) := ⟨rfl, rfl, rfl, by decide +kernel, rfl, by decide +kernel, by decide +kernel⟩
abbrev s_needed : Stmt := topS 6
theorem sc_needed : FnScope ["minutes", "pause", "choice", "k"] ["minutes", "pause", "choice"] (defScope s_needed) := ⟨rfl, rfl, rfl, by decide +kernel, rfl, by decide +kernel, by decide +kernel⟩
abbrev s_fits : Stmt := topS 7
theorem sc_fits : FnScope ["minutes", "pause", "room", "choice"] ["minutes", "pause", "room", "choice"] (defScope s_fits) := ⟨rfl, rfl, rfl, by decide +kernel, rfl, by decide +kernel, by decide +kernel⟩
abbrev s_most_pieces : Stmt := topS 8
theorem sc_most_pieces : FnScope ["minutes", "pause", "room", "ranked", "count", "_", "k", "some"] ["minutes", "pause", "room"] (defScope s_most_pieces) := ⟨rfl, rfl, rfl, by decide +kernel, rfl, by decide +kernel, by decide +kernel⟩
abbrev s__law_sets : Stmt := topS 15
theorem sc__law_sets : FnScope ["count", "found", "k", "some"] ["count"] (defScope s__law_sets) := ⟨rfl, rfl, rfl, by decide +kernel, rfl, by decide +kernel, by decide +kernel⟩
abbrev s_are_shortest : Stmt := topS 9
theorem sc_are_shortest : FnScope ["minutes", "choice", "others", "k", "some"] ["minutes", "choice"] (defScope s_are_shortest) := ⟨rfl, rfl, rfl, by decide +kernel, rfl, by decide +kernel, by decide +kernel⟩
abbrev s_judge_most_pieces : Stmt := topS 10
theorem sc_judge_most_pieces : FnScope ["minutes", "pause", "room", "verdict", "choice", "more"] ["minutes", "pause", "room", "verdict"] (defScope s_judge_most_pieces) := ⟨rfl, rfl, rfl, by decide +kernel, rfl, by decide +kernel, by decide +kernel⟩
abbrev s__law_fits : Stmt := topS 16
theorem sc__law_fits : FnScope ["minutes", "pause", "room", "choice", "k"] ["minutes", "pause", "room", "choice"] (defScope s__law_fits) := ⟨rfl, rfl, rfl, by decide +kernel, rfl, by decide +kernel, by decide +kernel⟩
abbrev s__law_same : Stmt := topS 14
theorem sc__law_same : FnScope ["told", "due", "k"] ["told", "due"] (defScope s__law_same) := ⟨rfl, rfl, rfl, by decide +kernel, rfl, by decide +kernel, by decide +kernel⟩
abbrev s__law_accepts : Stmt := topS 17
theorem sc__law_accepts : FnScope ["minutes", "pause", "room", "paper", "choice", "more", "k", "j"] ["minutes", "pause", "room", "paper"] (defScope s__law_accepts) := ⟨rfl, rfl, rfl, by decide +kernel, rfl, by decide +kernel, by decide +kernel⟩
abbrev s_law : Stmt := topS 18
theorem sc_law : FnScope ["script", "draws", "count", "minutes", "pause", "ranked", "few", "room", "kept", "good", "most", "due", "turn", "told", "choice", "more", "choices", "papers", "paper", "answer", "k", "some"] ["script"] (defScope s_law) := ⟨rfl, rfl, rfl, by decide +kernel, rfl, by decide +kernel, by decide +kernel⟩
noncomputable def b__law_numbers (p_cell p_count p_limit : D) : Option (Fl Unit Unit) := (seqF (nxt ((some []).bind fun xs => fit xs.length xs)) fun found1 => (seqF (iteM ((b2 (some p_cell) (b2 (some (.int 10)) (some (.int 18)) powD) geD).bind isB) (seqF (((c2 (some p_count) (some [])).bind rng1D).bind fun ds => forF (fun d (l2 : D × List D) => ((fun d => some d) d).bind fun v3 => (seqF (nxt ((b2 ((c2 (some l2.1) (some [])).bind intL) (some p_limit) modD).bind fun d => fit (l2.2.length + 1) d)) fun a4 => (seqF (nxt (b2 ((c2 (some l2.1) (some [])).bind intL) (some p_limit) fdivD)) fun cell5 => (some (.nx (cell5, (l2.2 ++ [a4]))))))) ds (p_cell, found1)) fun l2 => (some (.rt (.list l2.2)))) (some (.nx ()))) fun _ => (seqF (((c2 (some p_count) (some [])).bind rng1D).bind fun ds => forF (fun d (l6 : List D) => ((fun d => some d) d).bind fun v7 => (seqF (nxt (b2 ((c2 (b2 (b2 (b2 (some p_cell) (some (.int 48271)) mulD) (b2 (some v7) (some (.int 69621)) mulD) addD) (some (.int 7)) addD) (some [])).bind intL) (some (.int 2147483647)) modD)) fun mixed8 => (seqF (nxt (b2 ((c2 (b2 (b2 (b2 (b2 (some mixed8) (some mixed8) mulD) (b2 (some mixed8) (some (.int 40692)) mulD) addD) (b2 (some v7) (some (.int 16807)) mulD) addD) (some (.int 11)) addD) (some [])).bind intL) (some (.int 2147483399)) modD)) fun mixed9 => (seqF (nxt ((b2 ((c2 (b2 (some mixed9) (some (.int 32)) fdivD) (some [])).bind intL) (some p_limit) modD).bind fun d => fit (l6.length + 1) d)) fun a10 => (some (.nx (l6 ++ [a10]))))))) ds found1) fun l6 => (some (.rt (.list l6))))))
noncomputable def d__law_numbers (p_cell p_count p_limit : D) : Option (List D) := outF (b__law_numbers p_cell p_count p_limit)
noncomputable def b_is_whole (p_value : D) : Option (Fl Unit Unit) := ((andV ((some p_value).bind (insD "int")) (((some p_value).bind (insD "bool")).bind fun x => (truth x).map fun k => .bool (!k))).map .rt)
noncomputable def d_is_whole (p_value : D) : Option D := outD (b_is_whole p_value)
noncomputable def b_is_within (p_value p_low p_high : D) : Option (Fl Unit Unit) := ((andV ((c2 (some p_value) (some [])).bind (f1 d_is_whole)) (ch3 (some p_low) (some p_value) leD leD (some p_high))).map .rt)
noncomputable def d_is_within (p_value p_low p_high : D) : Option D := outD (b_is_within p_value p_low p_high)
noncomputable def b_are_numbers (p_parts p_count : D) : Option (Fl Unit Unit) := (seqF (iteM ((((c2 ((((some p_parts).bind itemsD).bind (compM (turnC (fun d => some d) (fun part1 => (some true)) (fun part1 => ((c2 (some part1) (c2 (some (.int 0)) (c2 (b2 (some p_count) (some (.int 1)) subD) (some [])))).bind (f3 d_is_within)))))).map .list) (some [])).bind allL).bind truth).map (!·)) ((some (.bool false)).map .rt) (some (.nx ()))) fun _ => (((c2 ((((c2 (b2 ((c2 (some p_parts) (some [])).bind lenL) (some (.int 1)) subD) (some [])).bind rng1D).bind (compM (turnC (fun d => some d) (fun k2 => (some true)) (fun k2 => (b2 (b2 (some p_parts) (some k2) idxD) (b2 (some p_parts) (b2 (some k2) (some (.int 1)) addD) idxD) ltD))))).map .list) (some [])).bind allL).map .rt))
noncomputable def d_are_numbers (p_parts p_count : D) : Option D := outD (b_are_numbers p_parts p_count)
noncomputable def b_needed (p_minutes p_pause p_choice : D) : Option (Fl Unit Unit) := ((b2 ((c2 ((((some p_choice).bind itemsD).bind (compM (turnC (fun d => some d) (fun k1 => (some true)) (fun k1 => (b2 (some p_minutes) (some k1) idxD))))).map .list) (some [])).bind sumL) (b2 (some p_pause) ((c2 (some (.int 0)) (c2 (b2 ((c2 (some p_choice) (some [])).bind lenL) (some (.int 1)) subD) (some []))).bind maxL) mulD) addD).map .rt)
noncomputable def d_needed (p_minutes p_pause p_choice : D) : Option D := outD (b_needed p_minutes p_pause p_choice)
noncomputable def b_fits (p_minutes p_pause p_room p_choice : D) : Option (Fl Unit Unit) := ((andV ((c2 (some p_choice) (c2 ((c2 (some p_minutes) (some [])).bind lenL) (some []))).bind (f2 d_are_numbers)) (orV (b2 (some p_choice) (((some []).bind fun xs => fit xs.length xs).map .list) eqD) (b2 ((c2 (some p_minutes) (c2 (some p_pause) (c2 (some p_choice) (some [])))).bind (f3 d_needed)) (some p_room) leD))).map .rt)
noncomputable def d_fits (p_minutes p_pause p_room p_choice : D) : Option D := outD (b_fits p_minutes p_pause p_room p_choice)
noncomputable def b_most_pieces (p_minutes p_pause p_room : D) : Option (Fl Unit Unit) := (seqF (nxt (((((c2 ((((c2 (some p_minutes) (some [])).bind enumD).bind (compM (turnC un2 (fun k2 => (some true)) (fun k2 => ((c2 (some k2.2) (c2 (some k2.1) (some []))).bind fun xs => fit xs.length (.tuple xs)))))).map .list) (some [])).bind sortF).map .list).bind itemsD).bind (compM (turnC un2 (fun x3 => (some true)) (fun x3 => (some x3.2)))))) fun ranked1 => (seqF (nxt (some (.int 0))) fun count4 => (seqF (whileF (fun (l5 : D) => (andB ((b2 (some l5) ((c2 (some (.list ranked1)) (some [])).bind lenL) ltD).bind isB) (((c2 (some p_minutes) (c2 (some p_pause) (c2 (some p_room) (c2 (((c2 (b3 (some (.list ranked1)) (some none) (oI (b2 (some l5) (some (.int 1)) addD))) (some [])).bind sortF).map .list) (some []))))).bind (f4 d_fits)).bind truth))) (fun (l5 : D) => (seqF (nxt ((some (.int 1)).bind fun y => iaddD l5 y)) fun count6 => (some (.nx count6)))) 1000000 count4) fun l5 => (((c2 (((c2 (b3 (some (.list ranked1)) (some none) (oI (some l5))) (some [])).bind sortF).map .list) (c2 (iteM ((b2 (some l5) ((c2 (some (.list ranked1)) (some [])).bind lenL) eqD).bind isB) (some .none) (((c2 (b3 (some (.list ranked1)) (some none) (oI (b2 (some l5) (some (.int 1)) addD))) (some [])).bind sortF).map .list)) (some []))).bind fun xs => fit xs.length (.tuple xs)).map .rt))))
noncomputable def d_most_pieces (p_minutes p_pause p_room : D) : Option D := outT (b_most_pieces p_minutes p_pause p_room)
noncomputable def b__law_sets (p_count : D) : Option (Fl Unit Unit) := (seqF (nxt (((c2 (((some []).bind fun xs => fit xs.length xs).map .list) (some [])).bind fun xs => fit xs.length xs).map .list)) fun found1 => (seqF (((c2 (some p_count) (some [])).bind rng1D).bind fun ds => forF (fun d (l2 : D) => ((fun d => some d) d).bind fun v3 => (seqF (nxt (b2 (some l2) ((((some l2).bind itemsD).bind (compM (turnC (fun d => some d) (fun some5 => (some true)) (fun some5 => (b2 (some some5) (((c2 (some v3) (some [])).bind fun xs => fit xs.length xs).map .list) addD))))).map .list) addD)) fun found4 => (some (.nx found4)))) ds found1) fun l2 => ((some l2).map .rt)))
noncomputable def d__law_sets (p_count : D) : Option D := outD (b__law_sets p_count)
noncomputable def b_are_shortest (p_minutes p_choice : D) : Option (Fl Unit Unit) := (seqF (nxt (((c2 (some p_minutes) (some [])).bind enumD).bind (compM (turnC un2 (fun k2 => ((b2 (some k2.1) (some p_choice) notInD).bind isB)) (fun k2 => (some k2.2)))))) fun others1 => ((orV ((some (.list others1)).bind fun x => (truth x).map fun k => .bool (!k)) (b2 ((c2 ((((some p_choice).bind itemsD).bind (compM (turnC (fun d => some d) (fun k3 => (some true)) (fun k3 => (b2 (some p_minutes) (some k3) idxD))))).map .list) (some [])).bind maxL) ((c2 (some (.list others1)) (some [])).bind minL) leD)).map .rt))
noncomputable def d_are_shortest (p_minutes p_choice : D) : Option D := outD (b_are_shortest p_minutes p_choice)
noncomputable def b_judge_most_pieces (p_minutes p_pause p_room p_verdict : D) : Option (Fl Unit Unit) := (seqF (iteM ((b2 ((c2 (some p_verdict) (some [])).bind lenL) (some (.int 2)) neD).bind isB) ((some (.bool false)).map .rt) (some (.nx ()))) fun _ => (seqF (nxt ((some p_verdict).bind un2)) fun t1 => (seqF (iteM ((((c2 (some p_minutes) (c2 (some p_pause) (c2 (some p_room) (c2 (some t1.1) (some []))))).bind (f4 d_fits)).bind truth).map (!·)) ((some (.bool false)).map .rt) (some (.nx ()))) fun _ => (seqF (iteM (orB ((b2 ((c2 (some t1.1) (some [])).bind lenL) ((c2 (some p_minutes) (some [])).bind lenL) eqD).bind isB) ((b2 (some t1.2) (some .none) isD).bind isB)) ((andV (b2 ((c2 (some t1.1) (some [])).bind lenL) ((c2 (some p_minutes) (some [])).bind lenL) eqD) (b2 (some t1.2) (some .none) isD)).map .rt) (some (.nx ()))) fun _ => (seqF (iteM (orB ((((c2 (some t1.2) (c2 ((c2 (some p_minutes) (some [])).bind lenL) (some []))).bind (f2 d_are_numbers)).bind truth).map (!·)) ((b2 ((c2 (some t1.2) (some [])).bind lenL) (b2 ((c2 (some t1.1) (some [])).bind lenL) (some (.int 1)) addD) neD).bind isB)) ((some (.bool false)).map .rt) (some (.nx ()))) fun _ => ((andV (((c2 (some p_minutes) (c2 (some p_pause) (c2 (some p_room) (c2 (some t1.2) (some []))))).bind (f4 d_fits)).bind fun x => (truth x).map fun k => .bool (!k)) ((c2 (some p_minutes) (c2 (some t1.2) (some []))).bind (f2 d_are_shortest))).map .rt))))))
noncomputable def d_judge_most_pieces (p_minutes p_pause p_room p_verdict : D) : Option D := outD (b_judge_most_pieces p_minutes p_pause p_room p_verdict)
noncomputable def b__law_fits (p_minutes p_pause p_room p_choice : D) : Option (Fl Unit Unit) := (seqF (iteM ((b2 (some p_choice) ((((c2 ((c2 (some p_minutes) (some [])).bind lenL) (some [])).bind rng1D).bind (compM (turnC (fun d => some d) (fun k1 => ((b2 (some k1) (some p_choice) inD).bind isB)) (fun k1 => (some k1))))).map .list) neD).bind isB) ((some (.bool false)).map .rt) (some (.nx ()))) fun _ => ((orV (b2 ((c2 (some p_choice) (some [])).bind lenL) (some (.int 0)) eqD) (b2 (b2 ((c2 ((((some p_choice).bind itemsD).bind (compM (turnC (fun d => some d) (fun k2 => (some true)) (fun k2 => (b2 (some p_minutes) (some k2) idxD))))).map .list) (some [])).bind sumL) (b2 (some p_pause) (b2 ((c2 (some p_choice) (some [])).bind lenL) (some (.int 1)) subD) mulD) addD) (some p_room) leD)).map .rt))
noncomputable def d__law_fits (p_minutes p_pause p_room p_choice : D) : Option D := outD (b__law_fits p_minutes p_pause p_room p_choice)
noncomputable def b__law_same (rec : D → D → Option D) (p_told p_due : D) : Option (Fl Unit Unit) := (seqF (iteM (((some p_due).bind (insD "list")).bind truth) (iteM (orB ((((some p_told).bind (insD "list")).bind truth).map (!·)) ((b2 ((c2 (some p_told) (some [])).bind lenL) ((c2 (some p_due) (some [])).bind lenL) neD).bind isB)) ((some (.bool false)).map .rt) (some (.nx ()))) (iteM (((some p_due).bind (insD "tuple")).bind truth) (iteM (orB ((((some p_told).bind (insD "tuple")).bind truth).map (!·)) ((b2 ((c2 (some p_told) (some [])).bind lenL) ((c2 (some p_due) (some [])).bind lenL) neD).bind isB)) ((some (.bool false)).map .rt) (some (.nx ()))) (iteM ((b2 (some p_due) (some .none) isD).bind isB) ((b2 (some p_told) (some .none) isD).map .rt) (iteM (((some p_due).bind (insD "bool")).bind truth) ((andV ((some p_told).bind (insD "bool")) (b2 (some p_told) (some p_due) eqD)).map .rt) (iteM (((some p_due).bind (insD "int")).bind truth) ((andV ((some p_told).bind (insD "int")) (andV (((some p_told).bind (insD "bool")).bind fun x => (truth x).map fun k => .bool (!k)) (b2 (some p_told) (some p_due) eqD))).map .rt) ((andV ((some p_told).bind (insD "str")) (b2 (some p_told) (some p_due) eqD)).map .rt)))))) fun j1 => (seqF (((c2 ((c2 (some p_due) (some [])).bind lenL) (some [])).bind rng1D).bind fun ds => forF (fun d (l2 : Unit) => ((fun d => some d) d).bind fun v3 => (iteM ((((c2 (b2 (some p_told) (some v3) idxD) (c2 (b2 (some p_due) (some v3) idxD) (some []))).bind (f2 rec)).bind truth).map (!·)) ((some (.bool false)).map .rt) (some (.nx ())))) ds ()) fun l2 => ((some (.bool true)).map .rt)))
noncomputable def d__law_same : Nat → D → D → Option D
  | 0 => fun _ _ => none
  | n + 1 => fun p_told p_due => outD (b__law_same (d__law_same n) p_told p_due)
noncomputable def b__law_accepts (p_minutes p_pause p_room p_paper : D) : Option (Fl Unit Unit) := (seqF (iteM ((b2 ((c2 (some p_paper) (some [])).bind lenL) (some (.int 2)) neD).bind isB) ((some (.bool false)).map .rt) (some (.nx ()))) fun _ => (seqF (nxt ((some p_paper).bind un2)) fun t1 => (seqF (iteM ((((c2 (some p_minutes) (c2 (some p_pause) (c2 (some p_room) (c2 (some t1.1) (some []))))).bind (f4 d__law_fits)).bind truth).map (!·)) ((some (.bool false)).map .rt) (some (.nx ()))) fun _ => (seqF (iteM (orB ((b2 (some t1.2) (some .none) isD).bind isB) ((b2 ((c2 (some t1.1) (some [])).bind lenL) ((c2 (some p_minutes) (some [])).bind lenL) eqD).bind isB)) ((andV (b2 (some t1.2) (some .none) isD) (b2 ((c2 (some t1.1) (some [])).bind lenL) ((c2 (some p_minutes) (some [])).bind lenL) eqD)).map .rt) (some (.nx ()))) fun _ => (seqF (iteM (orB ((b2 (some t1.2) ((((c2 ((c2 (some p_minutes) (some [])).bind lenL) (some [])).bind rng1D).bind (compM (turnC (fun d => some d) (fun k2 => ((b2 (some k2) (some t1.2) inD).bind isB)) (fun k2 => (some k2))))).map .list) neD).bind isB) ((b2 ((c2 (some t1.2) (some [])).bind lenL) (b2 ((c2 (some t1.1) (some [])).bind lenL) (some (.int 1)) addD) neD).bind isB)) ((some (.bool false)).map .rt) (some (.nx ()))) fun _ => (seqF (((c2 ((c2 (some p_minutes) (some [])).bind lenL) (some [])).bind rng1D).bind fun ds => forF (fun d (l3 : Unit) => ((fun d => some d) d).bind fun v4 => (iteM (andB ((b2 (some v4) (some t1.2) notInD).bind isB) ((b2 ((c2 ((((some t1.2).bind itemsD).bind (compM (turnC (fun d => some d) (fun j5 => ((b2 (b2 (some p_minutes) (some j5) idxD) (b2 (some p_minutes) (some v4) idxD) gtD).bind isB)) (fun j5 => (some j5))))).map .list) (some [])).bind lenL) (some (.int 0)) gtD).bind isB)) ((some (.bool false)).map .rt) (some (.nx ())))) ds ()) fun l3 => ((((c2 (some p_minutes) (c2 (some p_pause) (c2 (some p_room) (c2 (some t1.2) (some []))))).bind (f4 d__law_fits)).bind fun x => (truth x).map fun k => .bool (!k)).map .rt)))))))
noncomputable def d__law_accepts (p_minutes p_pause p_room p_paper : D) : Option D := outD (b__law_accepts p_minutes p_pause p_room p_paper)
noncomputable def b_law (ns : List Int) : Option (Fl Unit Unit) := (seqF (nxt (((c2 ((some (.int 0)).bind (cellD ns)) (c2 (some (.int 40)) (c2 (some (.int 27720)) (some [])))).bind (f3 d__law_numbers)).map .list)) fun draws1 => (seqF (nxt (b2 (some (.int 1)) (b2 (b2 (some draws1) (some (.int 0)) idxD) (some (.int 9)) modD) addD)) fun count2 => (seqF (iteM ((b2 (b2 (b2 (some draws1) (some (.int 39)) idxD) (some (.int 12)) modD) (some (.int 1)) eqD).bind isB) (seqF (nxt (some (.int 20))) fun count4 => (some (.nx count4))) (some (.nx count2))) fun j3 => (seqF (nxt ((((c2 (some j3) (some [])).bind rng1D).bind (compM (turnC (fun d => some d) (fun k6 => (some true)) (fun k6 => (b2 (some (.int 1)) (b2 (b2 (some draws1) (b2 (some (.int 1)) (some k6) addD) idxD) (b2 (((c2 (some (.int 5)) (c2 (some (.int 60)) (c2 (some (.int 1000)) (some [])))).bind fun xs => fit xs.length xs).map .list) (b2 (b2 (some draws1) (some (.int 22)) idxD) (some (.int 3)) modD) idxD) modD) addD))))).map .list)) fun minutes5 => (seqF (nxt (b2 (((c2 (some (.int 0)) (c2 (b2 (b2 (some draws1) (some (.int 23)) idxD) (some (.int 10)) modD) (c2 (some (.int 60)) (some [])))).bind fun xs => fit xs.length xs).map .list) (b2 (b2 (some draws1) (some (.int 24)) idxD) (some (.int 3)) modD) idxD)) fun pause7 => (seqF (nxt ((((((c2 ((((c2 (some j3) (some [])).bind rng1D).bind (compM (turnC (fun d => some d) (fun k9 => (some true)) (fun k9 => ((c2 (b2 (some minutes5) (some k9) idxD) (c2 (some k9) (some []))).bind fun xs => fit xs.length (.tuple xs)))))).map .list) (some [])).bind sortF).map .list).bind itemsD).bind (compM (turnC un2 (fun some10 => (some true)) (fun some10 => (some some10.2))))).map .list)) fun ranked8 => (seqF (nxt (b2 (b2 (some draws1) (some (.int 25)) idxD) (b2 (some j3) (some (.int 1)) addD) modD)) fun few11 => (seqF (nxt (b2 ((c2 ((((b3 (some ranked8) (oI (some (.int 0))) (oI (some few11))).bind itemsD).bind (compM (turnC (fun d => some d) (fun k13 => (some true)) (fun k13 => (b2 (some minutes5) (some k13) idxD))))).map .list) (some [])).bind sumL) (b2 (some pause7) ((c2 (some (.int 0)) (c2 (b2 (some few11) (some (.int 1)) subD) (some []))).bind maxL) mulD) addD)) fun room12 => (seqF (nxt ((c2 (some (.int 10000)) (c2 (b2 (((c2 (some room12) (c2 ((c2 (some (.int 0)) (c2 (b2 (some room12) (some (.int 1)) subD) (some []))).bind maxL) (c2 (b2 (b2 (some draws1) (some (.int 26)) idxD) (some (.int 10001)) modD) (c2 (b2 (b2 (some draws1) (some (.int 27)) idxD) (some (.int 60)) modD) (c2 (some (.int 0)) (some [])))))).bind fun xs => fit xs.length xs).map .list) (b2 (b2 (some draws1) (some (.int 28)) idxD) (some (.int 5)) modD) idxD) (some []))).bind minL)) fun room14 => (seqF (nxt (((c2 (some minutes5) (some [])).bind listF).map .list)) fun kept15 => (seqF (nxt (((c2 (b2 (some j3) (some (.int 1)) addD) (some [])).bind rng1D).bind (compM (turnC (fun d => some d) (fun k17 => (((c2 (some minutes5) (c2 (some pause7) (c2 (some room14) (c2 (((c2 (b3 (some ranked8) (oI (some (.int 0))) (oI (some k17))) (some [])).bind sortF).map .list) (some []))))).bind (f4 d__law_fits)).bind truth)) (fun k17 => (some k17)))))) fun good16 => (seqF (nxt (b2 (some (.list good16)) (b2 ((c2 (some (.list good16)) (some [])).bind lenL) (some (.int 1)) subD) idxD)) fun most18 => (seqF (nxt ((c2 (((c2 (b3 (some ranked8) (oI (some (.int 0))) (oI (some most18))) (some [])).bind sortF).map .list) (c2 (some .none) (some []))).bind fun xs => fit xs.length (.tuple xs))) fun due19 => (seqF (iteM ((b2 (some most18) (some j3) ltD).bind isB) (seqF (nxt ((c2 (((c2 (b3 (some ranked8) (oI (some (.int 0))) (oI (some most18))) (some [])).bind sortF).map .list) (c2 (((c2 (b3 (some ranked8) (oI (some (.int 0))) (oI (b2 (some most18) (some (.int 1)) addD))) (some [])).bind sortF).map .list) (some []))).bind fun xs => fit xs.length (.tuple xs))) fun due21 => (some (.nx due21))) (some (.nx due19))) fun j20 => (seqF (((c2 (some (.int 2)) (some [])).bind rng1D).bind fun ds => forF (fun d (l22 : Unit) => ((fun d => some d) d).bind fun v23 => (seqF (nxt ((c2 (some minutes5) (c2 (some pause7) (c2 (some room14) (some [])))).bind (f3 d_most_pieces))) fun told24 => (seqF (iteM (orB ((((c2 (some told24) (c2 (some j20) (some []))).bind (f2 (d__law_same 12))).bind truth).map (!·)) ((b2 (some minutes5) (some kept15) neD).bind isB)) (some (.rt (.bool false))) (some (.nx ()))) fun (_ : Unit) => (seqF (nxt (((some (.int 0)) : Option D).bind fun _ => appN 0 told24)) fun (_ : Unit) => (some (.nx ())))))) ds ()) fun l22 => (seqF (iteM ((b2 (some j3) (some (.int 8)) ltD).bind isB) (seqF ((((c2 (some j3) (some [])).bind (f1 d__law_sets)).bind itemsD).bind fun ds => forF (fun d (l26 : Unit) => ((fun d => some d) d).bind fun v27 => (seqF (iteM ((((c2 ((c2 (some minutes5) (c2 (some pause7) (c2 (some room14) (c2 (some v27) (some []))))).bind (f4 d_fits)) (c2 ((c2 (some minutes5) (c2 (some pause7) (c2 (some room14) (c2 (some v27) (some []))))).bind (f4 d__law_fits)) (some []))).bind (f2 (d__law_same 12))).bind truth).map (!·)) ((some (.bool false)).map .rt) (some (.nx ()))) fun _ => (iteM (andB (((c2 (some minutes5) (c2 (some pause7) (c2 (some room14) (c2 (some v27) (some []))))).bind (f4 d__law_fits)).bind truth) ((b2 ((c2 (some v27) (some [])).bind lenL) (some most18) gtD).bind isB)) ((some (.bool false)).map .rt) (some (.nx ()))))) ds ()) fun l26 => (some (.nx ()))) (some (.nx ()))) fun j25 => (seqF (nxt (((c2 ((some (.int 1)).bind (cellD ns)) (c2 (some (.int 20)) (c2 (some (.int 5040)) (some [])))).bind (f3 d__law_numbers)).map .list)) fun more28 => (seqF (nxt (((c2 (b2 (some j20) (some (.int 0)) idxD) (c2 ((b2 (some j20) (some (.int 0)) idxD).bind revD) (c2 (b3 (b2 (some j20) (some (.int 0)) idxD) (oI (some (.int 1))) (some none)) (c2 (b2 (b2 (some j20) (some (.int 0)) idxD) (((c2 (some j3) (some [])).bind fun xs => fit xs.length xs).map .list) addD) (c2 (b2 (((c2 ((some (.int 1)).bind negD) (some [])).bind fun xs => fit xs.length xs).map .list) (b2 (some j20) (some (.int 0)) idxD) addD) (c2 (b2 (b2 (some j20) (some (.int 0)) idxD) (b3 (b2 (some j20) (some (.int 0)) idxD) (oI (some (.int 0))) (oI (some (.int 1)))) addD) (c2 (((some []).bind fun xs => fit xs.length xs).map .list) (c2 ((((c2 (some j3) (some [])).bind int1).bind rngF).map .list) (c2 (((c2 (b2 (b2 (some more28) (some (.int 0)) idxD) (some j3) modD) (some [])).bind fun xs => fit xs.length xs).map .list) (some [])))))))))).bind fun xs => fit xs.length xs).map .list)) fun choices29 => (seqF (nxt (b2 (some choices29) (((c2 (((c2 (b3 ((some ranked8).bind revD) (oI (some (.int 0))) (oI (some most18))) (some [])).bind sortF).map .list) (c2 (((c2 (b3 ((some ranked8).bind revD) (oI (some (.int 0))) (oI (b2 (some most18) (some (.int 1)) addD))) (some [])).bind sortF).map .list) (some []))).bind fun xs => fit xs.length xs).map .list) addD)) fun choices30 => (seqF (((some choices30).bind itemsD).bind fun ds => forF (fun d (l31 : Unit) => ((fun d => some d) d).bind fun v32 => (iteM ((((c2 ((c2 (some minutes5) (c2 (some pause7) (c2 (some room14) (c2 (some v32) (some []))))).bind (f4 d_fits)) (c2 ((c2 (some minutes5) (c2 (some pause7) (c2 (some room14) (c2 (some v32) (some []))))).bind (f4 d__law_fits)) (some []))).bind (f2 (d__law_same 12))).bind truth).map (!·)) ((some (.bool false)).map .rt) (some (.nx ())))) ds ()) fun l31 => (seqF (nxt (((c2 (some j20) (c2 (b3 (some j20) (oI (some (.int 0))) (oI (some (.int 1)))) (c2 (b2 (some j20) ((c2 (some (.int 0)) (some [])).bind fun xs => fit xs.length (.tuple xs)) addD) (c2 ((c2 (b2 (some j20) (some (.int 1)) idxD) (c2 (b2 (some j20) (some (.int 0)) idxD) (some []))).bind fun xs => fit xs.length (.tuple xs)) (c2 ((some []).bind fun xs => fit xs.length (.tuple xs)) (some [])))))).bind fun xs => fit xs.length xs).map .list)) fun papers33 => (seqF (nxt (((some papers33).bind itemsD).bind (compM (turnC (fun d => some d) (fun paper35 => (orB ((b2 ((c2 (some paper35) (some [])).bind lenL) (some (.int 2)) neD).bind isB) ((b2 (b2 (some paper35) (some (.int 0)) idxD) (some .none) isNotD).bind isB))) (fun paper35 => (some paper35)))))) fun papers34 => (seqF (((some choices30).bind itemsD).bind fun ds => forF (fun d (l36 : D) => ((fun d => some d) d).bind fun v37 => (seqF (nxt (b2 (some l36) (((c2 ((c2 (some v37) (c2 (b2 (some j20) (some (.int 1)) idxD) (some []))).bind fun xs => fit xs.length (.tuple xs)) (c2 ((c2 (b2 (some j20) (some (.int 0)) idxD) (c2 (some v37) (some []))).bind fun xs => fit xs.length (.tuple xs)) (c2 ((c2 (b2 (some j20) (some (.int 0)) idxD) (c2 (some .none) (some []))).bind fun xs => fit xs.length (.tuple xs)) (c2 ((c2 (some v37) (c2 (some .none) (some []))).bind fun xs => fit xs.length (.tuple xs)) (some []))))).bind fun xs => fit xs.length xs).map .list) addD)) fun papers38 => (some (.nx papers38)))) ds (.list papers34)) fun l36 => (seqF (((some l36).bind itemsD).bind fun ds => forF (fun d (l39 : Unit) => ((fun d => some d) d).bind fun v40 => (seqF (nxt ((c2 (some minutes5) (c2 (some pause7) (c2 (some room14) (c2 (some v40) (some []))))).bind (f4 d_judge_most_pieces))) fun answer41 => (iteM (orB ((((c2 (some answer41) (c2 ((c2 (some minutes5) (c2 (some pause7) (c2 (some room14) (c2 (some v40) (some []))))).bind (f4 d__law_accepts)) (some []))).bind (f2 (d__law_same 12))).bind truth).map (!·)) (andB ((some answer41).bind truth) ((b2 ((c2 (b2 (some v40) (some (.int 0)) idxD) (some [])).bind lenL) (some most18) neD).bind isB))) ((some (.bool false)).map .rt) (some (.nx ()))))) ds ()) fun l39 => ((some (.bool true)).map .rt)))))))))))))))))))))))))
noncomputable def d_law (ns : List Int) : Option D := outD (b_law ns)
section
variable {P : Program} {w : World} {K : PySem.W.Frag} {mg : Str → Option Value} {base : Heap}
variable (z_all : mg "all" = none) (z_bool : mg "bool" = none) (z_enumerate : mg "enumerate" = none) (z_int : mg "int" = none) (z_isinstance : mg "isinstance" = none) (z_len : mg "len" = none) (z_list : mg "list" = none) (z_max : mg "max" = none) (z_min : mg "min" = none) (z_range : mg "range" = none) (z_sorted : mg "sorted" = none) (z_str : mg "str" = none) (z_sum : mg "sum" = none) (z_tuple : mg "tuple" = none)
include z_all z_bool z_enumerate z_int z_isinstance z_len z_list z_max z_min z_range z_sorted z_str z_sum z_tuple

theorem ok__law_numbers {f : Addr} {fd : FuncData} (F : Fun K "_law_numbers" "_law_numbers" s__law_numbers f fd) : FnOk P w K mg base CX0 1 f fd ["cell", "count", "limit"] (spF K (f3 d__law_numbers)) := by
  refine fn_F (m := f3 b__law_numbers) F sc__law_numbers f3_len (f3_outF fun p_cell p_count p_limit => rfl) fun cdv A outer s H E hr ds d hd => ?_
  have nd := sc__law_numbers.nd
  have hu : (A.deeper (envOfC "_law_numbers" (defScope s__law_numbers) s.heap.objs.size f cdv)).units + 200 < cLine := by have := hr.un; omega
  obtain ⟨p_cell, p_count, p_limit, rfl⟩ := f3_args hd
  exact ⟨fun _ => [.no, .no, .no, .no, .no, .no], fun _ => [.no, .no, .no, .no, .no, .no], (db_at [.val p_cell, .val p_count, .val p_limit, .no, .no, .no] rfl (db_cons (ds_asgF (i := 3) nd rfl (.inl rfl) (df_lst da_nil) rfl (.inl rfl)) fun found1 => (db_at [.val p_cell, .val p_count, .val p_limit, .own found1, .no, .no] rfl (db_cons (ds_if (S := Unit) (post := fun _ => [.val p_cell, .val p_count, .val p_limit, .own found1, .no, .no]) (dt_cmp (op_geD' hu) (de_v (i := 0) nm_cell rfl rfl (.inl rfl)) (de_op op_powD de_int de_int) (nomark _)) (db_at [.val p_cell, .val p_count, .val p_limit, .own found1, .no, .no] rfl (db_cons (ds_for (l0 := (p_cell, found1)) (lp := fun (l2 : D × List D) => [.val l2.1, .val p_count, .val p_limit, .own l2.2, .no, .no]) (pt := fun (l2 : D × List D) (v3 : D) => [.val l2.1, .val p_count, .val p_limit, .own l2.2, .val v3, .no]) (js := [4]) PassesOwn.never rfl (.k (.k (.k (.k (.n (.n .nil)))))) (di_rng1 (by rfl) z_range (da_cons (de_v (i := 1) nm_count rfl rfl (.inl rfl)) da_nil rfl) rfl) (fun l2 => (dg_name (i := 4) nd rfl (.inl rfl) (.inl rfl))) (fun l2 v3 => (db_cons (ds_ap (i := 3) nm_found rfl rfl (.inl rfl) (de_op op_modD (de_callT (ct_int) (by rfl) z_int (by decide +kernel) (da_cons (de_v (i := 0) nm_cell rfl rfl (.inl rfl)) da_nil rfl) (by decide) (by decide) rfl rfl) (de_v (i := 2) nm_limit rfl rfl (.inl rfl))) rfl rfl rfl rfl rfl rfl) fun a4 => (db_at [.val l2.1, .val p_count, .val p_limit, .own (l2.2 ++ [a4]), .val v3, .no] rfl (db_cons (ds_asg (i := 0) nd rfl (.inl rfl) (de_op op_fdivD (de_callT (ct_int) (by rfl) z_int (by decide +kernel) (da_cons (de_v (i := 0) nm_cell rfl rfl (.inl rfl)) da_nil rfl) (by decide) (by decide) rfl rfl) (de_v (i := 2) nm_limit rfl rfl (.inl rfl))) rfl (.inl rfl)) fun cell5 => (db_at [.val cell5, .val p_count, .val p_limit, .own (l2.2 ++ [a4]), .val v3, .no] rfl (db_nil (s := (cell5, (l2.2 ++ [a4]))) (.k (.k (.k (.k (.n (.n .nil)))))))))))) (fun _ => rfl)) fun l2 => (db_at [.val l2.1, .val p_count, .val p_limit, .own l2.2, .no, .no] rfl (db_one (ds_rO (i := 3) nm_found rfl rfl (.inl rfl)))))) (db_nil (s := ()) (Wk.refl _))) fun _ => (db_at [.val p_cell, .val p_count, .val p_limit, .own found1, .no, .no] rfl (db_cons (ds_for (l0 := found1) (lp := fun (l6 : List D) => [.val p_cell, .val p_count, .val p_limit, .own l6, .no, .no]) (pt := fun (l6 : List D) (v7 : D) => [.val p_cell, .val p_count, .val p_limit, .own l6, .val v7, .no]) (js := [4]) PassesOwn.never rfl (.k (.k (.k (.k (.n (.n .nil)))))) (di_rng1 (by rfl) z_range (da_cons (de_v (i := 1) nm_count rfl rfl (.inl rfl)) da_nil rfl) rfl) (fun l6 => (dg_name (i := 4) nd rfl (.inl rfl) (.inl rfl))) (fun l6 v7 => (db_cons (ds_asg (i := 5) nd rfl (.inl rfl) (de_op op_modD (de_callT (ct_int) (by rfl) z_int (by decide +kernel) (da_cons (de_op op_addD (de_op op_addD (de_op op_mulD (de_v (i := 0) nm_cell rfl rfl (.inl rfl)) de_int) (de_op op_mulD (de_v (i := 4) nm_k rfl rfl (.inl rfl)) de_int)) de_int) da_nil rfl) (by decide) (by decide) rfl rfl) de_int) rfl (.inl rfl)) fun mixed8 => (db_at [.val p_cell, .val p_count, .val p_limit, .own l6, .val v7, .val mixed8] rfl (db_cons (ds_asg (i := 5) nd rfl (.inl rfl) (de_op op_modD (de_callT (ct_int) (by rfl) z_int (by decide +kernel) (da_cons (de_op op_addD (de_op op_addD (de_op op_addD (de_op op_mulD (de_v (i := 5) nm_mixed rfl rfl (.inl rfl)) (de_v (i := 5) nm_mixed rfl rfl (.inl rfl))) (de_op op_mulD (de_v (i := 5) nm_mixed rfl rfl (.inl rfl)) de_int)) (de_op op_mulD (de_v (i := 4) nm_k rfl rfl (.inl rfl)) de_int)) de_int) da_nil rfl) (by decide) (by decide) rfl rfl) de_int) rfl (.inl rfl)) fun mixed9 => (db_at [.val p_cell, .val p_count, .val p_limit, .own l6, .val v7, .val mixed9] rfl (db_cons (ds_ap (i := 3) nm_found rfl rfl (.inl rfl) (de_op op_modD (de_callT (ct_int) (by rfl) z_int (by decide +kernel) (da_cons (de_op op_fdivD (de_v (i := 5) nm_mixed rfl rfl (.inl rfl)) de_int) da_nil rfl) (by decide) (by decide) rfl rfl) (de_v (i := 2) nm_limit rfl rfl (.inl rfl))) rfl rfl rfl rfl rfl rfl) fun a10 => (db_at [.val p_cell, .val p_count, .val p_limit, .own (l6 ++ [a10]), .val v7, .val mixed9] rfl (db_nil (s := (l6 ++ [a10])) (.k (.k (.k (.k (.n (.n .nil)))))))))))))) (fun _ => rfl)) fun l6 => (db_at [.val p_cell, .val p_count, .val p_limit, .own l6, .no, .no] rfl (db_one (ds_rO (i := 3) nm_found rfl rfl (.inl rfl))))))))))⟩
theorem ok_is_whole {f : Addr} {fd : FuncData} (F : Fun K "is_whole" "is_whole" s_is_whole f fd) : FnOk P w K mg base CX0 1 f fd ["value"] (spD K (f1 d_is_whole)) := by
  refine fn_D (m := f1 b_is_whole) F sc_is_whole f1_len (f1_outD fun p_value => rfl) fun cdv A outer s H E hr ds d hd => ?_
  have nd := sc_is_whole.nd
  have hu : (A.deeper (envOfC "is_whole" (defScope s_is_whole) s.heap.objs.size f cdv)).units + 200 < cLine := by have := hr.un; omega
  obtain ⟨p_value, rfl⟩ := f1_args hd
  exact ⟨fun _ => [.no], fun _ => [.no], (db_at [.val p_value] rfl (db_one (ds_ret (de_and (de_isi (T := "int") (by rfl) z_isinstance (by rfl) z_int (by decide +kernel) (de_v (i := 0) nm_value rfl rfl (.inl rfl)) (by decide) (by decide) rfl rfl rfl) (de_one (de_not (de_isi (T := "bool") (by rfl) z_isinstance (by rfl) z_bool (by decide +kernel) (de_v (i := 0) nm_value rfl rfl (.inl rfl)) (by decide) (by decide) rfl rfl rfl)))))))⟩
theorem ok_is_within {f : Addr} {fd : FuncData} (F : Fun K "is_within" "is_within" s_is_within f fd) (c_is_whole : Dl.Callee P w K mg base "is_whole" ["value"] 1 (spD K (f1 d_is_whole))) : FnOk P w K mg base CX0 2 f fd ["value", "low", "high"] (spD K (f3 d_is_within)) := by
  refine fn_D (m := f3 b_is_within) F sc_is_within f3_len (f3_outD fun p_value p_low p_high => rfl) fun cdv A outer s H E hr ds d hd => ?_
  have nd := sc_is_within.nd
  have hu : (A.deeper (envOfC "is_within" (defScope s_is_within) s.heap.objs.size f cdv)).units + 200 < cLine := by have := hr.un; omega
  obtain ⟨p_value, p_low, p_high, rfl⟩ := f3_args hd
  exact ⟨fun _ => [.no, .no, .no], fun _ => [.no, .no, .no], (db_at [.val p_value, .val p_low, .val p_high] rfl (db_one (ds_ret (de_and (de_call c_is_whole (hr.mono (by decide)) (da_cons (de_v (i := 0) nm_value rfl rfl (.inl rfl)) da_nil rfl) (by rfl) (by decide) rfl rfl) (de_one (de_chain (op_leD' hu) (op_leD' hu) (de_v (i := 1) nm_low rfl rfl (.inl rfl)) (de_v (i := 0) nm_value rfl rfl (.inl rfl)) (de_v (i := 2) nm_high rfl rfl (.inl rfl)) rfl))))))⟩
theorem ok_are_numbers {f : Addr} {fd : FuncData} (F : Fun K "are_numbers" "are_numbers" s_are_numbers f fd) (c_is_within : Dl.Callee P w K mg base "is_within" ["value", "low", "high"] 2 (spD K (f3 d_is_within))) : FnOk P w K mg base CX0 3 f fd ["parts", "count"] (spD K (f2 d_are_numbers)) := by
  refine fn_D (m := f2 b_are_numbers) F sc_are_numbers f2_len (f2_outD fun p_parts p_count => rfl) fun cdv A outer s H E hr ds d hd => ?_
  have nd := sc_are_numbers.nd
  have hu : (A.deeper (envOfC "are_numbers" (defScope s_are_numbers) s.heap.objs.size f cdv)).units + 200 < cLine := by have := hr.un; omega
  obtain ⟨p_parts, p_count, rfl⟩ := f2_args hd
  exact ⟨fun _ => [.no, .no, .no, .no], fun _ => [.no, .no, .no, .no], (db_at [.val p_parts, .val p_count, .no, .no] rfl (db_cons (ds_if (S := Unit) (post := fun _ => [.val p_parts, .val p_count, .no, .no]) (dt_not (dt_truth (de_callB (cb_all rfl) (by rfl) z_all (by decide +kernel) (da_cons (DF.de (df_lc (own := [("part", 3)]) (post := fun (part1 : D) => [.val p_parts, .val p_count, .no, .val part1]) (js := [3]) rfl nd (di_seq (de_v (i := 0) nm_parts rfl rfl (.inr (.inl rfl)))) (blkOk_by (N := ["parts", "count", "k", "part"]) (sc := defScope s_are_numbers) (own := [("part", 3)]) (by decide +kernel)) (fun _ _ _ _ _ => (dg_name (i := 3) nd rfl (.inl rfl) (.inr rfl))) (fun _ _ _ _ _ part1 => dts_nil) (fun _ _ _ _ _ part1 => (de_call c_is_within (hr.mono (by decide)) (da_cons (de_v (i := 3) nm_part rfl rfl (.inl rfl)) (da_cons de_int (da_cons (de_op op_subD (de_v (i := 1) nm_count rfl rfl (.inr (.inl rfl))) de_int) da_nil rfl) rfl) rfl) (by rfl) (by decide) rfl rfl)) (by decide) (fun _ => rfl))) da_nil rfl) (by decide) (by decide) rfl rfl) (fun _ => rfl))) (db_at [.val p_parts, .val p_count, .no, .no] rfl (db_one (ds_ret de_bl))) (db_nil (s := ()) (Wk.refl _))) fun _ => (db_at [.val p_parts, .val p_count, .no, .no] rfl (db_one (ds_ret (de_callB (cb_all rfl) (by rfl) z_all (by decide +kernel) (da_cons (DF.de (df_lc (own := [("k", 2)]) (post := fun (k2 : D) => [.val p_parts, .val p_count, .val k2, .no]) (js := [2]) rfl nd (di_rng1 (by rfl) z_range (da_cons (de_op op_subD (de_callB (cb_len) (by rfl) z_len (by decide +kernel) (da_cons (de_v (i := 0) nm_parts rfl rfl (.inr (.inl rfl))) da_nil rfl) (by decide) (by decide) rfl rfl) de_int) da_nil rfl) rfl) (blkOk_by (N := ["parts", "count", "k", "part"]) (sc := defScope s_are_numbers) (own := [("k", 2)]) (by decide +kernel)) (fun _ _ _ _ _ => (dg_name (i := 2) nd rfl (.inl rfl) (.inr rfl))) (fun _ _ _ _ _ k2 => dts_nil) (fun _ _ _ _ _ k2 => (de_cmp (op_ltD' hu) (de_ix ix_D (de_v (i := 0) nm_parts rfl rfl (.inr (.inl rfl))) (de_v (i := 2) nm_k rfl rfl (.inl rfl)) (fun _ _ => rfl)) (de_ix ix_D (de_v (i := 0) nm_parts rfl rfl (.inr (.inl rfl))) (de_op op_addD (de_v (i := 2) nm_k rfl rfl (.inl rfl)) de_int) (fun _ _ => rfl)) (nomark _))) (by decide) (fun _ => rfl))) da_nil rfl) (by decide) (by decide) rfl rfl))))))⟩
theorem ok_needed {f : Addr} {fd : FuncData} (F : Fun K "needed" "needed" s_needed f fd) : FnOk P w K mg base CX0 1 f fd ["minutes", "pause", "choice"] (spD K (f3 d_needed)) := by
  refine fn_D (m := f3 b_needed) F sc_needed f3_len (f3_outD fun p_minutes p_pause p_choice => rfl) fun cdv A outer s H E hr ds d hd => ?_
  have nd := sc_needed.nd
  have hu : (A.deeper (envOfC "needed" (defScope s_needed) s.heap.objs.size f cdv)).units + 200 < cLine := by have := hr.un; omega
  obtain ⟨p_minutes, p_pause, p_choice, rfl⟩ := f3_args hd
  exact ⟨fun _ => [.no, .no, .no, .no], fun _ => [.no, .no, .no, .no], (db_at [.val p_minutes, .val p_pause, .val p_choice, .no] rfl (db_one (ds_ret (de_op op_addD (de_callB (cb_sum rfl) (by rfl) z_sum (by decide +kernel) (da_cons (DF.de (df_lc (own := [("k", 3)]) (post := fun (k1 : D) => [.val p_minutes, .val p_pause, .val p_choice, .val k1]) (js := [3]) rfl nd (di_seq (de_v (i := 2) nm_choice rfl rfl (.inl rfl))) (blkOk_by (N := ["minutes", "pause", "choice", "k"]) (sc := defScope s_needed) (own := [("k", 3)]) (by decide +kernel)) (fun _ _ _ _ _ => (dg_name (i := 3) nd rfl (.inl rfl) (.inr rfl))) (fun _ _ _ _ _ k1 => dts_nil) (fun _ _ _ _ _ k1 => (de_ix ix_D (de_v (i := 0) nm_minutes rfl rfl (.inr (.inl rfl))) (de_v (i := 3) nm_k rfl rfl (.inl rfl)) (fun _ _ => rfl))) (by decide) (fun _ => rfl))) da_nil rfl) (by decide) (by decide) rfl rfl) (de_op op_mulD (de_v (i := 1) nm_pause rfl rfl (.inl rfl)) (de_callB (cb_max rfl hu) (by rfl) z_max (by decide +kernel) (da_cons de_int (da_cons (de_op op_subD (de_callB (cb_len) (by rfl) z_len (by decide +kernel) (da_cons (de_v (i := 2) nm_choice rfl rfl (.inl rfl)) da_nil rfl) (by decide) (by decide) rfl rfl) de_int) da_nil rfl) rfl) (by decide) (by decide) rfl rfl))))))⟩
theorem ok_fits {f : Addr} {fd : FuncData} (F : Fun K "fits" "fits" s_fits f fd) (c_are_numbers : Dl.Callee P w K mg base "are_numbers" ["parts", "count"] 3 (spD K (f2 d_are_numbers))) (c_needed : Dl.Callee P w K mg base "needed" ["minutes", "pause", "choice"] 1 (spD K (f3 d_needed))) : FnOk P w K mg base CX0 4 f fd ["minutes", "pause", "room", "choice"] (spD K (f4 d_fits)) := by
  refine fn_D (m := f4 b_fits) F sc_fits f4_len (f4_outD fun p_minutes p_pause p_room p_choice => rfl) fun cdv A outer s H E hr ds d hd => ?_
  have nd := sc_fits.nd
  have hu : (A.deeper (envOfC "fits" (defScope s_fits) s.heap.objs.size f cdv)).units + 200 < cLine := by have := hr.un; omega
  obtain ⟨p_minutes, p_pause, p_room, p_choice, rfl⟩ := f4_args hd
  exact ⟨fun _ => [.no, .no, .no, .no], fun _ => [.no, .no, .no, .no], (db_at [.val p_minutes, .val p_pause, .val p_room, .val p_choice] rfl (db_one (ds_ret (de_and (de_call c_are_numbers (hr.mono (by decide)) (da_cons (de_v (i := 3) nm_choice rfl rfl (.inl rfl)) (da_cons (de_callB (cb_len) (by rfl) z_len (by decide +kernel) (da_cons (de_v (i := 0) nm_minutes rfl rfl (.inl rfl)) da_nil rfl) (by decide) (by decide) rfl rfl) da_nil rfl) rfl) (by rfl) (by decide) rfl rfl) (de_one (de_or (de_cmp (op_eqD' hu) (de_v (i := 3) nm_choice rfl rfl (.inl rfl)) (DF.de (df_lst da_nil)) (nomark _)) (de_one (de_cmp (op_leD' hu) (de_call c_needed (hr.mono (by decide)) (da_cons (de_v (i := 0) nm_minutes rfl rfl (.inl rfl)) (da_cons (de_v (i := 1) nm_pause rfl rfl (.inl rfl)) (da_cons (de_v (i := 3) nm_choice rfl rfl (.inl rfl)) da_nil rfl) rfl) rfl) (by rfl) (by decide) rfl rfl) (de_v (i := 2) nm_room rfl rfl (.inl rfl)) (nomark _)))))))))⟩
theorem ok_most_pieces {f : Addr} {fd : FuncData} (F : Fun K "most_pieces" "most_pieces" s_most_pieces f fd) (c_fits : Dl.Callee P w K mg base "fits" ["minutes", "pause", "room", "choice"] 4 (spD K (f4 d_fits))) : FnOk P w K mg base CX0 5 f fd ["minutes", "pause", "room"] (spN K 0 (f3 d_most_pieces)) := by
  refine fn_N (m := f3 b_most_pieces) F sc_most_pieces f3_len (f3_outN fun p_minutes p_pause p_room => rfl) fun cdv A outer s H E hr ds d hd => ?_
  have nd := sc_most_pieces.nd
  have hu : (A.deeper (envOfC "most_pieces" (defScope s_most_pieces) s.heap.objs.size f cdv)).units + 200 < cLine := by have := hr.un; omega
  obtain ⟨p_minutes, p_pause, p_room, rfl⟩ := f3_args hd
  exact ⟨fun _ => [.no, .no, .no, .no, .no, .no, .no, .no], fun _ => [.no, .no, .no, .no, .no, .no, .no, .no], (db_at [.val p_minutes, .val p_pause, .val p_room, .no, .no, .no, .no, .no] rfl (db_cons (ds_setLc (i := 3) (own := [("_", 5), ("k", 6)]) (post := fun (x3 : D × D) => [.val p_minutes, .val p_pause, .val p_room, .no, .no, .val x3.1, .val x3.2, .no]) (js := [5, 6]) rfl nd rfl rfl (sw_true rfl rfl rfl (by decide +kernel)) (di_seq (DF.de (df_callB (cb_sorted hu) (by rfl) z_sorted (by decide +kernel) (da_cons (DF.de (df_lc (own := [("k", 6), ("some", 7)]) (post := fun (k2 : D × D) => [.val p_minutes, .val p_pause, .val p_room, .no, .no, .no, .val k2.1, .val k2.2]) (js := [6, 7]) rfl nd (di_enum (by rfl) z_enumerate (da_cons (de_v (i := 0) nm_minutes rfl rfl (.inl rfl)) da_nil rfl) rfl) (blkOk_by (N := ["minutes", "pause", "room", "ranked", "count", "_", "k", "some"]) (sc := defScope s_most_pieces) (own := [("k", 6), ("some", 7)]) (by decide +kernel)) (fun _ _ _ _ _ => (dg_tup2 rfl (dgs_cons (i := 6) nd rfl (.inl rfl) (.inr rfl) fun _ => (dgs_cons (i := 7) nd rfl (.inl rfl) (.inr rfl) fun _ => dgs_nil)) rfl rfl (fun _ _ => rfl))) (fun _ _ _ _ _ k2 => dts_nil) (fun _ _ _ _ _ k2 => (de_tup (da_cons (de_v (i := 7) nm_some rfl rfl (.inl rfl)) (da_cons (de_v (i := 6) nm_k rfl rfl (.inl rfl)) da_nil rfl) rfl))) (by decide) (fun _ => rfl))) da_nil rfl) (by decide) (by decide) rfl rfl))) (blkOk_by (N := ["minutes", "pause", "room", "ranked", "count", "_", "k", "some"]) (sc := defScope s_most_pieces) (own := [("_", 5), ("k", 6)]) (by decide +kernel)) (fun _ _ _ _ _ => (dg_tup2 rfl (dgs_cons (i := 5) nd rfl (.inl rfl) (.inr rfl) fun _ => (dgs_cons (i := 6) nd rfl (.inl rfl) (.inr rfl) fun _ => dgs_nil)) rfl rfl (fun _ _ => rfl))) (fun _ _ _ _ _ x3 => dts_nil) (fun _ _ _ _ _ x3 => (de_v (i := 6) nm_k rfl rfl (.inl rfl))) (by decide) (fun _ => rfl)) fun ranked1 => (db_at [.val p_minutes, .val p_pause, .val p_room, .own ranked1, .no, .no, .no, .no] rfl (db_frz (i := 3) rfl (db_at [.val p_minutes, .val p_pause, .val p_room, .val (.list ranked1), .no, .no, .no, .no] rfl (db_cons (ds_asg (i := 4) nd rfl (.inl rfl) de_int rfl (.inl rfl)) fun count4 => (db_at [.val p_minutes, .val p_pause, .val p_room, .val (.list ranked1), .val count4, .no, .no, .no] rfl (db_cons (ds_while (l0 := count4) (lp := fun (l5 : D) => [.val p_minutes, .val p_pause, .val p_room, .val (.list ranked1), .val l5, .no, .no, .no]) 1000000 PassesOwn.never (.k (.k (.k (.k (.k (.n (.n (.n .nil)))))))) (fun l5 => (DW.dt (dw_and (dt_cmp (op_ltD' hu) (de_v (i := 4) nm_count rfl rfl (.inl rfl)) (de_callB (cb_len) (by rfl) z_len (by decide +kernel) (da_cons (de_v (i := 3) nm_ranked rfl rfl (.inl rfl)) da_nil rfl) (by decide) (by decide) rfl rfl) (nomark _)) (dw_and1 (dt_truth (de_call c_fits (hr.mono (by decide)) (da_cons (de_v (i := 0) nm_minutes rfl rfl (.inl rfl)) (da_cons (de_v (i := 1) nm_pause rfl rfl (.inl rfl)) (da_cons (de_v (i := 2) nm_room rfl rfl (.inl rfl)) (da_cons (DF.de (df_callB (cb_sorted hu) (by rfl) z_sorted (by decide +kernel) (da_cons (de_slice (de_v (i := 3) nm_ranked rfl rfl (.inl rfl)) do_none (do_some (de_op op_addD (de_v (i := 4) nm_count rfl rfl (.inl rfl)) de_int))) da_nil rfl) (by decide) (by decide) rfl rfl)) da_nil rfl) rfl) rfl) rfl) (by rfl) (by decide) rfl rfl) (fun _ => rfl)))))) (fun l5 => (db_at [.val p_minutes, .val p_pause, .val p_room, .val (.list ranked1), .val l5, .no, .no, .no] rfl (db_cons (ds_aug (i := 4) (d0 := l5) rfl nd rfl (.inl rfl) de_int ip_addD (.inl rfl)) fun count6 => (db_at [.val p_minutes, .val p_pause, .val p_room, .val (.list ranked1), .val count6, .no, .no, .no] rfl (db_nil (s := count6) (.k (.k (.k (.k (.k (.n (.n (.n .nil)))))))))))))) fun l5 => (db_at [.val p_minutes, .val p_pause, .val p_room, .val (.list ranked1), .val l5, .no, .no, .no] rfl (db_one (ds_retT (dan_new (df_callB (cb_sorted hu) (by rfl) z_sorted (by decide +kernel) (da_cons (de_slice (de_v (i := 3) nm_ranked rfl rfl (.inl rfl)) do_none (do_some (de_v (i := 4) nm_count rfl rfl (.inl rfl)))) da_nil rfl) (by decide) (by decide) rfl rfl) (da_cons (de_if (dt_cmp (op_eqD' hu) (de_v (i := 4) nm_count rfl rfl (.inl rfl)) (de_callB (cb_len) (by rfl) z_len (by decide +kernel) (da_cons (de_v (i := 3) nm_ranked rfl rfl (.inl rfl)) da_nil rfl) (by decide) (by decide) rfl rfl) (nomark _)) de_non (DF.de (df_callB (cb_sorted hu) (by rfl) z_sorted (by decide +kernel) (da_cons (de_slice (de_v (i := 3) nm_ranked rfl rfl (.inl rfl)) do_none (do_some (de_op op_addD (de_v (i := 4) nm_count rfl rfl (.inl rfl)) de_int))) da_nil rfl) (by decide) (by decide) rfl rfl))) da_nil rfl) rfl))))))))))))⟩
theorem ok__law_sets {f : Addr} {fd : FuncData} (F : Fun K "_law_sets" "_law_sets" s__law_sets f fd) : FnOk P w K mg base CX0 1 f fd ["count"] (spD K (f1 d__law_sets)) := by
  refine fn_D (m := f1 b__law_sets) F sc__law_sets f1_len (f1_outD fun p_count => rfl) fun cdv A outer s H E hr ds d hd => ?_
  have nd := sc__law_sets.nd
  have hu : (A.deeper (envOfC "_law_sets" (defScope s__law_sets) s.heap.objs.size f cdv)).units + 200 < cLine := by have := hr.un; omega
  obtain ⟨p_count, rfl⟩ := f1_args hd
  exact ⟨fun _ => [.no, .no, .no, .no], fun _ => [.no, .no, .no, .no], (db_at [.val p_count, .no, .no, .no] rfl (db_cons (ds_asg (i := 1) nd rfl (.inl rfl) (DF.de (df_lst (da_cons (DF.de (df_lst da_nil)) da_nil rfl))) rfl (.inl rfl)) fun found1 => (db_at [.val p_count, .val found1, .no, .no] rfl (db_cons (ds_for (l0 := found1) (lp := fun (l2 : D) => [.val p_count, .val l2, .no, .no]) (pt := fun (l2 : D) (v3 : D) => [.val p_count, .val l2, .val v3, .no]) (js := [2]) PassesOwn.never rfl (.k (.k (.n (.n .nil)))) (di_rng1 (by rfl) z_range (da_cons (de_v (i := 0) nm_count rfl rfl (.inl rfl)) da_nil rfl) rfl) (fun l2 => (dg_name (i := 2) nd rfl (.inr rfl) (.inl rfl))) (fun l2 v3 => (db_cons (ds_asg (i := 1) nd rfl (.inl rfl) (de_op op_addD (de_v (i := 1) nm_found rfl rfl (.inl rfl)) (DF.de (df_lc (own := [("some", 3)]) (post := fun (some5 : D) => [.val p_count, .val l2, .val v3, .val some5]) (js := [3]) rfl nd (di_seq (de_v (i := 1) nm_found rfl rfl (.inl rfl))) (blkOk_by (N := ["count", "found", "k", "some"]) (sc := defScope s__law_sets) (own := [("some", 3)]) (by decide +kernel)) (fun _ _ _ _ _ => (dg_name (i := 3) nd rfl (.inl rfl) (.inr rfl))) (fun _ _ _ _ _ some5 => dts_nil) (fun _ _ _ _ _ some5 => (de_op op_addD (de_v (i := 3) nm_some rfl rfl (.inl rfl)) (DF.de (df_lst (da_cons (de_v (i := 2) nm_k rfl rfl (.inr (.inl rfl))) da_nil rfl))))) (by decide) (fun _ => rfl)))) rfl (.inl rfl)) fun found4 => (db_at [.val p_count, .val found4, .val v3, .no] rfl (db_nil (s := found4) (.k (.k (.n (.n .nil)))))))) (fun _ => rfl)) fun l2 => (db_at [.val p_count, .val l2, .no, .no] rfl (db_one (ds_ret (de_v (i := 1) nm_found rfl rfl (.inl rfl)))))))))⟩
theorem ok_are_shortest {f : Addr} {fd : FuncData} (F : Fun K "are_shortest" "are_shortest" s_are_shortest f fd) : FnOk P w K mg base CX0 1 f fd ["minutes", "choice"] (spD K (f2 d_are_shortest)) := by
  refine fn_D (m := f2 b_are_shortest) F sc_are_shortest f2_len (f2_outD fun p_minutes p_choice => rfl) fun cdv A outer s H E hr ds d hd => ?_
  have nd := sc_are_shortest.nd
  have hu : (A.deeper (envOfC "are_shortest" (defScope s_are_shortest) s.heap.objs.size f cdv)).units + 200 < cLine := by have := hr.un; omega
  obtain ⟨p_minutes, p_choice, rfl⟩ := f2_args hd
  exact ⟨fun _ => [.no, .no, .no, .no, .no], fun _ => [.no, .no, .no, .no, .no], (db_at [.val p_minutes, .val p_choice, .no, .no, .no] rfl (db_cons (ds_setLc (i := 2) (own := [("k", 3), ("some", 4)]) (post := fun (k2 : D × D) => [.val p_minutes, .val p_choice, .no, .val k2.1, .val k2.2]) (js := [3, 4]) rfl nd rfl rfl (sw_true rfl rfl rfl (by decide +kernel)) (di_enum (by rfl) z_enumerate (da_cons (de_v (i := 0) nm_minutes rfl rfl (.inr (.inl rfl))) da_nil rfl) rfl) (blkOk_by (N := ["minutes", "choice", "others", "k", "some"]) (sc := defScope s_are_shortest) (own := [("k", 3), ("some", 4)]) (by decide +kernel)) (fun _ _ _ _ _ => (dg_tup2 rfl (dgs_cons (i := 3) nd rfl (.inl rfl) (.inr rfl) fun _ => (dgs_cons (i := 4) nd rfl (.inl rfl) (.inr rfl) fun _ => dgs_nil)) rfl rfl (fun _ _ => rfl))) (fun _ _ _ _ _ k2 => (dts_one (dt_cmp (op_notInD' hu) (de_v (i := 3) nm_k rfl rfl (.inl rfl)) (de_v (i := 1) nm_choice rfl rfl (.inr (.inl rfl))) rfl))) (fun _ _ _ _ _ k2 => (de_v (i := 4) nm_some rfl rfl (.inl rfl))) (by decide) (fun _ => rfl)) fun others1 => (db_at [.val p_minutes, .val p_choice, .own others1, .no, .no] rfl (db_frz (i := 2) rfl (db_at [.val p_minutes, .val p_choice, .val (.list others1), .no, .no] rfl (db_one (ds_ret (de_or (de_not (de_v (i := 2) nm_others rfl rfl (.inl rfl))) (de_one (de_cmp (op_leD' hu) (de_callB (cb_max rfl hu) (by rfl) z_max (by decide +kernel) (da_cons (DF.de (df_lc (own := [("k", 3)]) (post := fun (k3 : D) => [.val p_minutes, .val p_choice, .val (.list others1), .val k3, .no]) (js := [3]) rfl nd (di_seq (de_v (i := 1) nm_choice rfl rfl (.inr (.inl rfl)))) (blkOk_by (N := ["minutes", "choice", "others", "k", "some"]) (sc := defScope s_are_shortest) (own := [("k", 3)]) (by decide +kernel)) (fun _ _ _ _ _ => (dg_name (i := 3) nd rfl (.inl rfl) (.inr rfl))) (fun _ _ _ _ _ k3 => dts_nil) (fun _ _ _ _ _ k3 => (de_ix ix_D (de_v (i := 0) nm_minutes rfl rfl (.inr (.inl rfl))) (de_v (i := 3) nm_k rfl rfl (.inl rfl)) (fun _ _ => rfl))) (by decide) (fun _ => rfl))) da_nil rfl) (by decide) (by decide) rfl rfl) (de_callB (cb_min rfl hu) (by rfl) z_min (by decide +kernel) (da_cons (de_v (i := 2) nm_others rfl rfl (.inl rfl)) da_nil rfl) (by decide) (by decide) rfl rfl) (nomark _)))))))))))⟩
theorem ok_judge_most_pieces {f : Addr} {fd : FuncData} (F : Fun K "judge_most_pieces" "judge_most_pieces" s_judge_most_pieces f fd) (c_are_numbers : Dl.Callee P w K mg base "are_numbers" ["parts", "count"] 3 (spD K (f2 d_are_numbers))) (c_are_shortest : Dl.Callee P w K mg base "are_shortest" ["minutes", "choice"] 1 (spD K (f2 d_are_shortest))) (c_fits : Dl.Callee P w K mg base "fits" ["minutes", "pause", "room", "choice"] 4 (spD K (f4 d_fits))) : FnOk P w K mg base CX0 5 f fd ["minutes", "pause", "room", "verdict"] (spD K (f4 d_judge_most_pieces)) := by
  refine fn_D (m := f4 b_judge_most_pieces) F sc_judge_most_pieces f4_len (f4_outD fun p_minutes p_pause p_room p_verdict => rfl) fun cdv A outer s H E hr ds d hd => ?_
  have nd := sc_judge_most_pieces.nd
  have hu : (A.deeper (envOfC "judge_most_pieces" (defScope s_judge_most_pieces) s.heap.objs.size f cdv)).units + 200 < cLine := by have := hr.un; omega
  obtain ⟨p_minutes, p_pause, p_room, p_verdict, rfl⟩ := f4_args hd
  exact ⟨fun _ => [.no, .no, .no, .no, .no, .no], fun _ => [.no, .no, .no, .no, .no, .no], (db_at [.val p_minutes, .val p_pause, .val p_room, .val p_verdict, .no, .no] rfl (db_cons (ds_if (S := Unit) (post := fun _ => [.val p_minutes, .val p_pause, .val p_room, .val p_verdict, .no, .no]) (dt_cmp (op_neD' hu) (de_callB (cb_len) (by rfl) z_len (by decide +kernel) (da_cons (de_v (i := 3) nm_verdict rfl rfl (.inl rfl)) da_nil rfl) (by decide) (by decide) rfl rfl) de_int (nomark _)) (db_at [.val p_minutes, .val p_pause, .val p_room, .val p_verdict, .no, .no] rfl (db_one (ds_ret de_bl))) (db_nil (s := ()) (Wk.refl _))) fun _ => (db_at [.val p_minutes, .val p_pause, .val p_room, .val p_verdict, .no, .no] rfl (db_cons (ds_tg (post := fun (t1 : D × D) => [.val p_minutes, .val p_pause, .val p_room, .val p_verdict, .val t1.1, .val t1.2]) (de_v (i := 3) nm_verdict rfl rfl (.inl rfl)) (dg_tup2 rfl (dgs_cons (i := 4) nd rfl (.inl rfl) (.inl rfl) fun _ => (dgs_cons (i := 5) nd rfl (.inl rfl) (.inl rfl) fun _ => dgs_nil)) rfl rfl (fun _ _ => rfl)) rfl rfl rfl) fun t1 => (db_at [.val p_minutes, .val p_pause, .val p_room, .val p_verdict, .val t1.1, .val t1.2] rfl (db_cons (ds_if (S := Unit) (post := fun _ => [.val p_minutes, .val p_pause, .val p_room, .val p_verdict, .val t1.1, .val t1.2]) (dt_not (dt_truth (de_call c_fits (hr.mono (by decide)) (da_cons (de_v (i := 0) nm_minutes rfl rfl (.inl rfl)) (da_cons (de_v (i := 1) nm_pause rfl rfl (.inl rfl)) (da_cons (de_v (i := 2) nm_room rfl rfl (.inl rfl)) (da_cons (de_v (i := 4) nm_choice rfl rfl (.inl rfl)) da_nil rfl) rfl) rfl) rfl) (by rfl) (by decide) rfl rfl) (fun _ => rfl))) (db_at [.val p_minutes, .val p_pause, .val p_room, .val p_verdict, .val t1.1, .val t1.2] rfl (db_one (ds_ret de_bl))) (db_nil (s := ()) (Wk.refl _))) fun _ => (db_at [.val p_minutes, .val p_pause, .val p_room, .val p_verdict, .val t1.1, .val t1.2] rfl (db_cons (ds_if (S := Unit) (post := fun _ => [.val p_minutes, .val p_pause, .val p_room, .val p_verdict, .val t1.1, .val t1.2]) (DW.dt (dw_or (dt_cmp (op_eqD' hu) (de_callB (cb_len) (by rfl) z_len (by decide +kernel) (da_cons (de_v (i := 4) nm_choice rfl rfl (.inl rfl)) da_nil rfl) (by decide) (by decide) rfl rfl) (de_callB (cb_len) (by rfl) z_len (by decide +kernel) (da_cons (de_v (i := 0) nm_minutes rfl rfl (.inl rfl)) da_nil rfl) (by decide) (by decide) rfl rfl) (nomark _)) (dw_or1 (dt_cmp op_isD (de_v (i := 5) nm_more rfl rfl (.inl rfl)) de_non (nomark _))))) (db_at [.val p_minutes, .val p_pause, .val p_room, .val p_verdict, .val t1.1, .val t1.2] rfl (db_one (ds_ret (de_and (de_cmp (op_eqD' hu) (de_callB (cb_len) (by rfl) z_len (by decide +kernel) (da_cons (de_v (i := 4) nm_choice rfl rfl (.inl rfl)) da_nil rfl) (by decide) (by decide) rfl rfl) (de_callB (cb_len) (by rfl) z_len (by decide +kernel) (da_cons (de_v (i := 0) nm_minutes rfl rfl (.inl rfl)) da_nil rfl) (by decide) (by decide) rfl rfl) (nomark _)) (de_one (de_cmp op_isD (de_v (i := 5) nm_more rfl rfl (.inl rfl)) de_non (nomark _))))))) (db_nil (s := ()) (Wk.refl _))) fun _ => (db_at [.val p_minutes, .val p_pause, .val p_room, .val p_verdict, .val t1.1, .val t1.2] rfl (db_cons (ds_if (S := Unit) (post := fun _ => [.val p_minutes, .val p_pause, .val p_room, .val p_verdict, .val t1.1, .val t1.2]) (DW.dt (dw_or (dt_not (dt_truth (de_call c_are_numbers (hr.mono (by decide)) (da_cons (de_v (i := 5) nm_more rfl rfl (.inl rfl)) (da_cons (de_callB (cb_len) (by rfl) z_len (by decide +kernel) (da_cons (de_v (i := 0) nm_minutes rfl rfl (.inl rfl)) da_nil rfl) (by decide) (by decide) rfl rfl) da_nil rfl) rfl) (by rfl) (by decide) rfl rfl) (fun _ => rfl))) (dw_or1 (dt_cmp (op_neD' hu) (de_callB (cb_len) (by rfl) z_len (by decide +kernel) (da_cons (de_v (i := 5) nm_more rfl rfl (.inl rfl)) da_nil rfl) (by decide) (by decide) rfl rfl) (de_op op_addD (de_callB (cb_len) (by rfl) z_len (by decide +kernel) (da_cons (de_v (i := 4) nm_choice rfl rfl (.inl rfl)) da_nil rfl) (by decide) (by decide) rfl rfl) de_int) (nomark _))))) (db_at [.val p_minutes, .val p_pause, .val p_room, .val p_verdict, .val t1.1, .val t1.2] rfl (db_one (ds_ret de_bl))) (db_nil (s := ()) (Wk.refl _))) fun _ => (db_at [.val p_minutes, .val p_pause, .val p_room, .val p_verdict, .val t1.1, .val t1.2] rfl (db_one (ds_ret (de_and (de_not (de_call c_fits (hr.mono (by decide)) (da_cons (de_v (i := 0) nm_minutes rfl rfl (.inl rfl)) (da_cons (de_v (i := 1) nm_pause rfl rfl (.inl rfl)) (da_cons (de_v (i := 2) nm_room rfl rfl (.inl rfl)) (da_cons (de_v (i := 5) nm_more rfl rfl (.inl rfl)) da_nil rfl) rfl) rfl) rfl) (by rfl) (by decide) rfl rfl)) (de_one (de_call c_are_shortest (hr.mono (by decide)) (da_cons (de_v (i := 0) nm_minutes rfl rfl (.inl rfl)) (da_cons (de_v (i := 5) nm_more rfl rfl (.inl rfl)) da_nil rfl) rfl) (by rfl) (by decide) rfl rfl))))))))))))))))⟩
theorem ok__law_fits {f : Addr} {fd : FuncData} (F : Fun K "_law_fits" "_law_fits" s__law_fits f fd) : FnOk P w K mg base CX0 1 f fd ["minutes", "pause", "room", "choice"] (spD K (f4 d__law_fits)) := by
  refine fn_D (m := f4 b__law_fits) F sc__law_fits f4_len (f4_outD fun p_minutes p_pause p_room p_choice => rfl) fun cdv A outer s H E hr ds d hd => ?_
  have nd := sc__law_fits.nd
  have hu : (A.deeper (envOfC "_law_fits" (defScope s__law_fits) s.heap.objs.size f cdv)).units + 200 < cLine := by have := hr.un; omega
  obtain ⟨p_minutes, p_pause, p_room, p_choice, rfl⟩ := f4_args hd
  exact ⟨fun _ => [.no, .no, .no, .no, .no], fun _ => [.no, .no, .no, .no, .no], (db_at [.val p_minutes, .val p_pause, .val p_room, .val p_choice, .no] rfl (db_cons (ds_if (S := Unit) (post := fun _ => [.val p_minutes, .val p_pause, .val p_room, .val p_choice, .no]) (dt_cmp (op_neD' hu) (de_v (i := 3) nm_choice rfl rfl (.inr (.inl rfl))) (DF.de (df_lc (own := [("k", 4)]) (post := fun (k1 : D) => [.val p_minutes, .val p_pause, .val p_room, .val p_choice, .val k1]) (js := [4]) rfl nd (di_rng1 (by rfl) z_range (da_cons (de_callB (cb_len) (by rfl) z_len (by decide +kernel) (da_cons (de_v (i := 0) nm_minutes rfl rfl (.inr (.inl rfl))) da_nil rfl) (by decide) (by decide) rfl rfl) da_nil rfl) rfl) (blkOk_by (N := ["minutes", "pause", "room", "choice", "k"]) (sc := defScope s__law_fits) (own := [("k", 4)]) (by decide +kernel)) (fun _ _ _ _ _ => (dg_name (i := 4) nd rfl (.inl rfl) (.inr rfl))) (fun _ _ _ _ _ k1 => (dts_one (dt_cmp (op_inD' hu) (de_v (i := 4) nm_k rfl rfl (.inl rfl)) (de_v (i := 3) nm_choice rfl rfl (.inr (.inl rfl))) rfl))) (fun _ _ _ _ _ k1 => (de_v (i := 4) nm_k rfl rfl (.inl rfl))) (by decide) (fun _ => rfl))) (nomark _)) (db_at [.val p_minutes, .val p_pause, .val p_room, .val p_choice, .no] rfl (db_one (ds_ret de_bl))) (db_nil (s := ()) (Wk.refl _))) fun _ => (db_at [.val p_minutes, .val p_pause, .val p_room, .val p_choice, .no] rfl (db_one (ds_ret (de_or (de_cmp (op_eqD' hu) (de_callB (cb_len) (by rfl) z_len (by decide +kernel) (da_cons (de_v (i := 3) nm_choice rfl rfl (.inr (.inl rfl))) da_nil rfl) (by decide) (by decide) rfl rfl) de_int (nomark _)) (de_one (de_cmp (op_leD' hu) (de_op op_addD (de_callB (cb_sum rfl) (by rfl) z_sum (by decide +kernel) (da_cons (DF.de (df_lc (own := [("k", 4)]) (post := fun (k2 : D) => [.val p_minutes, .val p_pause, .val p_room, .val p_choice, .val k2]) (js := [4]) rfl nd (di_seq (de_v (i := 3) nm_choice rfl rfl (.inr (.inl rfl)))) (blkOk_by (N := ["minutes", "pause", "room", "choice", "k"]) (sc := defScope s__law_fits) (own := [("k", 4)]) (by decide +kernel)) (fun _ _ _ _ _ => (dg_name (i := 4) nd rfl (.inl rfl) (.inr rfl))) (fun _ _ _ _ _ k2 => dts_nil) (fun _ _ _ _ _ k2 => (de_ix ix_D (de_v (i := 0) nm_minutes rfl rfl (.inr (.inl rfl))) (de_v (i := 4) nm_k rfl rfl (.inl rfl)) (fun _ _ => rfl))) (by decide) (fun _ => rfl))) da_nil rfl) (by decide) (by decide) rfl rfl) (de_op op_mulD (de_v (i := 1) nm_pause rfl rfl (.inl rfl)) (de_op op_subD (de_callB (cb_len) (by rfl) z_len (by decide +kernel) (da_cons (de_v (i := 3) nm_choice rfl rfl (.inr (.inl rfl))) da_nil rfl) (by decide) (by decide) rfl rfl) de_int))) (de_v (i := 2) nm_room rfl rfl (.inl rfl)) (nomark _)))))))))⟩
theorem ok__law_same {f : Addr} {fd : FuncData} (F : Fun K "_law_same" "_law_same" s__law_same f fd) (gf : mg "_law_same" = some (.ref f)) (bf : Binds K fd ["told", "due"] []) : ∀ n : Nat, FnOk P w K mg base CX0 (0 + n) f fd ["told", "due"] (spD K (f2 (d__law_same n)))
  | 0 => fn_none fun ds => by unfold f2; split <;> rfl
  | n + 1 => by
    have c_rec : Dl.Callee P w K mg base "_law_same" ["told", "due"] (0 + n) (spD K (f2 (d__law_same n))) := ⟨f, fd, ok__law_same F gf bf  n, gf, F.kp, bf⟩
    refine fn_D (m := f2 (b__law_same (d__law_same n))) F sc__law_same f2_len (f2_outD fun p_told p_due => rfl) fun cdv A outer s H E hr ds d hd => ?_
    have nd := sc__law_same.nd
    have hu : (A.deeper (envOfC "_law_same" (defScope s__law_same) s.heap.objs.size f cdv)).units + 200 < cLine := by have := hr.un; omega
    obtain ⟨p_told, p_due, rfl⟩ := f2_args hd
    exact ⟨fun _ => [.no, .no, .no], fun _ => [.no, .no, .no], (db_at [.val p_told, .val p_due, .no] rfl (db_cons (ds_if (S := Unit) (post := fun j1 => [.val p_told, .val p_due, .no]) (dt_truth (de_isi (T := "list") (by rfl) z_isinstance (by rfl) z_list (by decide +kernel) (de_v (i := 1) nm_due rfl rfl (.inl rfl)) (by decide) (by decide) rfl rfl rfl) (fun _ => rfl)) (db_at [.val p_told, .val p_due, .no] rfl (db_one (ds_if (DW.dt (dw_or (dt_not (dt_truth (de_isi (T := "list") (by rfl) z_isinstance (by rfl) z_list (by decide +kernel) (de_v (i := 0) nm_told rfl rfl (.inl rfl)) (by decide) (by decide) rfl rfl rfl) (fun _ => rfl))) (dw_or1 (dt_cmp (op_neD' hu) (de_callB (cb_len) (by rfl) z_len (by decide +kernel) (da_cons (de_v (i := 0) nm_told rfl rfl (.inl rfl)) da_nil rfl) (by decide) (by decide) rfl rfl) (de_callB (cb_len) (by rfl) z_len (by decide +kernel) (da_cons (de_v (i := 1) nm_due rfl rfl (.inl rfl)) da_nil rfl) (by decide) (by decide) rfl rfl) (nomark _))))) (db_at [.val p_told, .val p_due, .no] rfl (db_one (ds_ret de_bl))) (db_at [.val p_told, .val p_due, .no] rfl (db_nil (s := ()) (.k (.k (.n .nil)))))))) (db_at [.val p_told, .val p_due, .no] rfl (db_one (ds_if (dt_truth (de_isi (T := "tuple") (by rfl) z_isinstance (by rfl) z_tuple (by decide +kernel) (de_v (i := 1) nm_due rfl rfl (.inl rfl)) (by decide) (by decide) rfl rfl rfl) (fun _ => rfl)) (db_at [.val p_told, .val p_due, .no] rfl (db_one (ds_if (DW.dt (dw_or (dt_not (dt_truth (de_isi (T := "tuple") (by rfl) z_isinstance (by rfl) z_tuple (by decide +kernel) (de_v (i := 0) nm_told rfl rfl (.inl rfl)) (by decide) (by decide) rfl rfl rfl) (fun _ => rfl))) (dw_or1 (dt_cmp (op_neD' hu) (de_callB (cb_len) (by rfl) z_len (by decide +kernel) (da_cons (de_v (i := 0) nm_told rfl rfl (.inl rfl)) da_nil rfl) (by decide) (by decide) rfl rfl) (de_callB (cb_len) (by rfl) z_len (by decide +kernel) (da_cons (de_v (i := 1) nm_due rfl rfl (.inl rfl)) da_nil rfl) (by decide) (by decide) rfl rfl) (nomark _))))) (db_at [.val p_told, .val p_due, .no] rfl (db_one (ds_ret de_bl))) (db_at [.val p_told, .val p_due, .no] rfl (db_nil (s := ()) (.k (.k (.n .nil)))))))) (db_at [.val p_told, .val p_due, .no] rfl (db_one (ds_if (dt_cmp op_isD (de_v (i := 1) nm_due rfl rfl (.inl rfl)) de_non (nomark _)) (db_at [.val p_told, .val p_due, .no] rfl (db_one (ds_ret (de_cmp op_isD (de_v (i := 0) nm_told rfl rfl (.inl rfl)) de_non (nomark _))))) (db_at [.val p_told, .val p_due, .no] rfl (db_one (ds_if (dt_truth (de_isi (T := "bool") (by rfl) z_isinstance (by rfl) z_bool (by decide +kernel) (de_v (i := 1) nm_due rfl rfl (.inl rfl)) (by decide) (by decide) rfl rfl rfl) (fun _ => rfl)) (db_at [.val p_told, .val p_due, .no] rfl (db_one (ds_ret (de_and (de_isi (T := "bool") (by rfl) z_isinstance (by rfl) z_bool (by decide +kernel) (de_v (i := 0) nm_told rfl rfl (.inl rfl)) (by decide) (by decide) rfl rfl rfl) (de_one (de_cmp (op_eqD' hu) (de_v (i := 0) nm_told rfl rfl (.inl rfl)) (de_v (i := 1) nm_due rfl rfl (.inl rfl)) (nomark _))))))) (db_at [.val p_told, .val p_due, .no] rfl (db_one (ds_if (dt_truth (de_isi (T := "int") (by rfl) z_isinstance (by rfl) z_int (by decide +kernel) (de_v (i := 1) nm_due rfl rfl (.inl rfl)) (by decide) (by decide) rfl rfl rfl) (fun _ => rfl)) (db_at [.val p_told, .val p_due, .no] rfl (db_one (ds_ret (de_and (de_isi (T := "int") (by rfl) z_isinstance (by rfl) z_int (by decide +kernel) (de_v (i := 0) nm_told rfl rfl (.inl rfl)) (by decide) (by decide) rfl rfl rfl) (de_and (de_not (de_isi (T := "bool") (by rfl) z_isinstance (by rfl) z_bool (by decide +kernel) (de_v (i := 0) nm_told rfl rfl (.inl rfl)) (by decide) (by decide) rfl rfl rfl)) (de_one (de_cmp (op_eqD' hu) (de_v (i := 0) nm_told rfl rfl (.inl rfl)) (de_v (i := 1) nm_due rfl rfl (.inl rfl)) (nomark _)))))))) (db_at [.val p_told, .val p_due, .no] rfl (db_one (ds_ret (de_and (de_isi (T := "str") (by rfl) z_isinstance (by rfl) z_str (by decide +kernel) (de_v (i := 0) nm_told rfl rfl (.inl rfl)) (by decide) (by decide) rfl rfl rfl) (de_one (de_cmp (op_eqD' hu) (de_v (i := 0) nm_told rfl rfl (.inl rfl)) (de_v (i := 1) nm_due rfl rfl (.inl rfl)) (nomark _)))))))))))))))))))) fun j1 => (db_at [.val p_told, .val p_due, .no] rfl (db_cons (ds_for (l0 := ()) (lp := fun (l2 : Unit) => [.val p_told, .val p_due, .no]) (pt := fun (l2 : Unit) (v3 : D) => [.val p_told, .val p_due, .val v3]) (js := [2]) PassesOwn.never rfl (.k (.k (.n .nil))) (di_rng1 (by rfl) z_range (da_cons (de_callB (cb_len) (by rfl) z_len (by decide +kernel) (da_cons (de_v (i := 1) nm_due rfl rfl (.inl rfl)) da_nil rfl) (by decide) (by decide) rfl rfl) da_nil rfl) rfl) (fun l2 => (dg_name (i := 2) nd rfl (.inl rfl) (.inl rfl))) (fun l2 v3 => (db_one (ds_if (dt_not (dt_truth (de_call c_rec hr (da_cons (de_ix ix_D (de_v (i := 0) nm_told rfl rfl (.inl rfl)) (de_v (i := 2) nm_k rfl rfl (.inl rfl)) (fun _ _ => rfl)) (da_cons (de_ix ix_D (de_v (i := 1) nm_due rfl rfl (.inl rfl)) (de_v (i := 2) nm_k rfl rfl (.inl rfl)) (fun _ _ => rfl)) da_nil rfl) rfl) (by rfl) (by decide) rfl rfl) (fun _ => rfl))) (db_at [.val p_told, .val p_due, .val v3] rfl (db_one (ds_ret de_bl))) (db_at [.val p_told, .val p_due, .val v3] rfl (db_nil (s := ()) (.k (.k (.n .nil)))))))) (fun _ => rfl)) fun l2 => (db_at [.val p_told, .val p_due, .no] rfl (db_one (ds_ret de_bl)))))))⟩
theorem ok__law_accepts {f : Addr} {fd : FuncData} (F : Fun K "_law_accepts" "_law_accepts" s__law_accepts f fd) (c__law_fits : Dl.Callee P w K mg base "_law_fits" ["minutes", "pause", "room", "choice"] 1 (spD K (f4 d__law_fits))) : FnOk P w K mg base CX0 2 f fd ["minutes", "pause", "room", "paper"] (spD K (f4 d__law_accepts)) := by
  refine fn_D (m := f4 b__law_accepts) F sc__law_accepts f4_len (f4_outD fun p_minutes p_pause p_room p_paper => rfl) fun cdv A outer s H E hr ds d hd => ?_
  have nd := sc__law_accepts.nd
  have hu : (A.deeper (envOfC "_law_accepts" (defScope s__law_accepts) s.heap.objs.size f cdv)).units + 200 < cLine := by have := hr.un; omega
  obtain ⟨p_minutes, p_pause, p_room, p_paper, rfl⟩ := f4_args hd
  exact ⟨fun _ => [.no, .no, .no, .no, .no, .no, .no, .no], fun _ => [.no, .no, .no, .no, .no, .no, .no, .no], (db_at [.val p_minutes, .val p_pause, .val p_room, .val p_paper, .no, .no, .no, .no] rfl (db_cons (ds_if (S := Unit) (post := fun _ => [.val p_minutes, .val p_pause, .val p_room, .val p_paper, .no, .no, .no, .no]) (dt_cmp (op_neD' hu) (de_callB (cb_len) (by rfl) z_len (by decide +kernel) (da_cons (de_v (i := 3) nm_paper rfl rfl (.inl rfl)) da_nil rfl) (by decide) (by decide) rfl rfl) de_int (nomark _)) (db_at [.val p_minutes, .val p_pause, .val p_room, .val p_paper, .no, .no, .no, .no] rfl (db_one (ds_ret de_bl))) (db_nil (s := ()) (Wk.refl _))) fun _ => (db_at [.val p_minutes, .val p_pause, .val p_room, .val p_paper, .no, .no, .no, .no] rfl (db_cons (ds_tg (post := fun (t1 : D × D) => [.val p_minutes, .val p_pause, .val p_room, .val p_paper, .val t1.1, .val t1.2, .no, .no]) (de_v (i := 3) nm_paper rfl rfl (.inl rfl)) (dg_tup2 rfl (dgs_cons (i := 4) nd rfl (.inl rfl) (.inl rfl) fun _ => (dgs_cons (i := 5) nd rfl (.inr rfl) (.inl rfl) fun _ => dgs_nil)) rfl rfl (fun _ _ => rfl)) rfl rfl rfl) fun t1 => (db_at [.val p_minutes, .val p_pause, .val p_room, .val p_paper, .val t1.1, .val t1.2, .no, .no] rfl (db_cons (ds_if (S := Unit) (post := fun _ => [.val p_minutes, .val p_pause, .val p_room, .val p_paper, .val t1.1, .val t1.2, .no, .no]) (dt_not (dt_truth (de_call c__law_fits (hr.mono (by decide)) (da_cons (de_v (i := 0) nm_minutes rfl rfl (.inr (.inl rfl))) (da_cons (de_v (i := 1) nm_pause rfl rfl (.inl rfl)) (da_cons (de_v (i := 2) nm_room rfl rfl (.inl rfl)) (da_cons (de_v (i := 4) nm_choice rfl rfl (.inl rfl)) da_nil rfl) rfl) rfl) rfl) (by rfl) (by decide) rfl rfl) (fun _ => rfl))) (db_at [.val p_minutes, .val p_pause, .val p_room, .val p_paper, .val t1.1, .val t1.2, .no, .no] rfl (db_one (ds_ret de_bl))) (db_nil (s := ()) (Wk.refl _))) fun _ => (db_at [.val p_minutes, .val p_pause, .val p_room, .val p_paper, .val t1.1, .val t1.2, .no, .no] rfl (db_cons (ds_if (S := Unit) (post := fun _ => [.val p_minutes, .val p_pause, .val p_room, .val p_paper, .val t1.1, .val t1.2, .no, .no]) (DW.dt (dw_or (dt_cmp op_isD (de_v (i := 5) nm_more rfl rfl (.inr (.inl rfl))) de_non (nomark _)) (dw_or1 (dt_cmp (op_eqD' hu) (de_callB (cb_len) (by rfl) z_len (by decide +kernel) (da_cons (de_v (i := 4) nm_choice rfl rfl (.inl rfl)) da_nil rfl) (by decide) (by decide) rfl rfl) (de_callB (cb_len) (by rfl) z_len (by decide +kernel) (da_cons (de_v (i := 0) nm_minutes rfl rfl (.inr (.inl rfl))) da_nil rfl) (by decide) (by decide) rfl rfl) (nomark _))))) (db_at [.val p_minutes, .val p_pause, .val p_room, .val p_paper, .val t1.1, .val t1.2, .no, .no] rfl (db_one (ds_ret (de_and (de_cmp op_isD (de_v (i := 5) nm_more rfl rfl (.inr (.inl rfl))) de_non (nomark _)) (de_one (de_cmp (op_eqD' hu) (de_callB (cb_len) (by rfl) z_len (by decide +kernel) (da_cons (de_v (i := 4) nm_choice rfl rfl (.inl rfl)) da_nil rfl) (by decide) (by decide) rfl rfl) (de_callB (cb_len) (by rfl) z_len (by decide +kernel) (da_cons (de_v (i := 0) nm_minutes rfl rfl (.inr (.inl rfl))) da_nil rfl) (by decide) (by decide) rfl rfl) (nomark _))))))) (db_nil (s := ()) (Wk.refl _))) fun _ => (db_at [.val p_minutes, .val p_pause, .val p_room, .val p_paper, .val t1.1, .val t1.2, .no, .no] rfl (db_cons (ds_if (S := Unit) (post := fun _ => [.val p_minutes, .val p_pause, .val p_room, .val p_paper, .val t1.1, .val t1.2, .no, .no]) (DW.dt (dw_or (dt_cmp (op_neD' hu) (de_v (i := 5) nm_more rfl rfl (.inr (.inl rfl))) (DF.de (df_lc (own := [("k", 6)]) (post := fun (k2 : D) => [.val p_minutes, .val p_pause, .val p_room, .val p_paper, .val t1.1, .val t1.2, .val k2, .no]) (js := [6]) rfl nd (di_rng1 (by rfl) z_range (da_cons (de_callB (cb_len) (by rfl) z_len (by decide +kernel) (da_cons (de_v (i := 0) nm_minutes rfl rfl (.inr (.inl rfl))) da_nil rfl) (by decide) (by decide) rfl rfl) da_nil rfl) rfl) (blkOk_by (N := ["minutes", "pause", "room", "paper", "choice", "more", "k", "j"]) (sc := defScope s__law_accepts) (own := [("k", 6)]) (by decide +kernel)) (fun _ _ _ _ _ => (dg_name (i := 6) nd rfl (.inl rfl) (.inr rfl))) (fun _ _ _ _ _ k2 => (dts_one (dt_cmp (op_inD' hu) (de_v (i := 6) nm_k rfl rfl (.inl rfl)) (de_v (i := 5) nm_more rfl rfl (.inr (.inl rfl))) rfl))) (fun _ _ _ _ _ k2 => (de_v (i := 6) nm_k rfl rfl (.inl rfl))) (by decide) (fun _ => rfl))) (nomark _)) (dw_or1 (dt_cmp (op_neD' hu) (de_callB (cb_len) (by rfl) z_len (by decide +kernel) (da_cons (de_v (i := 5) nm_more rfl rfl (.inr (.inl rfl))) da_nil rfl) (by decide) (by decide) rfl rfl) (de_op op_addD (de_callB (cb_len) (by rfl) z_len (by decide +kernel) (da_cons (de_v (i := 4) nm_choice rfl rfl (.inl rfl)) da_nil rfl) (by decide) (by decide) rfl rfl) de_int) (nomark _))))) (db_at [.val p_minutes, .val p_pause, .val p_room, .val p_paper, .val t1.1, .val t1.2, .no, .no] rfl (db_one (ds_ret de_bl))) (db_nil (s := ()) (Wk.refl _))) fun _ => (db_at [.val p_minutes, .val p_pause, .val p_room, .val p_paper, .val t1.1, .val t1.2, .no, .no] rfl (db_cons (ds_for (l0 := ()) (lp := fun (l3 : Unit) => [.val p_minutes, .val p_pause, .val p_room, .val p_paper, .val t1.1, .val t1.2, .no, .no]) (pt := fun (l3 : Unit) (v4 : D) => [.val p_minutes, .val p_pause, .val p_room, .val p_paper, .val t1.1, .val t1.2, .val v4, .no]) (js := [6]) PassesOwn.never rfl (.k (.k (.k (.k (.k (.k (.n (.n .nil)))))))) (di_rng1 (by rfl) z_range (da_cons (de_callB (cb_len) (by rfl) z_len (by decide +kernel) (da_cons (de_v (i := 0) nm_minutes rfl rfl (.inr (.inl rfl))) da_nil rfl) (by decide) (by decide) rfl rfl) da_nil rfl) rfl) (fun l3 => (dg_name (i := 6) nd rfl (.inr rfl) (.inl rfl))) (fun l3 v4 => (db_one (ds_if (DW.dt (dw_and (dt_cmp (op_notInD' hu) (de_v (i := 6) nm_k rfl rfl (.inr (.inl rfl))) (de_v (i := 5) nm_more rfl rfl (.inr (.inl rfl))) rfl) (dw_and1 (dt_cmp (op_gtD' hu) (de_callB (cb_len) (by rfl) z_len (by decide +kernel) (da_cons (DF.de (df_lc (own := [("j", 7)]) (post := fun (j5 : D) => [.val p_minutes, .val p_pause, .val p_room, .val p_paper, .val t1.1, .val t1.2, .val v4, .val j5]) (js := [7]) rfl nd (di_seq (de_v (i := 5) nm_more rfl rfl (.inr (.inl rfl)))) (blkOk_by (N := ["minutes", "pause", "room", "paper", "choice", "more", "k", "j"]) (sc := defScope s__law_accepts) (own := [("j", 7)]) (by decide +kernel)) (fun _ _ _ _ _ => (dg_name (i := 7) nd rfl (.inl rfl) (.inr rfl))) (fun _ _ _ _ _ j5 => (dts_one (dt_cmp (op_gtD' hu) (de_ix ix_D (de_v (i := 0) nm_minutes rfl rfl (.inr (.inl rfl))) (de_v (i := 7) nm_j rfl rfl (.inl rfl)) (fun _ _ => rfl)) (de_ix ix_D (de_v (i := 0) nm_minutes rfl rfl (.inr (.inl rfl))) (de_v (i := 6) nm_k rfl rfl (.inr (.inl rfl))) (fun _ _ => rfl)) (nomark _)))) (fun _ _ _ _ _ j5 => (de_v (i := 7) nm_j rfl rfl (.inl rfl))) (by decide) (fun _ => rfl))) da_nil rfl) (by decide) (by decide) rfl rfl) de_int (nomark _))))) (db_at [.val p_minutes, .val p_pause, .val p_room, .val p_paper, .val t1.1, .val t1.2, .val v4, .no] rfl (db_one (ds_ret de_bl))) (db_at [.val p_minutes, .val p_pause, .val p_room, .val p_paper, .val t1.1, .val t1.2, .val v4, .no] rfl (db_nil (s := ()) (.k (.k (.k (.k (.k (.k (.n (.n .nil))))))))))))) (fun _ => rfl)) fun l3 => (db_at [.val p_minutes, .val p_pause, .val p_room, .val p_paper, .val t1.1, .val t1.2, .no, .no] rfl (db_one (ds_ret (de_not (de_call c__law_fits (hr.mono (by decide)) (da_cons (de_v (i := 0) nm_minutes rfl rfl (.inr (.inl rfl))) (da_cons (de_v (i := 1) nm_pause rfl rfl (.inl rfl)) (da_cons (de_v (i := 2) nm_room rfl rfl (.inl rfl)) (da_cons (de_v (i := 5) nm_more rfl rfl (.inr (.inl rfl))) da_nil rfl) rfl) rfl) rfl) (by rfl) (by decide) rfl rfl)))))))))))))))))⟩
theorem ok_law {f : Addr} {fd : FuncData} (F : Fun K "law" "law" s_law f fd) (c__law_accepts : Dl.Callee P w K mg base "_law_accepts" ["minutes", "pause", "room", "paper"] 2 (spD K (f4 d__law_accepts))) (c__law_cell : Dl.Callee P w K mg base "_law_cell" ["script", "k"] 1 (spCell K)) (c__law_fits : Dl.Callee P w K mg base "_law_fits" ["minutes", "pause", "room", "choice"] 1 (spD K (f4 d__law_fits))) (c__law_numbers : Dl.Callee P w K mg base "_law_numbers" ["cell", "count", "limit"] 1 (spF K (f3 d__law_numbers))) (c__law_same : Dl.Callee P w K mg base "_law_same" ["told", "due"] 12 (spD K (f2 (d__law_same 12)))) (c__law_sets : Dl.Callee P w K mg base "_law_sets" ["count"] 1 (spD K (f1 d__law_sets))) (c_fits : Dl.Callee P w K mg base "fits" ["minutes", "pause", "room", "choice"] 4 (spD K (f4 d_fits))) (c_judge_most_pieces : Dl.Callee P w K mg base "judge_most_pieces" ["minutes", "pause", "room", "verdict"] 5 (spD K (f4 d_judge_most_pieces))) (c_most_pieces : Dl.Callee P w K mg base "most_pieces" ["minutes", "pause", "room"] 5 (spN K 0 (f3 d_most_pieces))) : FnOk P w K mg base CX0 13 f fd ["script"] (spLaw K d_law) := by
  refine fn_law (m := b_law) F sc_law (fun _ => rfl) fun cdv A outer s H E hr ns hl => ?_
  have nd := sc_law.nd
  have hu : (A.deeper (envOfC "law" (defScope s_law) s.heap.objs.size f cdv)).units + 200 < cLine := by have := hr.un; omega
  exact ⟨fun _ => [.no, .no, .no, .no, .no, .no, .no, .no, .no, .no, .no, .no, .no, .no, .no, .no, .no, .no, .no, .no, .no, .no], fun _ => [.no, .no, .no, .no, .no, .no, .no, .no, .no, .no, .no, .no, .no, .no, .no, .no, .no, .no, .no, .no, .no, .no], (db_at [.scr ns, .no, .no, .no, .no, .no, .no, .no, .no, .no, .no, .no, .no, .no, .no, .no, .no, .no, .no, .no, .no, .no] rfl (db_cons (ds_asg (i := 1) nd rfl (.inr rfl) (DF.de (df_call c__law_numbers (hr.mono (by decide)) (da_cons (de_cell c__law_cell (hr.mono (by decide)) (i := 0) nm_script hl rfl rfl (.inl rfl) de_int (by rfl) (by decide) rfl rfl rfl) (da_cons de_int (da_cons de_int da_nil rfl) rfl) rfl) (by rfl) (by decide) rfl rfl)) rfl (.inl rfl)) fun draws1 => (db_at [.scr ns, .val draws1, .no, .no, .no, .no, .no, .no, .no, .no, .no, .no, .no, .no, .no, .no, .no, .no, .no, .no, .no, .no] rfl (db_cons (ds_asg (i := 2) nd rfl (.inl rfl) (de_op op_addD de_int (de_op op_modD (de_ix ix_D (de_v (i := 1) nm_draws rfl rfl (.inr (.inl rfl))) de_int (fun _ _ => rfl)) de_int)) rfl (.inl rfl)) fun count2 => (db_at [.scr ns, .val draws1, .val count2, .no, .no, .no, .no, .no, .no, .no, .no, .no, .no, .no, .no, .no, .no, .no, .no, .no, .no, .no] rfl (db_cons (ds_if (S := D) (post := fun j3 => [.scr ns, .val draws1, .val j3, .no, .no, .no, .no, .no, .no, .no, .no, .no, .no, .no, .no, .no, .no, .no, .no, .no, .no, .no]) (dt_cmp (op_eqD' hu) (de_op op_modD (de_ix ix_D (de_v (i := 1) nm_draws rfl rfl (.inr (.inl rfl))) de_int (fun _ _ => rfl)) de_int) de_int (nomark _)) (db_at [.scr ns, .val draws1, .val count2, .no, .no, .no, .no, .no, .no, .no, .no, .no, .no, .no, .no, .no, .no, .no, .no, .no, .no, .no] rfl (db_cons (ds_asg (i := 2) nd rfl (.inl rfl) de_int rfl (.inl rfl)) fun count4 => (db_at [.scr ns, .val draws1, .val count4, .no, .no, .no, .no, .no, .no, .no, .no, .no, .no, .no, .no, .no, .no, .no, .no, .no, .no, .no] rfl (db_nil (s := count4) (.k (.k (.k (.n (.n (.n (.n (.n (.n (.n (.n (.n (.n (.n (.n (.n (.n (.n (.n (.n (.n (.n .nil)))))))))))))))))))))))))) (db_at [.scr ns, .val draws1, .val count2, .no, .no, .no, .no, .no, .no, .no, .no, .no, .no, .no, .no, .no, .no, .no, .no, .no, .no, .no] rfl (db_nil (s := count2) (.k (.k (.k (.n (.n (.n (.n (.n (.n (.n (.n (.n (.n (.n (.n (.n (.n (.n (.n (.n (.n (.n .nil))))))))))))))))))))))))) fun j3 => (db_at [.scr ns, .val draws1, .val j3, .no, .no, .no, .no, .no, .no, .no, .no, .no, .no, .no, .no, .no, .no, .no, .no, .no, .no, .no] rfl (db_cons (ds_asg (i := 3) nd rfl (.inr rfl) (DF.de (df_lc (own := [("k", 20)]) (post := fun (k6 : D) => [.scr ns, .val draws1, .val j3, .no, .no, .no, .no, .no, .no, .no, .no, .no, .no, .no, .no, .no, .no, .no, .no, .no, .val k6, .no]) (js := [20]) rfl nd (di_rng1 (by rfl) z_range (da_cons (de_v (i := 2) nm_count rfl rfl (.inl rfl)) da_nil rfl) rfl) (blkOk_by (N := ["script", "draws", "count", "minutes", "pause", "ranked", "few", "room", "kept", "good", "most", "due", "turn", "told", "choice", "more", "choices", "papers", "paper", "answer", "k", "some"]) (sc := defScope s_law) (own := [("k", 20)]) (by decide +kernel)) (fun _ _ _ _ _ => (dg_name (i := 20) nd rfl (.inl rfl) (.inr rfl))) (fun _ _ _ _ _ k6 => dts_nil) (fun _ _ _ _ _ k6 => (de_op op_addD de_int (de_op op_modD (de_ix ix_D (de_v (i := 1) nm_draws rfl rfl (.inr (.inl rfl))) (de_op op_addD de_int (de_v (i := 20) nm_k rfl rfl (.inl rfl))) (fun _ _ => rfl)) (de_ix ix_D (DF.de (df_lst (da_cons de_int (da_cons de_int (da_cons de_int da_nil rfl) rfl) rfl))) (de_op op_modD (de_ix ix_D (de_v (i := 1) nm_draws rfl rfl (.inr (.inl rfl))) de_int (fun _ _ => rfl)) de_int) (fun _ _ => rfl))))) (by decide) (fun _ => rfl))) rfl (.inl rfl)) fun minutes5 => (db_at [.scr ns, .val draws1, .val j3, .val minutes5, .no, .no, .no, .no, .no, .no, .no, .no, .no, .no, .no, .no, .no, .no, .no, .no, .no, .no] rfl (db_cons (ds_asg (i := 4) nd rfl (.inr rfl) (de_ix ix_D (DF.de (df_lst (da_cons de_int (da_cons (de_op op_modD (de_ix ix_D (de_v (i := 1) nm_draws rfl rfl (.inr (.inl rfl))) de_int (fun _ _ => rfl)) de_int) (da_cons de_int da_nil rfl) rfl) rfl))) (de_op op_modD (de_ix ix_D (de_v (i := 1) nm_draws rfl rfl (.inr (.inl rfl))) de_int (fun _ _ => rfl)) de_int) (fun _ _ => rfl)) rfl (.inl rfl)) fun pause7 => (db_at [.scr ns, .val draws1, .val j3, .val minutes5, .val pause7, .no, .no, .no, .no, .no, .no, .no, .no, .no, .no, .no, .no, .no, .no, .no, .no, .no] rfl (db_cons (ds_asg (i := 5) nd rfl (.inr rfl) (DF.de (df_lc (own := [("some", 21), ("k", 20)]) (post := fun (some10 : D × D) => [.scr ns, .val draws1, .val j3, .val minutes5, .val pause7, .no, .no, .no, .no, .no, .no, .no, .no, .no, .no, .no, .no, .no, .no, .no, .val some10.2, .val some10.1]) (js := [21, 20]) rfl nd (di_seq (DF.de (df_callB (cb_sorted hu) (by rfl) z_sorted (by decide +kernel) (da_cons (DF.de (df_lc (own := [("k", 20)]) (post := fun (k9 : D) => [.scr ns, .val draws1, .val j3, .val minutes5, .val pause7, .no, .no, .no, .no, .no, .no, .no, .no, .no, .no, .no, .no, .no, .no, .no, .val k9, .no]) (js := [20]) rfl nd (di_rng1 (by rfl) z_range (da_cons (de_v (i := 2) nm_count rfl rfl (.inl rfl)) da_nil rfl) rfl) (blkOk_by (N := ["script", "draws", "count", "minutes", "pause", "ranked", "few", "room", "kept", "good", "most", "due", "turn", "told", "choice", "more", "choices", "papers", "paper", "answer", "k", "some"]) (sc := defScope s_law) (own := [("k", 20)]) (by decide +kernel)) (fun _ _ _ _ _ => (dg_name (i := 20) nd rfl (.inl rfl) (.inr rfl))) (fun _ _ _ _ _ k9 => dts_nil) (fun _ _ _ _ _ k9 => (de_tup (da_cons (de_ix ix_D (de_v (i := 3) nm_minutes rfl rfl (.inr (.inl rfl))) (de_v (i := 20) nm_k rfl rfl (.inl rfl)) (fun _ _ => rfl)) (da_cons (de_v (i := 20) nm_k rfl rfl (.inl rfl)) da_nil rfl) rfl))) (by decide) (fun _ => rfl))) da_nil rfl) (by decide) (by decide) rfl rfl))) (blkOk_by (N := ["script", "draws", "count", "minutes", "pause", "ranked", "few", "room", "kept", "good", "most", "due", "turn", "told", "choice", "more", "choices", "papers", "paper", "answer", "k", "some"]) (sc := defScope s_law) (own := [("some", 21), ("k", 20)]) (by decide +kernel)) (fun _ _ _ _ _ => (dg_tup2 rfl (dgs_cons (i := 21) nd rfl (.inl rfl) (.inr rfl) fun _ => (dgs_cons (i := 20) nd rfl (.inl rfl) (.inr rfl) fun _ => dgs_nil)) rfl rfl (fun _ _ => rfl))) (fun _ _ _ _ _ some10 => dts_nil) (fun _ _ _ _ _ some10 => (de_v (i := 20) nm_k rfl rfl (.inl rfl))) (by decide) (fun _ => rfl))) rfl (.inl rfl)) fun ranked8 => (db_at [.scr ns, .val draws1, .val j3, .val minutes5, .val pause7, .val ranked8, .no, .no, .no, .no, .no, .no, .no, .no, .no, .no, .no, .no, .no, .no, .no, .no] rfl (db_cons (ds_asg (i := 6) nd rfl (.inl rfl) (de_op op_modD (de_ix ix_D (de_v (i := 1) nm_draws rfl rfl (.inr (.inl rfl))) de_int (fun _ _ => rfl)) (de_op op_addD (de_v (i := 2) nm_count rfl rfl (.inl rfl)) de_int)) rfl (.inl rfl)) fun few11 => (db_at [.scr ns, .val draws1, .val j3, .val minutes5, .val pause7, .val ranked8, .val few11, .no, .no, .no, .no, .no, .no, .no, .no, .no, .no, .no, .no, .no, .no, .no] rfl (db_cons (ds_asg (i := 7) nd rfl (.inr rfl) (de_op op_addD (de_callB (cb_sum rfl) (by rfl) z_sum (by decide +kernel) (da_cons (DF.de (df_lc (own := [("k", 20)]) (post := fun (k13 : D) => [.scr ns, .val draws1, .val j3, .val minutes5, .val pause7, .val ranked8, .val few11, .no, .no, .no, .no, .no, .no, .no, .no, .no, .no, .no, .no, .no, .val k13, .no]) (js := [20]) rfl nd (di_seq (de_slice (de_v (i := 5) nm_ranked rfl rfl (.inr (.inl rfl))) (do_some de_int) (do_some (de_v (i := 6) nm_few rfl rfl (.inl rfl))))) (blkOk_by (N := ["script", "draws", "count", "minutes", "pause", "ranked", "few", "room", "kept", "good", "most", "due", "turn", "told", "choice", "more", "choices", "papers", "paper", "answer", "k", "some"]) (sc := defScope s_law) (own := [("k", 20)]) (by decide +kernel)) (fun _ _ _ _ _ => (dg_name (i := 20) nd rfl (.inl rfl) (.inr rfl))) (fun _ _ _ _ _ k13 => dts_nil) (fun _ _ _ _ _ k13 => (de_ix ix_D (de_v (i := 3) nm_minutes rfl rfl (.inr (.inl rfl))) (de_v (i := 20) nm_k rfl rfl (.inl rfl)) (fun _ _ => rfl))) (by decide) (fun _ => rfl))) da_nil rfl) (by decide) (by decide) rfl rfl) (de_op op_mulD (de_v (i := 4) nm_pause rfl rfl (.inr (.inl rfl))) (de_callB (cb_max rfl hu) (by rfl) z_max (by decide +kernel) (da_cons de_int (da_cons (de_op op_subD (de_v (i := 6) nm_few rfl rfl (.inl rfl)) de_int) da_nil rfl) rfl) (by decide) (by decide) rfl rfl))) rfl (.inl rfl)) fun room12 => (db_at [.scr ns, .val draws1, .val j3, .val minutes5, .val pause7, .val ranked8, .val few11, .val room12, .no, .no, .no, .no, .no, .no, .no, .no, .no, .no, .no, .no, .no, .no] rfl (db_cons (ds_asg (i := 7) nd rfl (.inr rfl) (de_callB (cb_min rfl hu) (by rfl) z_min (by decide +kernel) (da_cons de_int (da_cons (de_ix ix_D (DF.de (df_lst (da_cons (de_v (i := 7) nm_room rfl rfl (.inr (.inl rfl))) (da_cons (de_callB (cb_max rfl hu) (by rfl) z_max (by decide +kernel) (da_cons de_int (da_cons (de_op op_subD (de_v (i := 7) nm_room rfl rfl (.inr (.inl rfl))) de_int) da_nil rfl) rfl) (by decide) (by decide) rfl rfl) (da_cons (de_op op_modD (de_ix ix_D (de_v (i := 1) nm_draws rfl rfl (.inr (.inl rfl))) de_int (fun _ _ => rfl)) de_int) (da_cons (de_op op_modD (de_ix ix_D (de_v (i := 1) nm_draws rfl rfl (.inr (.inl rfl))) de_int (fun _ _ => rfl)) de_int) (da_cons de_int da_nil rfl) rfl) rfl) rfl) rfl))) (de_op op_modD (de_ix ix_D (de_v (i := 1) nm_draws rfl rfl (.inr (.inl rfl))) de_int (fun _ _ => rfl)) de_int) (fun _ _ => rfl)) da_nil rfl) rfl) (by decide) (by decide) rfl rfl) rfl (.inl rfl)) fun room14 => (db_at [.scr ns, .val draws1, .val j3, .val minutes5, .val pause7, .val ranked8, .val few11, .val room14, .no, .no, .no, .no, .no, .no, .no, .no, .no, .no, .no, .no, .no, .no] rfl (db_cons (ds_asg (i := 8) nd rfl (.inl rfl) (DF.de (df_callT ct_list (by rfl) z_list (by decide +kernel) (da_cons (de_v (i := 3) nm_minutes rfl rfl (.inr (.inl rfl))) da_nil rfl) (by decide) (by decide) rfl rfl)) rfl (.inl rfl)) fun kept15 => (db_at [.scr ns, .val draws1, .val j3, .val minutes5, .val pause7, .val ranked8, .val few11, .val room14, .val kept15, .no, .no, .no, .no, .no, .no, .no, .no, .no, .no, .no, .no, .no] rfl (db_cons (ds_setLc (i := 9) (own := [("k", 20)]) (post := fun (k17 : D) => [.scr ns, .val draws1, .val j3, .val minutes5, .val pause7, .val ranked8, .val few11, .val room14, .val kept15, .no, .no, .no, .no, .no, .no, .no, .no, .no, .no, .no, .val k17, .no]) (js := [20]) rfl nd rfl rfl (sw_true rfl rfl rfl (by decide +kernel)) (di_rng1 (by rfl) z_range (da_cons (de_op op_addD (de_v (i := 2) nm_count rfl rfl (.inl rfl)) de_int) da_nil rfl) rfl) (blkOk_by (N := ["script", "draws", "count", "minutes", "pause", "ranked", "few", "room", "kept", "good", "most", "due", "turn", "told", "choice", "more", "choices", "papers", "paper", "answer", "k", "some"]) (sc := defScope s_law) (own := [("k", 20)]) (by decide +kernel)) (fun _ _ _ _ _ => (dg_name (i := 20) nd rfl (.inl rfl) (.inr rfl))) (fun _ _ _ _ _ k17 => (dts_one (dt_truth (de_call c__law_fits (hr.mono (by decide)) (da_cons (de_v (i := 3) nm_minutes rfl rfl (.inr (.inl rfl))) (da_cons (de_v (i := 4) nm_pause rfl rfl (.inr (.inl rfl))) (da_cons (de_v (i := 7) nm_room rfl rfl (.inr (.inl rfl))) (da_cons (DF.de (df_callB (cb_sorted hu) (by rfl) z_sorted (by decide +kernel) (da_cons (de_slice (de_v (i := 5) nm_ranked rfl rfl (.inr (.inl rfl))) (do_some de_int) (do_some (de_v (i := 20) nm_k rfl rfl (.inl rfl)))) da_nil rfl) (by decide) (by decide) rfl rfl)) da_nil rfl) rfl) rfl) rfl) (by rfl) (by decide) rfl rfl) (fun _ => rfl)))) (fun _ _ _ _ _ k17 => (de_v (i := 20) nm_k rfl rfl (.inl rfl))) (by decide) (fun _ => rfl)) fun good16 => (db_at [.scr ns, .val draws1, .val j3, .val minutes5, .val pause7, .val ranked8, .val few11, .val room14, .val kept15, .own good16, .no, .no, .no, .no, .no, .no, .no, .no, .no, .no, .no, .no] rfl (db_frz (i := 9) rfl (db_at [.scr ns, .val draws1, .val j3, .val minutes5, .val pause7, .val ranked8, .val few11, .val room14, .val kept15, .val (.list good16), .no, .no, .no, .no, .no, .no, .no, .no, .no, .no, .no, .no] rfl (db_cons (ds_asg (i := 10) nd rfl (.inl rfl) (de_ix ix_D (de_v (i := 9) nm_good rfl rfl (.inl rfl)) (de_op op_subD (de_callB (cb_len) (by rfl) z_len (by decide +kernel) (da_cons (de_v (i := 9) nm_good rfl rfl (.inl rfl)) da_nil rfl) (by decide) (by decide) rfl rfl) de_int) (fun _ _ => rfl)) rfl (.inl rfl)) fun most18 => (db_at [.scr ns, .val draws1, .val j3, .val minutes5, .val pause7, .val ranked8, .val few11, .val room14, .val kept15, .val (.list good16), .val most18, .no, .no, .no, .no, .no, .no, .no, .no, .no, .no, .no] rfl (db_cons (ds_asg (i := 11) nd rfl (.inl rfl) (de_tup (da_cons (DF.de (df_callB (cb_sorted hu) (by rfl) z_sorted (by decide +kernel) (da_cons (de_slice (de_v (i := 5) nm_ranked rfl rfl (.inr (.inl rfl))) (do_some de_int) (do_some (de_v (i := 10) nm_most rfl rfl (.inl rfl)))) da_nil rfl) (by decide) (by decide) rfl rfl)) (da_cons de_non da_nil rfl) rfl)) rfl (.inl rfl)) fun due19 => (db_at [.scr ns, .val draws1, .val j3, .val minutes5, .val pause7, .val ranked8, .val few11, .val room14, .val kept15, .val (.list good16), .val most18, .val due19, .no, .no, .no, .no, .no, .no, .no, .no, .no, .no] rfl (db_cons (ds_if (S := D) (post := fun j20 => [.scr ns, .val draws1, .val j3, .val minutes5, .val pause7, .val ranked8, .val few11, .val room14, .val kept15, .val (.list good16), .val most18, .val j20, .no, .no, .no, .no, .no, .no, .no, .no, .no, .no]) (dt_cmp (op_ltD' hu) (de_v (i := 10) nm_most rfl rfl (.inl rfl)) (de_v (i := 2) nm_count rfl rfl (.inl rfl)) (nomark _)) (db_at [.scr ns, .val draws1, .val j3, .val minutes5, .val pause7, .val ranked8, .val few11, .val room14, .val kept15, .val (.list good16), .val most18, .val due19, .no, .no, .no, .no, .no, .no, .no, .no, .no, .no] rfl (db_cons (ds_asg (i := 11) nd rfl (.inl rfl) (de_tup (da_cons (DF.de (df_callB (cb_sorted hu) (by rfl) z_sorted (by decide +kernel) (da_cons (de_slice (de_v (i := 5) nm_ranked rfl rfl (.inr (.inl rfl))) (do_some de_int) (do_some (de_v (i := 10) nm_most rfl rfl (.inl rfl)))) da_nil rfl) (by decide) (by decide) rfl rfl)) (da_cons (DF.de (df_callB (cb_sorted hu) (by rfl) z_sorted (by decide +kernel) (da_cons (de_slice (de_v (i := 5) nm_ranked rfl rfl (.inr (.inl rfl))) (do_some de_int) (do_some (de_op op_addD (de_v (i := 10) nm_most rfl rfl (.inl rfl)) de_int))) da_nil rfl) (by decide) (by decide) rfl rfl)) da_nil rfl) rfl)) rfl (.inl rfl)) fun due21 => (db_at [.scr ns, .val draws1, .val j3, .val minutes5, .val pause7, .val ranked8, .val few11, .val room14, .val kept15, .val (.list good16), .val most18, .val due21, .no, .no, .no, .no, .no, .no, .no, .no, .no, .no] rfl (db_nil (s := due21) (.k (.k (.k (.k (.k (.k (.k (.k (.k (.k (.k (.k (.n (.n (.n (.n (.n (.n (.n (.n (.n (.n .nil)))))))))))))))))))))))))) (db_at [.scr ns, .val draws1, .val j3, .val minutes5, .val pause7, .val ranked8, .val few11, .val room14, .val kept15, .val (.list good16), .val most18, .val due19, .no, .no, .no, .no, .no, .no, .no, .no, .no, .no] rfl (db_nil (s := due19) (.k (.k (.k (.k (.k (.k (.k (.k (.k (.k (.k (.k (.n (.n (.n (.n (.n (.n (.n (.n (.n (.n .nil))))))))))))))))))))))))) fun j20 => (db_at [.scr ns, .val draws1, .val j3, .val minutes5, .val pause7, .val ranked8, .val few11, .val room14, .val kept15, .val (.list good16), .val most18, .val j20, .no, .no, .no, .no, .no, .no, .no, .no, .no, .no] rfl (db_cons (ds_for (l0 := ()) (lp := fun (l22 : Unit) => [.scr ns, .val draws1, .val j3, .val minutes5, .val pause7, .val ranked8, .val few11, .val room14, .val kept15, .val (.list good16), .val most18, .val j20, .no, .no, .no, .no, .no, .no, .no, .no, .no, .no]) (pt := fun (l22 : Unit) (v23 : D) => [.scr ns, .val draws1, .val j3, .val minutes5, .val pause7, .val ranked8, .val few11, .val room14, .val kept15, .val (.list good16), .val most18, .val j20, .val v23, .no, .no, .no, .no, .no, .no, .no, .no, .no]) (js := [12]) PassesOwn.never rfl (.k (.k (.k (.k (.k (.k (.k (.k (.k (.k (.k (.k (.n (.n (.n (.n (.n (.n (.n (.n (.n (.n .nil)))))))))))))))))))))) (di_rng1 (by rfl) z_range (da_cons de_int da_nil rfl) rfl) (fun l22 => (dg_name (i := 12) nd rfl (.inl rfl) (.inl rfl))) (fun l22 v23 => (db_told (i := 13) (k := 0) nd rfl (by simp) (.inl rfl) (.inl rfl) nm_told (.inl rfl) (dn_call c_most_pieces (hr.mono (by decide)) (da_cons (de_v (i := 3) nm_minutes rfl rfl (.inr (.inl rfl))) (da_cons (de_v (i := 4) nm_pause rfl rfl (.inr (.inl rfl))) (da_cons (de_v (i := 7) nm_room rfl rfl (.inr (.inl rfl))) da_nil rfl) rfl) rfl) (by rfl) (by decide) rfl rfl) rfl (fun told24 => (DW.dt (dw_or (dt_not (dt_truth (de_call c__law_same (hr.mono (by decide)) (da_cons (de_v (i := 13) nm_told rfl rfl (.inl rfl)) (da_cons (de_v (i := 11) nm_due rfl rfl (.inl rfl)) da_nil rfl) rfl) (by rfl) (by decide) rfl rfl) (fun _ => rfl))) (dw_or1 (dt_cmp (op_neD' hu) (de_v (i := 3) nm_minutes rfl rfl (.inr (.inl rfl))) (de_v (i := 8) nm_kept rfl rfl (.inl rfl)) (nomark _)))))) (fun told24 => de_int) (fun _ _ => rfl) rfl rfl rfl rfl rfl rfl (db_at [.scr ns, .val draws1, .val j3, .val minutes5, .val pause7, .val ranked8, .val few11, .val room14, .val kept15, .val (.list good16), .val most18, .val j20, .val v23, .no, .no, .no, .no, .no, .no, .no, .no, .no] rfl (db_nil (s := ()) (.k (.k (.k (.k (.k (.k (.k (.k (.k (.k (.k (.k (.n (.n (.n (.n (.n (.n (.n (.n (.n (.n .nil)))))))))))))))))))))))))) (fun _ => rfl)) fun l22 => (db_at [.scr ns, .val draws1, .val j3, .val minutes5, .val pause7, .val ranked8, .val few11, .val room14, .val kept15, .val (.list good16), .val most18, .val j20, .no, .no, .no, .no, .no, .no, .no, .no, .no, .no] rfl (db_cons (ds_if (S := Unit) (post := fun j25 => [.scr ns, .val draws1, .val j3, .val minutes5, .val pause7, .val ranked8, .val few11, .val room14, .val kept15, .val (.list good16), .val most18, .val j20, .no, .no, .no, .no, .no, .no, .no, .no, .no, .no]) (dt_cmp (op_ltD' hu) (de_v (i := 2) nm_count rfl rfl (.inl rfl)) de_int (nomark _)) (db_at [.scr ns, .val draws1, .val j3, .val minutes5, .val pause7, .val ranked8, .val few11, .val room14, .val kept15, .val (.list good16), .val most18, .val j20, .no, .no, .no, .no, .no, .no, .no, .no, .no, .no] rfl (db_cons (ds_for (l0 := ()) (lp := fun (l26 : Unit) => [.scr ns, .val draws1, .val j3, .val minutes5, .val pause7, .val ranked8, .val few11, .val room14, .val kept15, .val (.list good16), .val most18, .val j20, .no, .no, .no, .no, .no, .no, .no, .no, .no, .no]) (pt := fun (l26 : Unit) (v27 : D) => [.scr ns, .val draws1, .val j3, .val minutes5, .val pause7, .val ranked8, .val few11, .val room14, .val kept15, .val (.list good16), .val most18, .val j20, .no, .no, .val v27, .no, .no, .no, .no, .no, .no, .no]) (js := [14]) PassesOwn.never rfl (.k (.k (.k (.k (.k (.k (.k (.k (.k (.k (.k (.k (.n (.n (.n (.n (.n (.n (.n (.n (.n (.n .nil)))))))))))))))))))))) (di_seq (de_call c__law_sets (hr.mono (by decide)) (da_cons (de_v (i := 2) nm_count rfl rfl (.inl rfl)) da_nil rfl) (by rfl) (by decide) rfl rfl)) (fun l26 => (dg_name (i := 14) nd rfl (.inl rfl) (.inl rfl))) (fun l26 v27 => (db_cons (ds_if (S := Unit) (post := fun _ => [.scr ns, .val draws1, .val j3, .val minutes5, .val pause7, .val ranked8, .val few11, .val room14, .val kept15, .val (.list good16), .val most18, .val j20, .no, .no, .val v27, .no, .no, .no, .no, .no, .no, .no]) (dt_not (dt_truth (de_call c__law_same (hr.mono (by decide)) (da_cons (de_call c_fits (hr.mono (by decide)) (da_cons (de_v (i := 3) nm_minutes rfl rfl (.inr (.inl rfl))) (da_cons (de_v (i := 4) nm_pause rfl rfl (.inr (.inl rfl))) (da_cons (de_v (i := 7) nm_room rfl rfl (.inr (.inl rfl))) (da_cons (de_v (i := 14) nm_choice rfl rfl (.inl rfl)) da_nil rfl) rfl) rfl) rfl) (by rfl) (by decide) rfl rfl) (da_cons (de_call c__law_fits (hr.mono (by decide)) (da_cons (de_v (i := 3) nm_minutes rfl rfl (.inr (.inl rfl))) (da_cons (de_v (i := 4) nm_pause rfl rfl (.inr (.inl rfl))) (da_cons (de_v (i := 7) nm_room rfl rfl (.inr (.inl rfl))) (da_cons (de_v (i := 14) nm_choice rfl rfl (.inl rfl)) da_nil rfl) rfl) rfl) rfl) (by rfl) (by decide) rfl rfl) da_nil rfl) rfl) (by rfl) (by decide) rfl rfl) (fun _ => rfl))) (db_at [.scr ns, .val draws1, .val j3, .val minutes5, .val pause7, .val ranked8, .val few11, .val room14, .val kept15, .val (.list good16), .val most18, .val j20, .no, .no, .val v27, .no, .no, .no, .no, .no, .no, .no] rfl (db_one (ds_ret de_bl))) (db_nil (s := ()) (Wk.refl _))) fun _ => (db_at [.scr ns, .val draws1, .val j3, .val minutes5, .val pause7, .val ranked8, .val few11, .val room14, .val kept15, .val (.list good16), .val most18, .val j20, .no, .no, .val v27, .no, .no, .no, .no, .no, .no, .no] rfl (db_one (ds_if (DW.dt (dw_and (dt_truth (de_call c__law_fits (hr.mono (by decide)) (da_cons (de_v (i := 3) nm_minutes rfl rfl (.inr (.inl rfl))) (da_cons (de_v (i := 4) nm_pause rfl rfl (.inr (.inl rfl))) (da_cons (de_v (i := 7) nm_room rfl rfl (.inr (.inl rfl))) (da_cons (de_v (i := 14) nm_choice rfl rfl (.inl rfl)) da_nil rfl) rfl) rfl) rfl) (by rfl) (by decide) rfl rfl) (fun _ => rfl)) (dw_and1 (dt_cmp (op_gtD' hu) (de_callB (cb_len) (by rfl) z_len (by decide +kernel) (da_cons (de_v (i := 14) nm_choice rfl rfl (.inl rfl)) da_nil rfl) (by decide) (by decide) rfl rfl) (de_v (i := 10) nm_most rfl rfl (.inl rfl)) (nomark _))))) (db_at [.scr ns, .val draws1, .val j3, .val minutes5, .val pause7, .val ranked8, .val few11, .val room14, .val kept15, .val (.list good16), .val most18, .val j20, .no, .no, .val v27, .no, .no, .no, .no, .no, .no, .no] rfl (db_one (ds_ret de_bl))) (db_at [.scr ns, .val draws1, .val j3, .val minutes5, .val pause7, .val ranked8, .val few11, .val room14, .val kept15, .val (.list good16), .val most18, .val j20, .no, .no, .val v27, .no, .no, .no, .no, .no, .no, .no] rfl (db_nil (s := ()) (.k (.k (.k (.k (.k (.k (.k (.k (.k (.k (.k (.k (.n (.n (.n (.n (.n (.n (.n (.n (.n (.n .nil))))))))))))))))))))))))))))) (fun _ => rfl)) fun l26 => (db_at [.scr ns, .val draws1, .val j3, .val minutes5, .val pause7, .val ranked8, .val few11, .val room14, .val kept15, .val (.list good16), .val most18, .val j20, .no, .no, .no, .no, .no, .no, .no, .no, .no, .no] rfl (db_nil (s := ()) (.k (.k (.k (.k (.k (.k (.k (.k (.k (.k (.k (.k (.n (.n (.n (.n (.n (.n (.n (.n (.n (.n .nil)))))))))))))))))))))))))) (db_at [.scr ns, .val draws1, .val j3, .val minutes5, .val pause7, .val ranked8, .val few11, .val room14, .val kept15, .val (.list good16), .val most18, .val j20, .no, .no, .no, .no, .no, .no, .no, .no, .no, .no] rfl (db_nil (s := ()) (.k (.k (.k (.k (.k (.k (.k (.k (.k (.k (.k (.k (.n (.n (.n (.n (.n (.n (.n (.n (.n (.n .nil))))))))))))))))))))))))) fun j25 => (db_at [.scr ns, .val draws1, .val j3, .val minutes5, .val pause7, .val ranked8, .val few11, .val room14, .val kept15, .val (.list good16), .val most18, .val j20, .no, .no, .no, .no, .no, .no, .no, .no, .no, .no] rfl (db_cons (ds_asg (i := 15) nd rfl (.inl rfl) (DF.de (df_call c__law_numbers (hr.mono (by decide)) (da_cons (de_cell c__law_cell (hr.mono (by decide)) (i := 0) nm_script hl rfl rfl (.inl rfl) de_int (by rfl) (by decide) rfl rfl rfl) (da_cons de_int (da_cons de_int da_nil rfl) rfl) rfl) (by rfl) (by decide) rfl rfl)) rfl (.inl rfl)) fun more28 => (db_at [.scr ns, .val draws1, .val j3, .val minutes5, .val pause7, .val ranked8, .val few11, .val room14, .val kept15, .val (.list good16), .val most18, .val j20, .no, .no, .no, .val more28, .no, .no, .no, .no, .no, .no] rfl (db_cons (ds_asg (i := 16) nd rfl (.inl rfl) (DF.de (df_lst (da_cons (de_ix ix_D (de_v (i := 11) nm_due rfl rfl (.inl rfl)) de_int (fun _ _ => rfl)) (da_cons (de_rev (de_ix ix_D (de_v (i := 11) nm_due rfl rfl (.inl rfl)) de_int (fun _ _ => rfl))) (da_cons (de_slice (de_ix ix_D (de_v (i := 11) nm_due rfl rfl (.inl rfl)) de_int (fun _ _ => rfl)) (do_some de_int) do_none) (da_cons (de_op op_addD (de_ix ix_D (de_v (i := 11) nm_due rfl rfl (.inl rfl)) de_int (fun _ _ => rfl)) (DF.de (df_lst (da_cons (de_v (i := 2) nm_count rfl rfl (.inl rfl)) da_nil rfl)))) (da_cons (de_op op_addD (DF.de (df_lst (da_cons (de_un un_negD de_int) da_nil rfl))) (de_ix ix_D (de_v (i := 11) nm_due rfl rfl (.inl rfl)) de_int (fun _ _ => rfl))) (da_cons (de_op op_addD (de_ix ix_D (de_v (i := 11) nm_due rfl rfl (.inl rfl)) de_int (fun _ _ => rfl)) (de_slice (de_ix ix_D (de_v (i := 11) nm_due rfl rfl (.inl rfl)) de_int (fun _ _ => rfl)) (do_some de_int) (do_some de_int))) (da_cons (DF.de (df_lst da_nil)) (da_cons (DF.de (df_listRg rfl (by rfl) z_list (dr_1 (by rfl) z_range (de_v (i := 2) nm_count rfl rfl (.inl rfl)) rfl) rfl)) (da_cons (DF.de (df_lst (da_cons (de_op op_modD (de_ix ix_D (de_v (i := 15) nm_more rfl rfl (.inl rfl)) de_int (fun _ _ => rfl)) (de_v (i := 2) nm_count rfl rfl (.inl rfl))) da_nil rfl))) da_nil rfl) rfl) rfl) rfl) rfl) rfl) rfl) rfl) rfl))) rfl (.inl rfl)) fun choices29 => (db_at [.scr ns, .val draws1, .val j3, .val minutes5, .val pause7, .val ranked8, .val few11, .val room14, .val kept15, .val (.list good16), .val most18, .val j20, .no, .no, .no, .val more28, .val choices29, .no, .no, .no, .no, .no] rfl (db_cons (ds_asg (i := 16) nd rfl (.inl rfl) (de_op op_addD (de_v (i := 16) nm_choices rfl rfl (.inl rfl)) (DF.de (df_lst (da_cons (DF.de (df_callB (cb_sorted hu) (by rfl) z_sorted (by decide +kernel) (da_cons (de_slice (de_rev (de_v (i := 5) nm_ranked rfl rfl (.inr (.inl rfl)))) (do_some de_int) (do_some (de_v (i := 10) nm_most rfl rfl (.inl rfl)))) da_nil rfl) (by decide) (by decide) rfl rfl)) (da_cons (DF.de (df_callB (cb_sorted hu) (by rfl) z_sorted (by decide +kernel) (da_cons (de_slice (de_rev (de_v (i := 5) nm_ranked rfl rfl (.inr (.inl rfl)))) (do_some de_int) (do_some (de_op op_addD (de_v (i := 10) nm_most rfl rfl (.inl rfl)) de_int))) da_nil rfl) (by decide) (by decide) rfl rfl)) da_nil rfl) rfl)))) rfl (.inl rfl)) fun choices30 => (db_at [.scr ns, .val draws1, .val j3, .val minutes5, .val pause7, .val ranked8, .val few11, .val room14, .val kept15, .val (.list good16), .val most18, .val j20, .no, .no, .no, .val more28, .val choices30, .no, .no, .no, .no, .no] rfl (db_cons (ds_for (l0 := ()) (lp := fun (l31 : Unit) => [.scr ns, .val draws1, .val j3, .val minutes5, .val pause7, .val ranked8, .val few11, .val room14, .val kept15, .val (.list good16), .val most18, .val j20, .no, .no, .no, .val more28, .val choices30, .no, .no, .no, .no, .no]) (pt := fun (l31 : Unit) (v32 : D) => [.scr ns, .val draws1, .val j3, .val minutes5, .val pause7, .val ranked8, .val few11, .val room14, .val kept15, .val (.list good16), .val most18, .val j20, .no, .no, .val v32, .val more28, .val choices30, .no, .no, .no, .no, .no]) (js := [14]) PassesOwn.never rfl (.k (.k (.k (.k (.k (.k (.k (.k (.k (.k (.k (.k (.n (.n (.n (.k (.k (.n (.n (.n (.n (.n .nil)))))))))))))))))))))) (di_seq (de_v (i := 16) nm_choices rfl rfl (.inl rfl))) (fun l31 => (dg_name (i := 14) nd rfl (.inl rfl) (.inl rfl))) (fun l31 v32 => (db_one (ds_if (dt_not (dt_truth (de_call c__law_same (hr.mono (by decide)) (da_cons (de_call c_fits (hr.mono (by decide)) (da_cons (de_v (i := 3) nm_minutes rfl rfl (.inr (.inl rfl))) (da_cons (de_v (i := 4) nm_pause rfl rfl (.inr (.inl rfl))) (da_cons (de_v (i := 7) nm_room rfl rfl (.inr (.inl rfl))) (da_cons (de_v (i := 14) nm_choice rfl rfl (.inl rfl)) da_nil rfl) rfl) rfl) rfl) (by rfl) (by decide) rfl rfl) (da_cons (de_call c__law_fits (hr.mono (by decide)) (da_cons (de_v (i := 3) nm_minutes rfl rfl (.inr (.inl rfl))) (da_cons (de_v (i := 4) nm_pause rfl rfl (.inr (.inl rfl))) (da_cons (de_v (i := 7) nm_room rfl rfl (.inr (.inl rfl))) (da_cons (de_v (i := 14) nm_choice rfl rfl (.inl rfl)) da_nil rfl) rfl) rfl) rfl) (by rfl) (by decide) rfl rfl) da_nil rfl) rfl) (by rfl) (by decide) rfl rfl) (fun _ => rfl))) (db_at [.scr ns, .val draws1, .val j3, .val minutes5, .val pause7, .val ranked8, .val few11, .val room14, .val kept15, .val (.list good16), .val most18, .val j20, .no, .no, .val v32, .val more28, .val choices30, .no, .no, .no, .no, .no] rfl (db_one (ds_ret de_bl))) (db_at [.scr ns, .val draws1, .val j3, .val minutes5, .val pause7, .val ranked8, .val few11, .val room14, .val kept15, .val (.list good16), .val most18, .val j20, .no, .no, .val v32, .val more28, .val choices30, .no, .no, .no, .no, .no] rfl (db_nil (s := ()) (.k (.k (.k (.k (.k (.k (.k (.k (.k (.k (.k (.k (.n (.n (.n (.k (.k (.n (.n (.n (.n (.n .nil))))))))))))))))))))))))))) (fun _ => rfl)) fun l31 => (db_at [.scr ns, .val draws1, .val j3, .val minutes5, .val pause7, .val ranked8, .val few11, .val room14, .val kept15, .val (.list good16), .val most18, .val j20, .no, .no, .no, .val more28, .val choices30, .no, .no, .no, .no, .no] rfl (db_cons (ds_asg (i := 17) nd rfl (.inl rfl) (DF.de (df_lst (da_cons (de_v (i := 11) nm_due rfl rfl (.inl rfl)) (da_cons (de_slice (de_v (i := 11) nm_due rfl rfl (.inl rfl)) (do_some de_int) (do_some de_int)) (da_cons (de_op op_addD (de_v (i := 11) nm_due rfl rfl (.inl rfl)) (de_tup (da_cons de_int da_nil rfl))) (da_cons (de_tup (da_cons (de_ix ix_D (de_v (i := 11) nm_due rfl rfl (.inl rfl)) de_int (fun _ _ => rfl)) (da_cons (de_ix ix_D (de_v (i := 11) nm_due rfl rfl (.inl rfl)) de_int (fun _ _ => rfl)) da_nil rfl) rfl)) (da_cons (de_tup da_nil) da_nil rfl) rfl) rfl) rfl) rfl))) rfl (.inl rfl)) fun papers33 => (db_at [.scr ns, .val draws1, .val j3, .val minutes5, .val pause7, .val ranked8, .val few11, .val room14, .val kept15, .val (.list good16), .val most18, .val j20, .no, .no, .no, .val more28, .val choices30, .val papers33, .no, .no, .no, .no] rfl (db_cons (ds_setLc (i := 17) (own := [("paper", 18)]) (post := fun (paper35 : D) => [.scr ns, .val draws1, .val j3, .val minutes5, .val pause7, .val ranked8, .val few11, .val room14, .val kept15, .val (.list good16), .val most18, .val j20, .no, .no, .no, .val more28, .val choices30, .val papers33, .val paper35, .no, .no, .no]) (js := [18]) rfl nd rfl rfl (sw_true rfl rfl rfl (by decide +kernel)) (di_seq (de_v (i := 17) nm_papers rfl rfl (.inl rfl))) (blkOk_by (N := ["script", "draws", "count", "minutes", "pause", "ranked", "few", "room", "kept", "good", "most", "due", "turn", "told", "choice", "more", "choices", "papers", "paper", "answer", "k", "some"]) (sc := defScope s_law) (own := [("paper", 18)]) (by decide +kernel)) (fun _ _ _ _ _ => (dg_name (i := 18) nd rfl (.inl rfl) (.inr rfl))) (fun _ _ _ _ _ paper35 => (dts_one (DW.dt (dw_or (dt_cmp (op_neD' hu) (de_callB (cb_len) (by rfl) z_len (by decide +kernel) (da_cons (de_v (i := 18) nm_paper rfl rfl (.inl rfl)) da_nil rfl) (by decide) (by decide) rfl rfl) de_int (nomark _)) (dw_or1 (dt_cmp op_isNotD (de_ix ix_D (de_v (i := 18) nm_paper rfl rfl (.inl rfl)) de_int (fun _ _ => rfl)) de_non (nomark _))))))) (fun _ _ _ _ _ paper35 => (de_v (i := 18) nm_paper rfl rfl (.inl rfl))) (by decide) (fun _ => rfl)) fun papers34 => (db_at [.scr ns, .val draws1, .val j3, .val minutes5, .val pause7, .val ranked8, .val few11, .val room14, .val kept15, .val (.list good16), .val most18, .val j20, .no, .no, .no, .val more28, .val choices30, .own papers34, .no, .no, .no, .no] rfl (db_frz (i := 17) rfl (db_at [.scr ns, .val draws1, .val j3, .val minutes5, .val pause7, .val ranked8, .val few11, .val room14, .val kept15, .val (.list good16), .val most18, .val j20, .no, .no, .no, .val more28, .val choices30, .val (.list papers34), .no, .no, .no, .no] rfl (db_cons (ds_for (l0 := (.list papers34)) (lp := fun (l36 : D) => [.scr ns, .val draws1, .val j3, .val minutes5, .val pause7, .val ranked8, .val few11, .val room14, .val kept15, .val (.list good16), .val most18, .val j20, .no, .no, .no, .val more28, .val choices30, .val l36, .no, .no, .no, .no]) (pt := fun (l36 : D) (v37 : D) => [.scr ns, .val draws1, .val j3, .val minutes5, .val pause7, .val ranked8, .val few11, .val room14, .val kept15, .val (.list good16), .val most18, .val j20, .no, .no, .val v37, .val more28, .val choices30, .val l36, .no, .no, .no, .no]) (js := [14]) PassesOwn.never rfl (.k (.k (.k (.k (.k (.k (.k (.k (.k (.k (.k (.k (.n (.n (.n (.k (.k (.k (.n (.n (.n (.n .nil)))))))))))))))))))))) (di_seq (de_v (i := 16) nm_choices rfl rfl (.inl rfl))) (fun l36 => (dg_name (i := 14) nd rfl (.inl rfl) (.inl rfl))) (fun l36 v37 => (db_cons (ds_asg (i := 17) nd rfl (.inl rfl) (de_op op_addD (de_v (i := 17) nm_papers rfl rfl (.inl rfl)) (DF.de (df_lst (da_cons (de_tup (da_cons (de_v (i := 14) nm_choice rfl rfl (.inl rfl)) (da_cons (de_ix ix_D (de_v (i := 11) nm_due rfl rfl (.inl rfl)) de_int (fun _ _ => rfl)) da_nil rfl) rfl)) (da_cons (de_tup (da_cons (de_ix ix_D (de_v (i := 11) nm_due rfl rfl (.inl rfl)) de_int (fun _ _ => rfl)) (da_cons (de_v (i := 14) nm_choice rfl rfl (.inl rfl)) da_nil rfl) rfl)) (da_cons (de_tup (da_cons (de_ix ix_D (de_v (i := 11) nm_due rfl rfl (.inl rfl)) de_int (fun _ _ => rfl)) (da_cons de_non da_nil rfl) rfl)) (da_cons (de_tup (da_cons (de_v (i := 14) nm_choice rfl rfl (.inl rfl)) (da_cons de_non da_nil rfl) rfl)) da_nil rfl) rfl) rfl) rfl)))) rfl (.inl rfl)) fun papers38 => (db_at [.scr ns, .val draws1, .val j3, .val minutes5, .val pause7, .val ranked8, .val few11, .val room14, .val kept15, .val (.list good16), .val most18, .val j20, .no, .no, .val v37, .val more28, .val choices30, .val papers38, .no, .no, .no, .no] rfl (db_nil (s := papers38) (.k (.k (.k (.k (.k (.k (.k (.k (.k (.k (.k (.k (.n (.n (.n (.k (.k (.k (.n (.n (.n (.n .nil)))))))))))))))))))))))))) (fun _ => rfl)) fun l36 => (db_at [.scr ns, .val draws1, .val j3, .val minutes5, .val pause7, .val ranked8, .val few11, .val room14, .val kept15, .val (.list good16), .val most18, .val j20, .no, .no, .no, .val more28, .val choices30, .val l36, .no, .no, .no, .no] rfl (db_cons (ds_for (l0 := ()) (lp := fun (l39 : Unit) => [.scr ns, .val draws1, .val j3, .val minutes5, .val pause7, .val ranked8, .val few11, .val room14, .val kept15, .val (.list good16), .val most18, .val j20, .no, .no, .no, .val more28, .val choices30, .val l36, .no, .no, .no, .no]) (pt := fun (l39 : Unit) (v40 : D) => [.scr ns, .val draws1, .val j3, .val minutes5, .val pause7, .val ranked8, .val few11, .val room14, .val kept15, .val (.list good16), .val most18, .val j20, .no, .no, .no, .val more28, .val choices30, .val l36, .val v40, .no, .no, .no]) (js := [18]) PassesOwn.never rfl (.k (.k (.k (.k (.k (.k (.k (.k (.k (.k (.k (.k (.n (.n (.n (.k (.k (.k (.n (.n (.n (.n .nil)))))))))))))))))))))) (di_seq (de_v (i := 17) nm_papers rfl rfl (.inl rfl))) (fun l39 => (dg_name (i := 18) nd rfl (.inl rfl) (.inl rfl))) (fun l39 v40 => (db_cons (ds_asg (i := 19) nd rfl (.inl rfl) (de_call c_judge_most_pieces (hr.mono (by decide)) (da_cons (de_v (i := 3) nm_minutes rfl rfl (.inr (.inl rfl))) (da_cons (de_v (i := 4) nm_pause rfl rfl (.inr (.inl rfl))) (da_cons (de_v (i := 7) nm_room rfl rfl (.inr (.inl rfl))) (da_cons (de_v (i := 18) nm_paper rfl rfl (.inl rfl)) da_nil rfl) rfl) rfl) rfl) (by rfl) (by decide) rfl rfl) rfl (.inl rfl)) fun answer41 => (db_at [.scr ns, .val draws1, .val j3, .val minutes5, .val pause7, .val ranked8, .val few11, .val room14, .val kept15, .val (.list good16), .val most18, .val j20, .no, .no, .no, .val more28, .val choices30, .val l36, .val v40, .val answer41, .no, .no] rfl (db_one (ds_if (DW.dt (dw_or (dt_not (dt_truth (de_call c__law_same (hr.mono (by decide)) (da_cons (de_v (i := 19) nm_answer rfl rfl (.inl rfl)) (da_cons (de_call c__law_accepts (hr.mono (by decide)) (da_cons (de_v (i := 3) nm_minutes rfl rfl (.inr (.inl rfl))) (da_cons (de_v (i := 4) nm_pause rfl rfl (.inr (.inl rfl))) (da_cons (de_v (i := 7) nm_room rfl rfl (.inr (.inl rfl))) (da_cons (de_v (i := 18) nm_paper rfl rfl (.inl rfl)) da_nil rfl) rfl) rfl) rfl) (by rfl) (by decide) rfl rfl) da_nil rfl) rfl) (by rfl) (by decide) rfl rfl) (fun _ => rfl))) (dw_or1 (DW.dt (dw_and (dt_truth (de_v (i := 19) nm_answer rfl rfl (.inl rfl)) (fun _ => rfl)) (dw_and1 (dt_cmp (op_neD' hu) (de_callB (cb_len) (by rfl) z_len (by decide +kernel) (da_cons (de_ix ix_D (de_v (i := 18) nm_paper rfl rfl (.inl rfl)) de_int (fun _ _ => rfl)) da_nil rfl) (by decide) (by decide) rfl rfl) (de_v (i := 10) nm_most rfl rfl (.inl rfl)) (nomark _)))))))) (db_at [.scr ns, .val draws1, .val j3, .val minutes5, .val pause7, .val ranked8, .val few11, .val room14, .val kept15, .val (.list good16), .val most18, .val j20, .no, .no, .no, .val more28, .val choices30, .val l36, .val v40, .val answer41, .no, .no] rfl (db_one (ds_ret de_bl))) (db_at [.scr ns, .val draws1, .val j3, .val minutes5, .val pause7, .val ranked8, .val few11, .val room14, .val kept15, .val (.list good16), .val most18, .val j20, .no, .no, .no, .val more28, .val choices30, .val l36, .val v40, .val answer41, .no, .no] rfl (db_nil (s := ()) (.k (.k (.k (.k (.k (.k (.k (.k (.k (.k (.k (.k (.n (.n (.n (.k (.k (.k (.n (.n (.n (.n .nil))))))))))))))))))))))))))))) (fun _ => rfl)) fun l39 => (db_at [.scr ns, .val draws1, .val j3, .val minutes5, .val pause7, .val ranked8, .val few11, .val room14, .val kept15, .val (.list good16), .val most18, .val j20, .no, .no, .no, .val more28, .val choices30, .val l36, .no, .no, .no, .no] rfl (db_one (ds_ret de_bl)))))))))))))))))))))))))))))))))))))))))))))))))))))))⟩
end
end Wk0

/-! Plain laws, part 1: the mirrors' words computed on data with a Lean type. -/
namespace Dl
open PySem L2 PySem.Spec PyProof.Rows PySem.W PySem.SeqAt

section
variable {S T L : Type}
@[simp] theorem seqF_nx (s : S) (n : S → Option (Fl T L)) : seqF (some (.nx s) : Option (Fl S L)) n = n s := by unfold seqF; rfl
@[simp] theorem seqF_rt (d : D) (n : S → Option (Fl T L)) : seqF (some (.rt d) : Option (Fl S L)) n = some (.rt d) := by unfold seqF; rfl
@[simp] theorem seqF_ct (d : L) (n : S → Option (Fl T L)) : seqF (some (.ct d) : Option (Fl S L)) n = some (.ct d) := by unfold seqF; rfl
@[simp] theorem seqF_bk (d : L) (n : S → Option (Fl T L)) : seqF (some (.bk d) : Option (Fl S L)) n = some (.bk d) := by unfold seqF; rfl
theorem seqF_go {m : Option S} {n : S → Option (Fl T L)} {v : S} {r : Option (Fl T L)} (h : m = some v) (k : n v = r) : seqF (nxt m) n = r := by
  subst h; simpa using k
theorem seqF_do {m : Option (Fl S L)} {n : S → Option (Fl T L)} {v : S} {r : Option (Fl T L)} (h : m = some (.nx v)) (k : n v = r) : seqF m n = r := by
  subst h; simpa using k
theorem seqF_no {c : Option Bool} {m : Option (Fl Unit L)} {n : Unit → Option (Fl T L)} {r : Option (Fl T L)} (h : c = some false) (k : n () = r) : seqF (iteM c m (some (.nx ()))) n = r := by
  subst h; simpa using k
end
@[simp] theorem outD_rt (d : D) : outD (some (.rt d)) = some d := rfl
@[simp] theorem outF_rt (ds : List D) : outF (some (.rt (.list ds))) = some ds := rfl
@[simp] theorem f1_one {α : Type} (f : D → Option α) (x : D) : f1 f [x] = f x := rfl
@[simp] theorem f2_two {α : Type} (f : D → D → Option α) (x y : D) : f2 f [x, y] = f x y := rfl
@[simp] theorem f3_three {α : Type} (f : D → D → D → Option α) (x y z : D) : f3 f [x, y, z] = f x y z := rfl
@[simp] theorem f4_four {α : Type} (f : D → D → D → D → Option α) (x y z w : D) : f4 f [x, y, z, w] = f x y z w := rfl
@[simp] theorem f5_five {α : Type} (f : D → D → D → D → D → Option α) (x y z w u : D) : f5 f [x, y, z, w, u] = f x y z w u := rfl

/-! turns -/
section
variable {α L M : Type} {F : α → L → Option (Fl L L)}
@[simp] theorem forF_nil (l : L) : (forF F [] l : Option (Fl L M)) = some (.nx l) := rfl
theorem forF_inv (I : Nat → L → Prop) : ∀ (ds : List α) (k : Nat) (l : L), I k l → (∀ i d l, ds[i]? = some d → I (k + i) l → ∃ l', F d l = some (.nx l') ∧ I (k + i + 1) l') →
    ∃ l', (forF F ds l : Option (Fl L M)) = some (.nx l') ∧ I (k + ds.length) l'
  | [], k, l, h, _ => ⟨l, rfl, h⟩
  | d :: r, k, l, h, hs => by
    obtain ⟨l1, e1, i1⟩ := hs 0 d l rfl h
    obtain ⟨l2, e2, i2⟩ := forF_inv I r (k + 1) l1 i1 (fun i d' l' hd hi => by
      have := hs (i + 1) d' l' (by simpa using hd) (by rwa [show k + (i + 1) = k + 1 + i from by omega])
      rwa [show k + (i + 1) + 1 = k + 1 + i + 1 from by omega] at this)
    refine ⟨l2, ?_, by
      have e : k + (d :: r).length = k + 1 + r.length := by simp only [List.length_cons]; omega
      rwa [e]⟩
    show ((F d l).bind _) = _
    rw [e1]
    exact e2
theorem forF_at (I : Nat → L → Prop) {ds : List α} {l : L} (h : I 0 l) (hs : ∀ i d l, ds[i]? = some d → I i l → ∃ l', F d l = some (.nx l') ∧ I (i + 1) l') :
    ∃ l', (forF F ds l : Option (Fl L M)) = some (.nx l') ∧ I ds.length l' := by
  obtain ⟨l', e, i⟩ := forF_inv (F := F) (M := M) I ds 0 l h (fun i d l hd hi => by
    simp only [Nat.zero_add] at hi ⊢
    exact hs i d l hd hi)
  exact ⟨l', e, by simpa using i⟩
theorem forF_fold {β σ : Type} (e : β → α) (en : σ → L) (g : σ → β → σ) (P : σ → Prop) : ∀ (xs : List β) (s : σ), P s → (∀ x ∈ xs, ∀ s, P s → F (e x) (en s) = some (.nx (en (g s x))) ∧ P (g s x)) →
    (forF F (xs.map e) (en s) : Option (Fl L M)) = some (.nx (en (xs.foldl g s))) ∧ P (xs.foldl g s)
  | [], s, h, _ => ⟨rfl, h⟩
  | x :: r, s, h, hs => by
    obtain ⟨e1, h1⟩ := hs x (.head _) s h
    have := forF_fold e en g P r (g s x) h1 (fun y hy => hs y (.tail _ hy))
    refine ⟨?_, this.2⟩
    show ((F (e x) (en s)).bind _) = _
    rw [e1]
    exact this.1
end
theorem forF_all {α M : Type} {F : α → Unit → Option (Fl Unit Unit)} : ∀ {ds : List α}, (∀ d ∈ ds, F d () = some (.nx ())) → (forF F ds () : Option (Fl Unit M)) = some (.nx ())
  | [], _ => rfl
  | d :: r, h => by
    show ((F d ()).bind _) = _
    rw [h d (.head _)]
    exact forF_all fun x hx => h x (.tail _ hx)

/-! comprehensions -/
section
variable {α β γ : Type}
theorem compM_fm {h : α → Option (Option β)} {e : γ → α} {g : γ → Option β} : ∀ {xs : List γ}, (∀ x ∈ xs, h (e x) = some (g x)) → compM h (xs.map e) = some (xs.filterMap g)
  | [], _ => rfl
  | x :: r, hs => by
    show ((h (e x)).bind fun o => (compM h (r.map e)).bind fun ys => some (o.toList ++ ys)) = _
    rw [hs x (.head _), compM_fm fun y hy => hs y (.tail _ hy)]
    cases q : g x <;> simp [List.filterMap_cons, q]
theorem compM_mp {h : α → Option (Option β)} {e : γ → α} {g : γ → β} {xs : List γ} (hs : ∀ x ∈ xs, h (e x) = some (some (g x))) : compM h (xs.map e) = some (xs.map g) := by
  rw [compM_fm (g := fun x => some (g x)) hs]
  simp
theorem compM_fl {h : α → Option (Option β)} {e : γ → α} {p : γ → Bool} {g : γ → β} {xs : List γ} (hs : ∀ x ∈ xs, h (e x) = some (if p x then some (g x) else none)) : compM h (xs.map e) = some ((xs.filter p).map g) := by
  rw [compM_fm hs]
  congr 1
  induction xs with
  | nil => rfl
  | cons x r ih =>
    have := ih fun y hy => hs y (.tail _ hy)
    cases q : p x <;> simp [List.filterMap_cons, List.filter_cons, q, this]
end

/-! data with a type -/
section
variable {α β : Type} [DecidableEq α] [Datum α] [DecidableEq β] [Datum β]
abbrev tD {α : Type} [DecidableEq α] [Datum α] (x : α) : D := Datum.toD x
def LD (xs : List α) : List D := xs.map Datum.toD
theorem tD_int (i : Int) : Datum.toD i = PyData.int i := rfl
theorem tD_bool (i : Bool) : Datum.toD i = PyData.bool i := rfl
theorem tD_str (i : Str) : Datum.toD i = PyData.str i := rfl
theorem tD_list (xs : List α) : Datum.toD xs = PyData.list (LD xs) := rfl
theorem tD_pair (x : α) (y : β) : Datum.toD (x, y) = PyData.tuple [Datum.toD x, Datum.toD y] := rfl
@[simp] theorem LD_nil : LD ([] : List α) = [] := rfl
theorem LD_cons (x : α) (xs : List α) : LD (x :: xs) = Datum.toD x :: LD xs := rfl
@[simp] theorem LD_len (xs : List α) : (LD xs).length = xs.length := List.length_map ..
@[simp] theorem LD_app (xs ys : List α) : LD xs ++ LD ys = LD (xs ++ ys) := (List.map_append ..).symm
theorem LD_at (xs : List α) (i : Nat) : (LD xs)[i]? = xs[i]?.map Datum.toD := List.getElem?_map ..
theorem LD_dep (xs : List α) : PyData.depthAll (LD xs) ≤ Datum.depth α := depthAll_map xs
theorem toD_dep (x : α) : (Datum.toD x).depth ≤ Datum.depth α := Datum.depth_le x
theorem toD_inj {x y : α} (h : Datum.toD x = Datum.toD y) : x = y := by
  have := Datum.eqv x y
  rw [h, Datum.eqv y y] at this
  simpa using this.symm
@[simp] theorem lenL_L (xs : List D) : lenL [.list xs] = some (.int xs.length) := rfl
@[simp] theorem lenL_T (xs : List D) : lenL [.tuple xs] = some (.int xs.length) := rfl
@[simp] theorem itemsD_L (xs : List D) : itemsD (.list xs) = some xs := rfl
@[simp] theorem itemsD_T (xs : List D) : itemsD (.tuple xs) = some xs := rfl
@[simp] theorem listF_L (xs : List D) : listF [.list xs] = some xs := rfl
theorem eqD_t (x y : α) (h : Datum.depth α ≤ 64) : eqD (Datum.toD x) (Datum.toD y) = some (.bool (decide (x = y))) := by
  unfold eqD
  rw [if_pos (.inl (Nat.le_trans (toD_dep x) h)), Datum.eqv]
theorem neD_t (x y : α) (h : Datum.depth α ≤ 64) : neD (Datum.toD x) (Datum.toD y) = some (.bool (decide (x ≠ y))) := by
  unfold neD
  rw [if_pos (.inl (Nat.le_trans (toD_dep x) h)), Datum.eqv]
  simp
@[simp] theorem eqD_int (x y : Int) : eqD (.int x) (.int y) = some (.bool (decide (x = y))) := eqD_t x y (Nat.zero_le _)
@[simp] theorem eqD_str (x y : Str) : eqD (.str x) (.str y) = some (.bool (decide (x = y))) := eqD_t x y (Nat.zero_le _)
@[simp] theorem eqD_bool (x y : Bool) : eqD (.bool x) (.bool y) = some (.bool (decide (x = y))) := eqD_t x y (Nat.zero_le _)
@[simp] theorem neD_int (x y : Int) : neD (.int x) (.int y) = some (.bool (decide (x ≠ y))) := neD_t x y (Nat.zero_le _)
@[simp] theorem neD_str (x y : Str) : neD (.str x) (.str y) = some (.bool (decide (x ≠ y))) := neD_t x y (Nat.zero_le _)
@[simp] theorem neD_bool (x y : Bool) : neD (.bool x) (.bool y) = some (.bool (decide (x ≠ y))) := neD_t x y (Nat.zero_le _)
theorem eqD_self (x : Str) : eqD (.str x) (.str x) = some (.bool true) := by
  rw [eqD_str, decide_eq_true rfl]
theorem neD_self (x : Str) : neD (.str x) (.str x) = some (.bool false) := by
  rw [neD_str, decide_eq_false (fun h => h rfl)]
theorem eqD_apart {x y : Str} (h : x ≠ y) : eqD (.str x) (.str y) = some (.bool false) := by
  rw [eqD_str, decide_eq_false h]
theorem neD_apart {x y : Str} (h : x ≠ y) : neD (.str x) (.str y) = some (.bool true) := by
  rw [neD_str, decide_eq_true h]
theorem eqD_L (xs ys : List α) (h : Datum.depth α ≤ 63) : eqD (.list (LD xs)) (.list (LD ys)) = some (.bool (decide (xs = ys))) := eqD_t xs ys (by show Datum.depth α + 1 ≤ 64; omega)
theorem neD_L (xs ys : List α) (h : Datum.depth α ≤ 63) : neD (.list (LD xs)) (.list (LD ys)) = some (.bool (decide (xs ≠ ys))) := neD_t xs ys (by show Datum.depth α + 1 ≤ 64; omega)
@[simp] theorem eqD_Li (xs ys : List Int) : eqD (.list (LD xs)) (.list (LD ys)) = some (.bool (decide (xs = ys))) := eqD_L xs ys (Nat.zero_le _)
@[simp] theorem neD_Li (xs ys : List Int) : neD (.list (LD xs)) (.list (LD ys)) = some (.bool (decide (xs ≠ ys))) := neD_L xs ys (Nat.zero_le _)
@[simp] theorem eqD_Ls (xs ys : List Str) : eqD (.list (LD xs)) (.list (LD ys)) = some (.bool (decide (xs = ys))) := eqD_L xs ys (Nat.zero_le _)
@[simp] theorem neD_Ls (xs ys : List Str) : neD (.list (LD xs)) (.list (LD ys)) = some (.bool (decide (xs ≠ ys))) := neD_L xs ys (Nat.zero_le _)
theorem hasD_t (xs : List α) (x : α) : hasD (LD xs) (Datum.toD x) = decide (x ∈ xs) := any_datum xs x
theorem inD_t (x : α) (xs : List α) (h : Datum.depth α ≤ 64) : inD (Datum.toD x) (.list (LD xs)) = some (.bool (decide (x ∈ xs))) := by
  have e : shalAll (LD xs) (Datum.toD x) := .inl (Nat.le_trans (LD_dep xs) h)
  unfold inD
  cases hd : Datum.toD x <;> simp only [] <;> (rw [hd] at e; rw [if_pos e, ← hd, hasD_t])
theorem notInD_t (x : α) (xs : List α) (h : Datum.depth α ≤ 64) : notInD (Datum.toD x) (.list (LD xs)) = some (.bool (decide (x ∉ xs))) := by
  have e : shalAll (LD xs) (Datum.toD x) := .inl (Nat.le_trans (LD_dep xs) h)
  unfold notInD
  cases hd : Datum.toD x <;> simp only [] <;> (rw [hd] at e; rw [if_pos e, ← hd, hasD_t]; simp)
@[simp] theorem inD_int (x : Int) (xs : List Int) : inD (.int x) (.list (LD xs)) = some (.bool (decide (x ∈ xs))) := inD_t x xs (Nat.zero_le _)
@[simp] theorem notInD_int (x : Int) (xs : List Int) : notInD (.int x) (.list (LD xs)) = some (.bool (decide (x ∉ xs))) := notInD_t x xs (Nat.zero_le _)
@[simp] theorem inD_str (x : Str) (xs : List Str) : inD (.str x) (.list (LD xs)) = some (.bool (decide (x ∈ xs))) := inD_t x xs (Nat.zero_le _)
@[simp] theorem notInD_str (x : Str) (xs : List Str) : notInD (.str x) (.list (LD xs)) = some (.bool (decide (x ∉ xs))) := notInD_t x xs (Nat.zero_le _)
theorem countD_t (x : α) (xs : List α) (h : Datum.depth α ≤ 64) : countD (.list (LD xs)) (Datum.toD x) = some (.int (xs.count x)) := by
  have e : shalAll (LD xs) (Datum.toD x) := .inl (Nat.le_trans (LD_dep xs) h)
  unfold countD
  simp only []
  rw [if_pos e]
  have := count_datum xs x
  unfold LD
  rw [this, List.count_eq_countP]
  congr 4
@[simp] theorem countD_int (x : Int) (xs : List Int) : countD (.list (LD xs)) (.int x) = some (.int (xs.count x)) := countD_t x xs (Nat.zero_le _)
@[simp] theorem countD_str (x : Str) (xs : List Str) : countD (.list (LD xs)) (.str x) = some (.int (xs.count x)) := countD_t x xs (Nat.zero_le _)
theorem atI_nat' {γ : Type} {xs : List γ} {i : Int} (h0 : 0 ≤ i) (h1 : i < xs.length) : atI xs i = xs[i.toNat]? := by
  unfold atI ixN
  rw [if_pos h0, if_pos h1]; rfl
theorem atI_neg {γ : Type} {xs : List γ} {i : Int} (h0 : i < 0) (h1 : -(xs.length : Int) ≤ i) : atI xs i = xs[(i + xs.length).toNat]? := by
  unfold atI ixN
  rw [if_neg (by omega), if_pos h1]; rfl
theorem idxD_n {xs : List D} {i : Nat} {d : D} (h : xs[i]? = some d) : idxD (.list xs) (.int (i : Int)) = some d := by
  have := (List.getElem?_eq_some_iff.mp h).1
  show atI xs _ = _
  rw [atI_nat' (by omega) (by omega)]
  simpa using h
theorem idxD_L {xs : List α} {i : Int} {x : α} (h0 : 0 ≤ i) (h : xs[i.toNat]? = some x) : idxD (.list (LD xs)) (.int i) = some (Datum.toD x) := by
  have h1 := (List.getElem?_eq_some_iff.mp h).1
  show atI (LD xs) i = _
  rw [atI_nat' h0 (by rw [LD_len]; omega), LD_at, h]; rfl
@[simp] theorem idxD_T (xs : List D) (i : Int) : idxD (.tuple xs) (.int i) = atI xs i := rfl
/-- whole numbers from lo on -/
def ri (lo : Int) (n : Nat) : List Int := (List.range n).map fun (k : Nat) => lo + (k : Int)
theorem rangeI_ri (lo : Int) (n : Nat) : rangeI lo n = LD (ri lo n) := by
  unfold rangeI LD ri
  rw [List.map_map]; rfl
@[simp] theorem ri_len (lo : Int) (n : Nat) : (ri lo n).length = n := by simp [ri]
theorem ri_at {lo : Int} {n i : Nat} (h : i < n) : (ri lo n)[i]? = some (lo + i) := by
  unfold ri
  rw [List.getElem?_map, List.getElem?_range h]; rfl
theorem mem_ri {lo : Int} {n : Nat} {x : Int} : x ∈ ri lo n ↔ lo ≤ x ∧ x < lo + n := by
  unfold ri
  simp only [List.mem_map, List.mem_range]
  constructor
  · rintro ⟨k, h, rfl⟩; omega
  · intro h
    exact ⟨(x - lo).toNat, by omega, by omega⟩
theorem rng1D_n (n : Nat) (h : n ≤ 16777216) : rng1D [.int (n : Int)] = some (LD (ri 0 n)) := by
  simp only [rng1D]
  rw [if_pos (by omega), Int.toNat_natCast, fit_ok h, rangeI_ri]
theorem rng1D_i (j : Int) (h : j ≤ 16777216) (h' : -4611686018427387904 ≤ j) : rng1D [.int j] = some (LD (ri 0 j.toNat)) := by
  simp only [rng1D]
  rw [if_pos h', fit_ok (by omega), rangeI_ri]
theorem rng2D_i (i j : Int) (h : j - i ≤ 16777216) (h1 : -4611686018427387904 ≤ i) (h2 : i < 4611686018427387904) (h3 : -4611686018427387904 ≤ j) (h4 : j < 4611686018427387904) : rng2D [.int i, .int j] = some (LD (ri i (j - i).toNat)) := by
  simp only [rng2D]
  rw [if_pos ⟨⟨h1, h2⟩, h3, h4⟩, fit_ok (by omega), rangeI_ri]
theorem rngF_i (i j : Int) (h : j - i ≤ 16777216) (h1 : -4611686018427387904 ≤ i) (h2 : i < 4611686018427387904) (h3 : -4611686018427387904 ≤ j) (h4 : j < 4611686018427387904) : rngF (i, j) = some (LD (ri i (j - i).toNat)) := by
  simp only [rngF]
  rw [if_pos ⟨⟨h1, h2⟩, h3, h4⟩, fit_ok (by omega), rangeI_ri]
theorem compM_LD {γ : Type} {h : D → Option (Option γ)} {g : α → γ} {xs : List α} (hs : ∀ x ∈ xs, h (Datum.toD x) = some (some (g x))) : compM h (LD xs) = some (xs.map g) := compM_mp hs
theorem compM_LDt {h : D → Option (Option D)} {g : α → β} {xs : List α} (hs : ∀ x ∈ xs, h (Datum.toD x) = some (some (Datum.toD (g x)))) : compM h (LD xs) = some (LD (xs.map g)) := by
  rw [compM_LD hs]; unfold LD; rw [List.map_map]; rfl
theorem compM_LDf {h : D → Option (Option D)} {p : α → Bool} {g : α → β} {xs : List α} (hs : ∀ x ∈ xs, h (Datum.toD x) = some (if p x then some (Datum.toD (g x)) else none)) : compM h (LD xs) = some (LD ((xs.filter p).map g)) := by
  unfold LD; rw [compM_fl hs, List.map_map]; rfl
theorem forF_LD {L M : Type} {F : D → L → Option (Fl L L)} {xs : List α} (I : Nat → L → Prop) {l : L} (h : I 0 l) (hs : ∀ (i : Nat) (x : α) (l : L), xs[i]? = some x → I i l → ∃ l', F (Datum.toD x) l = some (.nx l') ∧ I (i + 1) l') :
    ∃ l', (forF F (LD xs) l : Option (Fl L M)) = some (.nx l') ∧ I xs.length l' := by
  have := forF_at (F := F) (M := M) (ds := LD xs) I h (fun i d l hd hi => by
    rw [LD_at] at hd
    cases q : xs[i]? with
    | none => rw [q] at hd; cases hd
    | some x => rw [q] at hd; cases hd; exact hs i x l q hi)
  rwa [LD_len] at this
theorem forF_LDf {L M σ : Type} {F : D → L → Option (Fl L L)} {xs : List α} (en : σ → L) (g : σ → α → σ) (P : σ → Prop) {s : σ} (h : P s) (hs : ∀ x ∈ xs, ∀ s, P s → F (Datum.toD x) (en s) = some (.nx (en (g s x))) ∧ P (g s x)) :
    (forF F (LD xs) (en s) : Option (Fl L M)) = some (.nx (en (xs.foldl g s))) ∧ P (xs.foldl g s) := forF_fold Datum.toD en g P xs s h hs
/-- the block goes on, with a state that is Q -/
abbrev Gv {S L : Type} (m : Option (Fl S L)) (Q : S → Prop) : Prop := ∃ s, m = some (.nx s) ∧ Q s
theorem gv_nx {S L : Type} {Q : S → Prop} {s : S} (h : Q s) : Gv (some (.nx s) : Option (Fl S L)) Q := ⟨s, rfl, h⟩
theorem gv_nxt {S L : Type} {Q : S → Prop} {m : Option S} {s : S} (e : m = some s) (h : Q s) : Gv (nxt m : Option (Fl S L)) Q := ⟨s, by rw [e]; rfl, h⟩
theorem gv_go {S T L : Type} {Q : T → Prop} {m : Option S} {n : S → Option (Fl T L)} {v : S} (h : m = some v) (k : Gv (n v) Q) : Gv (seqF (nxt m) n) Q := by
  rw [h]; simpa using k
theorem gv_do {S T L : Type} {Q : T → Prop} {m : Option (Fl S L)} {n : S → Option (Fl T L)} {v : S} (h : m = some (.nx v)) (k : Gv (n v) Q) : Gv (seqF m n) Q := by
  rw [h]; simpa using k
theorem gv_gv {S T L : Type} {Q : T → Prop} {R : S → Prop} {m : Option (Fl S L)} {n : S → Option (Fl T L)} (h : Gv m R) (k : ∀ s, R s → Gv (n s) Q) : Gv (seqF m n) Q := by
  obtain ⟨s, e, hs⟩ := h
  rw [e]; simpa using k s hs
theorem seqF_gv {S T L : Type} {R : S → Prop} {m : Option (Fl S L)} {n : S → Option (Fl T L)} {r : Option (Fl T L)} (h : Gv m R) (k : ∀ s, R s → n s = r) : seqF m n = r := by
  obtain ⟨s, e, hs⟩ := h
  rw [e]; simpa using k s hs
theorem gv_for {L M : Type} {F : D → L → Option (Fl L L)} {xs : List α} {l : L} (I : Nat → L → Prop) (h : I 0 l) (hs : ∀ (i : Nat) (x : α) (l : L), xs[i]? = some x → I i l → Gv (F (Datum.toD x) l) (I (i + 1))) :
    Gv (forF F (LD xs) l : Option (Fl L M)) (I xs.length) := forF_LD I h hs
theorem enumL_LD (xs : List α) : enumL (LD xs) = LD (xs.zipIdx.map fun p => ((p.2 : Int), p.1)) := by
  unfold enumL LD
  rw [List.zipIdx_map, List.map_map, List.map_map]; rfl
theorem intsOf_LD : ∀ xs : List Int, intsOf (LD xs) = some xs
  | [] => rfl
  | x :: r => by
    show (intsOf (LD r)).map _ = _
    rw [intsOf_LD r]; rfl
theorem boolsOf_LD : ∀ xs : List Bool, boolsOf (LD xs) = some xs
  | [] => rfl
  | x :: r => by
    show (boolsOf (LD r)).map _ = _
    rw [boolsOf_LD r]; rfl
@[simp] theorem allL_LD (xs : List Bool) : allL [.list (LD xs)] = some (.bool (xs.all id)) := by simp [allL, boolsOf_LD]
@[simp] theorem anyL_LD (xs : List Bool) : anyL [.list (LD xs)] = some (.bool (xs.any id)) := by simp [anyL, boolsOf_LD]
@[simp] theorem sumL_LD (xs : List Int) : sumL [.list (LD xs)] = some (.int xs.sum) := by simp [sumL, intsOf_LD]
@[simp] theorem minL_LD (xs : List Int) : minL [.list (LD xs)] = xs.min?.map .int := by simp [minL, intsOf_LD]
@[simp] theorem maxL_LD (xs : List Int) : maxL [.list (LD xs)] = xs.max?.map .int := by simp [maxL, intsOf_LD]
theorem cutL_LD (xs : List α) (lo hi : Option Int) : cutL (LD xs) lo hi = LD (cutL xs lo hi) := by
  unfold cutL LD
  rw [List.length_map, List.map_take, List.map_drop]
end

/-! whole numbers -/
@[simp] theorem addD_int (i j : Int) : addD (.int i) (.int j) = some (.int (i + j)) := rfl
@[simp] theorem subD_int (i j : Int) : subD (.int i) (.int j) = some (.int (i - j)) := rfl
theorem mulD_int (i j : Int) (h : small64 i ∨ small64 j) : mulD (.int i) (.int j) = some (.int (i * j)) := by simp only [mulD, if_pos h]
@[simp] theorem negD_int (i : Int) : negD (.int i) = some (.int (-i)) := rfl
theorem modD_int (i j : Int) (h : 0 < j) : modD (.int i) (.int j) = some (.int (i % j)) := by
  simp only [modD]
  rw [if_pos (by omega), Int.fmod_eq_emod_of_nonneg _ (by omega)]
theorem fdivD_int (i j : Int) (h : 0 < j) (h' : j < 1073741824) : fdivD (.int i) (.int j) = some (.int (i / j)) := by
  simp only [fdivD]
  rw [if_pos (by omega), Int.fdiv_eq_ediv_of_nonneg _ (by omega)]
@[simp] theorem ltD_int (i j : Int) : ltD (.int i) (.int j) = some (.bool (decide (i < j))) := by simp [ltD]
@[simp] theorem gtD_int (i j : Int) : gtD (.int i) (.int j) = some (.bool (decide (j < i))) := by simp [gtD]
@[simp] theorem leD_int (i j : Int) : leD (.int i) (.int j) = some (.bool (decide (i ≤ j))) := by simp [leD]
@[simp] theorem geD_int (i j : Int) : geD (.int i) (.int j) = some (.bool (decide (j ≤ i))) := by simp [geD]
@[simp] theorem intL_int (i : Int) : intL [.int i] = some (.int i) := rfl
@[simp] theorem intL_bool (b : Bool) : intL [.bool b] = some (.int (if b then 1 else 0)) := rfl
@[simp] theorem int1_int (i : Int) : int1 [.int i] = some (0, i) := rfl
@[simp] theorem int2_int (i j : Int) : int2 [.int i, .int j] = some (i, j) := rfl
@[simp] theorem oI_int (i : Int) : oI (some (.int i)) = some (some i) := rfl
@[simp] theorem isB_b (b : Bool) : isB (.bool b) = some b := rfl
@[simp] theorem truth_b (b : Bool) : truth (.bool b) = some b := rfl
@[simp] theorem un2_t (x y : D) : un2 (.tuple [x, y]) = some (x, y) := rfl
@[simp] theorem un3_t (x y z : D) : un3 (.tuple [x, y, z]) = some (x, y, z) := rfl
@[simp] theorem un4_t (x y z w : D) : un4 (.tuple [x, y, z, w]) = some (x, y, z, w) := rfl
@[simp] theorem un2L_t (x y : D) : un2L [x, y] = some (x, y) := rfl
@[simp] theorem fit_zero {α : Type} (x : α) : fit 0 x = some x := fit_ok (by omega)
@[simp] theorem isD_none (d : D) : isD d .none = some (.bool (isNoneB d)) := rfl
theorem ints18 : powD (.int 10) (.int 18) = some (.int 1000000000000000000) := by simp [powD]
@[simp] theorem revD_L (xs : List D) : revD (.list xs) = some (.list xs.reverse) := rfl
@[simp] theorem LD_rev {α : Type} [DecidableEq α] [Datum α] (xs : List α) : (LD xs).reverse = LD xs.reverse := (List.map_reverse ..).symm

/-! tuples of three -/
structure T3 (α β γ : Type) where
  a : α
  b : β
  c : γ
  deriving DecidableEq
instance {α β γ : Type} [DecidableEq α] [Datum α] [DecidableEq β] [Datum β] [DecidableEq γ] [Datum γ] : Datum (T3 α β γ) where
  toD t := .tuple [Datum.toD t.a, Datum.toD t.b, Datum.toD t.c]
  plain t := by simp [PyData.plain, PyData.plainAll, Datum.plain]
  eqv x y := by
    cases x; cases y
    simp [PyData.eqv, PyData.eqvAll, Datum.eqv]
  depth := max (Datum.depth α) (max (Datum.depth β) (Datum.depth γ)) + 1
  depth_le t := by
    have h1 := Datum.depth_le t.a
    have h2 := Datum.depth_le t.b
    have h3 := Datum.depth_le t.c
    simp only [PyData.depth, PyData.depthAll]
    omega
theorem tD_t3 {α β γ : Type} [DecidableEq α] [Datum α] [DecidableEq β] [Datum β] [DecidableEq γ] [Datum γ] (t : T3 α β γ) : Datum.toD t = PyData.tuple [Datum.toD t.a, Datum.toD t.b, Datum.toD t.c] := rfl
/-! sorting -/
section
variable {α : Type} [DecidableEq α] [Datum α]
class DatOrd (α : Type) [DecidableEq α] [Datum α] where
  al : ∀ x y : α, alike (Datum.toD x) (Datum.toD y) = true
/-- sorted as Python sorts -/
noncomputable def srt (xs : List α) : List α := xs.mergeSort (dataLe false Datum.toD)
theorem srt_perm (xs : List α) : (srt xs).Perm xs := List.mergeSort_perm _ _
theorem srt_sorted (xs : List α) : (srt xs).Pairwise fun x y => dataLt (Datum.toD y) (Datum.toD x) = false := by
  have t := sortLe_total (listOrd itemOrd) false fun b : α => keyToks (Datum.toD b)
  refine (List.pairwise_mergeSort (le := dataLe false Datum.toD) t.trans (fun a b => ?_) xs).imp fun {x y} h => ?_
  · rw [Bool.or_eq_true]; exact t.total a b
  · have : (!dataLt (Datum.toD y) (Datum.toD x)) = true := h
    simpa using this
theorem sortF_LD [DatOrd α] (xs : List α) (hs : Sortable (LD xs)) (hd : Datum.depth α ≤ 64) : sortF [.list (LD xs)] = some (LD (srt xs)) := by
  have h1 : AllAlike (LD xs) := AllAlike.of DatOrd.al
  simp only [sortF]
  rw [if_pos ⟨h1, hs, Nat.le_trans (LD_dep xs) hd⟩]
  unfold LD srt
  rw [List.map_mergeSort]
  intro a _ b _; rfl
instance : DatOrd Int := ⟨fun _ _ => by simp [tD_int, alike]⟩
instance : DatOrd Bool := ⟨fun _ _ => by simp [tD_bool, alike]⟩
instance : DatOrd Str := ⟨fun _ _ => by simp [tD_str, alike]⟩
theorem sortF_int (xs : List Int) : sortF [.list (LD xs)] = some (LD (srt xs)) := sortF_LD xs (Sortable.others fun b => ⟨by simp [tD_int], by simp [tD_int]⟩) (Nat.zero_le _)
theorem sortF_str (xs : List Str) : sortF [.list (LD xs)] = some (LD (srt xs)) := sortF_LD xs (Sortable.others fun b => ⟨by simp [tD_str], by simp [tD_str]⟩) (Nat.zero_le _)
theorem srt_int (xs : List Int) : (srt xs).Pairwise (· ≤ ·) := (srt_sorted xs).imp fun {x y} h => by
  rw [tD_int, tD_int, dataLt_int] at h
  simpa using h
theorem srt_eq {xs ys : List Int} (h : ys.Pairwise (· ≤ ·)) : srt xs = ys ↔ xs.Perm ys := by
  constructor
  · rintro rfl; exact (srt_perm xs).symm
  · intro p
    exact ((srt_perm xs).trans p).eq_of_pairwise (fun a b _ _ h1 h2 => Int.le_antisymm h1 h2) (srt_int xs) h
theorem ri_sorted (lo : Int) (n : Nat) : (ri lo n).Pairwise (· ≤ ·) := by
  unfold ri
  rw [List.pairwise_map]
  exact List.pairwise_lt_range.imp fun {a b} h => by omega
theorem ri_nodup (lo : Int) (n : Nat) : (ri lo n).Nodup := by
  unfold ri
  rw [List.Nodup, List.pairwise_map]
  exact List.pairwise_lt_range.imp fun {a b} h => by omega
instance {α β : Type} [DecidableEq α] [Datum α] [DecidableEq β] [Datum β] [DatOrd α] [DatOrd β] : DatOrd (α × β) := ⟨fun x y => by
  show alike (.tuple [Datum.toD x.1, Datum.toD x.2]) (.tuple [Datum.toD y.1, Datum.toD y.2]) = true
  simp [alike, alikeAll, DatOrd.al]⟩
instance {α β γ : Type} [DecidableEq α] [Datum α] [DecidableEq β] [Datum β] [DecidableEq γ] [Datum γ] [DatOrd α] [DatOrd β] [DatOrd γ] : DatOrd (T3 α β γ) := ⟨fun x y => by
  rw [tD_t3, tD_t3]
  simp [alike, alikeAll, DatOrd.al]⟩
theorem alikeAll_LD [DatOrd α] : ∀ xs ys : List α, alikeAll (LD xs) (LD ys) = true
  | [], _ => rfl
  | _ :: _, [] => rfl
  | x :: xs, y :: ys => by
    rw [LD_cons, LD_cons, alikeAll, DatOrd.al, alikeAll_LD xs ys]; rfl
instance [DatOrd α] : DatOrd (List α) := ⟨fun x y => by
  rw [tD_list, tD_list, alike]; exact alikeAll_LD x y⟩
theorem dataLt_t3 {α β γ : Type} [DecidableEq α] [Datum α] [DecidableEq β] [Datum β] [DecidableEq γ] [Datum γ] [DatOrd α] [DatOrd β] [DatOrd γ] (x y : T3 α β γ) :
    dataLt (Datum.toD x) (Datum.toD y) = if x.a = y.a then (if x.b = y.b then (if x.c = y.c then false else dataLt (Datum.toD x.c) (Datum.toD y.c)) else dataLt (Datum.toD x.b) (Datum.toD y.b)) else dataLt (Datum.toD x.a) (Datum.toD y.a) := by
  rw [tD_t3, tD_t3, dataLt_tuple, dataLt_cons (DatOrd.al _ _), dataLt_cons (DatOrd.al _ _), dataLt_cons (DatOrd.al _ _)]
  have e : PyProof.Rows.lexLt itemOrd (keyToksAll []) (keyToksAll []) = false := lex_irrefl _
  rw [e, Datum.eqv, Datum.eqv, Datum.eqv]
  simp only [decide_eq_true_eq]
theorem dataLt_str_tri (x y : Str) (h1 : dataLt (.str x) (.str y) = false) (h2 : dataLt (.str y) (.str x) = false) : x = y := by
  rw [dataLt_str] at h1 h2
  have h1 := of_decide_eq_false h1
  have h2 := of_decide_eq_false h2
  exact str_of_cps (List.le_antisymm (List.not_lt.mp h2) (List.not_lt.mp h1))
end
end Dl

/-! The drawn numbers and the sameness of data: one text for each law. -/
namespace Wk0
open PySem L2 PySem.Spec PyProof.Rows PySem.W PySem.SeqAt Dl
theorem small_i {i : Int} (h : -18446744073709551616 < i) (h' : i < 18446744073709551616) : small64 i := ⟨h, h'⟩
theorem numbers_ok (c : Int) (n : Nat) (lim : Int) (hn : n ≤ 1000) (hl : 0 < lim) (hl' : lim < 1073741824) :
    ∃ zs : List Int, d__law_numbers (.int c) (.int (n : Int)) (.int lim) = some (LD zs) ∧ zs.length = n ∧ ∀ z ∈ zs, 0 ≤ z ∧ z < lim := by
  unfold d__law_numbers b__law_numbers
  have hr : rng1D [.int (n : Int)] = some (LD (ri 0 n)) := rng1D_n n (by omega)
  simp only [b2, c2, iteM, nxt, Option.bind_some, Option.map_some, seqF_nx, List.length_nil, fit_zero, ints18, geD_int, isB_b, hr, id]
  by_cases hc : (1000000000000000000 : Int) ≤ c
  · rw [if_pos (decide_eq_true hc)]
    obtain ⟨l', e, i⟩ := forF_LD (M := Unit) (F := fun d (l2 : D × List D) => (((some d) : Option D).bind fun v3 => (seqF (nxt ((b2 ((c2 (some l2.1) (some [])).bind intL) (some (.int lim)) modD).bind fun d => fit (l2.2.length + 1) d)) fun a4 => (seqF (nxt (b2 ((c2 (some l2.1) (some [])).bind intL) (some (.int lim)) fdivD)) fun cell5 => (some (.nx (cell5, (l2.2 ++ [a4]))) : Option (Fl (D × List D) (D × List D)))))))
      (xs := ri 0 n) (fun i l => ∃ (c : Int) (zs : List Int), l = (.int c, LD zs) ∧ zs.length = i ∧ i ≤ n ∧ ∀ z ∈ zs, 0 ≤ z ∧ z < lim) (l := (.int c, [])) ⟨c, [], rfl, rfl, by omega, by simp⟩
      (fun i x l hx ⟨c, zs, e, hz, hi, hb⟩ => by
        subst e
        have hi' : i < n := by have := (List.getElem?_eq_some_iff.mp hx).1; simpa using this
        simp only [b2, c2, nxt, Option.bind_some, intL_int, modD_int _ _ hl, fdivD_int _ _ hl hl', fit_ok (show (LD zs).length + 1 ≤ 16777216 by simp; omega), Option.map_some, seqF_nx]
        refine ⟨_, rfl, c / lim, zs ++ [c % lim], by rw [← LD_app]; rfl, by simp [hz], by omega, ?_⟩
        intro z h
        rcases List.mem_append.mp h with h | h
        · exact hb z h
        · rw [List.mem_singleton.mp h]; exact ⟨Int.emod_nonneg _ (by omega), Int.emod_lt_of_pos _ hl⟩)
    simp only [b2, c2, nxt, Option.bind_some] at e
    rw [e]
    obtain ⟨c', zs, rfl, h1, h2, h3⟩ := i
    exact ⟨zs, by simp only [seqF_nx, seqF_rt, outF_rt], by simpa using h1, h3⟩
  · rw [if_neg (by simpa using hc)]
    simp only [seqF_nx]
    obtain ⟨l', e, i⟩ := forF_LD (M := Unit) (F := fun d (l6 : List D) => (((some d) : Option D).bind fun v7 => (seqF (nxt (b2 ((c2 (b2 (b2 (b2 (some (.int c)) (some (.int 48271)) mulD) (b2 (some v7) (some (.int 69621)) mulD) addD) (some (.int 7)) addD) (some [])).bind intL) (some (.int 2147483647)) modD)) fun mixed8 => (seqF (nxt (b2 ((c2 (b2 (b2 (b2 (b2 (some mixed8) (some mixed8) mulD) (b2 (some mixed8) (some (.int 40692)) mulD) addD) (b2 (some v7) (some (.int 16807)) mulD) addD) (some (.int 11)) addD) (some [])).bind intL) (some (.int 2147483399)) modD)) fun mixed9 => (seqF (nxt ((b2 ((c2 (b2 (some mixed9) (some (.int 32)) fdivD) (some [])).bind intL) (some (.int lim)) modD).bind fun d => fit (l6.length + 1) d)) fun a10 => (some (.nx (l6 ++ [a10])) : Option (Fl (List D) (List D))))))))
      (xs := ri 0 n) (fun i l => ∃ (zs : List Int), l = LD zs ∧ zs.length = i ∧ i ≤ n ∧ ∀ z ∈ zs, 0 ≤ z ∧ z < lim) (l := []) ⟨[], rfl, rfl, by omega, by simp⟩
      (fun i x l hx ⟨zs, e, hz, hi, hb⟩ => by
        subst e
        have hi' : i < n := by have := (List.getElem?_eq_some_iff.mp hx).1; simpa using this
        have hq : ∀ a b : Int, 0 < b → b < 1000000000000 → small64 (a % b) := fun a b h h' => by
          have h1 := Int.emod_nonneg a (b := b) (by omega)
          have h2 := Int.emod_lt_of_pos a h
          exact ⟨by omega, by omega⟩
        have hk : ∀ a b : Int, -1000000000 < b → b < 1000000000 → mulD (.int a) (.int b) = some (.int (a * b)) := fun a b h h' => mulD_int a b (.inr ⟨by omega, by omega⟩)
        have hm : ∀ a b c : Int, 0 < b → b < 1000000000000 → mulD (.int (a % b)) (.int c) = some (.int (a % b * c)) := fun a b c h h' => mulD_int _ _ (.inl (hq a b h h'))
        simp only [b2, c2, nxt, Option.bind_some, intL_int, addD_int, hk _ 48271 (by omega) (by omega), hk _ 69621 (by omega) (by omega), hk _ 16807 (by omega) (by omega), hm _ 2147483647 _ (by omega) (by omega), tD_int,
          modD_int _ 2147483647 (by omega), modD_int _ 2147483399 (by omega), modD_int _ _ hl, fdivD_int _ 32 (by omega) (by omega), fit_ok (show (LD zs).length + 1 ≤ 16777216 by simp; omega), Option.map_some, seqF_nx]
        refine ⟨_, rfl, zs ++ [_], by rw [← LD_app]; rfl, by simp [hz], by omega, ?_⟩
        intro z h
        rcases List.mem_append.mp h with h | h
        · exact hb z h
        · rw [List.mem_singleton.mp h]; exact ⟨Int.emod_nonneg _ (by omega), Int.emod_lt_of_pos _ hl⟩)
    simp only [b2, c2, nxt, Option.bind_some] at e
    rw [e]
    obtain ⟨zs, rfl, h1, h2, h3⟩ := i
    exact ⟨zs, by simp only [seqF_nx, seqF_rt, outF_rt], by simpa using h1, h3⟩

/-- data without a dict, not deep, no list long: the same as itself -/
inductive Tame : Nat → D → Prop
  | non {n : Nat} : Tame n .none
  | bool {n : Nat} (b : Bool) : Tame n (.bool b)
  | int {n : Nat} (i : Int) : Tame n (.int i)
  | str {n : Nat} (x : Str) : Tame n (.str x)
  | list {n : Nat} {ds : List D} (h : ds.length ≤ 16777216) (a : ∀ d ∈ ds, Tame n d) : Tame (n + 1) (.list ds)
  | tuple {n : Nat} {ds : List D} (h : ds.length ≤ 16777216) (a : ∀ d ∈ ds, Tame n d) : Tame (n + 1) (.tuple ds)
theorem same_self : ∀ (n m : Nat) (d : D), Tame n d → n < m → d__law_same m d d = some (.bool true)
  | n, 0, d, _, hm => by omega
  | n, m + 1, d, ht, hm => by
    have k1 : ∀ x : D, (∃ i, x = .int i) → d.depth = 0 → True := fun _ _ _ => trivial
    have e : d__law_same (m + 1) d d = outD (b__law_same (d__law_same m) d d) := by rw [d__law_same]
    rw [e]
    unfold b__law_same
    have q1 : kitB "int" "int" = some true := by decide +kernel
    have q2 : kitB "int" "list" = some false := by decide +kernel
    have q3 : kitB "int" "tuple" = some false := by decide +kernel
    have q4 : kitB "int" "bool" = some false := by decide +kernel
    have q5 : kitB "bool" "bool" = some true := by decide +kernel
    have q6 : kitB "bool" "list" = some false := by decide +kernel
    have q7 : kitB "bool" "tuple" = some false := by decide +kernel
    have q8 : kitB "str" "str" = some true := by decide +kernel
    have q9 : kitB "str" "list" = some false := by decide +kernel
    have q10 : kitB "str" "tuple" = some false := by decide +kernel
    have q11 : kitB "str" "bool" = some false := by decide +kernel
    have q12 : kitB "str" "int" = some false := by decide +kernel
    have q13 : kitB "list" "list" = some true := by decide +kernel
    have q14 : kitB "tuple" "list" = some false := by decide +kernel
    have q15 : kitB "tuple" "tuple" = some true := by decide +kernel
    have q16 : kitB "NoneType" "list" = some false := by decide +kernel
    have q17 : kitB "NoneType" "tuple" = some false := by decide +kernel
    cases ht with
    | non => simp [b2, c2, iteM, nxt, insD, tyName, q16, q17, isNoneB]
    | bool b => simp [b2, c2, iteM, nxt, insD, tyName, q5, q6, q7, isNoneB, andV]
    | int b => simp [b2, c2, iteM, nxt, insD, tyName, q1, q2, q3, q4, isNoneB, andV]
    | str b => simp [b2, c2, iteM, nxt, insD, tyName, q8, q9, q10, q11, q12, isNoneB, andV]
    | @list n ds h a =>
      have hr : rng1D [.int (ds.length : Int)] = some (LD (ri 0 ds.length)) := rng1D_n _ h
      simp only [b2, c2, iteM, orB, nxt, insD, tyName, q13, Option.bind_some, Option.map_some, truth_b, if_true, lenL_L, neD_int, isB_b, ne_eq, not_true_eq_false, decide_false, Bool.not_true, Bool.false_eq_true, if_false, seqF_nx, hr]
      rw [forF_all]
      · simp
      · intro x hx
        obtain ⟨i, hi, rfl⟩ := List.mem_map.mp hx
        obtain ⟨i1, i2⟩ := mem_ri.mp hi
        have hl : i.toNat < ds.length := by omega
        have ei : idxD (.list ds) (.int i) = some ds[i.toNat] := by
          show atI ds i = _
          rw [atI_nat' i1 (by omega), List.getElem?_eq_getElem hl]
        simp only [tD_int, Option.bind_some, ei, f2_two, same_self n m _ (a _ (List.getElem_mem hl)) (by omega), truth_b, Option.map_some, Bool.not_true, Bool.false_eq_true, if_false]
    | @tuple n ds h a =>
      have hr : rng1D [.int (ds.length : Int)] = some (LD (ri 0 ds.length)) := rng1D_n _ h
      simp only [b2, c2, iteM, orB, nxt, insD, tyName, q14, q15, Option.bind_some, Option.map_some, truth_b, if_true, lenL_T, neD_int, isB_b, ne_eq, not_true_eq_false, decide_false, Bool.not_true, Bool.false_eq_true, if_false, seqF_nx, hr]
      rw [forF_all]
      · simp
      · intro x hx
        obtain ⟨i, hi, rfl⟩ := List.mem_map.mp hx
        obtain ⟨i1, i2⟩ := mem_ri.mp hi
        have hl : i.toNat < ds.length := by omega
        have ei : idxD (.tuple ds) (.int i) = some ds[i.toNat] := by
          show atI ds i = _
          rw [atI_nat' i1 (by omega), List.getElem?_eq_getElem hl]
        simp only [tD_int, Option.bind_some, ei, f2_two, same_self n m _ (a _ (List.getElem_mem hl)) (by omega), truth_b, Option.map_some, Bool.not_true, Bool.false_eq_true, if_false]
theorem same_bool (m : Nat) (b : Bool) : d__law_same (m + 1) (.bool b) (.bool b) = some (.bool true) := same_self 0 (m + 1) _ (.bool b) (by omega)
theorem Tame.up {n : Nat} {d : D} (h : Tame n d) : Tame (n + 1) d := by
  induction h with
  | non => exact .non
  | bool b => exact .bool b
  | int i => exact .int i
  | str x => exact .str x
  | list h _ ih => exact .list h ih
  | tuple h _ ih => exact .tuple h ih
end Wk0

/-! plain lemmas on lists, for several laws -/
namespace Wk0
open PySem L2 PySem.Spec PyProof.Rows PySem.W PySem.SeqAt Dl
theorem perm_sub {α : Type} [DecidableEq α] : ∀ {xs ys : List α}, xs.Nodup → (∀ x ∈ xs, x ∈ ys) → ys.length ≤ xs.length → xs.Perm ys
  | [], ys, _, _, h => by
    have : ys = [] := List.eq_nil_of_length_eq_zero (by simpa using h)
    rw [this]
  | x :: r, ys, hn, hs, hl => by
    have h1 := hs x (.head _)
    have h2 := List.perm_cons_erase h1
    have hx := (List.nodup_cons.mp hn).1
    refine (List.Perm.cons x (perm_sub (List.nodup_cons.mp hn).2 (fun y hy => ?_) ?_)).trans h2.symm
    · exact (List.mem_erase_of_ne (fun e : y = x => hx (by rw [← e]; exact hy))).mpr (hs y (.tail _ hy))
    · rw [List.length_erase_of_mem h1]
      simp only [List.length_cons] at hl
      omega
theorem nodup_len {α : Type} [DecidableEq α] : ∀ {xs ys : List α}, xs.Nodup → (∀ x ∈ xs, x ∈ ys) → xs.length ≤ ys.length
  | [], ys, _, _ => by simp
  | x :: r, ys, hn, hs => by
    have h1 := hs x (.head _)
    have hx := (List.nodup_cons.mp hn).1
    have h2 := nodup_len (xs := r) (ys := ys.erase x) (List.nodup_cons.mp hn).2 fun y hy => (List.mem_erase_of_ne (fun e : y = x => hx (by rw [← e]; exact hy))).mpr (hs y (.tail _ hy))
    rw [List.length_erase_of_mem h1] at h2
    have := List.length_pos_of_mem h1
    simp only [List.length_cons]
    omega
theorem sum_perm {xs ys : List Int} (h : xs.Perm ys) : xs.sum = ys.sum := by
  induction h with
  | nil => rfl
  | cons x _ ih => simp [ih]
  | swap x y l => simp only [List.sum_cons]; omega
  | trans _ _ ih1 ih2 => exact ih1.trans ih2
/-- as many that weigh least -/
theorem least {α : Type} [DecidableEq α] (W : α → Int) : ∀ (A C : List α), A.Nodup → C.Nodup → A.length = C.length → (∀ a ∈ A, ∀ x ∈ C, x ∉ A → W a ≤ W x) → (A.map W).sum ≤ (C.map W).sum
  | [], C, _, _, hl, _ => by
    have : C = [] := List.eq_nil_of_length_eq_zero (by simpa using hl.symm)
    rw [this]; exact Int.le_refl _
  | a :: A, C, hA, hC, hl, h => by
    have ha := (List.nodup_cons.mp hA)
    simp only [List.length_cons] at hl
    have step : ∀ x ∈ C, W a ≤ W x → (∀ y ∈ C.erase x, y ≠ a) → ((a :: A).map W).sum ≤ (C.map W).sum := fun x hx hw hy => by
      have p := List.perm_cons_erase hx
      have e1 := sum_perm (p.map W)
      have lx := List.length_erase_of_mem hx
      have := List.length_pos_of_mem hx
      have ih := least W A (C.erase x) ha.2 (hC.erase x) (by omega) fun b hb y hy' hyA => by
        refine h b (.tail _ hb) y (List.mem_of_mem_erase hy') ?_
        intro hm
        rcases List.mem_cons.mp hm with e | hm
        · exact hy y hy' e
        · exact hyA hm
      rw [e1, List.map_cons, List.map_cons, List.sum_cons, List.sum_cons]
      omega
    by_cases hac : a ∈ C
    · exact step a hac (Int.le_refl _) fun y hy e => by
        rw [e] at hy
        exact ((List.Nodup.mem_erase_iff hC).mp hy).1 rfl
    · obtain ⟨x, hx, hxA⟩ : ∃ x ∈ C, x ∉ a :: A := by
        apply Classical.byContradiction
        intro hn
        have : ∀ x ∈ C, x ∈ A := fun x hx => by
          apply Classical.byContradiction
          intro hxa
          refine hn ⟨x, hx, fun hm => ?_⟩
          rcases List.mem_cons.mp hm with e | hm
          · exact hac (e ▸ hx)
          · exact hxa hm
        have := nodup_len hC this
        omega
      exact step x hx (h a (.head _) x hx hxA) fun y hy e => hac (e ▸ List.mem_of_mem_erase hy)
theorem getD_at {α : Type} {xs : List α} {i : Nat} {d : α} (h : i < xs.length) : xs[i]? = some (xs.getD i d) := by
  rw [List.getD_eq_getElem?_getD, List.getElem?_eq_getElem h]; rfl
/-- a row whose neighbours grow, grows -/
theorem grow_iff {c : List Int} : c.Pairwise (· < ·) ↔ ∀ k, k + 1 < c.length → c.getD k 0 < c.getD (k + 1) 0 := by
  constructor
  · intro h k hk
    have := List.pairwise_iff_getElem.mp h k (k + 1) (by omega) hk (by omega)
    rw [List.getD_eq_getElem?_getD, List.getD_eq_getElem?_getD, List.getElem?_eq_getElem (by omega), List.getElem?_eq_getElem hk]
    exact this
  · intro h
    have key : ∀ (j i : Nat), i < j → j < c.length → c.getD i 0 < c.getD j 0 := by
      intro j
      induction j with
      | zero => intro i hi; omega
      | succ j ih =>
        intro i hi hj
        have h1 := h j hj
        by_cases e : i = j
        · rw [e]; exact h1
        · have := ih i (by omega) (by omega)
          omega
    rw [List.pairwise_iff_getElem]
    intro i j hi hj hij
    have := key j i hij hj
    rw [List.getD_eq_getElem?_getD, List.getD_eq_getElem?_getD, List.getElem?_eq_getElem hi, List.getElem?_eq_getElem hj] at this
    exact this
theorem ri_lt (lo : Int) (n : Nat) : (ri lo n).Pairwise (· < ·) := by
  unfold ri
  rw [List.pairwise_map]
  exact List.pairwise_lt_range.imp fun {a b} h => by omega
theorem lt_nodup {c : List Int} (h : c.Pairwise (· < ·)) : c.Nodup := h.imp fun {a b} h => by omega
theorem lt_eq {c e : List Int} (h : c.Pairwise (· < ·)) (h' : e.Pairwise (· < ·)) (hm : ∀ x, x ∈ c ↔ x ∈ e) : c = e := by
  have p : c.Perm e := perm_sub (lt_nodup h) (fun x hx => (hm x).mp hx) (nodup_len (lt_nodup h') fun x hx => (hm x).mpr hx)
  exact p.eq_of_pairwise (fun a b _ _ h1 h2 => Int.le_antisymm h1 h2) (h.imp fun {a b} h => Int.le_of_lt h) (h'.imp fun {a b} h => Int.le_of_lt h)
theorem srt_lt {c : List Int} (h : c.Nodup) : (srt c).Pairwise (· < ·) := by
  have h1 := srt_int c
  have h2 : (srt c).Nodup := (srt_perm c).nodup_iff.mpr h
  exact (h1.and h2).imp fun {a b} ⟨x, y⟩ => by omega
theorem whileF_nat {L M : Type} {c : L → Option Bool} {F : L → Option (Fl L L)} (en : Nat → L) (m : Nat) (h1 : ∀ j, j < m → c (en j) = some true ∧ F (en j) = some (.nx (en (j + 1)))) (h2 : c (en m) = some false) :
    ∀ (k j fuel : Nat), j + k = m → k < fuel → (whileF c F fuel (en j) : Option (Fl L M)) = some (.nx (en m))
  | 0, j, fuel + 1, e, _ => by
    have : j = m := by omega
    subst this
    show ((c (en j)).bind _) = _
    rw [h2]; rfl
  | k + 1, j, fuel + 1, e, hf => by
    obtain ⟨a, b⟩ := h1 j (by omega)
    show ((c (en j)).bind _) = _
    rw [a]
    show ((F (en j)).bind _) = _
    rw [b]
    exact whileF_nat en m h1 h2 k (j + 1) fuel (by omega) (by omega)
theorem cell_ok (ns : List Int) (k : Nat) (hk : k < 64) : cellD ns (.int (k : Int)) = some (.int (ns.getD k 0)) := by
  simp only [cellD]
  rw [if_pos (by omega), Int.toNat_natCast]
end Wk0

namespace Wk0
open PySem L2 PySem.Spec PyProof.Rows PySem.W PySem.SeqAt Dl
abbrev LI (ms : List Int) : D := .list (LD ms)
def Wt (ms : List Int) (k : Int) : Int := ms.getD k.toNat 0
def inR (n : Nat) (x : Int) : Bool := decide (0 ≤ x) && decide (x ≤ (n : Int) - 1)
def grows (c : List Int) : Bool := (List.range (c.length - 1)).all fun k => decide (c.getD k 0 < c.getD (k + 1) 0)
def isNum (n : Nat) (c : List Int) : Bool := c.all (inR n) && grows c
def filt (n : Nat) (c : List Int) : List Int := (ri 0 n).filter fun k => decide (k ∈ c)
theorem grows_iff {c : List Int} : grows c = true ↔ c.Pairwise (· < ·) := by
  unfold grows
  rw [grow_iff, List.all_eq_true]
  simp only [List.mem_range, decide_eq_true_eq]
  exact ⟨fun h k hk => h k (by omega), fun h k hk => h k (by omega)⟩
theorem isNum_iff {n : Nat} {c : List Int} : isNum n c = true ↔ (∀ x ∈ c, 0 ≤ x ∧ x < n) ∧ c.Pairwise (· < ·) := by
  unfold isNum
  rw [Bool.and_eq_true, grows_iff, List.all_eq_true]
  refine and_congr ⟨fun h x hx => ?_, fun h x hx => ?_⟩ Iff.rfl
  · have := h x hx
    unfold inR at this
    rw [Bool.and_eq_true, decide_eq_true_eq, decide_eq_true_eq] at this
    omega
  · have := h x hx
    unfold inR
    rw [Bool.and_eq_true, decide_eq_true_eq, decide_eq_true_eq]
    omega
theorem filt_lt (n : Nat) (c : List Int) : (filt n c).Pairwise (· < ·) := (ri_lt 0 n).sublist List.filter_sublist
theorem mem_filt {n : Nat} {c : List Int} {x : Int} : x ∈ filt n c ↔ (0 ≤ x ∧ x < n) ∧ x ∈ c := by
  unfold filt
  rw [List.mem_filter, mem_ri, decide_eq_true_eq, Int.zero_add]
theorem isNum_filt {n : Nat} {c : List Int} : isNum n c = decide (c = filt n c) := by
  rw [Bool.eq_iff_iff, decide_eq_true_eq, isNum_iff]
  constructor
  · rintro ⟨h1, h2⟩
    exact lt_eq h2 (filt_lt n c) fun x => by rw [mem_filt]; exact ⟨fun h => ⟨h1 x h, h⟩, fun h => h.2⟩
  · intro e
    rw [e]
    exact ⟨fun x hx => (mem_filt.mp hx).1, filt_lt n c⟩
def tot (ms c : List Int) : Int := (c.map (Wt ms)).sum
def room1 (ms : List Int) (p r : Int) (c : List Int) : Bool := decide (c = []) || decide (tot ms c + p * ((c.length : Int) - 1) ≤ r)
def fitB (ms : List Int) (p r : Int) (c : List Int) : Bool := isNum ms.length c && room1 ms p r c
theorem W_at {ms : List Int} {k : Int} (h0 : 0 ≤ k) (h1 : k < ms.length) : idxD (LI ms) (.int k) = some (.int (Wt ms k)) := idxD_L h0 (getD_at (by omega))
theorem whole_int (x : Int) : d_is_whole (.int x) = some (.bool true) := by
  have q1 : kitB "int" "int" = some true := by decide +kernel
  have q4 : kitB "int" "bool" = some false := by decide +kernel
  simp [d_is_whole, b_is_whole, andV, insD, tyName, q1, q4]
theorem within_ok (n : Nat) (x : Int) : d_is_within (.int x) (.int 0) (.int ((n : Int) - 1)) = some (.bool (inR n x)) := by
  unfold d_is_within b_is_within
  simp -implicitDefEqProofs only [c2, andV, ch3, Option.bind_some, f1_one, whole_int, truth_b, if_true, leD_int, isB_b, Option.map_some]
  unfold inR
  by_cases h : 0 ≤ x
  · rw [if_pos (decide_eq_true h), decide_eq_true h, Bool.true_and]; rfl
  · rw [if_neg (by rw [decide_eq_true_eq]; exact h), decide_eq_false h, Bool.false_and]; rfl
theorem numbers_is (n : Nat) (c : List Int) (hc : c.length ≤ 1000) : d_are_numbers (LI c) (.int (n : Int)) = some (.bool (isNum n c)) := by
  unfold d_are_numbers b_are_numbers
  have e1 : compM (turnC (fun d => some d) (fun part1 => some true) fun part1 => f3 d_is_within [part1, .int 0, .int ((n : Int) - 1)]) (LD c) = some (LD (c.map (inR n))) := compM_LDt fun x hx => by
    simp -implicitDefEqProofs only [turnC, Option.bind_some, if_true, tD_int, f3_three, within_ok, Option.map_some, tD_bool]
  simp -implicitDefEqProofs only [b2, c2, iteM, nxt, Option.bind_some, Option.map_some, itemsD_L, subD_int, e1, allL_LD, truth_b, List.all_map, Function.comp_id, Function.id_comp, lenL_L, LD_len]
  unfold isNum
  by_cases ha : c.all (inR n) = true
  · rw [ha]
    simp -implicitDefEqProofs only [Bool.not_true, Bool.false_eq_true, if_false, seqF_nx, Bool.true_and]
    rw [rng1D_i _ (by omega) (by omega), Option.bind_some, compM_LDt (g := fun k : Int => decide (c.getD k.toNat 0 < c.getD (k.toNat + 1) 0))]
    · simp -implicitDefEqProofs only [Option.map_some, Option.bind_some, allL_LD, outD_rt]
      congr 2
      have e1 : ((c.length : Int) - 1).toNat = c.length - 1 := by omega
      unfold grows
      rw [e1, ri, List.map_map, List.all_map]
      congr 1
      funext k
      simp
    · intro k hk
      obtain ⟨h0, h1⟩ := mem_ri.mp hk
      have a1 : idxD (LI c) (.int k) = some (.int (c.getD k.toNat 0)) := idxD_L h0 (getD_at (by omega))
      have a2 : idxD (LI c) (.int (k + 1)) = some (.int (c.getD (k.toNat + 1) 0)) := idxD_L (by omega) (by
        rw [show (k + 1).toNat = k.toNat + 1 by omega]; exact getD_at (by omega))
      simp -implicitDefEqProofs only [turnC, tD_int, Option.bind_some, if_true, addD_int, a1, a2, ltD_int, Option.map_some, tD_bool]
  · rw [Bool.not_eq_true] at ha
    rw [ha]
    simp -implicitDefEqProofs only [Bool.not_false, if_true, seqF_rt, outD_rt, Bool.false_and]
theorem W_list {ms c : List Int} (hc : ∀ x ∈ c, 0 ≤ x ∧ x < ms.length) : compM (turnC (fun d => some d) (fun k1 => some true) fun k1 => idxD (LI ms) k1) (LD c) = some (LD (c.map (Wt ms))) := compM_LDt fun x hx => by
  simp -implicitDefEqProofs only [turnC, Option.bind_some, if_true, tD_int, W_at (hc x hx).1 (hc x hx).2, Option.map_some]
theorem LI_nil : (PyData.list [] : D) = LI [] := rfl
theorem fits_ok (ms : List Int) (p r : Int) (c : List Int) (hc : c.length ≤ 1000) (hp : 0 ≤ p) (hp' : p ≤ 1000) : d_fits (LI ms) (.int p) (.int r) (LI c) = some (.bool (fitB ms p r c)) := by
  unfold d_fits b_fits
  simp -implicitDefEqProofs only [b2, c2, andV, orV, Option.bind_some, lenL_L, LD_len, f2_two, numbers_is _ _ hc, truth_b]
  unfold fitB
  cases hn : isNum ms.length c with
  | false => rfl
  | true =>
    have hin := (isNum_iff.mp hn).1
    have e0 : eqD (LI c) (.list []) = some (.bool (decide (c = []))) := eqD_Li c []
    simp -implicitDefEqProofs only [if_true, fit_ok, List.length_nil, Nat.zero_le, Option.map_some, Option.bind_some, e0, truth_b, f3_three, d_needed, b_needed, b2, c2, itemsD_L, W_list hin, sumL_LD, lenL_L, LD_len, subD_int, maxL, mulD_int p _ (.inl (show small64 p from ⟨by omega, by omega⟩)), addD_int, outD_rt, leD_int, Bool.true_and]
    unfold room1 tot
    by_cases he : c = []
    · rw [decide_eq_true he]; rfl
    · rw [decide_eq_false he]
      have hl : 1 ≤ c.length := List.length_pos_iff.mpr he
      have em : (if (0 : Int) < (c.length : Int) - 1 then (c.length : Int) - 1 else 0) = (c.length : Int) - 1 := by split <;> omega
      simp -implicitDefEqProofs only [Bool.false_eq_true, if_false, Bool.false_or, gt_iff_lt, em, Option.map_some, outD_rt]
theorem filt_ok (n : Nat) (hn : n ≤ 1000) (c : List Int) : (((c2 (some (.int (n : Int))) (some [])).bind rng1D).bind (compM (turnC (fun d => some d) (fun k1 => ((b2 (some k1) (some (LI c)) inD).bind isB)) (fun k1 => (some k1))))) = some (LD (filt n c)) := by
  simp -implicitDefEqProofs only [c2, b2, Option.bind_some, rng1D_n n (show n ≤ 16777216 by omega)]
  have := compM_LDf (h := turnC (fun d => some d) (fun k1 => ((inD k1 (LI c)).bind isB)) (fun k1 => (some k1))) (p := fun k : Int => decide (k ∈ c)) (g := fun k : Int => k) (xs := ri 0 n) (fun x hx => by
    simp -implicitDefEqProofs only [turnC, Option.bind_some, tD_int, inD_int, isB_b, Option.map_some]
    split <;> rfl)
  rw [this, List.map_id']; rfl
theorem lfits_ok (ms : List Int) (p r : Int) (c : List Int) (hc : c.length ≤ 1000) (hm : ms.length ≤ 1000) (hp : 0 ≤ p) (hp' : p ≤ 1000) : d__law_fits (LI ms) (.int p) (.int r) (LI c) = some (.bool (fitB ms p r c)) := by
  unfold d__law_fits b__law_fits
  have e := filt_ok ms.length hm c
  simp -implicitDefEqProofs only [b2, c2, Option.bind_some] at e
  simp -implicitDefEqProofs only [b2, c2, iteM, orV, Option.bind_some, lenL_L, LD_len, e, Option.map_some, neD_Li, isB_b]
  unfold fitB
  rw [isNum_filt]
  by_cases hf : c = filt ms.length c
  · have hn : isNum ms.length c = true := by rw [isNum_filt]; exact decide_eq_true hf
    have hin := (isNum_iff.mp hn).1
    rw [decide_eq_true hf, if_neg (by rw [decide_eq_true_eq]; exact fun h => h hf)]
    simp -implicitDefEqProofs only [seqF_nx, eqD_int, truth_b, itemsD_L, Option.bind_some, W_list hin, Option.map_some, sumL_LD, subD_int, mulD_int p _ (.inl (show small64 p from ⟨by omega, by omega⟩)), addD_int, leD_int, Bool.true_and]
    unfold room1 tot
    by_cases he : c = []
    · rw [decide_eq_true he, if_pos (by rw [decide_eq_true_eq, he]; rfl), he]; rfl
    · have hl : 1 ≤ c.length := List.length_pos_iff.mpr he
      rw [decide_eq_false he, if_neg (by rw [decide_eq_true_eq]; omega)]; rfl
  · rw [decide_eq_false hf, if_pos (by rw [decide_eq_true_eq]; exact hf)]
    simp -implicitDefEqProofs only [seqF_rt, outD_rt, Bool.false_and]
end Wk0

namespace Wk0
open PySem L2 PySem.Spec PyProof.Rows PySem.W PySem.SeqAt Dl
/-- the pieces ranked by minutes -/
noncomputable def prs (ms : List Int) : List (Int × Int) := (ri 0 ms.length).map fun k => (Wt ms k, k)
noncomputable def rk (ms : List Int) : List Int := (srt (prs ms)).map Prod.snd
noncomputable def pre (ms : List Int) (k : Nat) : List Int := srt ((rk ms).take k)
section
variable (ms : List Int)
theorem prs_zip : (ms.zipIdx.map fun p => ((p.2 : Int), p.1)).map (fun q : Int × Int => (q.2, q.1)) = prs ms := by
  apply List.ext_getElem?
  intro i
  unfold prs
  rw [List.map_map, List.getElem?_map, List.getElem?_map, List.getElem?_zipIdx]
  by_cases h : i < ms.length
  · rw [List.getElem?_eq_getElem h, ri_at h]
    simp [Wt, List.getD_eq_getElem?_getD, h]
  · rw [List.getElem?_eq_none (by omega), List.getElem?_eq_none (by rw [ri_len]; omega)]; rfl
theorem prs_mem {x : Int × Int} (h : x ∈ srt (prs ms)) : x.1 = Wt ms x.2 ∧ 0 ≤ x.2 ∧ x.2 < ms.length := by
  obtain ⟨k, hk, rfl⟩ := List.mem_map.mp ((srt_perm (prs ms)).mem_iff.mp h)
  have := mem_ri.mp hk
  exact ⟨rfl, by simp only []; omega, by simp only []; omega⟩
theorem rk_perm : (rk ms).Perm (ri 0 ms.length) := by
  refine ((srt_perm (prs ms)).map _).trans (.of_eq ?_)
  unfold prs
  rw [List.map_map]
  exact List.map_id' _
theorem rk_len : (rk ms).length = ms.length := by rw [(rk_perm ms).length_eq, ri_len]
theorem rk_nodup : (rk ms).Nodup := (rk_perm ms).nodup_iff.mpr (ri_nodup _ _)
theorem rk_in {x : Int} (h : x ∈ rk ms) : 0 ≤ x ∧ x < ms.length := by
  have := mem_ri.mp ((rk_perm ms).mem_iff.mp h); omega
theorem rk_up : ((rk ms).map (Wt ms)).Pairwise (· ≤ ·) := by
  unfold rk
  rw [List.map_map, List.pairwise_map]
  refine (List.Pairwise.and_mem.mp (srt_sorted (prs ms))).imp fun {x y} ⟨hx, hy, h⟩ => ?_
  have ex := (prs_mem ms hx).1
  have ey := (prs_mem ms hy).1
  rw [show Datum.toD y = .tuple [.int y.1, .int y.2] from rfl, show Datum.toD x = .tuple [.int x.1, .int x.2] from rfl, dataLt_ii] at h
  have := of_decide_eq_false h
  show Wt ms x.2 ≤ Wt ms y.2
  omega
theorem pre_num (k : Nat) : isNum ms.length (pre ms k) = true := by
  rw [isNum_iff]
  refine ⟨fun x hx => rk_in ms (List.mem_of_mem_take ((srt_perm _).mem_iff.mp hx)), srt_lt ((rk_nodup ms).sublist (List.take_sublist _ _))⟩
theorem pre_len {k : Nat} (h : k ≤ ms.length) : (pre ms k).length = k := by
  unfold pre
  rw [(srt_perm _).length_eq, List.length_take, rk_len]; omega
theorem pre_tot (k : Nat) : tot ms (pre ms k) = tot ms ((rk ms).take k) := sum_perm ((srt_perm _).map _)
/-- what is in the front weighs no more than what is not -/
theorem front_le {k : Nat} {a x : Int} (ha : a ∈ (rk ms).take k) (hx : x ∈ rk ms) (hn : x ∉ (rk ms).take k) : Wt ms a ≤ Wt ms x := by
  obtain ⟨i, hi⟩ := List.mem_iff_getElem?.mp ha
  obtain ⟨j, hj⟩ := List.mem_iff_getElem?.mp hx
  have hik := (List.getElem?_eq_some_iff.mp hi).1
  rw [List.length_take] at hik
  rw [List.getElem?_take, if_pos (by omega)] at hi
  have hjk : k ≤ j := by
    apply Classical.byContradiction
    intro h
    refine hn (List.mem_iff_getElem?.mpr ⟨j, ?_⟩)
    rw [List.getElem?_take, if_pos (by omega)]; exact hj
  have h1 := (List.getElem?_eq_some_iff.mp hi).1
  have h2 := (List.getElem?_eq_some_iff.mp hj).1
  have := List.pairwise_iff_getElem.mp (rk_up ms) i j (by rw [List.length_map]; exact h1) (by rw [List.length_map]; exact h2) (by omega)
  rw [List.getElem_map, List.getElem_map, (List.getElem?_eq_some_iff.mp hi).2, (List.getElem?_eq_some_iff.mp hj).2] at this
  exact this
/-- no choice of as many weighs less -/
theorem front_least {c : List Int} (h : isNum ms.length c = true) : tot ms ((rk ms).take c.length) ≤ tot ms c := by
  obtain ⟨h1, h2⟩ := isNum_iff.mp h
  have hl : c.length ≤ ms.length := by
    have := nodup_len (lt_nodup h2) (ys := ri 0 ms.length) fun x hx => mem_ri.mpr (by have := h1 x hx; omega)
    rwa [ri_len] at this
  refine least (Wt ms) _ c ((rk_nodup ms).sublist (List.take_sublist _ _)) (lt_nodup h2) (by rw [List.length_take, rk_len]; omega) fun a ha x hx hn => front_le ms ha ?_ hn
  exact (rk_perm ms).mem_iff.mpr (mem_ri.mpr (by have := h1 x hx; omega))
/-- the shortest weigh no more than the front -/
theorem short_least {e : List Int} (h : isNum ms.length e = true) (hs : ∀ k : Int, 0 ≤ k → k < ms.length → k ∉ e → ∀ j ∈ e, Wt ms j ≤ Wt ms k) : tot ms e ≤ tot ms ((rk ms).take e.length) := by
  obtain ⟨h1, h2⟩ := isNum_iff.mp h
  have hl : e.length ≤ ms.length := by
    have := nodup_len (lt_nodup h2) (ys := ri 0 ms.length) fun x hx => mem_ri.mpr (by have := h1 x hx; omega)
    rwa [ri_len] at this
  refine least (Wt ms) e _ (lt_nodup h2) ((rk_nodup ms).sublist (List.take_sublist _ _)) (by rw [List.length_take, rk_len]; omega) fun a ha x hx hn => ?_
  have := rk_in ms (List.mem_of_mem_take hx)
  exact hs x this.1 this.2 hn a ha
end
/-- how many of the ranked fit: down-closed -/
theorem pre_fit {ms : List Int} {p r : Int} {k : Nat} (hk : k ≤ ms.length) : fitB ms p r (pre ms k) = true ↔ (k = 0 ∨ tot ms ((rk ms).take k) + p * ((k : Int) - 1) ≤ r) := by
  unfold fitB room1
  rw [pre_num, pre_tot, pre_len ms hk, Bool.true_and, Bool.or_eq_true, decide_eq_true_eq, decide_eq_true_eq]
  refine or_congr ⟨fun h => ?_, fun h => ?_⟩ Iff.rfl
  · have := pre_len ms hk; rw [h] at this; exact this.symm
  · subst h; exact List.eq_nil_of_length_eq_zero (pre_len ms (Nat.zero_le _))
theorem pre_down {ms : List Int} {p r : Int} (hw : ∀ x ∈ ms, 0 ≤ x) (hp : 0 ≤ p) {k : Nat} (hk : k + 1 ≤ ms.length) (h : fitB ms p r (pre ms (k + 1)) = true) : fitB ms p r (pre ms k) = true := by
  rw [pre_fit (by omega)] at h
  rw [pre_fit (by omega)]
  rcases Nat.eq_zero_or_pos k with e | e
  · exact .inl e
  · refine .inr ?_
    rcases h with h | h
    · omega
    · have hlt : k < (rk ms).length := by rw [rk_len]; omega
      have ht : tot ms ((rk ms).take (k + 1)) = tot ms ((rk ms).take k) + Wt ms (rk ms)[k] := by
        unfold tot
        rw [List.take_add_one, List.getElem?_eq_getElem hlt, List.map_append, List.sum_append]
        simp
      have h0 : 0 ≤ Wt ms (rk ms)[k] := by
        have hin := rk_in ms (List.getElem_mem hlt)
        unfold Wt
        exact hw _ (List.mem_of_getElem? (getD_at (by omega)))
      have e1 : p * (((k + 1 : Nat) : Int) - 1) = p * ((k : Int) - 1) + p := by
        have : ((k + 1 : Nat) : Int) - 1 = ((k : Int) - 1) + 1 := by omega
        rw [this, Int.mul_add, Int.mul_one]
      rw [ht, e1] at h
      omega
theorem most_ex {ms : List Int} {p r : Int} (hw : ∀ x ∈ ms, 0 ≤ x) (hp : 0 ≤ p) : ∃ m, m ≤ ms.length ∧ ∀ k, k ≤ ms.length → (fitB ms p r (pre ms k) = true ↔ k ≤ m) := by
  have h0 : fitB ms p r (pre ms 0) = true := (pre_fit (Nat.zero_le _)).mpr (.inl rfl)
  have down : ∀ d k, k + d ≤ ms.length → fitB ms p r (pre ms (k + d)) = true → fitB ms p r (pre ms k) = true := by
    intro d
    induction d with
    | zero => intro k _ h; exact h
    | succ d ih => intro k hk h; exact ih k (by omega) (pre_down hw hp hk h)
  have key : ∀ n, n ≤ ms.length → ∃ m, m ≤ n ∧ ∀ k, k ≤ n → (fitB ms p r (pre ms k) = true ↔ k ≤ m) := by
    intro n
    induction n with
    | zero => intro _; exact ⟨0, by omega, fun k hk => by have : k = 0 := by omega
                                                          subst this; exact ⟨fun _ => by omega, fun _ => h0⟩⟩
    | succ n ih =>
      intro hn
      obtain ⟨m, hm, h⟩ := ih (by omega)
      by_cases hf : fitB ms p r (pre ms (n + 1)) = true
      · refine ⟨n + 1, by omega, fun k hk => ⟨fun _ => hk, fun _ => ?_⟩⟩
        refine down (n + 1 - k) k (by omega) ?_
        rw [show k + (n + 1 - k) = n + 1 by omega]; exact hf
      · refine ⟨m, by omega, fun k hk => ?_⟩
        by_cases e : k = n + 1
        · subst e; exact ⟨fun h => absurd h hf, fun h => by omega⟩
        · exact h k (by omega)
  exact key _ (Nat.le_refl _)
abbrev oD : Option (List Int) → D
  | none => .none
  | some e => LI e
theorem take_cut {α : Type} (xs : List α) (k : Nat) : cutL xs none (some (k : Int)) = xs.take k := by
  unfold cutL
  rw [HT.sIx_none, HT.sIx_nat, List.drop_zero, Nat.sub_zero]
  exact (List.take_eq_take_min ..).symm
theorem take_cut0 {α : Type} (xs : List α) (k : Nat) : cutL xs (some 0) (some (k : Int)) = xs.take k := by
  have := take_cut xs k
  unfold cutL at this ⊢
  have e : HT.sIx xs.length 0 (some 0) = HT.sIx xs.length 0 none := by
    simp [HT.sIx]
  rw [e]
  exact this
theorem most_ok (ms : List Int) (p r : Int) (hl : ms.length ≤ 100) (hp : 0 ≤ p) (hp' : p ≤ 1000) (m : Nat) (hm : m ≤ ms.length) (h : ∀ k, k ≤ ms.length → (fitB ms p r (pre ms k) = true ↔ k ≤ m)) :
    d_most_pieces (LI ms) (.int p) (.int r) = some (.tuple [LI (pre ms m), oD (if m = ms.length then none else some (pre ms (m + 1)))]) := by
  unfold d_most_pieces b_most_pieces
  have e1 : enumD [LI ms] = some (LD (ms.zipIdx.map fun p => ((p.2 : Int), p.1))) := by
    show fit _ (enumL (LD ms)) = _
    rw [enumL_LD, fit_ok (by rw [LD_len]; omega)]
  have e2 : compM (turnC un2 (fun k2 => some true) fun k2 => fit [k2.2, k2.1].length (.tuple [k2.2, k2.1])) (LD (ms.zipIdx.map fun p => ((p.2 : Int), p.1))) = some (LD (prs ms)) := by
    rw [← prs_zip]
    refine compM_LDt (g := fun q : Int × Int => (q.2, q.1)) ?_
    rintro ⟨i, x⟩ hx
    simp -implicitDefEqProofs only [turnC, tD_pair, un2_t, Option.bind_some, if_true, fit_ok, List.length_cons, List.length_nil, Nat.reduceAdd, Nat.reduceLeDiff, Option.map_some]
  have e3 : sortF [.list (LD (prs ms))] = some (LD (srt (prs ms))) := sortF_LD _ (Sortable.tuples fun b => ⟨_, _, rfl⟩) (by decide)
  have e4 : compM (turnC un2 (fun x3 => some true) fun x3 => some x3.2) (LD (srt (prs ms))) = some (LD (rk ms)) := by
    refine compM_LDt (g := Prod.snd) ?_
    rintro ⟨i, x⟩ hx
    simp -implicitDefEqProofs only [turnC, tD_pair, un2_t, Option.bind_some, if_true, Option.map_some]
  have hsl : ∀ k : Nat, sliceD (.list (LD (rk ms))) none (some (k : Int)) = some (LI ((rk ms).take k)) := fun k => by
    simp only [sliceD]
    rw [cutL_LD, take_cut]
  have hs : ∀ k : Nat, sortF [LI ((rk ms).take k)] = some (LD (pre ms k)) := fun k => sortF_int _
  have pl : ∀ k : Nat, (pre ms k).length ≤ 1000 := fun k => by
    unfold pre; rw [(srt_perm _).length_eq, List.length_take, rk_len]; omega
  simp -implicitDefEqProofs only [b2, b3, c2, nxt, iteM, Option.bind_some, e1, e2, e3, e4, Option.map_some, itemsD_L, seqF_nx]
  rw [seqF_do (v := .int (m : Int)) (n := _) (r := some (.rt (.tuple [LI (pre ms m), oD (if m = ms.length then none else some (pre ms (m + 1)))])))]
  · rfl
  · refine whileF_nat (L := D) (fun j : Nat => PyData.int (j : Int)) m (fun j hj => ⟨?_, ?_⟩) ?_ m 0 1000000 (by omega) (by omega)
    · have e5 : ((j : Int) + 1) = ((j + 1 : Nat) : Int) := by omega
      simp -implicitDefEqProofs only [andB, lenL_L, LD_len, rk_len, Option.bind_some, ltD_int, isB_b, addD_int, oI_int, e5, hsl, hs, Option.map_some, f4_four, fits_ok ms p r _ (pl _) hp hp', truth_b]
      rw [if_pos (by rw [decide_eq_true_eq]; omega), (h (j + 1) (by omega)).mpr (by omega)]
    · show seqF (some (.nx (PyData.int ((j : Int) + 1)))) _ = _
      rw [seqF_nx]; rfl
    · have e5 : ((m : Int) + 1) = ((m + 1 : Nat) : Int) := by omega
      simp -implicitDefEqProofs only [andB, lenL_L, LD_len, rk_len, Option.bind_some, ltD_int, isB_b, addD_int, oI_int, e5, hsl, hs, Option.map_some, f4_four, fits_ok ms p r _ (pl _) hp hp', truth_b]
      by_cases e : m = ms.length
      · rw [if_neg (by rw [decide_eq_true_eq]; omega)]
      · rw [if_pos (by rw [decide_eq_true_eq]; omega)]
        have : ¬ fitB ms p r (pre ms (m + 1)) = true := fun q => by have := (h (m + 1) (by omega)).mp q; omega
        rw [Bool.not_eq_true] at this
        rw [this]
  · have e5 : ((m : Int) + 1) = ((m + 1 : Nat) : Int) := by omega
    simp -implicitDefEqProofs only [oI_int, Option.bind_some, hsl, hs, Option.map_some, lenL_L, LD_len, rk_len, eqD_int, isB_b, addD_int, e5]
    by_cases e : m = ms.length
    · rw [if_pos (by rw [decide_eq_true_eq]; omega), if_pos e]; rfl
    · rw [if_neg (by rw [decide_eq_true_eq]; omega), if_neg e]; rfl
end Wk0

namespace Wk0
open PySem L2 PySem.Spec PyProof.Rows PySem.W PySem.SeqAt Dl
theorem forF_any {α M : Type} [DecidableEq α] [Datum α] {F : D → Unit → Option (Fl Unit Unit)} {bad : α → Bool} {r : D} : ∀ {xs : List α}, (∀ x ∈ xs, F (Datum.toD x) () = some (if bad x then .rt r else .nx ())) → (forF F (LD xs) () : Option (Fl Unit M)) = some (if xs.any bad then .rt r else .nx ())
  | [], _ => rfl
  | x :: t, h => by
    show ((F (Datum.toD x) ()).bind _) = _
    rw [h x (.head _)]
    cases hb : bad x with
    | true => simp [hb]
    | false =>
      have := forF_any (M := M) (F := F) (xs := t) (bad := bad) (r := r) fun y hy => h y (.tail _ hy)
      simp only [Bool.false_eq_true, if_false, Option.bind_some, List.any_cons, hb, Bool.false_or]
      exact this
theorem compM_keep {k : D → Option Bool} : ∀ {ds : List D}, (∀ d ∈ ds, ∃ b, k d = some b) → ∃ es, compM (turnC (fun d => some d) k (fun x => some x)) ds = some es ∧ es.length ≤ ds.length ∧ ∀ e ∈ es, e ∈ ds ∧ k e = some true
  | [], _ => ⟨[], rfl, by simp, by simp⟩
  | d :: t, h => by
    obtain ⟨es, h1, h2, h3⟩ := compM_keep (ds := t) fun y hy => h y (.tail _ hy)
    obtain ⟨b, hb⟩ := h d (.head _)
    cases b with
    | true =>
      refine ⟨d :: es, ?_, by simp; omega, ?_⟩
      · show ((turnC _ _ _ d).bind fun o => (compM _ t).bind fun ys => some (o.toList ++ ys)) = _
        simp [turnC, hb, h1]
      · intro e he
        rcases List.mem_cons.mp he with e' | he
        · rw [e']; exact ⟨.head _, hb⟩
        · exact ⟨.tail _ (h3 e he).1, (h3 e he).2⟩
    | false =>
      refine ⟨es, ?_, by simp; omega, fun e he => ⟨.tail _ (h3 e he).1, (h3 e he).2⟩⟩
      show ((turnC _ _ _ d).bind fun o => (compM _ t).bind fun ys => some (o.toList ++ ys)) = _
      simp [turnC, hb, h1]
def shortB (ms e : List Int) : Bool := (ri 0 ms.length).all fun k => decide (k ∈ e) || e.all fun j => decide (Wt ms j ≤ Wt ms k)
def jB (ms : List Int) (p r : Int) (c : List Int) : Option (List Int) → Bool
  | none => fitB ms p r c && decide (c.length = ms.length)
  | some e => fitB ms p r c && (decide (c.length ≠ ms.length) && (isNum ms.length e && (decide (e.length = c.length + 1) && (!fitB ms p r e && shortB ms e))))
theorem zip_ri (ms : List Int) : (ms.zipIdx.map fun p => ((p.2 : Int), p.1)) = (ri 0 ms.length).map fun k => (k, Wt ms k) := by
  apply List.ext_getElem?
  intro i
  rw [List.getElem?_map, List.getElem?_map, List.getElem?_zipIdx]
  by_cases h : i < ms.length
  · rw [List.getElem?_eq_getElem h, ri_at h]
    simp [Wt, List.getD_eq_getElem?_getD, h]
  · rw [List.getElem?_eq_none (by omega), List.getElem?_eq_none (by rw [ri_len]; omega)]; rfl
theorem shortest_ok (ms e : List Int) (hl : ms.length ≤ 1000) (he : e ≠ []) (hin : ∀ x ∈ e, 0 ≤ x ∧ x < ms.length) : d_are_shortest (LI ms) (LI e) = some (.bool (shortB ms e)) := by
  unfold d_are_shortest b_are_shortest
  have e1 : enumD [LI ms] = some (LD ((ri 0 ms.length).map fun k => (k, Wt ms k))) := by
    show fit _ (enumL (LD ms)) = _
    rw [enumL_LD, fit_ok (by rw [LD_len]; omega), zip_ri]
  have e2 : compM (turnC un2 (fun k2 => Option.bind (notInD k2.1 (LI e)) isB) fun k2 => some k2.2) (LD ((ri 0 ms.length).map fun k => (k, Wt ms k))) = some (LD (((ri 0 ms.length).filter fun k => decide (k ∉ e)).map (Wt ms))) := by
    have := compM_LDf (h := turnC un2 (fun k2 => Option.bind (notInD k2.1 (LI e)) isB) fun k2 => some k2.2) (p := fun q : Int × Int => decide (q.1 ∉ e)) (g := fun q : Int × Int => q.2) (xs := (ri 0 ms.length).map fun k => (k, Wt ms k)) (by
      rintro ⟨i, x⟩ hx
      simp -implicitDefEqProofs only [turnC, tD_pair, un2_t, Option.bind_some, tD_int, notInD_int, isB_b, Option.map_some]
      split <;> rfl)
    rw [this, List.filter_map, List.map_map]; rfl
  simp -implicitDefEqProofs only [b2, c2, nxt, orV, Option.bind_some, e1, e2, Option.map_some, seqF_nx, truth, itemsD_L, W_list hin, maxL_LD, minL_LD, truth_b]
  unfold shortB
  generalize hoth : ((ri 0 ms.length).filter fun k => decide (k ∉ e)).map (Wt ms) = oth
  have hmem : ∀ v, v ∈ oth ↔ ∃ k : Int, 0 ≤ k ∧ k < ms.length ∧ k ∉ e ∧ Wt ms k = v := fun v => by
    rw [← hoth, List.mem_map]
    constructor
    · rintro ⟨k, hk, rfl⟩
      obtain ⟨h1, h2⟩ := List.mem_filter.mp hk
      have := mem_ri.mp h1
      exact ⟨k, by omega, by omega, of_decide_eq_true h2, rfl⟩
    · rintro ⟨k, h1, h2, h3, rfl⟩
      exact ⟨k, List.mem_filter.mpr ⟨mem_ri.mpr (by omega), decide_eq_true h3⟩, rfl⟩
  cases oth with
  | nil =>
    simp -implicitDefEqProofs only [LD_nil, List.isEmpty_nil, Bool.not_true, Bool.not_false, if_true, Option.map_some, outD_rt]
    congr 2
    symm
    rw [List.all_eq_true]
    intro k hk
    have hk := mem_ri.mp hk
    rw [Bool.or_eq_true, decide_eq_true_eq]
    apply Classical.byContradiction
    intro h
    have := (hmem (Wt ms k)).mpr ⟨k, by omega, by omega, fun h' => h (.inl h'), rfl⟩
    simp at this
  | cons v t =>
    have ene : (LD (v :: t)).isEmpty = false := rfl
    simp -implicitDefEqProofs only [ene, Bool.not_false, Bool.not_true, Bool.false_eq_true, if_false]
    obtain ⟨M, hM⟩ : ∃ M, (e.map (Wt ms)).max? = some M := by
      cases hq : (e.map (Wt ms)).max? with
      | none => rw [List.max?_eq_none_iff] at hq; exact absurd (List.map_eq_nil_iff.mp hq) he
      | some M => exact ⟨M, rfl⟩
    obtain ⟨m, hm⟩ : ∃ m, (v :: t).min? = some m := by
      cases hq : (v :: t).min? with
      | none => rw [List.min?_eq_none_iff] at hq; cases hq
      | some M => exact ⟨M, rfl⟩
    rw [hM, hm]
    simp -implicitDefEqProofs only [Option.map_some, Option.bind_some, leD_int, outD_rt]
    congr 2
    have aM := List.max?_eq_some_iff.mp hM
    have am := List.min?_eq_some_iff.mp hm
    rw [Bool.eq_iff_iff, decide_eq_true_eq, List.all_eq_true]
    constructor
    · intro hle k hk
      have hk := mem_ri.mp hk
      rw [Bool.or_eq_true, decide_eq_true_eq, List.all_eq_true]
      by_cases hke : k ∈ e
      · exact .inl hke
      · refine .inr fun j hj => ?_
        rw [decide_eq_true_eq]
        have h1 := aM.2 _ (List.mem_map_of_mem (f := Wt ms) hj)
        have h2 := am.2 _ ((hmem _).mpr ⟨k, by omega, by omega, hke, rfl⟩)
        omega
    · intro h
      obtain ⟨j, hj, ej⟩ := List.mem_map.mp aM.1
      obtain ⟨k, k0, k1, k2, ek⟩ := (hmem _).mp am.1
      have := h k (mem_ri.mpr (by omega))
      rw [Bool.or_eq_true, decide_eq_true_eq, List.all_eq_true] at this
      rcases this with h' | h'
      · exact absurd h' k2
      · have := h' j hj
        rw [decide_eq_true_eq] at this
        omega
theorem isNone_o (o : Option (List Int)) : isNoneB (oD o) = o.isNone := by cases o <;> rfl
theorem judge_ok (ms : List Int) (p r : Int) (hl : ms.length ≤ 1000) (hp : 0 ≤ p) (hp' : p ≤ 1000) (c : List Int) (o : Option (List Int)) (hc : c.length ≤ 1000) (ho : ∀ e, o = some e → e.length ≤ 1000) : d_judge_most_pieces (LI ms) (.int p) (.int r) (.tuple [LI c, oD o]) = some (.bool (jB ms p r c o)) := by
  unfold d_judge_most_pieces b_judge_most_pieces
  simp -implicitDefEqProofs only [b2, c2, iteM, orB, andV, nxt, Option.bind_some, lenL_T, List.length_cons, List.length_nil, neD_int, isB_b, show ¬ ((0 + 1 + 1 : Nat) : Int) ≠ 2 from by omega, decide_false, Bool.false_eq_true, if_false, seqF_nx, un2_t, Option.map_some, f4_four, fits_ok ms p r c hc hp hp', truth_b, lenL_L, LD_len, eqD_int, isD_none, isNone_o]
  cases hf : fitB ms p r c with
  | false => cases o <;> simp [jB, hf]
  | true =>
    simp -implicitDefEqProofs only [Bool.not_true, Bool.false_eq_true, if_false, seqF_nx]
    by_cases hn : c.length = ms.length
    · have hn' : (c.length : Int) = ms.length := by omega
      cases o <;> simp [jB, hf, hn, hn']
    · have hn' : ¬ (c.length : Int) = ms.length := by omega
      cases o with
      | none => simp [jB, hf, hn, hn']
      | some e =>
        have he := ho e rfl
        simp -implicitDefEqProofs only [decide_eq_false hn', Bool.false_eq_true, if_false, Option.isNone_some, seqF_nx, oD, f2_two, numbers_is _ e he, Option.bind_some, truth_b, Option.map_some, lenL_L, LD_len, addD_int, neD_int, isB_b]
        rw [show jB ms p r c (some e) = (fitB ms p r c && (decide (c.length ≠ ms.length) && (isNum ms.length e && (decide (e.length = c.length + 1) && (!fitB ms p r e && shortB ms e))))) from rfl, hf, decide_eq_true (show c.length ≠ ms.length from hn), Bool.true_and, Bool.true_and]
        cases hi : isNum ms.length e with
        | false => simp
        | true =>
          simp -implicitDefEqProofs only [Bool.not_true, Bool.false_eq_true, if_false, Bool.true_and]
          by_cases hel : e.length = c.length + 1
          · have hel' : ¬ ((e.length : Int) ≠ c.length + 1) := by omega
            have hne : e ≠ [] := fun h => by rw [h] at hel; simp at hel
            rw [decide_eq_true hel, decide_eq_false hel']
            simp -implicitDefEqProofs only [Bool.false_eq_true, if_false, seqF_nx, f4_four, fits_ok ms p r e he hp hp', Option.bind_some, truth_b, Option.map_some, shortest_ok ms e hl hne (isNum_iff.mp hi).1, Bool.true_and]
            cases fitB ms p r e <;> rfl
          · have hel' : ((e.length : Int) ≠ c.length + 1) := by omega
            rw [decide_eq_false hel, decide_eq_true hel']
            simp
theorem accepts_ok (ms : List Int) (p r : Int) (hl : ms.length ≤ 1000) (hp : 0 ≤ p) (hp' : p ≤ 1000) (c : List Int) (o : Option (List Int)) (hc : c.length ≤ 1000) (ho : ∀ e, o = some e → e.length ≤ 1000) : d__law_accepts (LI ms) (.int p) (.int r) (.tuple [LI c, oD o]) = some (.bool (jB ms p r c o)) := by
  unfold d__law_accepts b__law_accepts
  simp -implicitDefEqProofs only [b2, c2, iteM, orB, andV, nxt, Option.bind_some, lenL_T, List.length_cons, List.length_nil, neD_int, isB_b, show ¬ ((0 + 1 + 1 : Nat) : Int) ≠ 2 from by omega, decide_false, Bool.false_eq_true, if_false, seqF_nx, un2_t, Option.map_some, f4_four, lfits_ok ms p r c hc hl hp hp', truth_b, lenL_L, LD_len, eqD_int, isD_none, isNone_o]
  cases hf : fitB ms p r c with
  | false => cases o <;> simp [jB, hf]
  | true =>
    simp -implicitDefEqProofs only [Bool.not_true, Bool.false_eq_true, if_false, seqF_nx]
    by_cases hn : c.length = ms.length
    · have hn' : (c.length : Int) = ms.length := by omega
      cases o <;> simp [jB, hf, hn, hn']
    · have hn' : ¬ (c.length : Int) = ms.length := by omega
      cases o with
      | none => simp [jB, hf, hn, hn']
      | some e =>
        have he := ho e rfl
        have ef := filt_ok ms.length hl e
        simp -implicitDefEqProofs only [b2, c2, Option.bind_some] at ef
        simp -implicitDefEqProofs only [decide_eq_false hn', Bool.false_eq_true, if_false, Option.isNone_some, seqF_nx, oD, ef, Option.bind_some, truth_b, Option.map_some, neD_Li, lenL_L, LD_len, addD_int, neD_int, isB_b]
        rw [show jB ms p r c (some e) = (fitB ms p r c && (decide (c.length ≠ ms.length) && (isNum ms.length e && (decide (e.length = c.length + 1) && (!fitB ms p r e && shortB ms e))))) from rfl, hf, decide_eq_true (show c.length ≠ ms.length from hn), Bool.true_and, Bool.true_and, isNum_filt]
        by_cases hi : e = filt ms.length e
        · have hi1 : isNum ms.length e = true := by rw [isNum_filt]; exact decide_eq_true hi
          have hin := (isNum_iff.mp hi1).1
          rw [decide_eq_true hi, if_neg (by rw [decide_eq_true_eq]; exact fun h => h hi)]
          by_cases hel : e.length = c.length + 1
          · have hel' : ¬ ((e.length : Int) ≠ c.length + 1) := by omega
            rw [decide_eq_true hel, decide_eq_false hel']
            simp -implicitDefEqProofs only [Bool.false_eq_true, if_false, seqF_nx, rng1D_n ms.length (show ms.length ≤ 16777216 by omega), Option.bind_some]
            rw [forF_any (α := Int) (bad := fun k => !(decide (k ∈ e) || e.all fun j => decide (Wt ms j ≤ Wt ms k))) (r := .bool false)]
            · have esh : ((ri 0 ms.length).any fun k => !(decide (k ∈ e) || e.all fun j => decide (Wt ms j ≤ Wt ms k))) = !shortB ms e := by
                unfold shortB
                rw [← List.not_all_eq_any_not]
              rw [esh]
              cases shortB ms e with
              | true =>
                simp -implicitDefEqProofs only [Bool.not_true, Bool.false_eq_true, if_false, seqF_nx, lfits_ok ms p r e he hl hp hp', Option.bind_some, truth_b, Option.map_some, outD_rt, Bool.and_true, Bool.true_and, f4_four]
              | false => simp
            · intro k hk
              have hk := mem_ri.mp hk
              have eg : compM (turnC (fun d => some d) (fun j5 => Option.bind (Option.bind (idxD (LI ms) j5) fun x => Option.bind (idxD (LI ms) (.int k)) fun y => gtD x y) isB) fun j5 => some j5) (LD e) = some (LD ((e.filter fun j => decide (Wt ms k < Wt ms j)).map fun j => j)) := compM_LDf fun j hj => by
                simp -implicitDefEqProofs only [turnC, Option.bind_some, tD_int, W_at (hin j hj).1 (hin j hj).2, W_at (show 0 ≤ k by omega) (show k < ms.length by omega), gtD_int, isB_b, Option.map_some]
                split <;> rfl
              simp -implicitDefEqProofs only [b2, c2, andB, tD_int, Option.bind_some, notInD_int, isB_b, itemsD_L, eg, Option.map_some, lenL_L, LD_len, gtD_int]
              by_cases hke : k ∈ e
              · simp [hke]
              · by_cases hall : e.all (fun j => decide (Wt ms j ≤ Wt ms k)) = true
                · have : (e.filter fun j => decide (Wt ms k < Wt ms j)) = [] := by
                    rw [List.filter_eq_nil_iff]
                    intro j hj
                    have := List.all_eq_true.mp hall j hj
                    rw [decide_eq_true_eq] at this ⊢
                    omega
                  rw [this]
                  simp [hke, hall]
                · have : (e.filter fun j => decide (Wt ms k < Wt ms j)) ≠ [] := fun h => hall (by
                    rw [List.all_eq_true]
                    intro j hj
                    have := (List.filter_eq_nil_iff.mp h) j hj
                    rw [decide_eq_true_eq] at this ⊢
                    omega)
                  have := List.length_pos_iff.mpr this
                  rw [Bool.not_eq_true] at hall
                  have hpos : (0 : Int) < (((e.filter fun j => decide (Wt ms k < Wt ms j)).map fun j => j).length : Int) := by rw [List.length_map]; omega
                  rw [decide_eq_true hpos]
                  simp [hke, hall]
          · have hel' : ((e.length : Int) ≠ c.length + 1) := by omega
            rw [decide_eq_false hel, decide_eq_true hel']
            simp
        · rw [decide_eq_false hi, if_pos (by rw [decide_eq_true_eq]; exact hi)]
          simp
theorem pair_short (ms : List Int) (p r : Int) (ds : List D) (h : ds.length ≠ 2) : d_judge_most_pieces (LI ms) (.int p) (.int r) (.tuple ds) = some (.bool false) ∧ d__law_accepts (LI ms) (.int p) (.int r) (.tuple ds) = some (.bool false) := by
  have : (ds.length : Int) ≠ 2 := by omega
  constructor
  · unfold d_judge_most_pieces b_judge_most_pieces
    simp -implicitDefEqProofs only [b2, c2, iteM, Option.bind_some, lenL_T, neD_int, isB_b, decide_eq_true this, if_true, Option.map_some, seqF_rt, outD_rt]
  · unfold d__law_accepts b__law_accepts
    simp -implicitDefEqProofs only [b2, c2, iteM, Option.bind_some, lenL_T, neD_int, isB_b, decide_eq_true this, if_true, Option.map_some, seqF_rt, outD_rt]
/-- a right paper has as many pieces as fit -/
theorem jB_most {ms : List Int} {p r : Int} {m : Nat} (hm : m ≤ ms.length) (h : ∀ k, k ≤ ms.length → (fitB ms p r (pre ms k) = true ↔ k ≤ m)) : (∀ c, fitB ms p r c = true → c.length ≤ m) ∧ ∀ c o, jB ms p r c o = true → c.length = m := by
  have lenOk : ∀ c, isNum ms.length c = true → c.length ≤ ms.length := fun c hc => by
    obtain ⟨h1, h2⟩ := isNum_iff.mp hc
    have := nodup_len (lt_nodup h2) (ys := ri 0 ms.length) fun x hx => mem_ri.mpr (by have := h1 x hx; omega)
    rwa [ri_len] at this
  have A : ∀ c, fitB ms p r c = true → c.length ≤ m := fun c hc => by
    unfold fitB at hc
    obtain ⟨h1, h2⟩ := (Bool.and_eq_true _ _).mp hc
    refine (h c.length (lenOk c h1)).mp ((pre_fit (lenOk c h1)).mpr ?_)
    unfold room1 at h2
    rw [Bool.or_eq_true, decide_eq_true_eq, decide_eq_true_eq] at h2
    rcases h2 with e | h2
    · exact .inl (by rw [e]; rfl)
    · have := front_least ms h1
      exact .inr (by omega)
  refine ⟨A, fun c o hj => ?_⟩
  cases o with
  | none =>
    unfold jB at hj
    rw [Bool.and_eq_true, decide_eq_true_eq] at hj
    have := A c hj.1
    omega
  | some e =>
    unfold jB at hj
    simp only [Bool.and_eq_true, decide_eq_true_eq, Bool.not_eq_true'] at hj
    obtain ⟨h1, h2, h3, h4, h5, h6⟩ := hj
    have a1 := A c h1
    have hel := lenOk e h3
    have hne : e ≠ [] := fun h => by rw [h] at h4; simp at h4
    have hs : tot ms e ≤ tot ms ((rk ms).take e.length) := short_least ms h3 fun k k0 k1 hk j hj => by
      unfold shortB at h6
      have := List.all_eq_true.mp h6 k (mem_ri.mpr (by omega))
      rw [Bool.or_eq_true, decide_eq_true_eq, List.all_eq_true] at this
      rcases this with h' | h'
      · exact absurd h' hk
      · have := h' j hj
        rwa [decide_eq_true_eq] at this
    have hnf : ¬ fitB ms p r (pre ms e.length) = true := by
      rw [pre_fit hel]
      rintro (h' | h')
      · omega
      · unfold fitB room1 at h5
        rw [h3, decide_eq_false hne, Bool.true_and, Bool.false_or, decide_eq_false_iff_not] at h5
        omega
    rw [h _ hel] at hnf
    omega
end Wk0

namespace Wk0
open PySem L2 PySem.Spec PyProof.Rows PySem.W PySem.SeqAt Dl
def Gd (ms : List Int) (p r : Int) (m : Nat) (d : D) : Prop := ∃ b : Bool, d_judge_most_pieces (LI ms) (.int p) (.int r) d = some (.bool b) ∧ d__law_accepts (LI ms) (.int p) (.int r) d = some (.bool b) ∧
  (b = true → ∃ c : List Int, idxD d (.int 0) = some (LI c) ∧ c.length = m)
theorem sets_ok (n : Nat) (hn : n ≤ 8) : ∃ ss : List (List Int), d__law_sets (.int (n : Int)) = some (.list (LD ss)) ∧ ∀ s ∈ ss, s.length ≤ n := by
  unfold d__law_sets b__law_sets
  have hr : rng1D [.int (n : Int)] = some (LD (ri 0 n)) := rng1D_n n (by omega)
  simp -implicitDefEqProofs only [b2, c2, nxt, Option.bind_some, fit_ok, List.length_cons, List.length_nil, Nat.reduceAdd, Nat.reduceLeDiff, Nat.zero_le, Option.map_some, seqF_nx, hr]
  obtain ⟨l, e, ss, rfl, h1, h2⟩ := gv_for (M := Unit) (F := fun d (l2 : D) => ((fun d => some d) d).bind fun v3 => (seqF (nxt (b2 (some l2) ((((some l2).bind itemsD).bind (compM (turnC (fun d => some d) (fun some5 => (some true)) (fun some5 => (b2 (some some5) (some (.list [v3])) addD))))).map .list) addD)) fun found4 => (some (.nx found4) : Option (Fl D D))))
    (xs := ri 0 n) (l := .list [.list []]) (fun i l => ∃ ss : List (List Int), l = .list (LD ss) ∧ ss.length = 2 ^ i ∧ ∀ s ∈ ss, s.length ≤ i) ⟨[[]], rfl, rfl, by simp⟩ (by
      rintro i x l hx ⟨ss, rfl, h1, h2⟩
      have hi : i < n := by have := (List.getElem?_eq_some_iff.mp hx).1; simpa using this
      have hp : 2 ^ i ≤ 2 ^ 8 := Nat.pow_le_pow_right (by omega) (by omega)
      have ec : compM (turnC (fun d => some d) (fun some5 => (some true)) (fun some5 => (addD some5 (.list [PyData.int x])))) (LD ss) = some (LD (ss.map fun s => s ++ [x])) := compM_LDt fun s hs => by
        have e5 : addD (.list (LD s)) (.list [PyData.int x]) = some (.list (LD (s ++ [x]))) := by
          show fit _ (PyData.list (LD s ++ LD [x])) = _
          have := h2 s hs
          rw [fit_ok (by rw [LD_len]; simp; omega), LD_app]
        simp -implicitDefEqProofs only [turnC, Option.bind_some, if_true, tD_list, e5, Option.map_some]
      have ea : addD (.list (LD ss)) (.list (LD (ss.map fun s => s ++ [x]))) = some (.list (LD (ss ++ ss.map fun s => s ++ [x]))) := by
        show fit _ (PyData.list (LD _ ++ LD _)) = _
        rw [fit_ok (by rw [LD_len, LD_len, List.length_map]; omega), LD_app]
      simp -implicitDefEqProofs only [b2, Option.bind_some, itemsD_L, tD_int, ec, Option.map_some, ea]
      refine gv_go rfl (gv_nx ⟨_, rfl, by rw [List.length_append, List.length_map, Nat.pow_succ]; omega, fun s hs => ?_⟩)
      rcases List.mem_append.mp hs with hs | hs
      · have := h2 s hs; omega
      · obtain ⟨t, ht, rfl⟩ := List.mem_map.mp hs
        have := h2 t ht
        simp; omega)
  simp -implicitDefEqProofs only [b2, nxt, Option.bind_some] at e
  rw [ri_len] at h2
  refine ⟨ss, ?_, h2⟩
  rw [seqF_do e rfl]; rfl
theorem law_true (ns : List Int) (hns : ns.length ≤ 63) : d_law ns = some (.bool true) := by
  obtain ⟨zs, hz, hzl, hzb⟩ := numbers_ok (ns.getD 0 0) 40 27720 (by omega) (by omega) (by omega)
  obtain ⟨qs, hm, hml, hmb⟩ := numbers_ok (ns.getD 1 0) 20 5040 (by omega) (by omega) (by omega)
  have hc0 : cellD ns (.int 0) = some (.int (ns.getD 0 0)) := cell_ok ns 0 (by omega)
  have hc1 : cellD ns (.int 1) = some (.int (ns.getD 1 0)) := cell_ok ns 1 (by omega)
  have hz : d__law_numbers (.int (ns.getD 0 0)) (.int 40) (.int 27720) = some (LD zs) := hz
  have hm : d__law_numbers (.int (ns.getD 1 0)) (.int 20) (.int 5040) = some (LD qs) := hm
  have Zf : ∀ k : Int, 0 ≤ k → k < 40 → idxD (.list (LD zs)) (.int k) = some (.int (zs.getD k.toNat 0)) := fun k h h' => idxD_L h (getD_at (by omega))
  have Zk : ∀ k : Nat, k < 40 → idxD (.list (LD zs)) (.int (k : Int)) = some (.int (zs.getD k 0)) := fun k h => idxD_L (by omega) (getD_at (by omega))
  have Z0 : idxD (.list (LD zs)) (.int 0) = some (.int (zs.getD 0 0)) := Zk 0 (by omega)
  have Z39 : idxD (.list (LD zs)) (.int 39) = some (.int (zs.getD 39 0)) := Zk 39 (by omega)
  have Z22 : idxD (.list (LD zs)) (.int 22) = some (.int (zs.getD 22 0)) := Zk 22 (by omega)
  have Z23 : idxD (.list (LD zs)) (.int 23) = some (.int (zs.getD 23 0)) := Zk 23 (by omega)
  have Z24 : idxD (.list (LD zs)) (.int 24) = some (.int (zs.getD 24 0)) := Zk 24 (by omega)
  have Z25 : idxD (.list (LD zs)) (.int 25) = some (.int (zs.getD 25 0)) := Zk 25 (by omega)
  have Z26 : idxD (.list (LD zs)) (.int 26) = some (.int (zs.getD 26 0)) := Zk 26 (by omega)
  have Z27 : idxD (.list (LD zs)) (.int 27) = some (.int (zs.getD 27 0)) := Zk 27 (by omega)
  have Z28 : idxD (.list (LD zs)) (.int 28) = some (.int (zs.getD 28 0)) := Zk 28 (by omega)
  have Q0 : idxD (.list (LD qs)) (.int 0) = some (.int (qs.getD 0 0)) := idxD_L (by omega) (getD_at (by omega))
  have pickI : ∀ (xs : List Int) (i : Int), 0 ≤ i → i < xs.length → ∃ v, idxD (.list (LD xs)) (.int i) = some (.int v) ∧ v ∈ xs := fun xs i h h' => by
    have := getD_at (xs := xs) (i := i.toNat) (d := 0) (by omega)
    exact ⟨_, idxD_L h this, List.mem_of_getElem? this⟩
  obtain ⟨n, hn⟩ : ∃ n : Nat, (n : Int) = if zs.getD 39 0 % 12 = 1 then 20 else 1 + zs.getD 0 0 % 9 := ⟨_, Int.toNat_of_nonneg (by split <;> omega)⟩
  have hn1 : 1 ≤ n := by split at hn <;> omega
  have hn2 : n ≤ 20 := by split at hn <;> omega
  have hrn : rng1D [.int (n : Int)] = some (LD (ri 0 n)) := rng1D_n n (by omega)
  unfold d_law b_law
  refine (congrArg outD (a₂ := some (.rt (.bool true))) ?_).trans rfl
  refine seqF_go (v := .list (LD zs)) (by simp -implicitDefEqProofs only [c2, Option.bind_some, hc0, f3_three, hz, Option.map_some]) ?_
  refine seqF_go (v := .int (1 + zs.getD 0 0 % 9)) (by simp -implicitDefEqProofs only [b2, Option.bind_some, Z0, modD_int _ 9 (by omega), addD_int]) ?_
  refine seqF_do (v := .int (n : Int)) ?_ ?_
  · simp -implicitDefEqProofs only [b2, iteM, nxt, Option.bind_some, Z39, modD_int _ 12 (by omega), eqD_int, isB_b, Option.map_some, seqF_nx]
    by_cases h3 : zs.getD 39 0 % 12 = 1
    · rw [if_pos h3] at hn
      rw [if_pos (decide_eq_true h3), hn]
    · rw [if_neg h3] at hn
      rw [if_neg (by rw [decide_eq_true_eq]; exact h3), hn]
  obtain ⟨top, htop, htop1⟩ := pickI [5, 60, 1000] (zs.getD 22 0 % 3) (by omega) (by simp; omega)
  have htop : idxD (.list [PyData.int 5, .int 60, .int 1000]) (.int (zs.getD 22 0 % 3)) = some (.int top) := htop
  have htop2 : 0 < top := by
    simp only [List.mem_cons, List.not_mem_nil, or_false] at htop1
    omega
  obtain ⟨ms, hms, hml2, hmp⟩ : ∃ ms : List Int, compM (turnC (fun d => some d) (fun k6 => (some true)) (fun k6 => (b2 (some (.int 1)) (b2 (b2 (some (.list (LD zs))) (b2 (some (.int 1)) (some k6) addD) idxD) (b2 (((c2 (some (.int 5)) (c2 (some (.int 60)) (c2 (some (.int 1000)) (some [])))).bind fun xs => fit xs.length xs).map .list) (b2 (b2 (some (.list (LD zs))) (some (.int 22)) idxD) (some (.int 3)) modD) idxD) modD) addD))) (LD (ri 0 n)) = some (LD ms) ∧ ms.length = n ∧ ∀ x ∈ ms, 0 ≤ x := by
    refine ⟨(ri 0 n).map fun k => 1 + zs.getD (1 + k).toNat 0 % top, compM_LDt fun k hk => ?_, by simp, fun x hx => ?_⟩
    · have := mem_ri.mp hk
      simp -implicitDefEqProofs only [turnC, b2, c2, tD_int, Option.bind_some, if_true, addD_int, Zf (1 + k) (by omega) (by omega), fit_ok, List.length_cons, List.length_nil, Nat.reduceAdd, Nat.reduceLeDiff, Option.map_some, Z22, modD_int _ 3 (by omega), htop, modD_int _ _ htop2]
    · obtain ⟨k, _, rfl⟩ := List.mem_map.mp hx
      have := Int.emod_nonneg (zs.getD (1 + k).toNat 0) (b := top) (by omega)
      omega
  refine seqF_go (v := LI ms) ?_ ?_
  · rw [show ((c2 (some (PyData.int (n : Int))) (some [])).bind rng1D) = some (LD (ri 0 n)) from hrn, Option.bind_some, hms, Option.map_some]
  obtain ⟨p, hp, hp0⟩ := pickI [0, zs.getD 23 0 % 10, 60] (zs.getD 24 0 % 3) (by omega) (by simp; omega)
  have hp : idxD (.list [PyData.int 0, .int (zs.getD 23 0 % 10), .int 60]) (.int (zs.getD 24 0 % 3)) = some (.int p) := hp
  have hp1 : 0 ≤ p ∧ p ≤ 1000 := by
    simp only [List.mem_cons, List.not_mem_nil, or_false] at hp0
    omega
  refine seqF_go (v := .int p) (by simp -implicitDefEqProofs only [b2, c2, Option.bind_some, Z23, Z24, modD_int _ 10 (by omega), modD_int _ 3 (by omega), fit_ok, List.length_cons, List.length_nil, Nat.reduceAdd, Nat.reduceLeDiff, Option.map_some, hp]) ?_
  have Wk : ∀ k : Int, 0 ≤ k → k < n → idxD (LI ms) (.int k) = some (.int (Wt ms k)) := fun k h h' => W_at h (by omega)
  have epr : compM (turnC (fun d => some d) (fun k9 => (some true)) (fun k9 => ((c2 (b2 (some (LI ms)) (some k9) idxD) (c2 (some k9) (some []))).bind fun xs => fit xs.length (.tuple xs)))) (LD (ri 0 n)) = some (LD (prs ms)) := by
    unfold prs
    rw [hml2]
    refine compM_LDt (g := fun k => (Wt ms k, k)) fun k hk => ?_
    have := mem_ri.mp hk
    simp -implicitDefEqProofs only [turnC, b2, c2, tD_int, tD_pair, Option.bind_some, if_true, Wk k (by omega) (by omega), fit_ok, List.length_cons, List.length_nil, Nat.reduceAdd, Nat.reduceLeDiff, Option.map_some]
  have esr : sortF [.list (LD (prs ms))] = some (LD (srt (prs ms))) := sortF_LD _ (Sortable.tuples fun b => ⟨_, _, rfl⟩) (by decide)
  have erk : compM (turnC un2 (fun some10 => some true) fun some10 => some some10.2) (LD (srt (prs ms))) = some (LD (rk ms)) := by
    refine compM_LDt (g := Prod.snd) ?_
    rintro ⟨i, x⟩ hx
    simp -implicitDefEqProofs only [turnC, tD_pair, un2_t, Option.bind_some, if_true, Option.map_some]
  refine seqF_go (v := LI (rk ms)) ?_ ?_
  · rw [show ((c2 (some (PyData.int (n : Int))) (some [])).bind rng1D) = some (LD (ri 0 n)) from hrn, Option.bind_some, epr]
    simp -implicitDefEqProofs only [c2, Option.map_some, Option.bind_some, esr, itemsD_L, erk]
  have hfew0 : 0 ≤ zs.getD 25 0 % ((n : Int) + 1) := Int.emod_nonneg _ (by omega)
  obtain ⟨few, hfew⟩ : ∃ few : Nat, (few : Int) = zs.getD 25 0 % ((n : Int) + 1) := ⟨_, Int.toNat_of_nonneg hfew0⟩
  refine seqF_go (v := .int (few : Int)) (by simp -implicitDefEqProofs only [b2, Option.bind_some, Z25, addD_int, modD_int _ ((n : Int) + 1) (by omega), hfew]) ?_
  have hsl : ∀ k : Nat, sliceD (.list (LD (rk ms))) (some 0) (some (k : Int)) = some (LI ((rk ms).take k)) := fun k => by
    simp only [sliceD]
    rw [cutL_LD, take_cut0]
  have hs : ∀ k : Nat, sortF [LI ((rk ms).take k)] = some (LD (pre ms k)) := fun k => sortF_int _
  have small : ∀ i : Int, small64 p ∨ small64 i := fun i => .inl ⟨by omega, by omega⟩
  refine seqF_go (v := .int (tot ms ((rk ms).take few) + p * (if (few : Int) - 1 > 0 then (few : Int) - 1 else 0))) ?_ ?_
  · have eW := W_list (ms := ms) (c := (rk ms).take few) fun x hx => rk_in ms (List.mem_of_mem_take hx)
    simp -implicitDefEqProofs only [b2, b3, c2, Option.bind_some, oI_int, hsl, itemsD_L, eW, Option.map_some, sumL_LD, subD_int, maxL, mulD_int p _ (small _), addD_int]
    rfl
  generalize tot ms ((rk ms).take few) + p * (if (few : Int) - 1 > 0 then (few : Int) - 1 else 0) = room
  obtain ⟨r, hr⟩ : ∃ r, (b2 (some (.list [PyData.int room, .int (if room - 1 > 0 then room - 1 else 0), .int (zs.getD 26 0 % 10001), .int (zs.getD 27 0 % 60), .int 0])) (some (.int (zs.getD 28 0 % 5))) idxD) = some (.int r) := by
    obtain ⟨v, h, _⟩ := pickI [room, if room - 1 > 0 then room - 1 else 0, zs.getD 26 0 % 10001, zs.getD 27 0 % 60, 0] (zs.getD 28 0 % 5) (by omega) (by simp; omega)
    exact ⟨v, h⟩
  refine seqF_go (v := .int (if r < 10000 then r else 10000)) ?_ ?_
  · simp -implicitDefEqProofs only [b2, Option.bind_some] at hr
    simp -implicitDefEqProofs only [b2, c2, Option.bind_some, subD_int, maxL, Z26, Z27, Z28, modD_int _ 10001 (by omega), modD_int _ 60 (by omega), modD_int _ 5 (by omega), fit_ok, List.length_cons, List.length_nil, Nat.reduceAdd, Nat.reduceLeDiff, Option.map_some, hr, minL]
  generalize (if r < 10000 then r else 10000) = rm
  refine seqF_go (v := LI ms) (by simp -implicitDefEqProofs only [c2, Option.bind_some, listF_L, Option.map_some]) ?_
  obtain ⟨m, hmn, hmost⟩ := most_ex (ms := ms) (p := p) (r := rm) hmp hp1.1
  obtain ⟨hA, hB⟩ := jB_most hmn hmost
  have hms1 : ms.length ≤ 1000 := by omega
  have pl : ∀ k : Nat, (pre ms k).length ≤ 1000 := fun k => by
    unfold pre; rw [(srt_perm _).length_eq, List.length_take, rk_len]; omega
  have hfits : ∀ c : List Int, c.length ≤ 1000 → d_fits (LI ms) (.int p) (.int rm) (LI c) = some (.bool (fitB ms p rm c)) := fun c h => fits_ok ms p rm c h hp1.1 hp1.2
  have hlfits : ∀ c : List Int, c.length ≤ 1000 → d__law_fits (LI ms) (.int p) (.int rm) (LI c) = some (.bool (fitB ms p rm c)) := fun c h => lfits_ok ms p rm c h hms1 hp1.1 hp1.2
  refine seqF_go (v := LD (ri 0 (m + 1))) ?_ ?_
  · have e1 : rng1D [.int ((n : Int) + 1)] = some (LD (ri 0 (n + 1))) := rng1D_n (n + 1) (by omega)
    simp -implicitDefEqProofs only [b2, c2, Option.bind_some, addD_int, e1]
    rw [compM_LDf (p := fun k : Int => decide (k ≤ m)) (g := fun k : Int => k)]
    · rw [List.map_id']
      refine congrArg (fun x => some (LD x)) (lt_eq ((ri_lt _ _).sublist List.filter_sublist) (ri_lt _ _) fun x => ?_)
      rw [List.mem_filter, mem_ri, mem_ri, decide_eq_true_eq]
      omega
    · intro k hk
      have hk := mem_ri.mp hk
      have ek : k = ((k.toNat : Nat) : Int) := by omega
      have ef : fitB ms p rm (pre ms k.toNat) = decide (k ≤ m) := by
        rw [Bool.eq_iff_iff, decide_eq_true_eq, hmost _ (by omega)]
        omega
      simp -implicitDefEqProofs only [turnC, b3, tD_int, Option.bind_some, oI_int]
      rw [ek, hsl, ← ek]
      simp -implicitDefEqProofs only [Option.bind_some, hs, Option.map_some, f4_four, hlfits _ (pl _), truth_b, ef]
      split <;> rfl
  have hlast : idxD (.list (LD (ri 0 (m + 1)))) (.int (((m + 1 : Nat) : Int) - 1)) = some (.int (m : Int)) := idxD_L (by omega) (by
    rw [show (((m + 1 : Nat) : Int) - 1).toNat = m by omega, ri_at (by omega)]; simp)
  refine seqF_go (v := .int (m : Int)) (by simp -implicitDefEqProofs only [b2, c2, Option.bind_some, lenL_L, LD_len, ri_len, subD_int, hlast]) ?_
  refine seqF_go (v := .tuple [LI (pre ms m), .none]) (by simp -implicitDefEqProofs only [b3, c2, Option.bind_some, oI_int, hsl, hs, Option.map_some, fit_ok, List.length_cons, List.length_nil, Nat.reduceAdd, Nat.reduceLeDiff]) ?_
  obtain ⟨o, ho⟩ : ∃ o : Option (List Int), o = if m = ms.length then none else some (pre ms (m + 1)) := ⟨_, rfl⟩
  have hol : ∀ e, o = some e → e.length ≤ 1000 := fun e he => by
    rw [ho] at he
    split at he
    · cases he
    · cases he; exact pl _
  refine seqF_do (v := .tuple [LI (pre ms m), oD o]) ?_ ?_
  · have e5 : ((m : Int) + 1) = ((m + 1 : Nat) : Int) := by omega
    simp -implicitDefEqProofs only [b2, b3, c2, iteM, nxt, Option.bind_some, ltD_int, isB_b, oI_int, hsl, hs, addD_int, e5, Option.map_some, fit_ok, List.length_cons, List.length_nil, Nat.reduceAdd, Nat.reduceLeDiff, seqF_nx]
    rw [ho]
    by_cases e : m = ms.length
    · rw [if_neg (by rw [decide_eq_true_eq]; omega), if_pos e]
    · rw [if_pos (by rw [decide_eq_true_eq]; omega), if_neg e]
  have hmp2 := most_ok ms p rm (by omega) hp1.1 hp1.2 m hmn hmost
  rw [← ho] at hmp2
  have hr2 : rng1D [.int 2] = some (LD (ri 0 2)) := rng1D_n 2 (by omega)
  have tame : Tame 3 (.tuple [LI (pre ms m), oD o]) := by
    have tl : ∀ c : List Int, c.length ≤ 1000 → Tame 2 (LI c) := fun c hc => .list (by rw [LD_len]; omega) fun d hd => by
      obtain ⟨i, _, rfl⟩ := List.mem_map.mp hd
      exact .int i
    refine .tuple (by simp) fun d hd => ?_
    simp only [List.mem_cons, List.not_mem_nil, or_false] at hd
    rcases hd with rfl | rfl
    · exact tl _ (pl _)
    · cases o with
      | none => exact .non
      | some e => exact tl _ (hol e rfl)
  have hsame := same_self 3 12 _ tame (by omega)
  rw [show ((c2 (some (PyData.int 2)) (some [])).bind rng1D) = some (LD (ri 0 2)) from hr2, Option.bind_some]
  refine seqF_gv (gv_for (fun _ _ => True) trivial ?_) ?_
  · intro i x l hx _
    simp -implicitDefEqProofs only [b2, c2, iteM, orB, Option.bind_some, f3_three, hmp2, Option.map_some, seqF_nx, f2_two, hsame, truth_b, Bool.not_true, Bool.false_eq_true, if_false, neD_Li, ne_eq, not_true_eq_false, decide_false, isB_b, appN, List.getElem?_cons_zero, LD_len]
    rw [fit_ok (by have := pl m; omega)]
    exact gv_go rfl (gv_nx trivial)
  intro _ _
  refine seqF_do (v := ()) ?_ ?_
  · simp -implicitDefEqProofs only [b2, iteM, Option.bind_some, ltD_int, isB_b]
    by_cases h8 : (n : Int) < 8
    · rw [if_pos (decide_eq_true h8)]
      obtain ⟨ss, hss, hsl2⟩ := sets_ok n (by omega)
      simp -implicitDefEqProofs only [c2, Option.bind_some, f1_one, hss, itemsD_L]
      rw [seqF_do (v := ()) (forF_all fun d hd => ?_) rfl]
      obtain ⟨c, hc, rfl⟩ := List.mem_map.mp hd
      have hcl := hsl2 c hc
      have := hfits c (by omega)
      have hf2 : ∀ b : Bool, decide (b = true → True) = true := fun _ => by simp
      simp -implicitDefEqProofs only [tD_list, andB, Option.bind_some, f4_four, hfits c (by omega), hlfits c (by omega), f2_two, same_bool, truth_b, Option.map_some, Bool.not_true, Bool.false_eq_true, if_false, seqF_nx, lenL_L, LD_len, gtD_int, isB_b]
      cases hfc : fitB ms p rm c with
      | false => simp
      | true =>
        have := hA c hfc
        have hng : ¬ ((m : Int) < c.length) := by omega
        simp [hng]
    · rw [if_neg (by rw [decide_eq_true_eq]; exact h8)]
  refine seqF_go (v := .list (LD qs)) (by simp -implicitDefEqProofs only [c2, Option.bind_some, hc1, f3_three, hm, Option.map_some]) ?_
  have hi0 : idxD (.tuple [LI (pre ms m), oD o]) (.int 0) = some (LI (pre ms m)) := rfl
  have hi1 : idxD (.tuple [LI (pre ms m), oD o]) (.int 1) = some (oD o) := rfl
  have cl : ∀ (c : List Int) lo hi, c.length ≤ 100 → (cutL c lo hi).length ≤ 100 := fun c lo hi hc => by
    unfold cutL; rw [List.length_take, List.length_drop]; omega
  have hadd : ∀ a b : List Int, a.length ≤ 100 → b.length ≤ 100 → addD (.list (LD a)) (.list (LD b)) = some (.list (LD (a ++ b))) := fun a b h h' => by
    show fit _ (PyData.list (LD _ ++ LD _)) = _
    rw [fit_ok (by rw [LD_len, LD_len]; omega), LD_app]
  have pl2 : ∀ k : Nat, (pre ms k).length ≤ 20 := fun k => by
    unfold pre; rw [(srt_perm _).length_eq, List.length_take, rk_len]; omega
  have one : ∀ x : Int, (PyData.list [PyData.int x]) = .list (LD [x]) := fun _ => rfl
  have hnp : (0 : Int) < n := by omega
  refine seqF_gv (R := fun cs : D => ∃ ls : List (List Int), cs = .list (LD ls) ∧ ls.length ≤ 20 ∧ ∀ c ∈ ls, c.length ≤ 200) ?_ ?_
  · have hrg : rngF (0, (n : Int)) = some (LD (ri 0 n)) := by
      have := rngF_i 0 n (by omega) (by omega) (by omega) (by omega) (by omega)
      rw [show ((n : Int) - 0).toNat = n by omega] at this; exact this
    simp -implicitDefEqProofs only [b2, b3, c2, Option.bind_some, hi0, revD_L, LD_rev, oI_int, sliceD, cutL_LD, fit_ok, List.length_cons, List.length_nil, Nat.reduceAdd, Nat.reduceLeDiff, Nat.zero_le, Option.map_some, one, negD_int, hadd (pre ms m) [(n : Int)] (by have := pl2 m; omega) (by simp), hadd [(-1 : Int)] (pre ms m) (by simp) (by have := pl2 m; omega), hadd _ _ (show (pre ms m).length ≤ 100 by have := pl2 m; omega) (cl (pre ms m) _ _ (by have := pl2 m; omega)), int1_int, hrg, Q0, modD_int _ _ hnp]
    refine gv_nxt rfl ⟨[pre ms m, (pre ms m).reverse, cutL (pre ms m) (some 1) none, pre ms m ++ [(n : Int)], [-1] ++ pre ms m, pre ms m ++ cutL (pre ms m) (some 0) (some 1), [], ri 0 n, [qs.getD 0 0 % (n : Int)]], rfl, by simp, ?_⟩
    intro c hc
    have := pl2 m
    have c1 := cl (pre ms m) (some 1) none (by omega)
    have c2 := cl (pre ms m) (some 0) (some 1) (by omega)
    simp only [List.mem_cons, List.not_mem_nil, or_false] at hc
    rcases hc with rfl | rfl | rfl | rfl | rfl | rfl | rfl | rfl | rfl
    · omega
    · rw [List.length_reverse]; omega
    · omega
    · simp; omega
    · simp; omega
    · rw [List.length_append]; omega
    · simp
    · simp; omega
    · simp
  rintro cs ⟨ls0, rfl, hl0, hls0⟩
  refine seqF_gv (R := fun cs : D => ∃ ls : List (List Int), cs = .list (LD ls) ∧ ls.length ≤ 22 ∧ ∀ c ∈ ls, c.length ≤ 200) ?_ ?_
  · have e5 : ((m : Int) + 1) = ((m + 1 : Nat) : Int) := by omega
    have hsl2 : ∀ k : Nat, sliceD (.list (LD (rk ms).reverse)) (some 0) (some (k : Int)) = some (LI ((rk ms).reverse.take k)) := fun k => by
      simp only [sliceD]
      rw [cutL_LD, take_cut0]
    simp -implicitDefEqProofs only [b2, b3, c2, Option.bind_some, revD_L, LD_rev, oI_int, hsl2, sortF_int, addD_int, e5, Option.map_some, fit_ok, List.length_cons, List.length_nil, Nat.reduceAdd, Nat.reduceLeDiff]
    have ea : addD (.list (LD ls0)) (.list [PyData.list (LD (srt ((rk ms).reverse.take m))), .list (LD (srt ((rk ms).reverse.take (m + 1))))]) = some (.list (LD (ls0 ++ [srt ((rk ms).reverse.take m), srt ((rk ms).reverse.take (m + 1))]))) := by
      show fit _ (PyData.list (LD ls0 ++ LD [srt ((rk ms).reverse.take m), srt ((rk ms).reverse.take (m + 1))])) = _
      rw [fit_ok (by rw [LD_len]; simp; omega), LD_app]
    refine gv_nxt ea ⟨_, rfl, by rw [List.length_append]; simp; omega, fun c hc => ?_⟩
    rcases List.mem_append.mp hc with hc | hc
    · exact hls0 c hc
    · simp only [List.mem_cons, List.not_mem_nil, or_false] at hc
      rcases hc with rfl | rfl <;> (rw [(srt_perm _).length_eq, List.length_take, List.length_reverse, rk_len]; omega)
  rintro cs ⟨ls, rfl, hll, hls⟩
  simp -implicitDefEqProofs only [Option.bind_some, itemsD_L]
  refine seqF_do (v := ()) (forF_all fun d hd => ?_) ?_
  · obtain ⟨c, hc, rfl⟩ := List.mem_map.mp hd
    have hcl := hls c hc
    simp -implicitDefEqProofs only [c2, iteM, tD_list, Option.bind_some, f4_four, hfits c (by omega), hlfits c (by omega), f2_two, same_bool, truth_b, Option.map_some, Bool.not_true, Bool.false_eq_true, if_false]
  have gp : ∀ (c : List Int) (q : Option (List Int)), c.length ≤ 1000 → (∀ e, q = some e → e.length ≤ 1000) → Gd ms p rm m (.tuple [LI c, oD q]) := fun c q hc hq =>
    ⟨_, judge_ok ms p rm hms1 hp1.1 hp1.2 c q hc hq, accepts_ok ms p rm hms1 hp1.1 hp1.2 c q hc hq, fun h => ⟨c, rfl, hB c q h⟩⟩
  have gs : ∀ ds : List D, ds.length ≠ 2 → Gd ms p rm m (.tuple ds) := fun ds h => ⟨false, (pair_short ms p rm ds h).1, (pair_short ms p rm ds h).2, fun h => by cases h⟩
  have hcut : cutL [LI (pre ms m), oD o] (some 0) (some 1) = [LI (pre ms m)] := rfl
  have hadt : addD (.tuple [LI (pre ms m), oD o]) (.tuple [.int 0]) = some (.tuple [LI (pre ms m), oD o, .int 0]) := rfl
  refine seqF_go (v := .list [.tuple [LI (pre ms m), oD o], .tuple [LI (pre ms m)], .tuple [LI (pre ms m), oD o, .int 0], .tuple [oD o, LI (pre ms m)], .tuple []]) (by
    simp -implicitDefEqProofs only [b2, b3, c2, Option.bind_some, oI_int, sliceD, hcut, hadt, hi0, hi1, fit_ok, List.length_cons, List.length_nil, Nat.reduceAdd, Nat.reduceLeDiff, Nat.zero_le, Option.map_some]) ?_
  refine seqF_gv (R := fun ps : List D => (∀ d ∈ ps, Gd ms p rm m d) ∧ ps.length ≤ 5) ?_ ?_
  · simp -implicitDefEqProofs only [Option.bind_some, itemsD_L]
    obtain ⟨es, he, hel, hes⟩ := compM_keep (k := fun paper35 => (orB ((b2 ((c2 (some paper35) (some [])).bind lenL) (some (.int 2)) neD).bind isB) ((b2 (b2 (some paper35) (some (.int 0)) idxD) (some .none) isNotD).bind isB))) (ds := [.tuple [LI (pre ms m), oD o], .tuple [LI (pre ms m)], .tuple [LI (pre ms m), oD o, .int 0], .tuple [oD o, LI (pre ms m)], .tuple []]) (fun d hd => by
      simp only [List.mem_cons, List.not_mem_nil, or_false] at hd
      rcases hd with rfl | rfl | rfl | rfl | rfl
      · exact ⟨true, by simp [orB, b2, c2, hi0, isNotD, isNoneB]⟩
      · exact ⟨true, by simp [orB, b2, c2]⟩
      · exact ⟨true, by simp [orB, b2, c2]⟩
      · have : idxD (.tuple [oD o, LI (pre ms m)]) (.int 0) = some (oD o) := rfl
        exact ⟨!isNoneB (oD o), by simp [orB, b2, c2, this, isNotD]⟩
      · exact ⟨true, by simp [orB, b2, c2]⟩)
    refine gv_nxt he ⟨fun d hd => ?_, hel⟩
    obtain ⟨h1, h2⟩ := hes d hd
    simp only [List.mem_cons, List.not_mem_nil, or_false] at h1
    rcases h1 with rfl | rfl | rfl | rfl | rfl
    · exact gp _ _ (pl _) hol
    · exact gs _ (by simp)
    · exact gs _ (by simp)
    · cases o with
      | none =>
        have : idxD (.tuple [oD none, LI (pre ms m)]) (.int 0) = some .none := rfl
        simp [orB, b2, c2, this, isNotD, isNoneB] at h2
      | some e => exact gp e (some (pre ms m)) (hol e rfl) (fun e' he' => by cases he'; exact pl _)
    · exact gs _ (by simp)
  rintro ps ⟨hps, hpl⟩
  refine seqF_gv (gv_for (fun i l => ∃ ps : List D, l = .list ps ∧ ps.length ≤ 5 + 4 * i ∧ ∀ d ∈ ps, Gd ms p rm m d) ⟨ps, rfl, by omega, hps⟩ ?_) ?_
  · rintro i c l hx ⟨ps, rfl, hpl, hps⟩
    have hi := (List.getElem?_eq_some_iff.mp hx).1
    have hc := hls c (List.mem_of_getElem? hx)
    have ea : addD (.list ps) (.list [.tuple [LI c, oD o], .tuple [LI (pre ms m), LI c], .tuple [LI (pre ms m), .none], .tuple [LI c, .none]]) = some (.list (ps ++ [.tuple [LI c, oD o], .tuple [LI (pre ms m), LI c], .tuple [LI (pre ms m), .none], .tuple [LI c, .none]])) := by
      show fit _ _ = _
      rw [fit_ok (by simp; omega)]
    simp -implicitDefEqProofs only [b2, c2, tD_list, Option.bind_some, hi0, hi1, fit_ok, List.length_cons, List.length_nil, Nat.reduceAdd, Nat.reduceLeDiff, Option.map_some, ea]
    refine gv_go rfl (gv_nx ⟨_, rfl, by rw [List.length_append]; simp; omega, fun d hd => ?_⟩)
    rcases List.mem_append.mp hd with hd | hd
    · exact hps d hd
    · simp only [List.mem_cons, List.not_mem_nil, or_false] at hd
      rcases hd with rfl | rfl | rfl | rfl
      · exact gp c o (by omega) hol
      · exact gp (pre ms m) (some c) (pl _) (fun e he => by cases he; omega)
      · exact gp (pre ms m) none (pl _) (fun e he => by cases he)
      · exact gp c none (by omega) (fun e he => by cases he)
  rintro l ⟨ps, rfl, _, hps⟩
  simp -implicitDefEqProofs only [Option.bind_some, itemsD_L]
  rw [seqF_do (v := ()) (forF_all fun d hd => ?_) rfl]
  · rfl
  obtain ⟨b, g1, g2, g3⟩ := hps d hd
  simp -implicitDefEqProofs only [b2, c2, iteM, orB, andB, Option.bind_some, f4_four, f2_two, g1, g2, same_bool, truth_b, Option.map_some, seqF_nx, Bool.not_true, Bool.false_eq_true, if_false]
  cases b with
  | false => rfl
  | true =>
    obtain ⟨c, hc, hcm⟩ := g3 rfl
    simp -implicitDefEqProofs only [if_true, hc, Option.bind_some, lenL_L, LD_len, hcm, neD_int, ne_eq, not_true_eq_false, decide_false, isB_b, Bool.false_eq_true, if_false]
end Wk0

namespace Wk0
open PySem L2 PySem.Spec PyProof.Rows PySem.W PySem.SeqAt Dl
theorem ok__law_cell {P : Program} {w : World} {K : PySem.W.Frag} {mg : Str → Option Value} {base : Heap} (z_len : mg "len" = none) (z_int : mg "int" = none) {f : Addr} {fd : FuncData} (F : Fun K "_law_cell" "_law_cell" s__law_cell f fd) : FnOk P w K mg base CX0 1 f fd ["script", "k"] (spCell K) := by
  refine F.ok sc__law_cell (fun vs H Q E ⟨a, k, ns, B, e, _⟩ => by rw [e]; rfl) (fun cdv A outer s H vs Q E hr ⟨a, k, ns, B, e, ex, hs, hl, h0, h1, q⟩ => ?_)
  subst e
  refine ⟨_, pss_cons (ps_if (pt_cmpR op_lt (pv 1) (pe_callB call_len_seq (by rfl) z_len PySem.boot_len (pa_cons (pv 0) pa_nil)) (nomark _)) (pss_one (ps_ret (pe_callTy call_int1 (by rfl) z_int (by decide +kernel) (pa_cons (pe_ix ix_list (pv 0) (pv 1) (fun _ _ => rfl)) pa_nil)))) pss_nil) (pss_one (ps_ret pe_int)), ?_⟩
  have hS := Evl.ex_l ex hs
  refine ⟨_, rfl, _, rfl, a, _, rfl, .inl hS, _, _, rfl, rfl, _, rfl, ite2 (fun e => ?_) (fun e => ?_)⟩
  · have hk : k.toNat < ns.length := by
      have := of_decide_eq_true e
      rw [List.length_map] at this
      omega
    have e1 : (ns.map V.int)[k.toNat]? = some (.int (ns.getD k.toNat 0)) := by
      rw [List.getElem?_map, List.getElem?_eq_getElem hk, List.getD_eq_getElem?_getD, List.getElem?_eq_getElem hk]; rfl
    have e2 : atI (ns.map V.int) k = some (.int (ns.getD k.toNat 0)) := by
      have := atI_nat e1
      rwa [Int.toNat_of_nonneg h0] at this
    exact ⟨_, rfl, _, rfl, a, _, k, _, rfl, rfl, hS, e2, .inl ⟨_, rfl, q B H (Nx.refl ex)⟩⟩
  · have hk : ns.length ≤ k.toNat := by
      have : ¬ (k < ((ns.map V.int).length : Int)) := fun h => e (decide_eq_true h)
      rw [List.length_map] at this
      omega
    have e1 : ns.getD k.toNat 0 = 0 := by rw [List.getD_eq_getElem?_getD, List.getElem?_eq_none hk]; rfl
    have := q B H (Nx.refl ex)
    rw [e1] at this
    exact this
theorem all_mk {P : Program} {w : World} {K : PySem.W.Frag} {h : Heap} {mg : Str → Option Value} {fa : Addr} (X : K.In h) (G : h.Ns mainGlobals mg) (hfa : mg "law" = some (.ref fa))
    {od0 an0 : Option Addr} {sl0 : Array (Option Value)} {oc0 kV0 dc0 pm0 cd0 ct0 : Value} {ad0 : Addr} (a0 : PySem.W.nsIn K mainGlobals "_law_numbers" = some (some (.ref ad0))) (l0 : K.lookup ad0 = some ⟨oc0, od0, .func (PySem.W.fnOf "_law_numbers" "_law_numbers" (defArgs s__law_numbers) (defBody s__law_numbers) (defScope s__law_numbers) .none kV0 dc0 pm0 an0 cd0 ct0), sl0⟩) (c0 : PySem.W.codeIn K cd0 "_law_numbers" = true) (k0 : PySem.W.keepIn K (.ref ad0) = true)
    {od1 an1 : Option Addr} {sl1 : Array (Option Value)} {oc1 kV1 dc1 pm1 cd1 ct1 : Value} {ad1 : Addr} (a1 : PySem.W.nsIn K mainGlobals "_law_cell" = some (some (.ref ad1))) (l1 : K.lookup ad1 = some ⟨oc1, od1, .func (PySem.W.fnOf "_law_cell" "_law_cell" (defArgs s__law_cell) (defBody s__law_cell) (defScope s__law_cell) .none kV1 dc1 pm1 an1 cd1 ct1), sl1⟩) (c1 : PySem.W.codeIn K cd1 "_law_cell" = true) (k1 : PySem.W.keepIn K (.ref ad1) = true)
    {od2 an2 : Option Addr} {sl2 : Array (Option Value)} {oc2 kV2 dc2 pm2 cd2 ct2 : Value} {ad2 : Addr} (a2 : PySem.W.nsIn K mainGlobals "is_whole" = some (some (.ref ad2))) (l2 : K.lookup ad2 = some ⟨oc2, od2, .func (PySem.W.fnOf "is_whole" "is_whole" (defArgs s_is_whole) (defBody s_is_whole) (defScope s_is_whole) .none kV2 dc2 pm2 an2 cd2 ct2), sl2⟩) (c2 : PySem.W.codeIn K cd2 "is_whole" = true) (k2 : PySem.W.keepIn K (.ref ad2) = true)
    {od3 an3 : Option Addr} {sl3 : Array (Option Value)} {oc3 kV3 dc3 pm3 cd3 ct3 : Value} {ad3 : Addr} (a3 : PySem.W.nsIn K mainGlobals "is_within" = some (some (.ref ad3))) (l3 : K.lookup ad3 = some ⟨oc3, od3, .func (PySem.W.fnOf "is_within" "is_within" (defArgs s_is_within) (defBody s_is_within) (defScope s_is_within) .none kV3 dc3 pm3 an3 cd3 ct3), sl3⟩) (c3 : PySem.W.codeIn K cd3 "is_within" = true) (k3 : PySem.W.keepIn K (.ref ad3) = true)
    {od4 an4 : Option Addr} {sl4 : Array (Option Value)} {oc4 kV4 dc4 pm4 cd4 ct4 : Value} {ad4 : Addr} (a4 : PySem.W.nsIn K mainGlobals "are_numbers" = some (some (.ref ad4))) (l4 : K.lookup ad4 = some ⟨oc4, od4, .func (PySem.W.fnOf "are_numbers" "are_numbers" (defArgs s_are_numbers) (defBody s_are_numbers) (defScope s_are_numbers) .none kV4 dc4 pm4 an4 cd4 ct4), sl4⟩) (c4 : PySem.W.codeIn K cd4 "are_numbers" = true) (k4 : PySem.W.keepIn K (.ref ad4) = true)
    {od5 an5 : Option Addr} {sl5 : Array (Option Value)} {oc5 kV5 dc5 pm5 cd5 ct5 : Value} {ad5 : Addr} (a5 : PySem.W.nsIn K mainGlobals "needed" = some (some (.ref ad5))) (l5 : K.lookup ad5 = some ⟨oc5, od5, .func (PySem.W.fnOf "needed" "needed" (defArgs s_needed) (defBody s_needed) (defScope s_needed) .none kV5 dc5 pm5 an5 cd5 ct5), sl5⟩) (c5 : PySem.W.codeIn K cd5 "needed" = true) (k5 : PySem.W.keepIn K (.ref ad5) = true)
    {od6 an6 : Option Addr} {sl6 : Array (Option Value)} {oc6 kV6 dc6 pm6 cd6 ct6 : Value} {ad6 : Addr} (a6 : PySem.W.nsIn K mainGlobals "fits" = some (some (.ref ad6))) (l6 : K.lookup ad6 = some ⟨oc6, od6, .func (PySem.W.fnOf "fits" "fits" (defArgs s_fits) (defBody s_fits) (defScope s_fits) .none kV6 dc6 pm6 an6 cd6 ct6), sl6⟩) (c6 : PySem.W.codeIn K cd6 "fits" = true) (k6 : PySem.W.keepIn K (.ref ad6) = true)
    {od7 an7 : Option Addr} {sl7 : Array (Option Value)} {oc7 kV7 dc7 pm7 cd7 ct7 : Value} {ad7 : Addr} (a7 : PySem.W.nsIn K mainGlobals "most_pieces" = some (some (.ref ad7))) (l7 : K.lookup ad7 = some ⟨oc7, od7, .func (PySem.W.fnOf "most_pieces" "most_pieces" (defArgs s_most_pieces) (defBody s_most_pieces) (defScope s_most_pieces) .none kV7 dc7 pm7 an7 cd7 ct7), sl7⟩) (c7 : PySem.W.codeIn K cd7 "most_pieces" = true) (k7 : PySem.W.keepIn K (.ref ad7) = true)
    {od8 an8 : Option Addr} {sl8 : Array (Option Value)} {oc8 kV8 dc8 pm8 cd8 ct8 : Value} {ad8 : Addr} (a8 : PySem.W.nsIn K mainGlobals "_law_sets" = some (some (.ref ad8))) (l8 : K.lookup ad8 = some ⟨oc8, od8, .func (PySem.W.fnOf "_law_sets" "_law_sets" (defArgs s__law_sets) (defBody s__law_sets) (defScope s__law_sets) .none kV8 dc8 pm8 an8 cd8 ct8), sl8⟩) (c8 : PySem.W.codeIn K cd8 "_law_sets" = true) (k8 : PySem.W.keepIn K (.ref ad8) = true)
    {od9 an9 : Option Addr} {sl9 : Array (Option Value)} {oc9 kV9 dc9 pm9 cd9 ct9 : Value} {ad9 : Addr} (a9 : PySem.W.nsIn K mainGlobals "are_shortest" = some (some (.ref ad9))) (l9 : K.lookup ad9 = some ⟨oc9, od9, .func (PySem.W.fnOf "are_shortest" "are_shortest" (defArgs s_are_shortest) (defBody s_are_shortest) (defScope s_are_shortest) .none kV9 dc9 pm9 an9 cd9 ct9), sl9⟩) (c9 : PySem.W.codeIn K cd9 "are_shortest" = true) (k9 : PySem.W.keepIn K (.ref ad9) = true)
    {od10 an10 : Option Addr} {sl10 : Array (Option Value)} {oc10 kV10 dc10 pm10 cd10 ct10 : Value} {ad10 : Addr} (a10 : PySem.W.nsIn K mainGlobals "judge_most_pieces" = some (some (.ref ad10))) (l10 : K.lookup ad10 = some ⟨oc10, od10, .func (PySem.W.fnOf "judge_most_pieces" "judge_most_pieces" (defArgs s_judge_most_pieces) (defBody s_judge_most_pieces) (defScope s_judge_most_pieces) .none kV10 dc10 pm10 an10 cd10 ct10), sl10⟩) (c10 : PySem.W.codeIn K cd10 "judge_most_pieces" = true) (k10 : PySem.W.keepIn K (.ref ad10) = true)
    {od11 an11 : Option Addr} {sl11 : Array (Option Value)} {oc11 kV11 dc11 pm11 cd11 ct11 : Value} {ad11 : Addr} (a11 : PySem.W.nsIn K mainGlobals "_law_fits" = some (some (.ref ad11))) (l11 : K.lookup ad11 = some ⟨oc11, od11, .func (PySem.W.fnOf "_law_fits" "_law_fits" (defArgs s__law_fits) (defBody s__law_fits) (defScope s__law_fits) .none kV11 dc11 pm11 an11 cd11 ct11), sl11⟩) (c11 : PySem.W.codeIn K cd11 "_law_fits" = true) (k11 : PySem.W.keepIn K (.ref ad11) = true)
    {od12 an12 : Option Addr} {sl12 : Array (Option Value)} {oc12 kV12 dc12 pm12 cd12 ct12 : Value} {ad12 : Addr} (a12 : PySem.W.nsIn K mainGlobals "_law_same" = some (some (.ref ad12))) (l12 : K.lookup ad12 = some ⟨oc12, od12, .func (PySem.W.fnOf "_law_same" "_law_same" (defArgs s__law_same) (defBody s__law_same) (defScope s__law_same) .none kV12 dc12 pm12 an12 cd12 ct12), sl12⟩) (c12 : PySem.W.codeIn K cd12 "_law_same" = true) (k12 : PySem.W.keepIn K (.ref ad12) = true)
    {od13 an13 : Option Addr} {sl13 : Array (Option Value)} {oc13 kV13 dc13 pm13 cd13 ct13 : Value} {ad13 : Addr} (a13 : PySem.W.nsIn K mainGlobals "_law_accepts" = some (some (.ref ad13))) (l13 : K.lookup ad13 = some ⟨oc13, od13, .func (PySem.W.fnOf "_law_accepts" "_law_accepts" (defArgs s__law_accepts) (defBody s__law_accepts) (defScope s__law_accepts) .none kV13 dc13 pm13 an13 cd13 ct13), sl13⟩) (c13 : PySem.W.codeIn K cd13 "_law_accepts" = true) (k13 : PySem.W.keepIn K (.ref ad13) = true)
    {od14 an14 : Option Addr} {sl14 : Array (Option Value)} {oc14 kV14 dc14 pm14 cd14 ct14 : Value} {ad14 : Addr} (a14 : PySem.W.nsIn K mainGlobals "law" = some (some (.ref ad14))) (l14 : K.lookup ad14 = some ⟨oc14, od14, .func (PySem.W.fnOf "law" "law" (defArgs s_law) (defBody s_law) (defScope s_law) .none kV14 dc14 pm14 an14 cd14 ct14), sl14⟩) (c14 : PySem.W.codeIn K cd14 "law" = true) (k14 : PySem.W.keepIn K (.ref ad14) = true)
    (y_all : PySem.W.nsIn K mainGlobals "all" = some none)
    (y_bool : PySem.W.nsIn K mainGlobals "bool" = some none)
    (y_enumerate : PySem.W.nsIn K mainGlobals "enumerate" = some none)
    (y_int : PySem.W.nsIn K mainGlobals "int" = some none)
    (y_isinstance : PySem.W.nsIn K mainGlobals "isinstance" = some none)
    (y_len : PySem.W.nsIn K mainGlobals "len" = some none)
    (y_list : PySem.W.nsIn K mainGlobals "list" = some none)
    (y_max : PySem.W.nsIn K mainGlobals "max" = some none)
    (y_min : PySem.W.nsIn K mainGlobals "min" = some none)
    (y_range : PySem.W.nsIn K mainGlobals "range" = some none)
    (y_sorted : PySem.W.nsIn K mainGlobals "sorted" = some none)
    (y_str : PySem.W.nsIn K mainGlobals "str" = some none)
    (y_sum : PySem.W.nsIn K mainGlobals "sum" = some none)
    (y_tuple : PySem.W.nsIn K mainGlobals "tuple" = some none)
    : ∃ fd : FuncData, (∀ (s : Shared) (v : Value), BindsTo s fd ⟨[v], []⟩ [("script", v)]) ∧ ∀ base : Heap, K.In base → base.Ns mainGlobals mg → FnOk P w K mg base CX0 13 fa fd ["script"] (spLaw K d_law) := by
  have e := hfa.symm.trans (PySem.W.mg_of X G a14)
  cases e
  have z_all := PySem.W.mg_none_of X G y_all
  have z_bool := PySem.W.mg_none_of X G y_bool
  have z_enumerate := PySem.W.mg_none_of X G y_enumerate
  have z_int := PySem.W.mg_none_of X G y_int
  have z_isinstance := PySem.W.mg_none_of X G y_isinstance
  have z_len := PySem.W.mg_none_of X G y_len
  have z_list := PySem.W.mg_none_of X G y_list
  have z_max := PySem.W.mg_none_of X G y_max
  have z_min := PySem.W.mg_none_of X G y_min
  have z_range := PySem.W.mg_none_of X G y_range
  have z_sorted := PySem.W.mg_none_of X G y_sorted
  have z_str := PySem.W.mg_none_of X G y_str
  have z_sum := PySem.W.mg_none_of X G y_sum
  have z_tuple := PySem.W.mg_none_of X G y_tuple
  have F0 := fun_mk (st := s__law_numbers) l0 c0 k0
  have b0 := F0.binds (ps := ["cell", "count", "limit"]) fun _ _ _ _ _ _ us hl => match us, hl with | [_, _, _], _ => rfl
  have g0 := PySem.W.mg_of X G a0
  have F1 := fun_mk (st := s__law_cell) l1 c1 k1
  have b1 := F1.binds (ps := ["script", "k"]) fun _ _ _ _ _ _ us hl => match us, hl with | [_, _], _ => rfl
  have g1 := PySem.W.mg_of X G a1
  have F2 := fun_mk (st := s_is_whole) l2 c2 k2
  have b2 := F2.binds (ps := ["value"]) fun _ _ _ _ _ _ us hl => match us, hl with | [_], _ => rfl
  have g2 := PySem.W.mg_of X G a2
  have F3 := fun_mk (st := s_is_within) l3 c3 k3
  have b3 := F3.binds (ps := ["value", "low", "high"]) fun _ _ _ _ _ _ us hl => match us, hl with | [_, _, _], _ => rfl
  have g3 := PySem.W.mg_of X G a3
  have F4 := fun_mk (st := s_are_numbers) l4 c4 k4
  have b4 := F4.binds (ps := ["parts", "count"]) fun _ _ _ _ _ _ us hl => match us, hl with | [_, _], _ => rfl
  have g4 := PySem.W.mg_of X G a4
  have F5 := fun_mk (st := s_needed) l5 c5 k5
  have b5 := F5.binds (ps := ["minutes", "pause", "choice"]) fun _ _ _ _ _ _ us hl => match us, hl with | [_, _, _], _ => rfl
  have g5 := PySem.W.mg_of X G a5
  have F6 := fun_mk (st := s_fits) l6 c6 k6
  have b6 := F6.binds (ps := ["minutes", "pause", "room", "choice"]) fun _ _ _ _ _ _ us hl => match us, hl with | [_, _, _, _], _ => rfl
  have g6 := PySem.W.mg_of X G a6
  have F7 := fun_mk (st := s_most_pieces) l7 c7 k7
  have b7 := F7.binds (ps := ["minutes", "pause", "room"]) fun _ _ _ _ _ _ us hl => match us, hl with | [_, _, _], _ => rfl
  have g7 := PySem.W.mg_of X G a7
  have F8 := fun_mk (st := s__law_sets) l8 c8 k8
  have b8 := F8.binds (ps := ["count"]) fun _ _ _ _ _ _ us hl => match us, hl with | [_], _ => rfl
  have g8 := PySem.W.mg_of X G a8
  have F9 := fun_mk (st := s_are_shortest) l9 c9 k9
  have b9 := F9.binds (ps := ["minutes", "choice"]) fun _ _ _ _ _ _ us hl => match us, hl with | [_, _], _ => rfl
  have g9 := PySem.W.mg_of X G a9
  have F10 := fun_mk (st := s_judge_most_pieces) l10 c10 k10
  have b10 := F10.binds (ps := ["minutes", "pause", "room", "verdict"]) fun _ _ _ _ _ _ us hl => match us, hl with | [_, _, _, _], _ => rfl
  have g10 := PySem.W.mg_of X G a10
  have F11 := fun_mk (st := s__law_fits) l11 c11 k11
  have b11 := F11.binds (ps := ["minutes", "pause", "room", "choice"]) fun _ _ _ _ _ _ us hl => match us, hl with | [_, _, _, _], _ => rfl
  have g11 := PySem.W.mg_of X G a11
  have F12 := fun_mk (st := s__law_same) l12 c12 k12
  have b12 := F12.binds (ps := ["told", "due"]) fun _ _ _ _ _ _ us hl => match us, hl with | [_, _], _ => rfl
  have g12 := PySem.W.mg_of X G a12
  have F13 := fun_mk (st := s__law_accepts) l13 c13 k13
  have b13 := F13.binds (ps := ["minutes", "pause", "room", "paper"]) fun _ _ _ _ _ _ us hl => match us, hl with | [_, _, _, _], _ => rfl
  have g13 := PySem.W.mg_of X G a13
  have F14 := fun_mk (st := s_law) l14 c14 k14
  refine ⟨PySem.W.fnOf "law" "law" (defArgs s_law) (defBody s_law) (defScope s_law) .none kV14 dc14 pm14 an14 cd14 ct14, fun s v => .of_eq rfl, fun base _ _ => ?_⟩
  have C__law_numbers : Dl.Callee P w K mg base "_law_numbers" ["cell", "count", "limit"] 1 (spF K (f3 d__law_numbers)) := ⟨_, _, ok__law_numbers z_all z_bool z_enumerate z_int z_isinstance z_len z_list z_max z_min z_range z_sorted z_str z_sum z_tuple F0 , g0, F0.kp, b0⟩
  have C__law_cell : Dl.Callee P w K mg base "_law_cell" ["script", "k"] 1 (spCell K) := ⟨_, _, ok__law_cell z_len z_int F1, g1, F1.kp, b1⟩
  have C_is_whole : Dl.Callee P w K mg base "is_whole" ["value"] 1 (spD K (f1 d_is_whole)) := ⟨_, _, ok_is_whole z_all z_bool z_enumerate z_int z_isinstance z_len z_list z_max z_min z_range z_sorted z_str z_sum z_tuple F2 , g2, F2.kp, b2⟩
  have C_is_within : Dl.Callee P w K mg base "is_within" ["value", "low", "high"] 2 (spD K (f3 d_is_within)) := ⟨_, _, ok_is_within z_all z_bool z_enumerate z_int z_isinstance z_len z_list z_max z_min z_range z_sorted z_str z_sum z_tuple F3 C_is_whole, g3, F3.kp, b3⟩
  have C_are_numbers : Dl.Callee P w K mg base "are_numbers" ["parts", "count"] 3 (spD K (f2 d_are_numbers)) := ⟨_, _, ok_are_numbers z_all z_bool z_enumerate z_int z_isinstance z_len z_list z_max z_min z_range z_sorted z_str z_sum z_tuple F4 C_is_within, g4, F4.kp, b4⟩
  have C_needed : Dl.Callee P w K mg base "needed" ["minutes", "pause", "choice"] 1 (spD K (f3 d_needed)) := ⟨_, _, ok_needed z_all z_bool z_enumerate z_int z_isinstance z_len z_list z_max z_min z_range z_sorted z_str z_sum z_tuple F5 , g5, F5.kp, b5⟩
  have C_fits : Dl.Callee P w K mg base "fits" ["minutes", "pause", "room", "choice"] 4 (spD K (f4 d_fits)) := ⟨_, _, ok_fits z_all z_bool z_enumerate z_int z_isinstance z_len z_list z_max z_min z_range z_sorted z_str z_sum z_tuple F6 C_are_numbers C_needed, g6, F6.kp, b6⟩
  have C_most_pieces : Dl.Callee P w K mg base "most_pieces" ["minutes", "pause", "room"] 5 (spN K 0 (f3 d_most_pieces)) := ⟨_, _, ok_most_pieces z_all z_bool z_enumerate z_int z_isinstance z_len z_list z_max z_min z_range z_sorted z_str z_sum z_tuple F7 C_fits, g7, F7.kp, b7⟩
  have C__law_sets : Dl.Callee P w K mg base "_law_sets" ["count"] 1 (spD K (f1 d__law_sets)) := ⟨_, _, ok__law_sets z_all z_bool z_enumerate z_int z_isinstance z_len z_list z_max z_min z_range z_sorted z_str z_sum z_tuple F8 , g8, F8.kp, b8⟩
  have C_are_shortest : Dl.Callee P w K mg base "are_shortest" ["minutes", "choice"] 1 (spD K (f2 d_are_shortest)) := ⟨_, _, ok_are_shortest z_all z_bool z_enumerate z_int z_isinstance z_len z_list z_max z_min z_range z_sorted z_str z_sum z_tuple F9 , g9, F9.kp, b9⟩
  have C_judge_most_pieces : Dl.Callee P w K mg base "judge_most_pieces" ["minutes", "pause", "room", "verdict"] 5 (spD K (f4 d_judge_most_pieces)) := ⟨_, _, ok_judge_most_pieces z_all z_bool z_enumerate z_int z_isinstance z_len z_list z_max z_min z_range z_sorted z_str z_sum z_tuple F10 C_are_numbers C_are_shortest C_fits, g10, F10.kp, b10⟩
  have C__law_fits : Dl.Callee P w K mg base "_law_fits" ["minutes", "pause", "room", "choice"] 1 (spD K (f4 d__law_fits)) := ⟨_, _, ok__law_fits z_all z_bool z_enumerate z_int z_isinstance z_len z_list z_max z_min z_range z_sorted z_str z_sum z_tuple F11 , g11, F11.kp, b11⟩
  have C__law_same : Dl.Callee P w K mg base "_law_same" ["told", "due"] 12 (spD K (f2 (d__law_same 12))) := ⟨_, _, ok__law_same z_all z_bool z_enumerate z_int z_isinstance z_len z_list z_max z_min z_range z_sorted z_str z_sum z_tuple F12 g12 b12  12, g12, F12.kp, b12⟩
  have C__law_accepts : Dl.Callee P w K mg base "_law_accepts" ["minutes", "pause", "room", "paper"] 2 (spD K (f4 d__law_accepts)) := ⟨_, _, ok__law_accepts z_all z_bool z_enumerate z_int z_isinstance z_len z_list z_max z_min z_range z_sorted z_str z_sum z_tuple F13 C__law_fits, g13, F13.kp, b13⟩
  exact ok_law z_all z_bool z_enumerate z_int z_isinstance z_len z_list z_max z_min z_range z_sorted z_str z_sum z_tuple F14 C__law_accepts C__law_cell C__law_fits C__law_numbers C__law_same C__law_sets C_fits C_judge_most_pieces C_most_pieces
end Wk0
open PySem PySem.W PyProof.Rows
set_option maxHeartbeats 0 in
theorem PySem.Challenge.cw_nobodywaits_k45_whole_most_pieces_that_f_holds : PySem.Challenge.rw_nobodywaits_k45_whole_most_pieces_that_f.Holds := by
  w_on; o_law; k_head; (case hw => w_witness2)
  k_fill
  refine L2.walk_of (l := PySem.Challenge.rw_nobodywaits_k45_whole_most_pieces_that_f) (n := 63) (k := 13) (x := "script") (CX := fun _ => L2.CX0) (sp := fun w => Dl.spLaw _ Wk0.d_law) rfl (by decide) rfl ⟨rfl, by decide, by decide⟩ (fun w h Y => PySem.W.kIn_of Y) ?F (fun _ _ a ns hl _ hS => ⟨a, ns, rfl, hS, hl, Wk0.law_true ns hl, fun _ => rfl⟩) (fun _ _ _ _ _ h => h)
  case F =>
    intro w mg fa h KX G hmg
    refine' Wk0.all_mk KX G hmg ?a0 ?l0 ?c0 ?k0 ?a1 ?l1 ?c1 ?k1 ?a2 ?l2 ?c2 ?k2 ?a3 ?l3 ?c3 ?k3 ?a4 ?l4 ?c4 ?k4 ?a5 ?l5 ?c5 ?k5 ?a6 ?l6 ?c6 ?k6 ?a7 ?l7 ?c7 ?k7 ?a8 ?l8 ?c8 ?k8 ?a9 ?l9 ?c9 ?k9 ?a10 ?l10 ?c10 ?k10 ?a11 ?l11 ?c11 ?k11 ?a12 ?l12 ?c12 ?k12 ?a13 ?l13 ?c13 ?k13 ?a14 ?l14 ?c14 ?k14 ?y_all ?y_bool ?y_enumerate ?y_int ?y_isinstance ?y_len ?y_list ?y_max ?y_min ?y_range ?y_sorted ?y_str ?y_sum ?y_tuple
    (case a0 => k_is)
    (case l0 => k_is)
    (case c0 => k_is)
    (case k0 => k_is)
    (case a1 => k_is)
    (case l1 => k_is)
    (case c1 => k_is)
    (case k1 => k_is)
    (case a2 => k_is)
    (case l2 => k_is)
    (case c2 => k_is)
    (case k2 => k_is)
    (case a3 => k_is)
    (case l3 => k_is)
    (case c3 => k_is)
    (case k3 => k_is)
    (case a4 => k_is)
    (case l4 => k_is)
    (case c4 => k_is)
    (case k4 => k_is)
    (case a5 => k_is)
    (case l5 => k_is)
    (case c5 => k_is)
    (case k5 => k_is)
    (case a6 => k_is)
    (case l6 => k_is)
    (case c6 => k_is)
    (case k6 => k_is)
    (case a7 => k_is)
    (case l7 => k_is)
    (case c7 => k_is)
    (case k7 => k_is)
    (case a8 => k_is)
    (case l8 => k_is)
    (case c8 => k_is)
    (case k8 => k_is)
    (case a9 => k_is)
    (case l9 => k_is)
    (case c9 => k_is)
    (case k9 => k_is)
    (case a10 => k_is)
    (case l10 => k_is)
    (case c10 => k_is)
    (case k10 => k_is)
    (case a11 => k_is)
    (case l11 => k_is)
    (case c11 => k_is)
    (case k11 => k_is)
    (case a12 => k_is)
    (case l12 => k_is)
    (case c12 => k_is)
    (case k12 => k_is)
    (case a13 => k_is)
    (case l13 => k_is)
    (case c13 => k_is)
    (case k13 => k_is)
    (case a14 => k_is)
    (case l14 => k_is)
    (case c14 => k_is)
    (case k14 => k_is)
    (case y_all => k_is)
    (case y_bool => k_is)
    (case y_enumerate => k_is)
    (case y_int => k_is)
    (case y_isinstance => k_is)
    (case y_len => k_is)
    (case y_list => k_is)
    (case y_max => k_is)
    (case y_min => k_is)
    (case y_range => k_is)
    (case y_sorted => k_is)
    (case y_str => k_is)
    (case y_sum => k_is)
    (case y_tuple => k_is)

