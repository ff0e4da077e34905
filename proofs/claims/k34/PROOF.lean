import PyProof.Rows.All
import HandS.ForMost
import HandS.Evl
import HandS.Flow
import HandS.Deep
import HandS.TupAny
import HandS.Rev
import HandS.Zip
import KE.Datum
import KE.SortData
import HandS.Style
import HandS.Conv
import HandS.IsInst
import HandS.Text
import KE.DataCmp
import KE.DataEq
import KE.DataFind
import KE.DataMinMax
import KE.DataAny
import HandS.Walk
import HandS.Iter
import PySem.Challenge.RW_nobodywaits_k34_whole_copies_as_many_as
set_option Elab.async false
set_option linter.all false
set_option maxRecDepth 100000
set_option maxHeartbeats 4000000
/-! Data layer, part 1: plain data over the heap; two worlds (what stays, what is); expressions by what data they give. -/
namespace Dl
open PySem L2 PySem.Spec PyProof.Rows
open Evl (Ex)

abbrev D := PyData

/-! ### a value that stands for data, in a heap where what it leans on never changes -/
mutual
inductive Rep (K : PySem.W.Frag) (B : Hp) : V → D → Prop
  | non : Rep K B .non .none
  | bl (b : Bool) : Rep K B (.bl b) (.bool b)
  | int (i : Int) : Rep K B (.int i) (.int i)
  | str (x : Str) : Rep K B (.str x) (.str x)
  | lst {a : Addr} {xs : List V} {ds : List D} : B a = some (.lst xs) → Reps K B xs ds → Rep K B (.ref a) (.list ds)
  | tup {a : Addr} {xs : List V} {ds : List D} : SqT K B a xs → Reps K B xs ds → Rep K B (.ref a) (.tuple ds)
inductive Reps (K : PySem.W.Frag) (B : Hp) : List V → List D → Prop
  | nil : Reps K B [] []
  | cons {v : V} {vs : List V} {d : D} {ds : List D} : Rep K B v d → Reps K B vs ds → Reps K B (v :: vs) (d :: ds)
end

section
variable {K : PySem.W.Frag} {B H B' H' B2 H2 : Hp}
mutual
theorem Rep.up (e : Ex B H) : ∀ {v : V} {d : D}, Rep K B v d → Rep K H v d
  | _, _, .non => .non
  | _, _, .bl b => .bl b
  | _, _, .int i => .int i
  | _, _, .str x => .str x
  | _, _, .lst h r => .lst (e _ _ h) (Reps.up e r)
  | _, _, .tup h r => .tup (Evl.ex_t e h) (Reps.up e r)
theorem Reps.up (e : Ex B H) : ∀ {vs : List V} {ds : List D}, Reps K B vs ds → Reps K H vs ds
  | _, _, .nil => .nil
  | _, _, .cons h r => .cons (Rep.up e h) (Reps.up e r)
end
mutual
theorem Rep.dp : ∀ {v : V} {d : D}, Rep K B v d → Dp K B v d
  | _, _, .non => .non
  | _, _, .bl b => .bl b
  | _, _, .int i => .int i
  | _, _, .str x => .str x
  | _, _, .lst h r => .lst (.inl (.inl h)) (Reps.dp r)
  | _, _, .tup h r => .tup h (Reps.dp r)
theorem Reps.dp : ∀ {vs : List V} {ds : List D}, Reps K B vs ds → DpAll K B vs ds
  | _, _, .nil => .nil
  | _, _, .cons h r => .cons (Rep.dp h) (Reps.dp r)
end
theorem Reps.len : ∀ {vs : List V} {ds : List D}, Reps K B vs ds → vs.length = ds.length
  | _, _, .nil => rfl
  | _, _, .cons _ r => by simp [Reps.len r]
theorem Reps.app : ∀ {vs us : List V} {ds es : List D}, Reps K B vs ds → Reps K B us es → Reps K B (vs ++ us) (ds ++ es)
  | _, _, _, _, .nil, r => r
  | _, _, _, _, .cons h t, r => .cons h (Reps.app t r)
theorem Reps.at : ∀ {vs : List V} {ds : List D} {i : Nat} {d : D}, Reps K B vs ds → ds[i]? = some d → ∃ v, vs[i]? = some v ∧ Rep K B v d
  | _, _, _, _, .nil, h => by simp at h
  | _, _, 0, _, .cons h _, e => by simp at e; subst e; exact ⟨_, rfl, h⟩
  | _, _, i + 1, d, .cons _ r, e => by
    obtain ⟨v, h1, h2⟩ := Reps.at (i := i) (d := d) r (by simpa using e)
    exact ⟨v, by simpa using h1, h2⟩
theorem Reps.atV : ∀ {vs : List V} {ds : List D} {i : Nat} {v : V}, Reps K B vs ds → vs[i]? = some v → ∃ d, ds[i]? = some d ∧ Rep K B v d
  | _, _, _, _, .nil, h => by simp at h
  | _, _, 0, _, .cons h _, e => by simp at e; subst e; exact ⟨_, rfl, h⟩
  | _, _, i + 1, v, .cons _ r, e => by
    obtain ⟨d, h1, h2⟩ := Reps.atV (i := i) (v := v) r (by simpa using e)
    exact ⟨d, by simpa using h1, h2⟩
theorem Reps.take : ∀ {vs : List V} {ds : List D} (n : Nat), Reps K B vs ds → Reps K B (vs.take n) (ds.take n)
  | _, _, 0, _ => .nil
  | _, _, _ + 1, .nil => .nil
  | _, _, n + 1, .cons h r => .cons h (Reps.take n r)
theorem Reps.drop : ∀ {vs : List V} {ds : List D} (n : Nat), Reps K B vs ds → Reps K B (vs.drop n) (ds.drop n)
  | _, _, 0, r => r
  | _, _, _ + 1, .nil => .nil
  | _, _, n + 1, .cons _ r => Reps.drop n r
theorem Reps.set {x : V} {d : D} (q : Rep K B x d) : ∀ {vs : List V} {ds : List D} (i : Nat), Reps K B vs ds → Reps K B (vs.set i x) (ds.set i d)
  | _, _, _, .nil => .nil
  | _, _, 0, .cons _ r => .cons q r
  | _, _, i + 1, .cons h r => .cons h (Reps.set q i r)
theorem Reps.rev : ∀ {vs : List V} {ds : List D}, Reps K B vs ds → Reps K B vs.reverse ds.reverse
  | _, _, .nil => .nil
  | _, _, .cons h r => by
    rw [List.reverse_cons, List.reverse_cons]
    exact (Reps.rev r).app (.cons h .nil)
theorem Reps.ints : ∀ {ns : List Int} {vs : List V}, Reps K B vs (ns.map PyData.int) → vs = ns.map V.int
  | [], _, .nil => rfl
  | n :: r, _, .cons h t => by cases h; rw [Reps.ints t]; rfl
theorem Reps.of_ints : ∀ (ns : List Int), Reps K B (ns.map V.int) (ns.map PyData.int)
  | [] => .nil
  | n :: r => .cons (.int n) (Reps.of_ints r)
theorem Reps.bools : ∀ {bs : List Bool} {vs : List V}, Reps K B vs (bs.map PyData.bool) → vs = bs.map V.bl
  | [], _, .nil => rfl
  | n :: r, _, .cons h t => by cases h; rw [Reps.bools t]; rfl
theorem Reps.of_bools : ∀ (ns : List Bool), Reps K B (ns.map V.bl) (ns.map PyData.bool)
  | [] => .nil
  | n :: r => .cons (.bl n) (Reps.of_bools r)
theorem Reps.strs : ∀ {bs : List Str} {vs : List V}, Reps K B vs (bs.map PyData.str) → vs = bs.map V.str
  | [], _, .nil => rfl
  | n :: r, _, .cons h t => by cases h; rw [Reps.strs t]; rfl
theorem Reps.of_strs : ∀ (ns : List Str), Reps K B (ns.map V.str) (ns.map PyData.str)
  | [] => .nil
  | n :: r => .cons (.str n) (Reps.of_strs r)

/-! ### two worlds: B stays for ever, H is the heap; B' and H' behind -/
def Nx (B H B' H' : Hp) : Prop := Ex B B' ∧ Ex H H' ∧ Ex B' H' ∧ ∀ a, H a ≠ none → B a = none → B' a = none
theorem Nx.refl (h : Ex B H) : Nx B H B H := ⟨Ex.refl B, Ex.refl H, h, fun _ _ e => e⟩
theorem Nx.trans (x : Nx B H B' H') (y : Nx B' H' B2 H2) : Nx B H B2 H2 := ⟨x.1.trans y.1, x.2.1.trans y.2.1, y.2.2.1, fun a h b => by
  have h' : H' a ≠ none := fun z => by
    cases q : H a with
    | none => exact h q
    | some o => rw [x.2.1 a o q] at z; cases z
  exact y.2.2.2 a h' (x.2.2.2 a h b)⟩
theorem Ex.none {p : Addr} (e : Ex B H) (h : H p = none) : B p = none := Evl.fresh_back e h
/-- a new object that will never change -/
theorem Nx.new {p : Addr} {o : HO} (e : Ex B H) (hp : H p = none) : Nx B H (upd B p o) (upd H p o) := by
  refine ⟨Ex.new (Ex.none e hp), Ex.new hp, fun a u z => ?_, fun a h b => ?_⟩
  · by_cases ha : a = p
    · subst ha; rw [upd_same] at z ⊢; exact z
    · rw [upd_ne ha] at z ⊢; exact e a u z
  · have ha : a ≠ p := fun z => h (by rw [z]; exact hp)
    rw [upd_ne ha]; exact b
/-- a new object that may still change -/
theorem Nx.own {p : Addr} {o : HO} (e : Ex B H) (hp : H p = none) : Nx B H B (upd H p o) := by
  refine ⟨Ex.refl B, Ex.new hp, fun a u z => ?_, fun a h b => b⟩
  have ha : a ≠ p := fun y => by rw [y, Ex.none e hp] at z; cases z
  rw [upd_ne ha]; exact e a u z
theorem Nx.lst {p : Addr} {vs : List V} {ds : List D} (r : Reps K B vs ds) (e : Ex B H) (hp : H p = none) : Rep K (upd B p (.lst vs)) (.ref p) (.list ds) :=
  .lst upd_same (Reps.up (Ex.new (Ex.none e hp)) r)
theorem Nx.tup {p : Addr} {vs : List V} {ds : List D} (r : Reps K B vs ds) (e : Ex B H) (hp : H p = none) : Rep K (upd B p (.tup vs)) (.ref p) (.tuple ds) :=
  .tup (.inl (.inl upd_same)) (Reps.up (Ex.new (Ex.none e hp)) r)
/-- a list just made is frozen -/
theorem Nx.freeze {p : Addr} {vs : List V} (n : Nx B H B' H') (hp : H p = none) (hb : B' p = none) (hh : H' p = some (.lst vs)) : Nx B H (upd B' p (.lst vs)) H' := by
  refine ⟨n.1.trans (Ex.new hb), n.2.1, fun a u z => ?_, fun a h b => ?_⟩
  · by_cases ha : a = p
    · subst ha; rw [upd_same] at z; rw [hh]; exact z
    · rw [upd_ne ha] at z; exact n.2.2.1 a u z
  · have ha : a ≠ p := fun z => h (by rw [z]; exact hp)
    rw [upd_ne ha]; exact n.2.2.2 a h b
end

/-! ### slots -/
inductive Sl where
  | no
  | val (d : D)
  | own (ds : List D)
  | scr (ns : List Int)
abbrev Env := List Sl

structure Holds (K : PySem.W.Frag) (B0 H0 : Hp) (ρ : Env) (σ : L2.St) (B H : Hp) : Prop where
  nx : Nx B0 H0 B H
  len : σ.length = ρ.length
  val : ∀ (i : Nat) (d : D), ρ[i]? = some (.val d) → ∃ v, σ[i]? = some (some v) ∧ Rep K B v d
  own : ∀ (i : Nat) (ds : List D), ρ[i]? = some (.own ds) → ∃ p vs, σ[i]? = some (some (.ref p)) ∧ H0 p = none ∧ B p = none ∧ H p = some (.lst vs) ∧ Reps K B vs ds
  scr : ∀ (i : Nat) (ns : List Int), ρ[i]? = some (.scr ns) → ∃ a, σ[i]? = some (some (.ref a)) ∧ SqL K B a (ns.map V.int)
  apart : ∀ (i j : Nat) (ds es : List D) (p : Addr), ρ[i]? = some (.own ds) → ρ[j]? = some (.own es) → σ[i]? = some (some (.ref p)) → σ[j]? = some (some (.ref p)) → i = j

section
variable {K : PySem.W.Frag} {B0 H0 B H B' H' : Hp} {ρ ρ' : Env} {σ : L2.St} {i : Nat} {v : V} {d : D}
theorem Holds.ex (h : Holds K B0 H0 ρ σ B H) : Ex B H := h.nx.2.2.1
theorem Holds.step (h : Holds K B0 H0 ρ σ B H) (n : Nx B H B' H') : Holds K B0 H0 ρ σ B' H' where
  nx := h.nx.trans n
  len := h.len
  val := fun i d e => by
    obtain ⟨v, h1, h2⟩ := h.val i d e
    exact ⟨v, h1, h2.up n.1⟩
  own := fun i ds e => by
    obtain ⟨p, vs, h1, h2, h3, h4, h5⟩ := h.own i ds e
    exact ⟨p, vs, h1, h2, n.2.2.2 p (by rw [h4]; simp) h3, n.2.1 p _ h4, h5.up n.1⟩
  scr := fun i ns e => by
    obtain ⟨a, h1, h2⟩ := h.scr i ns e
    exact ⟨a, h1, Evl.ex_l n.1 h2⟩
  apart := h.apart
theorem getset {α : Type} {l : List α} {i j : Nat} {x y : α} (h : (l.set i x)[j]? = some y) : (j = i ∧ x = y) ∨ (j ≠ i ∧ l[j]? = some y) := by
  by_cases e : i = j
  · subst e
    by_cases hl : i < l.length
    · rw [List.getElem?_set_self hl] at h
      exact .inl ⟨rfl, Option.some.inj h⟩
    · rw [List.getElem?_eq_none (by simpa using hl)] at h; cases h
  · rw [List.getElem?_set_ne e] at h
    exact .inr ⟨fun z => e z.symm, h⟩
/-- a slot is stored -/
theorem Holds.setv (h : Holds K B0 H0 ρ σ B H) (r : Rep K B v d) : Holds K B0 H0 (ρ.set i (.val d)) (σ.set i (some v)) B H where
  nx := h.nx
  len := by rw [List.length_set, List.length_set]; exact h.len
  val := fun j e q => by
    rcases getset q with ⟨rfl, z⟩ | ⟨ne, z⟩
    · cases z
      have hl : j < σ.length := by
        have := (List.getElem?_eq_some_iff.mp q).1
        rw [List.length_set] at this
        rw [h.len]; exact this
      exact ⟨v, List.getElem?_set_self hl, r⟩
    · rw [List.getElem?_set_ne (fun z => ne z.symm)]
      exact h.val j e z
  own := fun j ds q => by
    rcases getset q with ⟨_, z⟩ | ⟨ne, z⟩
    · cases z
    · rw [List.getElem?_set_ne (fun z => ne z.symm)]
      exact h.own j ds z
  scr := fun j ns q => by
    rcases getset q with ⟨_, z⟩ | ⟨ne, z⟩
    · cases z
    · rw [List.getElem?_set_ne (fun z => ne z.symm)]
      exact h.scr j ns z
  apart := fun j k ds es p q1 q2 q3 q4 => by
    rcases getset q1 with ⟨_, z⟩ | ⟨n1, z1⟩
    · cases z
    rcases getset q2 with ⟨_, z⟩ | ⟨n2, z2⟩
    · cases z
    rw [List.getElem?_set_ne (fun z => n1 z.symm)] at q3
    rw [List.getElem?_set_ne (fun z => n2 z.symm)] at q4
    exact h.apart j k ds es p z1 z2 q3 q4
/-- a slot that holds a list of its own -/
theorem Holds.seto {p : Addr} {vs : List V} {ds : List D} (h : Holds K B0 H0 ρ σ B H) (r : Reps K B vs ds) (h0 : H0 p = none) (hb : B p = none) (hh : H p = some (.lst vs))
    (ap : ∀ (j : Nat) (es : List D), j ≠ i → ρ[j]? = some (.own es) → σ[j]? ≠ some (some (.ref p))) : Holds K B0 H0 (ρ.set i (.own ds)) (σ.set i (some (.ref p))) B H where
  nx := h.nx
  len := by rw [List.length_set, List.length_set]; exact h.len
  val := fun j e q => by
    rcases getset q with ⟨_, z⟩ | ⟨ne, z⟩
    · cases z
    · rw [List.getElem?_set_ne (fun z => ne z.symm)]
      exact h.val j e z
  own := fun j es q => by
    rcases getset q with ⟨rfl, z⟩ | ⟨ne, z⟩
    · cases z
      have hl : j < σ.length := by
        have := (List.getElem?_eq_some_iff.mp q).1
        rw [List.length_set] at this
        rw [h.len]; exact this
      exact ⟨p, vs, List.getElem?_set_self hl, h0, hb, hh, r⟩
    · rw [List.getElem?_set_ne (fun z => ne z.symm)]
      exact h.own j es z
  scr := fun j ns q => by
    rcases getset q with ⟨_, z⟩ | ⟨ne, z⟩
    · cases z
    · rw [List.getElem?_set_ne (fun z => ne z.symm)]
      exact h.scr j ns z
  apart := fun j k es fs q q1 q2 q3 q4 => by
    rcases getset q1 with ⟨e1, z1⟩ | ⟨n1, z1⟩
    · rcases getset q2 with ⟨e2, z2⟩ | ⟨n2, z2⟩
      · rw [e1, e2]
      · exfalso
        rw [List.getElem?_set_ne (fun z => n2 z.symm)] at q4
        rcases getset q3 with ⟨_, z3⟩ | ⟨n3, z3⟩
        · cases z3
          exact ap k fs n2 z2 q4
        · exact n3 e1
    · rw [List.getElem?_set_ne (fun z => n1 z.symm)] at q3
      rcases getset q2 with ⟨e2, z2⟩ | ⟨n2, z2⟩
      · exfalso
        rcases getset q4 with ⟨_, z4⟩ | ⟨n4, z4⟩
        · cases z4
          exact ap j es n1 z1 q3
        · exact n4 e2
      · rw [List.getElem?_set_ne (fun z => n2 z.symm)] at q4
        exact h.apart j k es fs q z1 z2 q3 q4
/-- some slots forgotten -/
inductive Wk : Env → Env → Prop
  | nil : Wk [] []
  | k {x : Sl} {r s : Env} : Wk r s → Wk (x :: r) (x :: s)
  | n {x : Sl} {r s : Env} : Wk r s → Wk (x :: r) (.no :: s)
theorem Wk.at : ∀ {r s : Env}, Wk r s → r.length = s.length ∧ ∀ (i : Nat) (x : Sl), s[i]? = some x → x = .no ∨ r[i]? = some x
  | _, _, .nil => ⟨rfl, fun i x h => by simp at h⟩
  | _, _, .k w => ⟨by simp [w.at.1], fun i x h => by
      cases i with
      | zero => exact .inr h
      | succ i => exact w.at.2 i x (by simpa using h)⟩
  | _, _, .n w => ⟨by simp [w.at.1], fun i x h => by
      cases i with
      | zero => simp at h; exact .inl h.symm
      | succ i => exact w.at.2 i x (by simpa using h)⟩
theorem Wk.refl : ∀ (r : Env), Wk r r
  | [] => .nil
  | _ :: r => .k (Wk.refl r)
theorem Holds.wk (h : Holds K B0 H0 ρ σ B H) (w : Wk ρ ρ') : Holds K B0 H0 ρ' σ B H where
  nx := h.nx
  len := h.len.trans w.at.1
  val := fun i d e => (w.at.2 i _ e).elim (fun z => by cases z) fun z => h.val i d z
  own := fun i d e => (w.at.2 i _ e).elim (fun z => by cases z) fun z => h.own i d z
  scr := fun i d e => (w.at.2 i _ e).elim (fun z => by cases z) fun z => h.scr i d z
  apart := fun i j ds es p e1 e2 => (w.at.2 i _ e1).elim (fun z => by cases z) fun z1 => (w.at.2 j _ e2).elim (fun z => by cases z) fun z2 => h.apart i j ds es p z1 z2
def wipeE (ρ : Env) : List Nat → Env
  | [] => ρ
  | v :: vs => (wipeE ρ vs).set v .no
theorem Holds.wipe1 (h : Holds K B0 H0 ρ σ B H) (j : Nat) : Holds K B0 H0 (ρ.set j .no) (σ.set j none) B H where
  nx := h.nx
  len := by rw [List.length_set, List.length_set]; exact h.len
  val := fun i d e => by
    rcases getset e with ⟨_, z⟩ | ⟨ne, z⟩
    · cases z
    · rw [List.getElem?_set_ne (fun z => ne z.symm)]; exact h.val i d z
  own := fun i d e => by
    rcases getset e with ⟨_, z⟩ | ⟨ne, z⟩
    · cases z
    · rw [List.getElem?_set_ne (fun z => ne z.symm)]; exact h.own i d z
  scr := fun i d e => by
    rcases getset e with ⟨_, z⟩ | ⟨ne, z⟩
    · cases z
    · rw [List.getElem?_set_ne (fun z => ne z.symm)]; exact h.scr i d z
  apart := fun i k ds es p q1 q2 q3 q4 => by
    rcases getset q1 with ⟨_, z⟩ | ⟨n1, z1⟩
    · cases z
    rcases getset q2 with ⟨_, z⟩ | ⟨n2, z2⟩
    · cases z
    rw [List.getElem?_set_ne (fun z => n1 z.symm)] at q3
    rw [List.getElem?_set_ne (fun z => n2 z.symm)] at q4
    exact h.apart i k ds es p z1 z2 q3 q4
theorem Holds.wipe (h : Holds K B0 H0 ρ σ B H) : ∀ (vs : List Nat), Holds K B0 H0 (wipeE ρ vs) (L2.wipe σ vs) B H
  | [] => h
  | v :: vs => (Holds.wipe h vs).wipe1 v
end
end Dl

/-! Data layer, part 2: judgements of expressions, operators on data. -/
namespace Dl
open PySem L2 PySem.Spec PyProof.Rows
open Evl (Ex)

/-! ### what an expression gives, as data (none: nothing is said) -/
def cT (K : PySem.W.Frag) (ρ : Env) (m : Option D) : TE := fun σ H Q => ∃ B0 H0 B, Holds K B0 H0 ρ σ B H ∧ ∃ d, m = some d ∧ ∀ v B' H', Nx B H B' H' → Rep K B' v d → Q v H'
def cB (K : PySem.W.Frag) (ρ : Env) (m : Option Bool) : TT := fun σ H Q => ∃ B0 H0 B, Holds K B0 H0 ρ σ B H ∧ ∃ b, m = some b ∧ ∀ B' H', Nx B H B' H' → Q b H'
def cA (K : PySem.W.Frag) (ρ : Env) (m : Option (List D)) : TA := fun σ H Q => ∃ B0 H0 B, Holds K B0 H0 ρ σ B H ∧ ∃ ds, m = some ds ∧ ∀ vs B' H', Nx B H B' H' → Reps K B' vs ds → Q vs H'
/-- a list that was just made -/
def cF (K : PySem.W.Frag) (ρ : Env) (m : Option (List D)) : TE := fun σ H Q => ∃ B0 H0 B, Holds K B0 H0 ρ σ B H ∧ ∃ ds, m = some ds ∧
  ∀ p vs B' H', Nx B H B' H' → H p = none → B' p = none → H' p = some (.lst vs) → Reps K B' vs ds → Q (.ref p) H'
structure DE (X : Cx) (e : Expr) (ρ : Env) (m : Option D) : Prop where
  pe : PE X e (cT X.K ρ m)
structure DT (X : Cx) (e : Expr) (ρ : Env) (m : Option Bool) : Prop where
  pt : PT X e (cB X.K ρ m)
structure DW (X : Cx) (e : Expr) (ρ : Env) (m : Option Bool) : Prop where
  pw : PW X e (cB X.K ρ m)
structure DA (X : Cx) (es : List Expr) (ρ : Env) (m : Option (List D)) : Prop where
  pa : PA X es (cA X.K ρ m)
structure DF (X : Cx) (e : Expr) (ρ : Env) (m : Option (List D)) : Prop where
  pe : PE X e (cF X.K ρ m)

section
variable {X : Cx} {e a b c : Expr} {es : List Expr} {ρ : Env} {pos : Pos}
theorem peI {t t' : TE} (h : PE X e t) (f : ∀ σ H Q, t' σ H Q → t σ H Q) : PE X e t' := ⟨fun pins s σ H Q I w => h.run pins s σ H Q I (f σ H Q w)⟩
theorem ptI {t t' : TT} (h : PT X e t) (f : ∀ σ H Q, t' σ H Q → t σ H Q) : PT X e t' := ⟨fun pins s σ H Q I w => h.run pins s σ H Q I (f σ H Q w)⟩
theorem pwI {t t' : TT} (h : PW X e t) (f : ∀ σ H Q, t' σ H Q → t σ H Q) : PW X e t' := ⟨fun whole pins s σ H Q I w => h.run whole pins s σ H Q I (f σ H Q w)⟩
theorem paI {t t' : TA} (h : PA X es t) (f : ∀ σ H Q, t' σ H Q → t σ H Q) : PA X es t' := ⟨fun pos pins s σ H Q I w => h.run pos pins s σ H Q I (f σ H Q w)⟩
theorem bind_some {α β : Type} {m : Option α} {f : α → Option β} {b : β} (h : m.bind f = some b) : ∃ a, m = some a ∧ f a = some b := by
  cases m with
  | none => cases h
  | some a => exact ⟨a, rfl, h⟩
theorem DE.of {m n : Option D} (h : DE X e ρ m) (q : m = n) : DE X e ρ n := q ▸ h
theorem DT.of {m n : Option Bool} (h : DT X e ρ m) (q : m = n) : DT X e ρ n := q ▸ h

/-! ### operators, by data -/
abbrev b2 (m n : Option D) (f : D → D → Option D) : Option D := m.bind fun x => n.bind fun y => f x y
def rD (K : PySem.W.Frag) (f : D → D → Option D) : R2 := fun x y H Q => ∃ B d e r, Ex B H ∧ Rep K B x d ∧ Rep K B y e ∧ f d e = some r ∧ ∀ v B' H', Nx B H B' H' → Rep K B' v r → Q v H'
def rD1 (K : PySem.W.Frag) (f : D → Option D) : V → Hp → VK → Prop := fun x H Q => ∃ B d r, Ex B H ∧ Rep K B x d ∧ f d = some r ∧ ∀ v B' H', Nx B H B' H' → Rep K B' v r → Q v H'
def rDL (K : PySem.W.Frag) (f : List D → Option D) : List V → Hp → VK → Prop := fun xs H Q => ∃ B ds r, Ex B H ∧ Reps K B xs ds ∧ f ds = some r ∧ ∀ v B' H', Nx B H B' H' → Rep K B' v r → Q v H'
/-- .. a new list -/
def rDF (K : PySem.W.Frag) (f : List D → Option (List D)) : List V → Hp → VK → Prop := fun xs H Q => ∃ B ds r, Ex B H ∧ Reps K B xs ds ∧ f ds = some r ∧
  ∀ p vs B' H', Nx B H B' H' → H p = none → B' p = none → H' p = some (.lst vs) → Reps K B' vs r → Q (.ref p) H'

theorem tOpD {f : D → D → Option D} {m n : Option D} : ∀ (σ : L2.St) (H : Hp) (Q : VK), cT X.K ρ (b2 m n f) σ H Q → tOp (rD X.K f) (cT X.K ρ m) (cT X.K ρ n) σ H Q := by
  intro σ H Q ⟨B0, H0, B, hh, d, hm, q⟩
  obtain ⟨x, hx, hm⟩ := bind_some hm
  obtain ⟨y, hy, hf⟩ := bind_some hm
  exact ⟨B0, H0, B, hh, x, hx, fun v B1 H1 n1 r1 => ⟨B0, H0, B1, hh.step n1, y, hy, fun u B2 H2 n2 r2 => ⟨B2, x, y, d, n2.2.2.1, r1.up n2.1, r2, hf, fun w B3 H3 n3 r3 => q w B3 H3 ((n1.trans n2).trans n3) r3⟩⟩⟩
theorem de_op {op : Operator} {f : D → D → Option D} {m n : Option D} (ho : OpR X (binaryOp op) (rD X.K f)) (ha : DE X a ρ m) (hb : DE X b ρ n) : DE X (.BinOp a op b pos) ρ (b2 m n f) := ⟨peI (pe_op ho ha.pe hb.pe) tOpD⟩
theorem de_cmp {op : CmpOp} {f : D → D → Option D} {m n : Option D} (ho : OpR X (compareOp op) (rD X.K f)) (ha : DE X a ρ m) (hb : DE X b ρ n) (hm : behindInMarks op b = false) : DE X (.Compare a [op] [b] pos) ρ (b2 m n f) := ⟨peI (pe_cmpR ho ha.pe hb.pe hm) tOpD⟩
theorem de_ix {f : D → D → Option D} {m n : Option D} (hr : IxR X (rD X.K f)) (ha : DE X a ρ m) (hb : DE X b ρ n) (hs : PlainIx b) : DE X (.Subscript a b pos) ρ (b2 m n f) := ⟨peI (pe_ix hr ha.pe hb.pe hs) tOpD⟩
theorem de_un {op : UnaryOp} {f : D → Option D} {m : Option D} (ho : UnR X (unaryOp op) (rD1 X.K f)) (ha : DE X a ρ m) : DE X (.UnaryOp op a pos) ρ (m.bind f) := ⟨peI (pe_un ho ha.pe) (by
  intro σ H Q ⟨B0, H0, B, hh, d, hm, q⟩
  obtain ⟨x, hx, hf⟩ := bind_some hm
  exact ⟨B0, H0, B, hh, x, hx, fun v B1 H1 n1 r1 => ⟨B1, x, d, n1.2.2.1, r1, hf, fun w B3 H3 n3 r3 => q w B3 H3 (n1.trans n3) r3⟩⟩)⟩

/-! ### names, constants -/
def look (ρ : Env) (i : Nat) : Option D := match ρ[i]? with
  | some (.val d) => some d
  | _ => none
theorem look_some {i : Nat} {d : D} (h : look ρ i = some d) : ρ[i]? = some (.val d) := by
  unfold look at h
  split at h
  · rename_i z; cases h; exact z
  · cases h
theorem de_var {i : Nat} {x : Str} {d : D} (hl : look ρ i = some d) (hN : X.N[i]? = some x) (hv : Vis X.env.scope x) (hd : (x == ("__debug__" : Str)) = false) (hcd : (x == ("__classdict__" : Str)) = false) : DE X (.Name x pos) ρ (some d) :=
  ⟨peI (pe_var hN hv hd hcd) (by
    intro σ H Q ⟨B0, H0, B, hh, d', hm, q⟩
    cases hm
    obtain ⟨v, h1, h2⟩ := hh.val i d (look_some hl)
    exact ⟨v, h1, q v B H (Nx.refl hh.ex) h2⟩)⟩
theorem de_c {v : V} {d : D} (h : PE X e (tC v)) (r : ∀ K B, Rep K B v d) : DE X e ρ (some d) := ⟨peI h (by
  intro σ H Q ⟨B0, H0, B, hh, d', hm, q⟩
  cases hm
  exact q v B H (Nx.refl hh.ex) (r _ _))⟩
theorem de_int {i : Int} {j : Nat} : DE X (.Constant (.int i) j pos) ρ (some (.int i)) := de_c pe_int fun _ _ => .int i
theorem de_bl {i : Bool} {j : Nat} : DE X (.Constant (.bool i) j pos) ρ (some (.bool i)) := de_c pe_bl fun _ _ => .bl i
theorem de_non {j : Nat} : DE X (.Constant .none j pos) ρ (some .none) := de_c pe_non fun _ _ => .non
theorem de_str {i : Str} {j : Nat} : DE X (.Constant (.str i) j pos) ρ (some (.str i)) := de_c pe_str fun _ _ => .str i
theorem de_glob {x : Str} {v : V} {d : D} {u : Value} (hg : Gl X x) (hm : X.mg x = some u) (r : RelV v u) (rd : ∀ K B, Rep K B v d) (hd : (x == ("__debug__" : Str)) = false) : DE X (.Name x pos) ρ (some d) := de_c (pe_glob hg hm r hd) rd

/-! ### arguments, displays -/
abbrev c2 (m : Option D) (n : Option (List D)) : Option (List D) := m.bind fun x => n.bind fun xs => some (x :: xs)
theorem da_nil : DA X [] ρ (some []) := ⟨paI pa_nil (by
  intro σ H Q ⟨B0, H0, B, hh, d', hm, q⟩
  cases hm
  exact q [] B H (Nx.refl hh.ex) .nil)⟩
theorem da_cons {m : Option D} {n : Option (List D)} (ha : DE X e ρ m) (hr : DA X es ρ n) (hs : starEach (e :: es) X.env = (false, eval e X.env) :: starEach es X.env) : DA X (e :: es) ρ (c2 m n) := ⟨paI (pa_cons ha.pe hr.pa hs) (by
  intro σ H Q ⟨B0, H0, B, hh, d', hm, q⟩
  obtain ⟨x, hx, hm⟩ := bind_some hm
  obtain ⟨xs, hy, hf⟩ := bind_some hm
  cases hf
  exact ⟨B0, H0, B, hh, x, hx, fun v B1 H1 n1 r1 => ⟨B0, H0, B1, hh.step n1, xs, hy, fun vs B2 H2 n2 r2 => q (v :: vs) B2 H2 (n1.trans n2) (.cons (r1.up n2.1) r2)⟩⟩)⟩
def fit {α : Type} (n : Nat) (x : α) : Option α := if n ≤ 16777216 then some x else none
theorem fit_some {α : Type} {n : Nat} {x y : α} (h : fit n x = some y) : n ≤ sizeLine ∧ x = y := by
  unfold fit at h
  split at h
  · cases h; rw [sizeLine_eq]; exact ⟨by assumption, rfl⟩
  · cases h
theorem fit_ok {α : Type} {n : Nat} {x : α} (h : n ≤ 16777216) : fit n x = some x := if_pos h
theorem de_tup {x1} {m : Option (List D)} (h : DA X es ρ m) : DE X (.Tuple es x1 pos) ρ (m.bind fun xs => fit xs.length (.tuple xs)) := ⟨peI (pe_tup h.pa) (by
  intro σ H Q ⟨B0, H0, B, hh, d', hm, q⟩
  obtain ⟨xs, hx, hf⟩ := bind_some hm
  obtain ⟨hz, rfl⟩ := fit_some hf
  exact ⟨B0, H0, B, hh, xs, hx, fun vs B1 H1 n1 r1 => ⟨by rw [r1.len]; exact hz, fun p hp => q _ _ _ (n1.trans (Nx.new n1.2.2.1 hp)) (Nx.tup r1 n1.2.2.1 hp)⟩⟩)⟩
theorem df_lst {m : Option (List D)} (h : DA X es ρ m) : DF X (.List es pos) ρ (m.bind fun xs => fit xs.length xs) := ⟨peI (pe_lst h.pa) (by
  intro σ H Q ⟨B0, H0, B, hh, d', hm, q⟩
  obtain ⟨xs, hx, hf⟩ := bind_some hm
  obtain ⟨hz, rfl⟩ := fit_some hf
  refine ⟨B0, H0, B, hh, xs, hx, fun vs B1 H1 n1 r1 => ⟨by rw [r1.len]; exact hz, fun p hp => ?_⟩⟩
  exact q p vs B1 _ (n1.trans (Nx.own n1.2.2.1 hp)) (Ex.none n1.2.1 hp) (Ex.none n1.2.2.1 hp) upd_same r1)⟩
theorem DF.de {m : Option (List D)} (h : DF X e ρ m) : DE X e ρ (m.map .list) := ⟨peI h.pe (by
  intro σ H Q ⟨B0, H0, B, hh, d', hm, q⟩
  cases m with
  | none => cases hm
  | some ds =>
    cases hm
    refine ⟨B0, H0, B, hh, ds, rfl, fun p vs B1 H1 n1 hp hb he r1 => ?_⟩
    exact q _ _ _ (n1.freeze hp hb he) (.lst upd_same (r1.up (Ex.new hb))))⟩

/-! ### tests -/
def truth : D → Option Bool
  | .none => some false
  | .bool b => some b
  | .int i => some (i != 0)
  | .str x => if x.length ≤ 16777216 then some ((x.length : Int) != 0) else none
  | .list xs => some (!xs.isEmpty)
  | .tuple xs => some (!xs.isEmpty)
  | .dict _ => none
theorem truth_ok {K : PySem.W.Frag} {B H : Hp} {v : V} {d : D} {k : Bool} (r : Rep K B v d) (e : Ex B H) (h : truth d = some k) : TruV K v H k := by
  cases r with
  | non => cases h; exact (rfl : false = false)
  | bl b => cases h; exact (rfl : k = k)
  | int i => exact (Option.some.inj h).symm
  | str x =>
    simp only [truth] at h
    split at h
    · cases h; exact ⟨by rw [sizeLine_eq]; assumption, rfl⟩
    · cases h
  | lst hl rr =>
    cases h
    refine .inl ⟨_, .inl (.inl (e _ _ hl)), ?_⟩
    have := rr.len
    revert this
    cases rr <;> simp
  | tup hl rr =>
    cases h
    refine .inr (.inl ⟨_, Evl.ex_t e hl, ?_⟩)
    have := rr.len
    revert this
    cases rr <;> simp
theorem dt_truth {m : Option D} (h : DE X e ρ m) (he : ∀ whole, isTrue e X.env whole = (do let v ← whole; standAt e.pos; holding [v] (truthy v))) : DT X e ρ (m.bind truth) := ⟨ptI (pt_truth h.pe he) (by
  intro σ H Q ⟨B0, H0, B, hh, d', hm, q⟩
  obtain ⟨x, hx, hf⟩ := bind_some hm
  exact ⟨B0, H0, B, hh, x, hx, fun v B1 H1 n1 r1 => ⟨d', truth_ok r1 n1.2.2.1 hf, q B1 H1 n1⟩⟩)⟩
def isB : D → Option Bool
  | .bool b => some b
  | _ => none
theorem isB_some {K : PySem.W.Frag} {B : Hp} {v : V} {d : D} {k : Bool} (r : Rep K B v d) (h : isB d = some k) : v = .bl k := by
  cases r <;> simp [isB] at h
  · subst h; rfl
theorem dt_cmp {op : CmpOp} {f : D → D → Option D} {m n : Option D} (ho : OpR X (compareOp op) (rD X.K f)) (ha : DE X a ρ m) (hb : DE X b ρ n) (hm : behindInMarks op b = false) : DT X (.Compare a [op] [b] pos) ρ ((b2 m n f).bind isB) := ⟨ptI (pt_cmpR ho ha.pe hb.pe hm) (by
  intro σ H Q ⟨B0, H0, B, hh, d', hm, q⟩
  obtain ⟨x, hx, hf⟩ := bind_some hm
  refine tOpD σ H _ ⟨B0, H0, B, hh, x, hx, fun v B1 H1 n1 r1 => ?_⟩
  exact ⟨d', isB_some r1 hf, q B1 H1 n1⟩)⟩
theorem dt_not {m : Option Bool} (h : DT X a ρ m) : DT X (.UnaryOp .Not a pos) ρ (m.map (!·)) := ⟨ptI (pt_not h.pt) (by
  intro σ H Q ⟨B0, H0, B, hh, d', hm, q⟩
  cases m with
  | none => cases hm
  | some k => cases hm; exact ⟨B0, H0, B, hh, k, rfl, fun B1 H1 n1 => q B1 H1 n1⟩)⟩
theorem DW.dt {m : Option Bool} (h : DW X e ρ m) : DT X e ρ m := ⟨h.pw.pt⟩
theorem dw_and1 {m : Option Bool} (h : DT X a ρ m) : DW X (.BoolOp .And [a] pos) ρ m := ⟨pw_and1 h.pt⟩
theorem dw_or1 {m : Option Bool} (h : DT X a ρ m) : DW X (.BoolOp .Or [a] pos) ρ m := ⟨pw_or1 h.pt⟩
abbrev andB (m n : Option Bool) : Option Bool := m.bind fun k => if k then n else some false
abbrev orB (m n : Option Bool) : Option Bool := m.bind fun k => if k then some true else n
theorem dw_and {rest : List Expr} {m n : Option Bool} (ha : DT X a ρ m) (hb : DW X (.BoolOp .And (b :: rest) pos) ρ n) : DW X (.BoolOp .And (a :: b :: rest) pos) ρ (andB m n) := ⟨pwI (pw_and ha.pt hb.pw) (by
  intro σ H Q ⟨B0, H0, B, hh, d', hm, q⟩
  obtain ⟨k, hx, hf⟩ := bind_some hm
  refine ⟨B0, H0, B, hh, k, hx, fun B1 H1 n1 => ?_⟩
  cases k with
  | true => exact ⟨B0, H0, B1, hh.step n1, d', hf, fun B2 H2 n2 => q B2 H2 (n1.trans n2)⟩
  | false => cases hf; exact q B1 H1 n1)⟩
theorem dw_or {rest : List Expr} {m n : Option Bool} (ha : DT X a ρ m) (hb : DW X (.BoolOp .Or (b :: rest) pos) ρ n) : DW X (.BoolOp .Or (a :: b :: rest) pos) ρ (orB m n) := ⟨pwI (pw_or ha.pt hb.pw) (by
  intro σ H Q ⟨B0, H0, B, hh, d', hm, q⟩
  obtain ⟨k, hx, hf⟩ := bind_some hm
  refine ⟨B0, H0, B, hh, k, hx, fun B1 H1 n1 => ?_⟩
  cases k with
  | false => exact ⟨B0, H0, B1, hh.step n1, d', hf, fun B2 H2 n2 => q B2 H2 (n1.trans n2)⟩
  | true => cases hf; exact q B1 H1 n1)⟩

/-! ### and, or, not, if as values -/
abbrev andV (m n : Option D) : Option D := m.bind fun x => (truth x).bind fun k => if k then n else some x
abbrev orV (m n : Option D) : Option D := m.bind fun x => (truth x).bind fun k => if k then some x else n
theorem de_one {op} {m : Option D} (h : DE X a ρ m) : DE X (.BoolOp op [a] pos) ρ m := ⟨pe_one h.pe⟩
theorem de_and {rest : List Expr} {m n : Option D} (ha : DE X a ρ m) (hb : DE X (.BoolOp .And (b :: rest) pos) ρ n) : DE X (.BoolOp .And (a :: b :: rest) pos) ρ (andV m n) := ⟨peI (pe_andT ha.pe hb.pe) (by
  intro σ H Q ⟨B0, H0, B, hh, d', hm, q⟩
  obtain ⟨x, hx, hm⟩ := bind_some hm
  obtain ⟨k, hk, hf⟩ := bind_some hm
  refine ⟨B0, H0, B, hh, x, hx, fun v B1 H1 n1 r1 => ⟨k, truth_ok r1 n1.2.2.1 hk, ?_⟩⟩
  cases k with
  | true => exact ⟨B0, H0, B1, hh.step n1, d', hf, fun w B2 H2 n2 r2 => q w B2 H2 (n1.trans n2) r2⟩
  | false => cases hf; exact q v B1 H1 n1 r1)⟩
theorem de_or {rest : List Expr} {m n : Option D} (ha : DE X a ρ m) (hb : DE X (.BoolOp .Or (b :: rest) pos) ρ n) : DE X (.BoolOp .Or (a :: b :: rest) pos) ρ (orV m n) := ⟨peI (pe_orT ha.pe hb.pe) (by
  intro σ H Q ⟨B0, H0, B, hh, d', hm, q⟩
  obtain ⟨x, hx, hm⟩ := bind_some hm
  obtain ⟨k, hk, hf⟩ := bind_some hm
  refine ⟨B0, H0, B, hh, x, hx, fun v B1 H1 n1 r1 => ⟨k, truth_ok r1 n1.2.2.1 hk, ?_⟩⟩
  cases k with
  | false => exact ⟨B0, H0, B1, hh.step n1, d', hf, fun w B2 H2 n2 r2 => q w B2 H2 (n1.trans n2) r2⟩
  | true => cases hf; exact q v B1 H1 n1 r1)⟩
theorem de_not {m : Option D} (h : DE X a ρ m) : DE X (.UnaryOp .Not a pos) ρ (m.bind fun x => (truth x).map fun k => .bool (!k)) := ⟨peI (pe_notT h.pe) (by
  intro σ H Q ⟨B0, H0, B, hh, d', hm, q⟩
  obtain ⟨x, hx, hf⟩ := bind_some hm
  cases hk : truth x with
  | none => rw [hk] at hf; cases hf
  | some k =>
    rw [hk] at hf
    cases hf
    exact ⟨B0, H0, B, hh, x, hx, fun v B1 H1 n1 r1 => ⟨k, truth_ok r1 n1.2.2.1 hk, q _ B1 H1 n1 (.bl _)⟩⟩)⟩
abbrev iteM {α : Type} (c : Option Bool) (m n : Option α) : Option α := c.bind fun k => if k then m else n
theorem de_if {k : Option Bool} {m n : Option D} (hc : DT X c ρ k) (ha : DE X a ρ m) (hb : DE X b ρ n) : DE X (.IfExp c a b pos) ρ (iteM k m n) := ⟨peI (pe_ifExp hc.pt ha.pe hb.pe) (by
  intro σ H Q ⟨B0, H0, B, hh, d', hm, q⟩
  obtain ⟨k, hx, hf⟩ := bind_some hm
  refine ⟨B0, H0, B, hh, k, hx, fun B1 H1 n1 => ?_⟩
  cases k with
  | true => exact ⟨B0, H0, B1, hh.step n1, d', hf, fun w B2 H2 n2 r2 => q w B2 H2 (n1.trans n2) r2⟩
  | false => exact ⟨B0, H0, B1, hh.step n1, d', hf, fun w B2 H2 n2 r2 => q w B2 H2 (n1.trans n2) r2⟩)⟩
end
end Dl

/-! Data layer, part 3: the operators' rules. -/
namespace Dl
open PySem L2 PySem.Spec PyProof.Rows PySem.W PySem.SeqAt
open Evl (Ex)

section
variable {X : Cx} {pins : List (Addr × Obj)} {σ : L2.St} {H B : Hp} {s : Shared}
theorem Rep.reads {v : V} {u : Value} {d : D} {K : PySem.W.Frag} (r : Rep K B v d) (hK : K = X.K) (I : Inv X pins σ H s) (e : Ex B H) (rv : RelV v u) : ∃ as, Reads s.heap u d as := by
  subst hK
  exact (r.up e).dp.reads I d v u rv
mutual
theorem Rep.plain {K : PySem.W.Frag} : ∀ {v : V} {d : D}, Rep K B v d → d.plain = true
  | _, _, .non => rfl
  | _, _, .bl b => rfl
  | _, _, .int i => rfl
  | _, _, .str x => rfl
  | _, _, .lst h r => by rw [PyData.plain]; exact Reps.plain r
  | _, _, .tup h r => by rw [PyData.plain]; exact Reps.plain r
theorem Reps.plain {K : PySem.W.Frag} : ∀ {vs : List V} {ds : List D}, Reps K B vs ds → PyData.plainAll ds = true
  | _, _, .nil => rfl
  | _, _, .cons h r => by rw [PyData.plainAll, Rep.plain h, Reps.plain r]; rfl
end

/-! ### arithmetic -/
def addD : D → D → Option D
  | .int i, .int j => some (.int (i + j))
  | .str a, .str b => fit (a.length + b.length) (.str (a ++ b))
  | .list a, .list b => fit (a.length + b.length) (.list (a ++ b))
  | .tuple a, .tuple b => fit (a.length + b.length) (.tuple (a ++ b))
  | _, _ => none
theorem op_addD : OpR X (binaryOp .Add) (rD X.K addD) := by
  intro pins s σ H x y v u Q I rx ry ⟨B, d, e, r, ex, hd, he, hf, q⟩
  cases hd with
  | int i =>
    cases he with
    | int j => cases hf; exact op_add pins s σ H _ _ v u Q I rx ry ⟨i, j, rfl, rfl, q _ B H (Nx.refl ex) (.int _)⟩
    | _ => simp [addD] at hf
  | str a =>
    cases he with
    | str b =>
      obtain ⟨hz, rfl⟩ := fit_some hf
      exact op_add_str pins s σ H _ _ v u Q I rx ry ⟨a, b, rfl, rfl, hz, q _ B H (Nx.refl ex) (.str _)⟩
    | _ => simp [addD] at hf
  | @lst l xs ds h1 r1 =>
    cases he with
    | @lst b zs es h2 r2 =>
      obtain ⟨hz, rfl⟩ := fit_some hf
      refine op_cat pins s σ H _ _ v u Q I rx ry ⟨l, b, xs, zs, rfl, rfl, ex _ _ h1, ex _ _ h2, by rw [r1.len, r2.len]; exact hz, fun p hp => ?_⟩
      exact q _ _ _ (Nx.new ex hp) (Nx.lst (r1.app r2) ex hp)
    | _ => simp [addD] at hf
  | @tup l xs ds h1 r1 =>
    cases he with
    | @tup b zs es h2 r2 =>
      obtain ⟨hz, rfl⟩ := fit_some hf
      have k1 := r1.len
      have k2 := r2.len
      refine op_catA pins s σ H _ _ v u Q I rx ry ⟨l, b, xs, zs, rfl, rfl, Evl.ex_t ex h1, Evl.ex_t ex h2, by rw [k1, k2]; exact hz, fun e => ?_, fun _ e => ?_, fun _ _ p hp => ?_⟩
      · subst e
        cases r1
        exact q _ B H (Nx.refl ex) (.tup h2 r2)
      · subst e
        cases r2
        rw [List.append_nil] at q
        exact q _ B H (Nx.refl ex) (.tup h1 r1)
      · exact q _ _ _ (Nx.new ex hp) (Nx.tup (r1.app r2) ex hp)
    | _ => simp [addD] at hf
  | _ => cases he <;> simp [addD] at hf
def subD : D → D → Option D
  | .int i, .int j => some (.int (i - j))
  | _, _ => none
theorem op_subD : OpR X (binaryOp .Sub) (rD X.K subD) := by
  intro pins s σ H x y v u Q I rx ry ⟨B, d, e, r, ex, hd, he, hf, q⟩
  cases hd with
  | int i =>
    cases he with
    | int j => cases hf; exact op_sub pins s σ H _ _ v u Q I rx ry ⟨i, j, rfl, rfl, q _ B H (Nx.refl ex) (.int _)⟩
    | _ => simp [subD] at hf
  | _ => cases he <;> simp [subD] at hf
def small64 (i : Int) : Prop := -18446744073709551616 < i ∧ i < 18446744073709551616
instance (i : Int) : Decidable (small64 i) := inferInstanceAs (Decidable (_ ∧ _))
def mulD : D → D → Option D
  | .int i, .int j => if small64 i ∨ small64 j then some (.int (i * j)) else none
  | .list a, .int k => if -9223372036854775808 ≤ k ∧ k < 9223372036854775808 ∧ a.length * k.toNat ≤ 16777216 then some (.list (List.replicate k.toNat a).flatten) else none
  | _, _ => none
theorem Reps.rep {K : PySem.W.Frag} {vs : List V} {ds : List D} (r : Reps K B vs ds) : ∀ k : Nat, Reps K B (List.replicate k vs).flatten (List.replicate k ds).flatten
  | 0 => .nil
  | k + 1 => by
    rw [List.replicate_succ, List.replicate_succ, List.flatten_cons, List.flatten_cons]
    exact r.app (Reps.rep r k)
theorem op_mulD : OpR X (binaryOp .Mult) (rD X.K mulD) := by
  intro pins s σ H x y v u Q I rx ry ⟨B, d, e, r, ex, hd, he, hf, q⟩
  cases hd with
  | int i =>
    cases he with
    | int j =>
      simp only [mulD] at hf
      split at hf
      · rename_i hc
        cases hf
        refine op_mul pins s σ H _ _ v u Q I rx ry ⟨i, j, rfl, rfl, ?_, q _ B H (Nx.refl ex) (.int _)⟩
        rcases hc with ⟨h1, h2⟩ | ⟨h1, h2⟩
        · exact .inl ⟨by omega, by omega⟩
        · exact .inr ⟨by omega, by omega⟩
      · cases hf
    | _ => simp [mulD] at hf
  | @lst l xs ds h1 r1 =>
    cases he with
    | int k =>
      simp only [mulD] at hf
      split at hf
      · rename_i hc
        cases hf
        refine op_rep pins s σ H _ _ v u Q I rx ry ⟨l, k, xs, rfl, rfl, ex _ _ h1, by omega, by omega, by rw [r1.len, sizeLine_eq]; exact hc.2.2, fun p hp => ?_⟩
        exact q _ _ _ (Nx.new ex hp) (Nx.lst (r1.rep _) ex hp)
      · cases hf
    | _ => simp [mulD] at hf
  | _ => cases he <;> simp [mulD] at hf

def fdivD : D → D → Option D
  | .int i, .int j => if j ≠ 0 ∧ j.natAbs < 1073741824 then some (.int (i.fdiv j)) else none
  | _, _ => none
theorem op_fdivD : OpR X (binaryOp .FloorDiv) (rD X.K fdivD) := by
  intro pins s σ H x y v u Q I rx ry ⟨B, d, e, r, ex, hd, he, hf, q⟩
  cases hd with
  | int i =>
    cases he with
    | int j =>
      simp only [fdivD] at hf
      split at hf
      · rename_i hc
        cases hf
        exact op_fdivN pins s σ H _ _ v u Q I rx ry ⟨i, j, rfl, rfl, hc, q _ B H (Nx.refl ex) (.int _)⟩
      · cases hf
    | _ => simp [fdivD] at hf
  | _ => cases he <;> simp [fdivD] at hf
def modD : D → D → Option D
  | .int i, .int j => if j ≠ 0 then some (.int (i.fmod j)) else none
  | _, _ => none
theorem op_modD : OpR X (binaryOp .Mod) (rD X.K modD) := by
  intro pins s σ H x y v u Q I rx ry ⟨B, d, e, r, ex, hd, he, hf, q⟩
  cases hd with
  | int i =>
    cases he with
    | int j =>
      simp only [modD] at hf
      split at hf
      · rename_i hc
        cases hf
        exact op_modN pins s σ H _ _ v u Q I rx ry ⟨i, j, rfl, rfl, hc, q _ B H (Nx.refl ex) (.int _)⟩
      · cases hf
    | _ => simp [modD] at hf
  | _ => cases he <;> simp [modD] at hf
def powD : D → D → Option D
  | .int i, .int j => if 0 ≤ j ∧ j ≤ 1000000 ∧ i.natAbs < 18446744073709551616 then some (.int (i ^ j.toNat)) else none
  | _, _ => none
theorem op_powD : OpR X (binaryOp .Pow) (rD X.K powD) := by
  intro pins s σ H x y v u Q I rx ry ⟨B, d, e, r, ex, hd, he, hf, q⟩
  cases hd with
  | int i =>
    cases he with
    | int j =>
      simp only [powD] at hf
      split at hf
      · rename_i hc
        cases hf
        exact op_pow pins s σ H _ _ v u Q I rx ry ⟨i, j, rfl, rfl, ⟨hc.1, hc.2.1, by have := hc.2.2; omega⟩, q _ B H (Nx.refl ex) (.int _)⟩
      · cases hf
    | _ => simp [powD] at hf
  | _ => cases he <;> simp [powD] at hf
def negD : D → Option D
  | .int i => some (.int (-i))
  | _ => none
theorem un_negD : UnR X (unaryOp .USub) (rD1 X.K negD) := by
  intro pins s σ H x v Q I rx ⟨B, d, r, ex, hd, hf, q⟩
  cases hd with
  | int i => cases hf; exact un_neg pins s σ H _ v Q I rx ⟨i, rfl, q _ B H (Nx.refl ex) (.int _)⟩
  | _ => simp [negD] at hf

/-! ### comparisons -/
def shal (d e : D) : Prop := d.depth ≤ 64 ∨ e.depth ≤ 64
instance (d e : D) : Decidable (shal d e) := inferInstanceAs (Decidable (_ ∨ _))
theorem shal_room {A : Around} {d e : D} {k : Nat} (h : shal d e) (hu : A.units + 200 < cLine) (hk : k ≤ 100) : A.units + k + min d.depth e.depth < cLine := by
  rcases h with h | h <;> omega
noncomputable def eqD (d e : D) : Option D := @ite _ (shal d e) (Classical.propDecidable _) (some (.bool (PyData.eqv d e))) none
noncomputable def neD (d e : D) : Option D := @ite _ (shal d e) (Classical.propDecidable _) (some (.bool (!PyData.eqv d e))) none
theorem op_eqD' (hu : X.A.units + 200 < cLine) : OpR X (compareOp .Eq) (rD X.K eqD) := by
  intro pins s σ H x y v u Q I rx ry ⟨B, d, e, r, ex, hd, he, hf, q⟩
  simp only [eqD] at hf
  split at hf
  · rename_i hc
    cases hf
    obtain ⟨as, r1⟩ := hd.reads rfl I ex rx
    obtain ⟨bs, r2⟩ := he.reads rfl I ex ry
    exact eq_plain r1 r2 hd.plain he.plain (shal_room (k := 0) hc hu (by decide)) ⟨.bl _, H, I, rfl, q _ B H (Nx.refl ex) (.bl _)⟩
  · cases hf
theorem op_neD' (hu : X.A.units + 200 < cLine) : OpR X (compareOp .NotEq) (rD X.K neD) := by
  intro pins s σ H x y v u Q I rx ry ⟨B, d, e, r, ex, hd, he, hf, q⟩
  simp only [neD] at hf
  split at hf
  · rename_i hc
    cases hf
    obtain ⟨as, r1⟩ := hd.reads rfl I ex rx
    obtain ⟨bs, r2⟩ := he.reads rfl I ex ry
    exact ne_plain r1 r2 hd.plain he.plain (shal_room (k := 0) hc hu (by decide)) ⟨.bl _, H, I, rfl, q _ B H (Nx.refl ex) (.bl _)⟩
  · cases hf
def ordOk (d e : D) : Prop := alike d e = true ∧ d ≠ .none ∧ shal d e
open Classical in
noncomputable def ltD : D → D → Option D
  | .int i, .int j => some (.bool (decide (i < j)))
  | d, e => if ordOk d e then some (.bool (dataLt d e)) else none
open Classical in
noncomputable def leD : D → D → Option D
  | .int i, .int j => some (.bool (decide (i ≤ j)))
  | d, e => if ordOk d e then some (.bool (!dataLt e d)) else none
open Classical in
noncomputable def gtD : D → D → Option D
  | .int i, .int j => some (.bool (decide (j < i)))
  | d, e => if ordOk d e then some (.bool (dataLt e d)) else none
open Classical in
noncomputable def geD : D → D → Option D
  | .int i, .int j => some (.bool (decide (j ≤ i)))
  | d, e => if ordOk d e then some (.bool (!dataLt d e)) else none
theorem ord_cases {f : D → D → Option D} {p : Int → Int → Bool} {g : D → D → Bool} (hI : ∀ i j, f (.int i) (.int j) = some (.bool (p i j))) (hg : ∀ i j, g (.int i) (.int j) = p i j)
    (ho : ∀ d e r, f d e = some r → (∃ i j, d = .int i ∧ e = .int j) ∨ (ordOk d e ∧ r = .bool (g d e))) {d e r : D} (h : f d e = some r) : ordOk d e ∧ r = .bool (g d e) := by
  rcases ho d e r h with ⟨i, j, rfl, rfl⟩ | z
  · rw [hI] at h
    cases h
    exact ⟨⟨by simp [alike], by simp, .inl (by simp [PyData.depth])⟩, by rw [hg]⟩
  · exact z
theorem not_lt' (i j : Int) : (!decide (i < j)) = decide (j ≤ i) := by
  by_cases h : i < j <;> simp [h] <;> omega
theorem ltD_ok {d e r : D} (h : ltD d e = some r) : ordOk d e ∧ r = .bool (dataLt d e) := by
  refine ord_cases (f := ltD) (p := fun i j => decide (i < j)) (fun _ _ => rfl) (fun i j => dataLt_int i j) (fun d e r h => ?_) h
  unfold ltD at h
  split at h
  · exact .inl ⟨_, _, rfl, rfl⟩
  · split at h
    · rename_i z; cases h; exact .inr ⟨z, rfl⟩
    · cases h
theorem leD_ok {d e r : D} (h : leD d e = some r) : ordOk d e ∧ r = .bool (!dataLt e d) := by
  refine ord_cases (f := leD) (p := fun i j => decide (i ≤ j)) (g := fun d e => !dataLt e d) (fun _ _ => rfl) (fun i j => by rw [dataLt_int, not_lt']) (fun d e r h => ?_) h
  unfold leD at h
  split at h
  · exact .inl ⟨_, _, rfl, rfl⟩
  · split at h
    · rename_i z; cases h; exact .inr ⟨z, rfl⟩
    · cases h
theorem gtD_ok {d e r : D} (h : gtD d e = some r) : ordOk d e ∧ r = .bool (dataLt e d) := by
  refine ord_cases (f := gtD) (p := fun i j => decide (j < i)) (g := fun d e => dataLt e d) (fun _ _ => rfl) (fun i j => dataLt_int j i) (fun d e r h => ?_) h
  unfold gtD at h
  split at h
  · exact .inl ⟨_, _, rfl, rfl⟩
  · split at h
    · rename_i z; cases h; exact .inr ⟨z, rfl⟩
    · cases h
theorem geD_ok {d e r : D} (h : geD d e = some r) : ordOk d e ∧ r = .bool (!dataLt d e) := by
  refine ord_cases (f := geD) (p := fun i j => decide (j ≤ i)) (g := fun d e => !dataLt d e) (fun _ _ => rfl) (fun i j => by rw [dataLt_int, not_lt']) (fun d e r h => ?_) h
  unfold geD at h
  split at h
  · exact .inl ⟨_, _, rfl, rfl⟩
  · split at h
    · rename_i z; cases h; exact .inr ⟨z, rfl⟩
    · cases h
theorem op_ltD' (hu : X.A.units + 200 < cLine) : OpR X (compareOp .Lt) (rD X.K ltD) := by
  intro pins s σ H x y v u Q I rx ry ⟨B, d, e, r, ex, hd, he, hf, q⟩
  obtain ⟨⟨h1, h2, h3⟩, rfl⟩ := ltD_ok hf
  obtain ⟨as, r1⟩ := hd.reads rfl I ex rx
  obtain ⟨bs, r2⟩ := he.reads rfl I ex ry
  exact lt_data r1 r2 h1 h2 (shal_room (k := 0) h3 hu (by decide)) ⟨.bl _, H, I, rfl, q _ B H (Nx.refl ex) (.bl _)⟩
theorem op_leD' (hu : X.A.units + 200 < cLine) : OpR X (compareOp .LtE) (rD X.K leD) := by
  intro pins s σ H x y v u Q I rx ry ⟨B, d, e, r, ex, hd, he, hf, q⟩
  obtain ⟨⟨h1, h2, h3⟩, rfl⟩ := leD_ok hf
  obtain ⟨as, r1⟩ := hd.reads rfl I ex rx
  obtain ⟨bs, r2⟩ := he.reads rfl I ex ry
  exact le_data r1 r2 h1 h2 (shal_room (k := 0) h3 hu (by decide)) ⟨.bl _, H, I, rfl, q _ B H (Nx.refl ex) (.bl _)⟩
theorem op_gtD' (hu : X.A.units + 200 < cLine) : OpR X (compareOp .Gt) (rD X.K gtD) := by
  intro pins s σ H x y v u Q I rx ry ⟨B, d, e, r, ex, hd, he, hf, q⟩
  obtain ⟨⟨h1, h2, h3⟩, rfl⟩ := gtD_ok hf
  obtain ⟨as, r1⟩ := hd.reads rfl I ex rx
  obtain ⟨bs, r2⟩ := he.reads rfl I ex ry
  exact gt_data r1 r2 h1 h2 (shal_room (k := 0) h3 hu (by decide)) ⟨.bl _, H, I, rfl, q _ B H (Nx.refl ex) (.bl _)⟩
theorem op_geD' (hu : X.A.units + 200 < cLine) : OpR X (compareOp .GtE) (rD X.K geD) := by
  intro pins s σ H x y v u Q I rx ry ⟨B, d, e, r, ex, hd, he, hf, q⟩
  obtain ⟨⟨h1, h2, h3⟩, rfl⟩ := geD_ok hf
  obtain ⟨as, r1⟩ := hd.reads rfl I ex rx
  obtain ⟨bs, r2⟩ := he.reads rfl I ex ry
  exact ge_data r1 r2 h1 h2 (shal_room (k := 0) h3 hu (by decide)) ⟨.bl _, H, I, rfl, q _ B H (Nx.refl ex) (.bl _)⟩
def isNoneB : D → Bool
  | .none => true
  | _ => false
theorem isNone_rep {K : PySem.W.Frag} {v : V} {d : D} (r : Rep K B v d) : decide (v = .non) = isNoneB d := by
  cases r <;> simp [isNoneB]
def isD : D → D → Option D
  | d, .none => some (.bool (isNoneB d))
  | _, _ => none
def isNotD : D → D → Option D
  | d, .none => some (.bool (!isNoneB d))
  | _, _ => none
theorem op_isD : OpR X (compareOp .Is) (rD X.K isD) := by
  intro pins s σ H x y v u Q I rx ry ⟨B, d, e, r, ex, hd, he, hf, q⟩
  cases he with
  | non =>
    simp only [isD] at hf
    cases hf
    refine op_isN pins s σ H _ _ v u Q I rx ry ⟨rfl, ?_⟩
    rw [isNone_rep hd]
    exact q _ B H (Nx.refl ex) (.bl _)
  | _ => simp [isD] at hf
theorem op_isNotD : OpR X (compareOp .IsNot) (rD X.K isNotD) := by
  intro pins s σ H x y v u Q I rx ry ⟨B, d, e, r, ex, hd, he, hf, q⟩
  cases he with
  | non =>
    simp only [isNotD] at hf
    cases hf
    refine op_notN pins s σ H _ _ v u Q I rx ry ⟨rfl, ?_⟩
    rw [isNone_rep hd]
    exact q _ B H (Nx.refl ex) (.bl _)
  | _ => simp [isNotD] at hf
def hasD (ds : List D) (d : D) : Bool := ds.any fun y => PyData.eqv y d
def shalAll (ds : List D) (d : D) : Prop := PyData.depthAll ds ≤ 64 ∨ d.depth ≤ 64
instance (ds : List D) (d : D) : Decidable (shalAll ds d) := inferInstanceAs (Decidable (_ ∨ _))
theorem shalAll_room {A : Around} {ds : List D} {d : D} (h : shalAll ds d) (hu : A.units + 200 < cLine) : A.units + 1 + min (PyData.depthAll ds) d.depth < cLine := by
  rcases h with h | h <;> omega
noncomputable def inD : D → D → Option D
  | d, .list ds => @ite _ (shalAll ds d) (Classical.propDecidable _) (some (.bool (hasD ds d))) none
  | d, .tuple ds => @ite _ (shalAll ds d) (Classical.propDecidable _) (some (.bool (hasD ds d))) none
  | .str a, .str b => some (.bool (!(Builtin.Str.occurrences b a 0 b.length 1).isEmpty))
  | _, _ => none
noncomputable def notInD : D → D → Option D
  | d, .list ds => @ite _ (shalAll ds d) (Classical.propDecidable _) (some (.bool (!hasD ds d))) none
  | d, .tuple ds => @ite _ (shalAll ds d) (Classical.propDecidable _) (some (.bool (!hasD ds d))) none
  | .str a, .str b => some (.bool (!(!(Builtin.Str.occurrences b a 0 b.length 1).isEmpty)))
  | _, _ => none
theorem op_inD' (hu : X.A.units + 200 < cLine) : OpR X (compareOp .In) (rD X.K inD) := by
  intro pins s σ H x y v u Q I rx ry ⟨B, d, e, r, ex, hd, he, hf, q⟩
  obtain ⟨as, r1⟩ := hd.reads rfl I ex rx
  obtain ⟨bs, r2⟩ := he.reads rfl I ex ry
  have pl := he.plain
  cases he with
  | lst h1 rr =>
    simp only [inD] at hf
    split at hf
    · rename_i hc
      cases hf
      exact in_list_data r2 r1 (by rw [PyData.plain] at pl; exact pl) hd.plain (shalAll_room hc hu) ⟨.bl _, H, I, rfl, q _ B H (Nx.refl ex) (.bl _)⟩
    · cases hf
  | tup h1 rr =>
    simp only [inD] at hf
    split at hf
    · rename_i hc
      cases hf
      exact in_tuple_data r2 r1 (by rw [PyData.plain] at pl; exact pl) hd.plain (shalAll_room hc hu) ⟨.bl _, H, I, rfl, q _ B H (Nx.refl ex) (.bl _)⟩
    · cases hf
  | str b =>
    cases hd with
    | str a =>
      cases hf
      exact op_in_str pins s σ H _ _ v u Q I rx ry ⟨a, b, rfl, rfl, q _ B H (Nx.refl ex) (.bl _)⟩
    | _ => simp [inD] at hf
  | _ => cases hd <;> simp [inD] at hf
theorem op_notInD' (hu : X.A.units + 200 < cLine) : OpR X (compareOp .NotIn) (rD X.K notInD) := by
  intro pins s σ H x y v u Q I rx ry ⟨B, d, e, r, ex, hd, he, hf, q⟩
  obtain ⟨as, r1⟩ := hd.reads rfl I ex rx
  obtain ⟨bs, r2⟩ := he.reads rfl I ex ry
  have pl := he.plain
  cases he with
  | lst h1 rr =>
    simp only [notInD] at hf
    split at hf
    · rename_i hc
      cases hf
      exact notIn_list_data r2 r1 (by rw [PyData.plain] at pl; exact pl) hd.plain (shalAll_room hc hu) ⟨.bl _, H, I, rfl, q _ B H (Nx.refl ex) (.bl _)⟩
    · cases hf
  | tup h1 rr =>
    simp only [notInD] at hf
    split at hf
    · rename_i hc
      cases hf
      exact notIn_tuple_data r2 r1 (by rw [PyData.plain] at pl; exact pl) hd.plain (shalAll_room hc hu) ⟨.bl _, H, I, rfl, q _ B H (Nx.refl ex) (.bl _)⟩
    · cases hf
  | str b =>
    cases hd with
    | str a =>
      cases hf
      exact op_notin_str pins s σ H _ _ v u Q I rx ry ⟨a, b, rfl, rfl, q _ B H (Nx.refl ex) (.bl _)⟩
    | _ => simp [notInD] at hf
  | _ => cases hd <;> simp [notInD] at hf

/-! ### items, cuts -/
def idxD : D → D → Option D
  | .list ds, .int i => atI ds i
  | .tuple ds, .int i => atI ds i
  | .str z, .int i => if z.length ≤ 16777216 then (atI z.cps.toList i).map fun c => .str ⟨#[c]⟩ else none
  | _, _ => none
theorem Reps.atI {K : PySem.W.Frag} {vs : List V} {ds : List D} {i : Int} {d : D} (r : Reps K B vs ds) (h : L2.atI ds i = some d) : ∃ v, L2.atI vs i = some v ∧ Rep K B v d := by
  unfold L2.atI at h ⊢
  rw [r.len]
  obtain ⟨j, hj, e⟩ := bind_some h
  obtain ⟨v, e1, e2⟩ := r.at e
  exact ⟨v, by rw [hj]; exact e1, e2⟩
theorem ix_D : IxR X (rD X.K idxD) := by
  intro value slice pins s σ H x y v u Q I rx ry ⟨B, d, e, r, ex, hd, he, hf, q⟩ hs
  cases hd with
  | @lst l xs ds h1 r1 =>
    cases he with
    | int i =>
      obtain ⟨w, e1, e2⟩ := r1.atI hf
      exact ix_list value slice pins s σ H _ _ v u Q I rx ry ⟨l, xs, i, w, rfl, rfl, .inl (.inl (ex _ _ h1)), e1, q _ B H (Nx.refl ex) e2⟩ hs
    | _ => simp [idxD] at hf
  | @tup l xs ds h1 r1 =>
    cases he with
    | int i =>
      obtain ⟨w, e1, e2⟩ := r1.atI hf
      exact ix_tup value slice pins s σ H _ _ v u Q I rx ry ⟨l, xs, i, w, rfl, rfl, Evl.ex_t ex h1, e1, q _ B H (Nx.refl ex) e2⟩ hs
    | _ => simp [idxD] at hf
  | str z =>
    cases he with
    | int i =>
      simp only [idxD] at hf
      split at hf
      · rename_i hz
        cases hc : atI z.cps.toList i with
        | none => rw [hc] at hf; cases hf
        | some c =>
          rw [hc] at hf
          cases hf
          exact ix_str value slice pins s σ H _ _ v u Q I rx ry ⟨z, i, c, rfl, rfl, by rw [sizeLine_eq]; exact hz, hc, q _ B H (Nx.refl ex) (.str _)⟩ hs
      · cases hf
    | _ => simp [idxD] at hf
  | _ => cases he <;> simp [idxD] at hf
def cutL {α : Type} (xs : List α) (lo hi : Option Int) : List α := (xs.drop (HT.sIx xs.length 0 lo)).take (HT.sIx xs.length xs.length hi - HT.sIx xs.length 0 lo)
theorem Reps.cut {K : PySem.W.Frag} {vs : List V} {ds : List D} (r : Reps K B vs ds) (lo hi : Option Int) : Reps K B (cutV vs lo hi) (cutL ds lo hi) := by
  unfold cutV cutL
  rw [r.len]
  exact (r.drop _).take _
theorem cut_whole {K : PySem.W.Frag} {vs : List V} {ds : List D} {lo hi : Option Int} (r : Reps K B vs ds) (h : HT.sIx vs.length 0 lo = 0 ∧ HT.sIx vs.length vs.length hi = vs.length) : cutL ds lo hi = ds := by
  have e := r.len
  unfold cutL
  rw [← e, h.1, h.2, List.drop_zero, Nat.sub_zero, e, List.take_length]
def sliceD (d : D) (lo hi : Option Int) : Option D := match d with
  | .list ds => some (.list (cutL ds lo hi))
  | .tuple ds => some (.tuple (cutL ds lo hi))
  | .str z => if z.length ≤ 16777216 then some (.str (cutS z lo hi)) else none
  | _ => none
def rSlD (K : PySem.W.Frag) : V → Option Int → Option Int → Hp → VK → Prop := fun x lo hi H Q => ∃ B d r, Ex B H ∧ Rep K B x d ∧ sliceD d lo hi = some r ∧ ∀ v B' H', Nx B H B' H' → Rep K B' v r → Q v H'
theorem sl_D : SlR X (rSlD X.K) := by
  intro pins s σ H x v vl vu lo hi sl Q I rx hs pl pu ⟨B, d, r, ex, hd, hf, q⟩
  cases hd with
  | @lst l xs ds h1 r1 =>
    cases hf
    refine sl_list pins s σ H _ v vl vu lo hi sl Q I rx hs pl pu ⟨l, xs, rfl, .inl (.inl (ex _ _ h1)), fun p hp => ?_⟩
    exact q _ _ _ (Nx.new ex hp) (Nx.lst (r1.cut lo hi) ex hp)
  | @tup l xs ds h1 r1 =>
    cases hf
    refine sl_tupA pins s σ H _ v vl vu lo hi sl Q I rx hs pl pu ⟨l, xs, rfl, Evl.ex_t ex h1, fun hw => ?_, fun _ p hp => ?_⟩
    · rw [cut_whole r1 hw] at q
      exact q _ B H (Nx.refl ex) (.tup h1 r1)
    · exact q _ _ _ (Nx.new ex hp) (Nx.tup (r1.cut lo hi) ex hp)
  | str z =>
    simp only [sliceD] at hf
    split at hf
    · rename_i hz
      cases hf
      exact sl_str pins s σ H _ v vl vu lo hi sl Q I rx hs pl pu ⟨z, rfl, by rw [sizeLine_eq]; exact hz, q _ B H (Nx.refl ex) (.str _)⟩
    · cases hf
  | _ => simp [sliceD] at hf
end
end Dl

/-! Data layer, part 4: calls, what is walked, targets, comprehensions. -/
namespace Dl
open PySem L2 PySem.Spec PyProof.Rows PySem.W PySem.SeqAt
open Evl (Ex)

section
variable {X : Cx} {e a b : Expr} {es : List Expr} {ρ : Env} {pos : Pos}
/-! ### slices -/
def oI (m : Option D) : Option (Option Int) := m.bind fun d => match d with
  | .int i => some (some i)
  | _ => none
def cO (K : PySem.W.Frag) (ρ : Env) (m : Option (Option Int)) : TO := fun σ H Q => ∃ B0 H0 B, Holds K B0 H0 ρ σ B H ∧ ∃ o, m = some o ∧ ∀ B' H', Nx B H B' H' → Q o H'
structure DO (X : Cx) (e : Option Expr) (ρ : Env) (m : Option (Option Int)) : Prop where
  po : PO X e (cO X.K ρ m)
theorem do_none : DO X none ρ (some none) := ⟨⟨by
  intro s pins σ H Q I h
  have := po_none (X := X)
  refine this.run s pins σ H Q I ?_
  obtain ⟨B0, H0, B, hh, o, hm, q⟩ := h
  cases hm
  exact q B H (Nx.refl hh.ex)⟩⟩
theorem do_some {m : Option D} (h : DE X e ρ m) : DO X (some e) ρ (oI m) := ⟨⟨by
  intro s pins σ H Q I w
  refine (po_some h.pe).run s pins σ H Q I ?_
  obtain ⟨B0, H0, B, hh, o, hm, q⟩ := w
  obtain ⟨x, hx, hf⟩ := bind_some hm
  refine ⟨B0, H0, B, hh, x, hx, fun v B1 H1 n1 r1 => ?_⟩
  cases r1 <;> simp at hf
  · cases hf
    exact ⟨_, rfl, q B1 H1 n1⟩⟩⟩
abbrev b3 (m : Option D) (l h : Option (Option Int)) : Option D := m.bind fun d => l.bind fun lo => h.bind fun hi => sliceD d lo hi
theorem de_slice {lo hi : Option Expr} {p2 : Pos} {m : Option D} {l h : Option (Option Int)} (he : DE X e ρ m) (hl : DO X lo ρ l) (hh : DO X hi ρ h) : DE X (.Subscript e (.Slice lo hi none p2) pos) ρ (b3 m l h) := ⟨peI (pe_slice sl_D he.pe hl.po hh.po) (by
  intro σ H Q ⟨B0, H0, B, hh, d', hm, q⟩
  obtain ⟨x, hx, hm⟩ := bind_some hm
  obtain ⟨i, hi, hm⟩ := bind_some hm
  obtain ⟨j, hj, hf⟩ := bind_some hm
  exact ⟨B0, H0, B, hh, x, hx, fun v B1 H1 n1 r1 => ⟨B0, H0, B1, hh.step n1, i, hi, fun B2 H2 n2 => ⟨B0, H0, B2, (hh.step n1).step n2, j, hj, fun B3 H3 n3 =>
    ⟨B3, x, d', n3.2.2.1, r1.up (n2.1.trans n3.1), hf, fun w B4 H4 n4 r4 => q w B4 H4 (((n1.trans n2).trans n3).trans n4) r4⟩⟩⟩⟩)⟩
def revD : D → Option D
  | .list ds => some (.list ds.reverse)
  | _ => none
theorem de_rev {k : Nat} {p1 p2 p3 : Pos} {m : Option D} (he : DE X e ρ m) : DE X (.Subscript e (.Slice none none (some (.UnaryOp .USub (.Constant (.int 1) k p1) p2)) p3) pos) ρ (m.bind revD) := ⟨peI (pe_revL he.pe) (by
  intro σ H Q ⟨B0, H0, B, hh, d', hm, q⟩
  obtain ⟨x, hx, hf⟩ := bind_some hm
  refine ⟨B0, H0, B, hh, x, hx, fun v B1 H1 n1 r1 => ?_⟩
  cases r1 with
  | @lst l xs ds h1 rr =>
    cases hf
    exact ⟨l, xs, rfl, .inl (.inl (n1.2.2.1 _ _ h1)), fun p hp => q _ _ _ (n1.trans (Nx.new n1.2.2.1 hp)) (Nx.lst rr.rev n1.2.2.1 hp)⟩
  | _ => simp [revD] at hf)⟩

/-! ### calls of built-ins -/
section
variable {x id : Str} {n T : String} {p : Pos} {f : List D → Option D} {g : List D → Option (List D)} {m : Option (List D)}
theorem de_callB (hc : CallR X (.builtin n) (rDL X.K f)) (hg : Gl X x) (hm : X.mg x = none) (hv : bootBuiltins x = some (.builtin n)) (ha : DA X (e :: es) ρ m) (hn : x ≠ "__name__") (hdb : (x == ("__debug__" : Str)) = false)
    (he : starEach (e :: es) X.env = (false, eval e X.env) :: starEach es X.env) (hpl : (backTo pos (starEach es X.env)).any (·.1) = false) : DE X (.Call (.Name x p) (e :: es) [] pos) ρ (m.bind f) := ⟨peI (pe_callB hc hg hm hv ha.pa hn hdb he hpl) (by
  intro σ H Q ⟨B0, H0, B, hh, d', hm, q⟩
  obtain ⟨ds, hx, hf⟩ := bind_some hm
  exact ⟨B0, H0, B, hh, ds, hx, fun vs B1 H1 n1 r1 => ⟨B1, ds, d', n1.2.2.1, r1, hf, fun w B2 H2 n2 r2 => q w B2 H2 (n1.trans n2) r2⟩⟩)⟩
theorem de_callT (hc : CallR X (.type T) (rDL X.K f)) (hg : Gl X x) (hm : X.mg x = none) (hv : bootBuiltins x = some (.type T)) (ha : DA X (e :: es) ρ m) (hn : x ≠ "__name__") (hdb : (x == ("__debug__" : Str)) = false)
    (he : starEach (e :: es) X.env = (false, eval e X.env) :: starEach es X.env) (hpl : (backTo pos (starEach es X.env)).any (·.1) = false) : DE X (.Call (.Name x p) (e :: es) [] pos) ρ (m.bind f) := ⟨peI (pe_callTy hc hg hm hv ha.pa hn hdb he hpl) (by
  intro σ H Q ⟨B0, H0, B, hh, d', hm, q⟩
  obtain ⟨ds, hx, hf⟩ := bind_some hm
  exact ⟨B0, H0, B, hh, ds, hx, fun vs B1 H1 n1 r1 => ⟨B1, ds, d', n1.2.2.1, r1, hf, fun w B2 H2 n2 r2 => q w B2 H2 (n1.trans n2) r2⟩⟩)⟩
theorem tcF {K : PySem.W.Frag} : ∀ (σ : L2.St) (H : Hp) (Q : VK), cF K ρ (m.bind g) σ H Q → tCB (rDF K g) (cA K ρ m) σ H Q := by
  intro σ H Q ⟨B0, H0, B, hh, d', hm, q⟩
  obtain ⟨ds, hx, hf⟩ := bind_some hm
  refine ⟨B0, H0, B, hh, ds, hx, fun vs B1 H1 n1 r1 => ⟨B1, ds, d', n1.2.2.1, r1, hf, fun p ws B2 H2 n2 hp hb he r2 => ?_⟩⟩
  exact q p ws B2 H2 (n1.trans n2) (Ex.none n1.2.1 hp) hb he r2
theorem df_callB (hc : CallR X (.builtin n) (rDF X.K g)) (hg : Gl X x) (hm : X.mg x = none) (hv : bootBuiltins x = some (.builtin n)) (ha : DA X (e :: es) ρ m) (hn : x ≠ "__name__") (hdb : (x == ("__debug__" : Str)) = false)
    (he : starEach (e :: es) X.env = (false, eval e X.env) :: starEach es X.env) (hpl : (backTo pos (starEach es X.env)).any (·.1) = false) : DF X (.Call (.Name x p) (e :: es) [] pos) ρ (m.bind g) := ⟨peI (pe_callB hc hg hm hv ha.pa hn hdb he hpl) tcF⟩
theorem df_callT (hc : CallR X (.type T) (rDF X.K g)) (hg : Gl X x) (hm : X.mg x = none) (hv : bootBuiltins x = some (.type T)) (ha : DA X (e :: es) ρ m) (hn : x ≠ "__name__") (hdb : (x == ("__debug__" : Str)) = false)
    (he : starEach (e :: es) X.env = (false, eval e X.env) :: starEach es X.env) (hpl : (backTo pos (starEach es X.env)).any (·.1) = false) : DF X (.Call (.Name x p) (e :: es) [] pos) ρ (m.bind g) := ⟨peI (pe_callTy hc hg hm hv ha.pa hn hdb he hpl) tcF⟩
end

/-! ### built-ins, by data -/
def intsOf : List D → Option (List Int)
  | [] => some []
  | .int i :: r => (intsOf r).map (i :: ·)
  | _ => none
theorem intsOf_some : ∀ {ds : List D} {ns : List Int}, intsOf ds = some ns → ds = ns.map .int
  | [], ns, h => by cases h; rfl
  | .int i :: r, ns, h => by
    simp only [intsOf] at h
    cases q : intsOf r with
    | none => rw [q] at h; cases h
    | some l => rw [q] at h; cases h; rw [intsOf_some q]; rfl
  | .none :: _, _, h | .bool _ :: _, _, h | .str _ :: _, _, h | .list _ :: _, _, h | .tuple _ :: _, _, h | .dict _ :: _, _, h => by simp [intsOf] at h
theorem intsOf_map : ∀ ns : List Int, intsOf (ns.map .int) = some ns
  | [] => rfl
  | i :: r => by
    show (intsOf (r.map .int)).map (i :: ·) = _
    rw [intsOf_map r]; rfl
def boolsOf : List D → Option (List Bool)
  | [] => some []
  | .bool i :: r => (boolsOf r).map (i :: ·)
  | _ => none
theorem boolsOf_some : ∀ {ds : List D} {ns : List Bool}, boolsOf ds = some ns → ds = ns.map .bool
  | [], ns, h => by cases h; rfl
  | .bool i :: r, ns, h => by
    simp only [boolsOf] at h
    cases q : boolsOf r with
    | none => rw [q] at h; cases h
    | some l => rw [q] at h; cases h; rw [boolsOf_some q]; rfl
  | .none :: _, _, h | .int _ :: _, _, h | .str _ :: _, _, h | .list _ :: _, _, h | .tuple _ :: _, _, h | .dict _ :: _, _, h => by simp [boolsOf] at h
theorem boolsOf_map : ∀ ns : List Bool, boolsOf (ns.map .bool) = some ns
  | [] => rfl
  | i :: r => by
    show (boolsOf (r.map .bool)).map (i :: ·) = _
    rw [boolsOf_map r]; rfl
def lenL : List D → Option D
  | [.list ds] => some (.int ds.length)
  | [.tuple ds] => some (.int ds.length)
  | [.str z] => fit z.length (.int z.length)
  | _ => none
theorem one_rep {K : PySem.W.Frag} {B : Hp} {xs : List V} {d : D} (r : Reps K B xs [d]) : ∃ v, xs = [v] ∧ Rep K B v d := by
  cases r with
  | cons h t => cases t; exact ⟨_, rfl, h⟩
theorem two_rep {K : PySem.W.Frag} {B : Hp} {xs : List V} {d d' : D} (r : Reps K B xs [d, d']) : ∃ v v', xs = [v, v'] ∧ Rep K B v d ∧ Rep K B v' d' := by
  cases r with
  | cons h t =>
    obtain ⟨v, rfl, h2⟩ := one_rep t
    exact ⟨_, _, rfl, h, h2⟩
theorem cb_len : CallR X (.builtin "len") (rDL X.K lenL) := by
  intro pins s σ H xs us Q I rv ⟨B, ds, r, ex, hr, hf, q⟩
  unfold lenL at hf
  split at hf
  · cases hf
    obtain ⟨v, rfl, h1⟩ := one_rep hr
    cases h1 with
    | lst h2 rr => exact call_len pins s σ H _ us Q I rv ⟨_, _, rfl, .inl ⟨_, .inl (.inl (ex _ _ h2)), rfl⟩, by rw [rr.len]; exact q _ B H (Nx.refl ex) (.int _)⟩
  · cases hf
    obtain ⟨v, rfl, h1⟩ := one_rep hr
    cases h1 with
    | tup h2 rr => exact call_len pins s σ H _ us Q I rv ⟨_, _, rfl, .inr ⟨_, Evl.ex_t ex h2, rfl⟩, by rw [rr.len]; exact q _ B H (Nx.refl ex) (.int _)⟩
  · obtain ⟨v, rfl, h1⟩ := one_rep hr
    obtain ⟨hz, rfl⟩ := fit_some hf
    cases h1 with
    | str z => exact call_len pins s σ H _ us Q I rv ⟨_, _, rfl, ⟨hz, rfl⟩, q _ B H (Nx.refl ex) (.int _)⟩
  · cases hf
def minL : List D → Option D
  | [.int i, .int j] => some (.int (if j < i then j else i))
  | [.list ds] => (intsOf ds).bind fun ns => ns.min?.map .int
  | [.tuple ds] => (intsOf ds).bind fun ns => ns.min?.map .int
  | _ => none
def maxL : List D → Option D
  | [.int i, .int j] => some (.int (if j > i then j else i))
  | [.list ds] => (intsOf ds).bind fun ns => ns.max?.map .int
  | [.tuple ds] => (intsOf ds).bind fun ns => ns.max?.map .int
  | _ => none
theorem int_le_min {l : List Int} {m k : Int} (h : l.min? = some m) (hk : k ∈ l) (hl : ∀ y ∈ l, k ≤ y) : k = m := by
  have h1 := List.min?_eq_some_iff.mp h
  have a := hl m h1.1
  have b := h1.2 k hk
  omega
theorem int_le_max {l : List Int} {m k : Int} (h : l.max? = some m) (hk : k ∈ l) (hl : ∀ y ∈ l, y ≤ k) : k = m := by
  have h1 := List.max?_eq_some_iff.mp h
  have a := hl m h1.1
  have b := h1.2 k hk
  omega
theorem map_some {α β : Type} {m : Option α} {f : α → β} {b : β} (h : m.map f = some b) : ∃ a, m = some a ∧ f a = b := by
  cases m with
  | none => cases h
  | some a => exact ⟨a, rfl, Option.some.inj h⟩
theorem foldl_min : ∀ (ns : List Int) (n : Int), ns.foldl min n = (n :: ns).min?.getD 0 := by
  intro ns n
  rfl
theorem alike_intsAll (n : Int) (ns : List Int) : AlikeAll ((.int n : D) :: ns.map .int) := by
  have h : ∀ x ∈ ((.int n : D) :: ns.map .int), ∃ k, x = .int k := fun x hx => by
    rcases List.mem_cons.mp hx with rfl | hx
    · exact ⟨_, rfl⟩
    · obtain ⟨k, _, rfl⟩ := List.mem_map.mp hx; exact ⟨k, rfl⟩
  exact ⟨fun x hx y hy => by
    obtain ⟨i, rfl⟩ := h x hx
    obtain ⟨j, rfl⟩ := h y hy
    simp [alike], fun x hx => by obtain ⟨i, rfl⟩ := h x hx; simp⟩
theorem depth_int1 (n : Int) (ns : List Int) : PyData.depthAll ((.int n : D) :: ns.map .int) = 0 := depth_ints (n :: ns)
theorem cb_min (hc : X.calm = true) (hu : X.A.units + 200 < cLine) : CallR X (.builtin "min") (rDL X.K minL) := by
  intro pins s σ H xs us Q I rv ⟨B, ds, r, ex, hr, hf, q⟩
  unfold minL at hf
  split at hf
  · cases hf
    obtain ⟨v, v', rfl, h1, h2⟩ := two_rep hr
    cases h1 with
    | int i => cases h2 with
      | int j => exact call_min2 hc pins s σ H _ us Q I rv ⟨_, _, rfl, q _ B H (Nx.refl ex) (.int _)⟩
  · obtain ⟨ns, hn, hf⟩ := bind_some hf
    obtain ⟨m, hm, rfl⟩ := map_some hf
    obtain rfl := intsOf_some hn
    obtain ⟨v, rfl, h1⟩ := one_rep hr
    cases h1 with
    | lst h2 rr =>
      obtain rfl := rr.ints
      refine cr_min hc pins s σ H _ us Q I rv ⟨_, ns, rfl, .inl (.inl (ex _ _ h2)), ?_, fun k hk hl => ?_⟩
      · cases ns with
        | nil => cases hm
        | cons => simp
      · rw [int_le_min hm hk hl]; exact q _ B H (Nx.refl ex) (.int _)
  · obtain ⟨ns, hn, hf⟩ := bind_some hf
    obtain ⟨m, hm, rfl⟩ := map_some hf
    obtain rfl := intsOf_some hn
    obtain ⟨v, rfl, h1⟩ := one_rep hr
    cases h1 with
    | @tup a vs _ h2 rr =>
      obtain rfl := rr.ints
      obtain ⟨its, rvv, pl, hz⟩ := I.tuple (Evl.ex_t ex h2)
      rw [Vals.ref1 rv]
      cases ns with
      | nil => cases hm
      | cons n ns =>
        have rrr : ∃ as, ReadsAll s.heap its ((n :: ns).map PyData.int) as := Dp.readsAll I _ _ _ (Reps.dp (Reps.up ex (Reps.of_ints (K := X.K) (n :: ns)))) rvv
        obtain ⟨as, ra⟩ := rrr
        refine min_tuple_data (I.ok.hd hc) pl (by simpa using ra) (alike_intsAll n ns) (by rw [depth_int1]; omega) fun i w h' tk bs hw hR hk => ?_
        rw [minD_ints] at hR
        cases hR with
        | int k t =>
          have e : m = ns.foldl min n := by
            have : (n :: ns).min? = some (ns.foldl min n) := rfl
            rw [this] at hm; exact (Option.some.inj hm).symm
          subst e
          exact ⟨.int _, H, I.kept hk, ⟨_, rfl⟩, q _ B H (Nx.refl ex) (.int _)⟩
  · cases hf
theorem cb_max (hc : X.calm = true) (hu : X.A.units + 200 < cLine) : CallR X (.builtin "max") (rDL X.K maxL) := by
  intro pins s σ H xs us Q I rv ⟨B, ds, r, ex, hr, hf, q⟩
  unfold maxL at hf
  split at hf
  · cases hf
    obtain ⟨v, v', rfl, h1, h2⟩ := two_rep hr
    cases h1 with
    | int i => cases h2 with
      | int j => exact call_max2 hc pins s σ H _ us Q I rv ⟨_, _, rfl, q _ B H (Nx.refl ex) (.int _)⟩
  · obtain ⟨ns, hn, hf⟩ := bind_some hf
    obtain ⟨m, hm, rfl⟩ := map_some hf
    obtain rfl := intsOf_some hn
    obtain ⟨v, rfl, h1⟩ := one_rep hr
    cases h1 with
    | lst h2 rr =>
      obtain rfl := rr.ints
      refine cr_max hc pins s σ H _ us Q I rv ⟨_, ns, rfl, .inl (.inl (ex _ _ h2)), ?_, fun k hk hl => ?_⟩
      · cases ns with
        | nil => cases hm
        | cons => simp
      · rw [int_le_max hm hk hl]; exact q _ B H (Nx.refl ex) (.int _)
  · obtain ⟨ns, hn, hf⟩ := bind_some hf
    obtain ⟨m, hm, rfl⟩ := map_some hf
    obtain rfl := intsOf_some hn
    obtain ⟨v, rfl, h1⟩ := one_rep hr
    cases h1 with
    | @tup a vs _ h2 rr =>
      obtain rfl := rr.ints
      obtain ⟨its, rvv, pl, hz⟩ := I.tuple (Evl.ex_t ex h2)
      rw [Vals.ref1 rv]
      cases ns with
      | nil => cases hm
      | cons n ns =>
        have rrr : ∃ as, ReadsAll s.heap its ((n :: ns).map PyData.int) as := Dp.readsAll I _ _ _ (Reps.dp (Reps.up ex (Reps.of_ints (K := X.K) (n :: ns)))) rvv
        obtain ⟨as, ra⟩ := rrr
        refine max_tuple_data (I.ok.hd hc) pl (by simpa using ra) (alike_intsAll n ns) (by rw [depth_int1]; omega) fun i w h' tk bs hw hR hk => ?_
        rw [maxD_ints] at hR
        cases hR with
        | int k t =>
          have e : m = ns.foldl max n := by
            have : (n :: ns).max? = some (ns.foldl max n) := rfl
            rw [this] at hm; exact (Option.some.inj hm).symm
          subst e
          exact ⟨.int _, H, I.kept hk, ⟨_, rfl⟩, q _ B H (Nx.refl ex) (.int _)⟩
  · cases hf
def sumL : List D → Option D
  | [.list ds] => (intsOf ds).map fun ns => .int ns.sum
  | _ => none
theorem cb_sum (hc : X.calm = true) : CallR X (.builtin "sum") (rDL X.K sumL) := by
  intro pins s σ H xs us Q I rv ⟨B, ds, r, ex, hr, hf, q⟩
  unfold sumL at hf
  split at hf
  · obtain ⟨ns, hn, rfl⟩ := map_some hf
    obtain rfl := intsOf_some hn
    obtain ⟨v, rfl, h1⟩ := one_rep hr
    cases h1 with
    | lst h2 rr =>
      obtain rfl := rr.ints
      exact cr_sum hc pins s σ H _ us Q I rv ⟨_, ns, rfl, .inl (.inl (ex _ _ h2)), q _ B H (Nx.refl ex) (.int _)⟩
  · cases hf
def anyL : List D → Option D
  | [.list ds] => (boolsOf ds).map fun ns => .bool (ns.any id)
  | _ => none
def allL : List D → Option D
  | [.list ds] => (boolsOf ds).map fun ns => .bool (ns.all id)
  | _ => none
theorem cb_any (hc : X.calm = true) : CallR X (.builtin "any") (rDL X.K anyL) := by
  intro pins s σ H xs us Q I rv ⟨B, ds, r, ex, hr, hf, q⟩
  unfold anyL at hf
  split at hf
  · obtain ⟨ns, hn, rfl⟩ := map_some hf
    obtain rfl := boolsOf_some hn
    obtain ⟨v, rfl, h1⟩ := one_rep hr
    cases h1 with
    | lst h2 rr =>
      obtain rfl := rr.bools
      exact cr_any hc pins s σ H _ us Q I rv ⟨_, ns, rfl, .inl (.inl (ex _ _ h2)), q _ B H (Nx.refl ex) (.bl _)⟩
  · cases hf
theorem cb_all (hc : X.calm = true) : CallR X (.builtin "all") (rDL X.K allL) := by
  intro pins s σ H xs us Q I rv ⟨B, ds, r, ex, hr, hf, q⟩
  unfold allL at hf
  split at hf
  · obtain ⟨ns, hn, rfl⟩ := map_some hf
    obtain rfl := boolsOf_some hn
    obtain ⟨v, rfl, h1⟩ := one_rep hr
    cases h1 with
    | lst h2 rr =>
      obtain rfl := rr.bools
      exact cr_all hc pins s σ H _ us Q I rv ⟨_, ns, rfl, .inl (.inl (ex _ _ h2)), q _ B H (Nx.refl ex) (.bl _)⟩
  · cases hf
def absL : List D → Option D
  | [.int i] => some (.int (if i < 0 then -i else i))
  | _ => none
theorem cb_abs : CallR X (.builtin "abs") (rDL X.K absL) := by
  intro pins s σ H xs us Q I rv ⟨B, ds, r, ex, hr, hf, q⟩
  unfold absL at hf
  split at hf
  · cases hf
    obtain ⟨v, rfl, h1⟩ := one_rep hr
    cases h1 with
    | int i => exact call_abs pins s σ H _ us Q I rv ⟨_, rfl, q _ B H (Nx.refl ex) (.int _)⟩
  · cases hf
def intL : List D → Option D
  | [.int i] => some (.int i)
  | [.bool b] => some (.int (if b then 1 else 0))
  | _ => none
theorem ct_int : CallR X (.type "int") (rDL X.K intL) := by
  intro pins s σ H xs us Q I rv ⟨B, ds, r, ex, hr, hf, q⟩
  unfold intL at hf
  split at hf
  · cases hf
    obtain ⟨v, rfl, h1⟩ := one_rep hr
    cases h1 with
    | int i => exact call_int1 pins s σ H _ us Q I rv (.inl ⟨_, rfl, q _ B H (Nx.refl ex) (.int _)⟩)
  · cases hf
    obtain ⟨v, rfl, h1⟩ := one_rep hr
    cases h1 with
    | bl i => exact call_int1 pins s σ H _ us Q I rv (.inr ⟨_, rfl, q _ B H (Nx.refl ex) (.int _)⟩)
  · cases hf
def strL : List D → Option D
  | [.int i] => if i.natAbs.log2 < 1920 then some (.str (toString i)) else none
  | _ => none
theorem ct_str : CallR X (.type "str") (rDL X.K strL) := by
  intro pins s σ H xs us Q I rv ⟨B, ds, r, ex, hr, hf, q⟩
  unfold strL at hf
  split at hf
  · split at hf
    · rename_i hc
      cases hf
      obtain ⟨v, rfl, h1⟩ := one_rep hr
      cases h1 with
      | int i => exact call_str_int pins s σ H _ us Q I rv ⟨_, rfl, hc, q _ B H (Nx.refl ex) (.str _)⟩
    · cases hf
  · cases hf
def listF : List D → Option (List D)
  | [.list ds] => some ds
  | [.tuple ds] => some ds
  | _ => none
theorem ct_list : CallR X (.type "list") (rDF X.K listF) := by
  intro pins s σ H xs us Q I rv ⟨B, ds, r, ex, hr, hf, q⟩
  unfold listF at hf
  split at hf
  · cases hf
    obtain ⟨v, rfl, h1⟩ := one_rep hr
    cases h1 with
    | lst h2 rr => exact call_list_of pins s σ H _ us Q I rv ⟨_, _, rfl, .inl (.inl (.inl (ex _ _ h2))), fun p hp => q p _ B _ (Nx.own ex hp) hp (Ex.none ex hp) upd_same rr⟩
  · cases hf
    obtain ⟨v, rfl, h1⟩ := one_rep hr
    cases h1 with
    | tup h2 rr => exact call_list_of pins s σ H _ us Q I rv ⟨_, _, rfl, .inr (Evl.ex_t ex h2), fun p hp => q p _ B _ (Nx.own ex hp) hp (Ex.none ex hp) upd_same rr⟩
  · cases hf
def tupL : List D → Option D
  | [.list ds] => some (.tuple ds)
  | [.tuple ds] => some (.tuple ds)
  | _ => none
theorem ct_tuple : CallR X (.type "tuple") (rDL X.K tupL) := by
  intro pins s σ H xs us Q I rv ⟨B, ds, r, ex, hr, hf, q⟩
  unfold tupL at hf
  split at hf
  · cases hf
    obtain ⟨v, rfl, h1⟩ := one_rep hr
    cases h1 with
    | lst h2 rr => exact call_tuple_of pins s σ H _ us Q I rv ⟨_, _, rfl, .inl ⟨.inl (.inl (ex _ _ h2)), fun p hp => q _ _ _ (Nx.new ex hp) (Nx.tup rr ex hp)⟩⟩
  · cases hf
    obtain ⟨v, rfl, h1⟩ := one_rep hr
    cases h1 with
    | tup h2 rr => exact call_tuple_of pins s σ H _ us Q I rv ⟨_, _, rfl, .inr ⟨Evl.ex_t ex h2, q _ B H (Nx.refl ex) (.tup h2 rr)⟩⟩
  · cases hf
open Classical in
noncomputable def sortF : List D → Option (List D)
  | [.list ds] => if AllAlike ds ∧ Sortable ds ∧ PyData.depthAll ds ≤ 64 then some (ds.mergeSort (dataLe false id)) else none
  | _ => none
theorem each_of {K : PySem.W.Frag} {R : Value → D → Prop} : ∀ {vs : List V} {ds : List D} {us : List Value}, Reps K B vs ds → Vals vs us → (∀ v d u, Rep K B v d → RelV v u → R u d) → EachIs R us ds
  | _, _, _, .nil, .nil, _ => .nil
  | _, _, _, .cons h t, .cons r rr, f => .cons (f _ _ _ h r) (each_of t rr f)
theorem of_each {K : PySem.W.Frag} : ∀ {us : List Value} {ds : List D}, EachIs (fun u d => ∃ v, RelV v u ∧ Rep K B v d) us ds → ∃ vs, Vals vs us ∧ Reps K B vs ds
  | _, _, .nil => ⟨[], .nil, .nil⟩
  | _, _, .cons ⟨v, h1, h2⟩ t => by
    obtain ⟨vs, h3, h4⟩ := of_each t
    exact ⟨v :: vs, .cons h1 h3, .cons h2 h4⟩
theorem depth_mem : ∀ {ds : List D} {d : D}, d ∈ ds → d.depth ≤ PyData.depthAll ds
  | x :: xs, d, h => by
    rw [PyData.depthAll]
    rcases List.mem_cons.mp h with rfl | h
    · omega
    · have := depth_mem h; omega
theorem cb_sorted (hu : X.A.units + 200 < cLine) : CallR X (.builtin "sorted") (rDF X.K sortF) := by
  intro pins s σ H xs us Q I rv ⟨B, ds, r, ex, hr, hf, q⟩
  unfold sortF at hf
  split at hf
  · rename_i l
    split at hf
    · rename_i hc
      obtain ⟨h1, h2, h3⟩ := hc
      cases hf
      obtain ⟨v, rfl, hv⟩ := one_rep hr
      cases hv with
      | @lst a vs _ ha rr =>
        obtain ⟨its, rvv, pl, hz⟩ := I.list (.inl (.inl (ex _ _ ha)))
        rw [Vals.ref1 rv]
        have e1 : EachIs (fun u d => ∃ v, RelV v u ∧ Rep X.K B v d) its l := each_of rr rvv fun v d u h w => ⟨v, w, h⟩
        have e2 : EachIs (fun u (d : D) => ∃ as, Reads s.heap u (id d) as) its l := each_of rr rvv fun v d u h w => h.reads rfl I ex w
        refine sorted_data (enc := id) pl.isList e1 e2 (by rw [List.map_id]; exact h1) (by rw [List.map_id]; exact h2) (by rw [← rr.len]; exact hz) (fun d hd => ?_) fun out hl ho => ?_
        · have := depth_mem hd
          show X.A.units + 2 + d.depth < cLine
          omega
        · obtain ⟨ws, w1, w2⟩ := of_each ho
          obtain ⟨ep, he'⟩ := PyProof.Rows.sortedAll_at s.heap its out.toArray
          have hp := I.hok.fresh (Nat.le_succ s.heap.objs.size)
          have hlen : ws.length ≤ sizeLine := by
            rw [w1.length, hl, ← rr.len]; exact hz
          refine ⟨.ref (s.heap.objs.size + 1), upd H (s.heap.objs.size + 1) (.lst ws), I.laid (t' := s.toks) (fun _ _ => PyProof.Rows.sortedAll_old) (Nat.le_succ _) ⟨hlen, out, ep, w1, he'⟩, rfl, ?_⟩
          exact q _ ws B _ (Nx.own ex hp) hp (Ex.none ex hp) upd_same w2
    · cases hf
  · cases hf
end
end Dl

/-! Data layer, part 5: what is walked, targets, comprehensions. -/
namespace Dl
open PySem L2 PySem.Spec PyProof.Rows PySem.W PySem.SeqAt
open Evl (Ex)

/-! ### what is walked, by data -/
structure WkD (K : PySem.W.Frag) (B : Hp) (J : It) (ds : List D) : Prop where
  len : ds.length ≤ sizeLine
  go : ∀ (i : Nat) (H : Hp), i < ds.length → Ex B H → J.go i H
  st : ∀ (H : Hp), Ex B H → J.stop ds.length H
  yl : ∀ (i : Nat) (H : Hp) (x : V) (H' Bc : Hp) (d : D), ds[i]? = some d → Ex B Bc → Ex Bc H → J.yld i H x H' → ∃ B2, Nx Bc H B2 H' ∧ Rep K B2 x d
theorem WkD.up {K : PySem.W.Frag} {B B' : Hp} {J : It} {ds : List D} (w : WkD K B J ds) (e : Ex B B') : WkD K B' J ds :=
  ⟨w.len, fun i H hi h => w.go i H hi (e.trans h), fun H h => w.st H (e.trans h), fun i H x H' Bc d hd h1 h2 y => w.yl i H x H' Bc d hd (e.trans h1) h2 y⟩
def iT (K : PySem.W.Frag) (ρ : Env) (m : Option (List D)) : TI := fun σ H R => ∃ B0 H0 B, Holds K B0 H0 ρ σ B H ∧ ∃ ds, m = some ds ∧ ∀ J B' H', Nx B H B' H' → WkD K B' J ds → R J H'
structure DI (X : Cx) (tg e : Expr) (ρ : Env) (m : Option (List D)) : Prop where
  pi : PI X tg e (iT X.K ρ m)

section
variable {X : Cx} {tg e a b c : Expr} {es : List Expr} {ρ : Env} {pos : Pos}
theorem piI {t t' : TI} (h : PI X tg e t) (f : ∀ σ H Q, t' σ H Q → t σ H Q) : PI X tg e t' := ⟨fun pins s σ H Q I w => h.run pins s σ H Q I (f σ H Q w)⟩
theorem atV {K : PySem.W.Frag} {B : Hp} {vs : List V} {ds : List D} (r : Reps K B vs ds) {i : Nat} {x : V} {d : D} (h1 : vs[i]? = some x) (h2 : ds[i]? = some d) : Rep K B x d := by
  obtain ⟨d', h3, h4⟩ := r.atV h1
  rw [h2] at h3; cases h3; exact h4
theorem wk_list {K : PySem.W.Frag} {B : Hp} {a : Addr} {xs : List V} {ds : List D} (h : SqL K B a xs) (r : Reps K B xs ds) (hz : xs.length ≤ sizeLine) : WkD K B (Itl K a) ds where
  len := by rw [← r.len]; exact hz
  go := fun i H hi e => walk_list.goes i H (by rw [r.len]; exact hi) (Evl.ex_l e h)
  st := fun H e => by rw [← r.len]; exact walk_list.stops H (Evl.ex_l e h)
  yl := fun i H x H' Bc d hd e1 e2 y => by
    have hi := (List.getElem?_eq_some_iff.mp hd).1
    obtain ⟨rfl, hx⟩ := walk_list.yields i H x H' (by rw [r.len]; exact hi) (Evl.ex_l (e1.trans e2) h) y
    exact ⟨Bc, Nx.refl e2, (atV r hx hd).up e1⟩
theorem wk_tup {K : PySem.W.Frag} {B : Hp} {a : Addr} {xs : List V} {ds : List D} (h : SqT K B a xs) (r : Reps K B xs ds) (hz : xs.length ≤ sizeLine) : WkD K B (Itt K a) ds where
  len := by rw [← r.len]; exact hz
  go := fun i H hi e => walk_tup.goes i H (by rw [r.len]; exact hi) (Evl.ex_t e h)
  st := fun H e => by rw [← r.len]; exact walk_tup.stops H (Evl.ex_t e h)
  yl := fun i H x H' Bc d hd e1 e2 y => by
    have hi := (List.getElem?_eq_some_iff.mp hd).1
    obtain ⟨rfl, hx⟩ := walk_tup.yields i H x H' (by rw [r.len]; exact hi) (Evl.ex_t (e1.trans e2) h) y
    exact ⟨Bc, Nx.refl e2, (atV r hx hd).up e1⟩
def chars (z : Str) : List D := z.cps.toList.map fun c => .str ⟨#[c]⟩
/-- what a for walks: a list, a tuple, a text -/
def itemsD : D → Option (List D)
  | .list ds => some ds
  | .tuple ds => some ds
  | .str z => fit z.cps.size (chars z)
  | _ => none
theorem di_seq {m : Option D} (he : DE X e ρ m) : DI X tg e ρ (m.bind itemsD) := ⟨⟨fun pins s σ H R I h => by
  obtain ⟨B0, H0, B, hh, ds, hm, q⟩ := h
  obtain ⟨d, hx, hf⟩ := bind_some hm
  refine thn (he.pe.run pins s σ H (fun v H1 => ∃ B1, Nx B H B1 H1 ∧ Rep X.K B1 v d) I ⟨B0, H0, B, hh, d, hx, fun v B1 H1 n1 r1 => ⟨B1, n1, r1⟩⟩) fun v s1 ⟨x, H1, I1, rx, B1, n1, r1⟩ => ?_
  cases r1 with
  | @lst l xs es h1 rr =>
    cases hf
    cases rx
    obtain ⟨its, rv, p, hz⟩ := I1.list (.inl (.inl (n1.2.2.1 _ _ h1)))
    refine wpAny_pyIter_list p.isList (pi_one (tk := s1.toks) I1 _ (turn_list l _) ⟨_, Heap.get?_push_size _ rfl, rfl, rfl⟩ ?_)
    exact q _ B1 H1 n1 (wk_list (.inl (.inl h1)) rr hz)
  | @tup l xs es h1 rr =>
    cases hf
    cases rx
    obtain ⟨its, rv, p, hz⟩ := I1.tuple (Evl.ex_t n1.2.2.1 h1)
    refine wpAny_pyIter_tuple (show s1.heap.IsTuple l its.toArray from p) (pi_one (tk := s1.toks) I1 _ (turn_tuple l _) ⟨_, Heap.get?_push_size _ rfl, rfl, rfl⟩ ?_)
    exact q _ B1 H1 n1 (wk_tup h1 rr hz)
  | str z =>
    obtain ⟨hz, rfl⟩ := fit_some hf
    obtain ⟨t, rfl⟩ := rx
    have W : WkD X.K B1 (Its z) (chars z) := by
      refine ⟨by unfold chars; simpa using hz, fun i H hi e => ?_, fun H e => ?_, fun i H x H' Bc d hd e1 e2 y => ?_⟩
      · unfold chars at hi; simp at hi; exact hi
      · show z.cps.size ≤ _
        unfold chars; simp
      · obtain ⟨rfl, c, hc, rfl⟩ := y
        have e : d = .str ⟨#[c]⟩ := by
          unfold chars at hd
          simp [hc] at hd
          exact hd.symm
        subst e
        exact ⟨Bc, Nx.refl e2, .str _⟩
    cases ha : z.cps.all (· < 128)
    · exact wpAny_pyIter_wide ha (pi_one (tk := s1.toks) I1 _ (turn_str _ z t "str_iterator" (.inr rfl)) ⟨_, Heap.get?_push_size _ rfl, rfl, rfl⟩ (q _ B1 H1 n1 W))
    · exact wpAny_pyIter_ascii ha (pi_one (tk := s1.toks) I1 _ (turn_str _ z t "str_ascii_iterator" (.inl rfl)) ⟨_, Heap.get?_push_size _ rfl, rfl, rfl⟩ (q _ B1 H1 n1 W))
  | _ => simp [itemsD] at hf⟩⟩
def rangeI (lo : Int) (n : Nat) : List D := (List.range n).map fun (i : Nat) => .int (lo + (i : Int))
/-- range's turns -/
def rng1D : List D → Option (List D)
  | [.int j] => if -4611686018427387904 ≤ j then fit j.toNat (rangeI 0 j.toNat) else none
  | _ => none
def rng2D : List D → Option (List D)
  | [.int i, .int j] => if (-4611686018427387904 ≤ i ∧ i < 4611686018427387904) ∧ -4611686018427387904 ≤ j ∧ j < 4611686018427387904 then fit (j - i).toNat (rangeI i (j - i).toNat) else none
  | _ => none
theorem wk_rng {K : PySem.W.Frag} {B : Hp} (lo : Int) {n : Nat} (h : n ≤ sizeLine) : WkD K B (Itr lo n) (rangeI lo n) := by
  refine ⟨by unfold rangeI; simpa using h, fun i H hi e => ?_, fun H e => ?_, fun i H x H' Bc d hd e1 e2 y => ?_⟩
  · unfold rangeI at hi; simp at hi; exact hi
  · show n ≤ _
    unfold rangeI; simp
  · obtain ⟨rfl, rfl⟩ := y
    have e : d = .int (lo + i) := by
      unfold rangeI at hd
      rw [List.getElem?_map] at hd
      obtain ⟨j, hj, rfl⟩ := map_some hd
      have := List.getElem?_eq_some_iff.mp hj
      obtain ⟨h1, h2⟩ := this
      simp at h2
      rw [h2]
    subst e
    exact ⟨Bc, Nx.refl e2, .int _⟩
theorem di_rng1 {m : Option (List D)} {p : Pos} (hg : Gl X "range") (hm : X.mg "range" = none) (ha : DA X [a] ρ m) (hs : starEach [a] X.env = [(false, eval a X.env)]) : DI X tg (.Call (.Name "range" p) [a] [] pos) ρ (m.bind rng1D) := ⟨piI (pi_range1 hg hm ha.pa hs) (by
  intro σ H R ⟨B0, H0, B, hh, ds, hm, q⟩
  obtain ⟨xs, hx, hf⟩ := bind_some hm
  refine ⟨B0, H0, B, hh, xs, hx, fun vs B1 H1 n1 r1 => ?_⟩
  unfold rng1D at hf
  split at hf
  · split at hf
    · rename_i j hj
      obtain ⟨hz, rfl⟩ := fit_some hf
      obtain ⟨v, rfl, h1⟩ := one_rep r1
      cases h1 with
      | int k =>
        have : (sizeLine : Nat) = 16777216 := sizeLine_eq
        exact ⟨_, rfl, by omega, by omega, q _ B1 H1 n1 (wk_rng 0 hz)⟩
    · cases hf
  · cases hf)⟩
theorem di_rng2 {m : Option (List D)} {p : Pos} (hg : Gl X "range") (hm : X.mg "range" = none) (ha : DA X [a, b] ρ m) (hs : starEach [a, b] X.env = [(false, eval a X.env), (false, eval b X.env)]) (hs2 : starEach [b] X.env = [(false, eval b X.env)]) : DI X tg (.Call (.Name "range" p) [a, b] [] pos) ρ (m.bind rng2D) := ⟨piI (pi_range2 hg hm ha.pa hs hs2) (by
  intro σ H R ⟨B0, H0, B, hh, ds, hm, q⟩
  obtain ⟨xs, hx, hf⟩ := bind_some hm
  refine ⟨B0, H0, B, hh, xs, hx, fun vs B1 H1 n1 r1 => ?_⟩
  unfold rng2D at hf
  split at hf
  · split at hf
    · rename_i i j hj
      obtain ⟨hz, rfl⟩ := fit_some hf
      obtain ⟨v, v', rfl, h1, h2⟩ := two_rep r1
      cases h1 with
      | int k =>
        cases h2 with
        | int k2 => exact ⟨_, _, rfl, ⟨by omega, by omega, by omega, by omega⟩, q _ B1 H1 n1 (wk_rng _ hz)⟩
    · cases hf
  · cases hf)⟩
end

/-! ### targets: what they take apart, the slots behind -/
def gT (K : PySem.W.Frag) {T : Type} (ρ : Env) (f : D → Option T) (post : T → Env) (js : List Nat) : TG := fun v σ H Q => ∃ B0 H0 B d t, Holds K B0 H0 ρ σ B H ∧ Rep K B v d ∧ f d = some t ∧
  ∀ σ', (∀ vs : List Nat, (∀ j ∈ js, j ∈ vs) → L2.wipe σ' vs = L2.wipe σ vs) → Holds K B0 H0 (post t) σ' B H → Q σ' H
structure DG (X : Cx) (tg : Expr) {T : Type} (ρ : Env) (f : D → Option T) (post : T → Env) (js : List Nat) : Prop where
  pg : PG X tg (gT X.K ρ f post js)
theorem wipe_set {σ : L2.St} {j : Nat} {o : Option V} : ∀ {vs : List Nat}, j ∈ vs → L2.wipe (σ.set j o) vs = L2.wipe σ vs
  | v :: vs, h => by
    by_cases e : j ∈ vs
    · unfold L2.wipe
      rw [wipe_set e]
    · have e' : j = v := (List.mem_cons.mp h).resolve_right e
      subst e'
      have key : ∀ {vs : List Nat}, j ∉ vs → L2.wipe (σ.set j o) vs = (L2.wipe σ vs).set j o := by
        intro vs
        induction vs with
        | nil => intro _; rfl
        | cons w ws ih =>
          intro hn
          unfold L2.wipe
          rw [ih (fun z => hn (List.mem_cons_of_mem _ z))]
          exact List.set_comm _ _ (fun z => hn (by rw [z]; exact List.mem_cons_self))
      unfold L2.wipe
      rw [key e, List.set_set]
theorem wipe_wipe (σ : L2.St) (vs : List Nat) : L2.wipe (L2.wipe σ vs) vs = L2.wipe σ vs := by
  have key : ∀ (us : List Nat), (∀ u ∈ us, u ∈ vs) → L2.wipe (L2.wipe σ us) vs = L2.wipe σ vs := by
    intro us
    induction us with
    | nil => intro _; rfl
    | cons u us ih =>
      intro h
      show L2.wipe ((L2.wipe σ us).set u none) vs = _
      rw [wipe_set (h u List.mem_cons_self)]
      exact ih fun w hw => h w (List.mem_cons_of_mem _ hw)
  exact key vs fun _ h => h
section
variable {X : Cx} {tg e a b c : Expr} {es : List Expr} {ρ : Env} {pos : Pos}
theorem pgI {t t' : TG} (h : PG X tg t) (f : ∀ v σ H Q, t' v σ H Q → t v σ H Q) : PG X tg t' := ⟨fun pins s σ H v u Q I r w => h.run pins s σ H v u Q I r (f v σ H Q w)⟩
theorem dg_name {i : Nat} {x : Str} (hN : X.N.Nodup) (hi : X.N[i]? = some x) (hx : Loc X.env.scope x) (hf : X.fn x = true ∨ X.env.scope.names.lookup x = some .local) : DG X (.Name x pos) ρ (fun d => some d) (fun d => ρ.set i (.val d)) [i] := ⟨pgI (pg_name hN hi hx hf) (by
  intro v σ H Q ⟨B0, H0, B, d, t, hh, r, ht, q⟩
  cases ht
  exact q _ (fun vs h => wipe_set (h i List.mem_cons_self)) (hh.setv r))⟩
def un2 : D → Option (D × D)
  | .tuple [x, y] => some (x, y)
  | _ => none
def un3 : D → Option (D × D × D)
  | .tuple [x, y, z] => some (x, y, z)
  | _ => none
def un4 : D → Option (D × D × D × D)
  | .tuple [x, y, z, w] => some (x, y, z, w)
  | _ => none
/-- several targets, by one list of data -/
def gTs (K : PySem.W.Frag) (ρ : Env) (n : Nat) (post : List D → Env) (js : List Nat) : TGs := fun us σ H Q => ∃ B0 H0 B ds, Holds K B0 H0 ρ σ B H ∧ Reps K B us ds ∧ ds.length = n ∧
  ∀ σ', (∀ vs : List Nat, (∀ j ∈ js, j ∈ vs) → L2.wipe σ' vs = L2.wipe σ vs) → Holds K B0 H0 (post ds) σ' B H → Q σ' H
structure DGs (X : Cx) (ts : List Expr) (ρ : Env) (n : Nat) (post : List D → Env) (js : List Nat) : Prop where
  pg : PGs X ts (gTs X.K ρ n post js)
theorem pgsI {ts : List Expr} {t t' : TGs} (h : PGs X ts t) (f : ∀ v σ H Q, t' v σ H Q → t v σ H Q) : PGs X ts t' := ⟨fun pins s σ H v u Q I r w => h.run pins s σ H v u Q I r (f v σ H Q w)⟩
theorem dgs_nil : DGs X [] ρ 0 (fun _ => ρ) [] := ⟨pgsI pgs_nil (by
  intro v σ H Q ⟨B0, H0, B, ds, hh, r, ht, q⟩
  cases ds with
  | nil => cases r; exact ⟨rfl, q σ (fun _ _ => rfl) hh⟩
  | cons => cases ht)⟩
/-- a name, then the rest -/
theorem dgs_cons {ts : List Expr} {i n : Nat} {x : Str} {post : D → List D → Env} {js : List Nat} (hN : X.N.Nodup) (hi : X.N[i]? = some x) (hx : Loc X.env.scope x) (hf : X.fn x = true ∨ X.env.scope.names.lookup x = some .local)
    (hr : ∀ d, DGs X ts (ρ.set i (.val d)) n (post d) js) : DGs X (.Name x pos :: ts) ρ (n + 1) (fun ds => post (ds.headD .none) ds.tail) (i :: js) := ⟨⟨by
  intro pins s σ H vs us Q I rv w
  obtain ⟨B0, H0, B, ds, hh, r, ht, q⟩ := w
  cases r with
  | nil => cases ht
  | @cons v vs d ds h1 h2 =>
    refine (pgs_cons (pg_name hN hi hx hf) (hr d).pg).run pins s σ H _ us Q I rv ⟨v, vs, rfl, ?_⟩
    refine ⟨B0, H0, B, ds, hh.setv h1, h2, by simpa using ht, fun σ' hw hh' => ?_⟩
    exact q σ' (fun ws h => (hw ws fun j hj => h j (List.mem_cons_of_mem _ hj)).trans (wipe_set (h i List.mem_cons_self))) hh'⟩⟩
theorem dg_tup {T : Type} {k n : Nat} {post : List D → Env} {js : List Nat} {f : D → Option T} {pst : T → Env} (hc : X.calm = true) (h : DGs X es ρ n post js) (hst : (assignEach es X.env).findIdx? (·.1) = none) (hlen : (assignEach es X.env).length = n)
    (hf : ∀ d t, f d = some t → ∃ ds, d = .tuple ds ∧ ds.length = n ∧ pst t = post ds) : DG X (.Tuple es k pos) ρ f pst js := ⟨pgI (pg_tup (n := n) hc h.pg hlen hst) (by
  intro v σ H Q ⟨B0, H0, B, d, t, hh, r, ht, q⟩
  obtain ⟨ds, rfl, hl, hp⟩ := hf d t ht
  cases r with
  | @tup a vs _ h1 rr =>
    refine ⟨a, vs, rfl, Evl.ex_t hh.ex h1, by rw [rr.len]; exact hl, ⟨B0, H0, B, ds, hh, rr, hl, fun σ' hw hh' => q σ' hw (by rw [hp]; exact hh')⟩⟩)⟩
theorem dg_tup2 {k : Nat} {post : List D → Env} {js : List Nat} {pst : D × D → Env} (hc : X.calm = true) (h : DGs X es ρ 2 post js) (hst : (assignEach es X.env).findIdx? (·.1) = none) (hlen : (assignEach es X.env).length = 2)
    (hp : ∀ x y, pst (x, y) = post [x, y]) : DG X (.Tuple es k pos) ρ un2 pst js := dg_tup hc h hst hlen fun d t e => by
  unfold un2 at e
  split at e
  · cases e; exact ⟨_, rfl, rfl, hp _ _⟩
  · cases e
theorem dg_tup3 {k : Nat} {post : List D → Env} {js : List Nat} {pst : D × D × D → Env} (hc : X.calm = true) (h : DGs X es ρ 3 post js) (hst : (assignEach es X.env).findIdx? (·.1) = none) (hlen : (assignEach es X.env).length = 3)
    (hp : ∀ x y z, pst (x, y, z) = post [x, y, z]) : DG X (.Tuple es k pos) ρ un3 pst js := dg_tup hc h hst hlen fun d t e => by
  unfold un3 at e
  split at e
  · cases e; exact ⟨_, rfl, rfl, hp _ _ _⟩
  · cases e
theorem dg_tup4 {k : Nat} {post : List D → Env} {js : List Nat} {pst : D × D × D × D → Env} (hc : X.calm = true) (h : DGs X es ρ 4 post js) (hst : (assignEach es X.env).findIdx? (·.1) = none) (hlen : (assignEach es X.env).length = 4)
    (hp : ∀ x y z w, pst (x, y, z, w) = post [x, y, z, w]) : DG X (.Tuple es k pos) ρ un4 pst js := dg_tup hc h hst hlen fun d t e => by
  unfold un4 at e
  split at e
  · cases e; exact ⟨_, rfl, rfl, hp _ _ _ _⟩
  · cases e

/-! ### list comprehensions -/
def compM {α β : Type} (h : α → Option (Option β)) : List α → Option (List β)
  | [] => some []
  | d :: r => (h d).bind fun o => (compM h r).bind fun ys => some (o.toList ++ ys)
theorem compM_app {α β : Type} {h : α → Option (Option β)} : ∀ (xs ys : List α), compM h (xs ++ ys) = (compM h xs).bind fun us => (compM h ys).bind fun ws => some (us ++ ws)
  | [], ys => by cases q : compM h ys <;> simp [compM, q]
  | x :: xs, ys => by
    show ((h x).bind fun o => (compM h (xs ++ ys)).bind fun zs => some (o.toList ++ zs)) = _
    rw [compM_app xs ys]
    cases q : h x <;> simp [compM, q]
    cases q2 : compM h xs <;> simp
    cases q3 : compM h ys <;> simp
theorem compM_len {α β : Type} {h : α → Option (Option β)} : ∀ {xs : List α} {ys : List β}, compM h xs = some ys → ys.length ≤ xs.length
  | [], ys, e => by cases e; simp
  | x :: xs, ys, e => by
    obtain ⟨o, h1, e⟩ := bind_some (show ((h x).bind fun o => (compM h xs).bind fun ys => some (o.toList ++ ys)) = some ys from e)
    obtain ⟨zs, h2, e⟩ := bind_some e
    cases e
    have := compM_len h2
    cases o <;> simp <;> omega
/-- the turns one by one -/
theorem compM_step {α β : Type} {h : α → Option (Option β)} {xs : List α} {ys : List β} (e : compM h xs = some ys) {i : Nat} {x : α} (hx : xs[i]? = some x) {acc : List β} (ha : compM h (xs.take i) = some acc) :
    ∃ o, h x = some o ∧ compM h (xs.take (i + 1)) = some (acc ++ o.toList) := by
  have hl := (List.getElem?_eq_some_iff.mp hx).1
  have e1 : xs = xs.take i ++ (x :: xs.drop (i + 1)) := by
    have : xs.drop i = x :: xs.drop (i + 1) := by
      rw [List.drop_eq_getElem_cons hl]
      have := (List.getElem?_eq_some_iff.mp hx).2
      rw [this]
    rw [← this, List.take_append_drop]
  rw [e1, compM_app, ha] at e
  obtain ⟨us, h0, e⟩ := bind_some e
  cases h0
  obtain ⟨ws, h1, e⟩ := bind_some e
  obtain ⟨o, h2, h3⟩ := bind_some (show ((h x).bind fun o => (compM h (xs.drop (i + 1))).bind fun ys => some (o.toList ++ ys)) = some ws from h1)
  refine ⟨o, h2, ?_⟩
  rw [List.take_add_one, hx, compM_app, ha]
  show (some acc).bind _ = _
  simp [compM, h2]
/-- one turn of a comprehension -/
abbrev turnC {T : Type} (f : D → Option T) (k : T → Option Bool) (g : T → Option D) (d : D) : Option (Option D) := (f d).bind fun t => (k t).bind fun b => if b then (g t).map some else some none
theorem tLcD {T : Type} {m : Option (List D)} {f : D → Option T} {post : T → Env} {js vs : List Nat} {k : T → Option Bool} {g : T → Option D} {K : PySem.W.Frag} {wi : TI} {gg : TG} {tt : TT} {te : TE}
    (hwi : ∀ σ H R, iT K ρ m σ H R → wi σ H R) (hgg : ∀ v σ H Q, gT K (wipeE ρ vs) f post js v σ H Q → gg v σ H Q) (htt : ∀ t σ H Q, cB K (post t) (k t) σ H Q → tt σ H Q) (hte : ∀ t σ H Q, cT K (post t) (g t) σ H Q → te σ H Q)
    (hj : ∀ j ∈ js, j ∈ vs) : ∀ σ H Q, cF K ρ (m.bind (compM (turnC f k g))) σ H Q → tLc wi gg tt te vs σ H Q := by
  intro σ H Q ⟨B0, H0, B, hh, ys, hm, q⟩
  obtain ⟨ds, hx, hf⟩ := bind_some hm
  refine hwi σ H _ ⟨B0, H0, B, hh, ds, hx, fun J B1 H1 n1 w => ?_⟩
  intro Da hD
  have h1 := hh.step n1
  -- the word between the turns
  let P : Nat → Hp → Prop := fun i H' => ∃ Bc ws acc, Nx B1 H1 Bc H' ∧ Bc Da = none ∧ H' Da = some (.lst ws) ∧ Reps K Bc ws acc ∧ compM (turnC f k g) (ds.take i) = some acc
  refine ⟨fun i n H' => n = ds.length - i ∧ i ≤ ds.length ∧ P i H', ⟨ds.length, by simp, Nat.zero_le _, B1, [], [], Nx.own n1.2.2.1 hD, Ex.none n1.2.2.1 hD, upd_same, .nil, rfl⟩, ?_⟩
  rintro i n H' ⟨rfl, hi, Bc, ws, acc, nx, hb, hd, rr, hc⟩
  by_cases hlt : i < ds.length
  · refine .inr ⟨w.go i H' hlt (nx.1.trans nx.2.2.1), P (i + 1), fun H2 p => ⟨ds.length - (i + 1), by omega, rfl, hlt, p⟩, fun x H2 y => ?_⟩
    have hdi : ds[i]? = some ds[i] := by simp [hlt]
    obtain ⟨o, ho, hc'⟩ := compM_step hf hdi hc
    obtain ⟨t, ht, ho⟩ := bind_some ho
    obtain ⟨b, hk, ho⟩ := bind_some ho
    obtain ⟨B2, n2, r2⟩ := w.yl i H' x H2 Bc ds[i] hdi nx.1 nx.2.2.1 y
    have hD2 : H2 Da = some (.lst ws) := n2.2.1 _ _ hd
    have hB2 : B2 Da = none := n2.2.2.2 Da (by rw [hd]; simp) hb
    have nx2 := nx.trans n2
    have acl : ws.length < sizeLine := by
      have e1 := compM_len hc
      have e2 := rr.len
      have e3 := w.len
      rw [List.length_take] at e1
      omega
    refine hgg x _ H2 _ ⟨B0, H0, B2, ds[i], t, (h1.step nx2).wipe vs, r2, ht, fun σ' hw h3 => ?_⟩
    refine ⟨by rw [hw vs hj, wipe_wipe], ?_⟩
    refine htt t σ' H2 _ ⟨B0, H0, B2, h3, b, hk, fun B3 H3 n3 => ?_⟩
    have hD3 : H3 Da = some (.lst ws) := n3.2.1 _ _ hD2
    have hB3 : B3 Da = none := n3.2.2.2 Da (by rw [hD2]; simp) hB2
    have nx3 := nx2.trans n3
    cases b with
    | false =>
      cases ho
      refine L2.iteF (B := P (i + 1) H3) ?_
      refine ⟨B3, ws, acc, nx3, hB3, hD3, rr.up (n2.1.trans n3.1), ?_⟩
      rw [hc', Option.toList_none, List.append_nil]
    | true =>
      refine L2.iteT (A := te σ' H3 _) ?_
      obtain ⟨z, hz, rfl⟩ := map_some (show (g t).map some = some o from ho)
      refine hte t σ' H3 _ ⟨B0, H0, B3, h3.step n3, z, hz, fun v B4 H4 n4 r4 => ?_⟩
      have hD4 : H4 Da = some (.lst ws) := n4.2.1 _ _ hD3
      have hB4 : B4 Da = none := n4.2.2.2 Da (by rw [hD3]; simp) hB3
      have nx4 := nx3.trans n4
      refine ⟨ws, hD4, acl, B4, ws ++ [v], acc ++ [z], ?_, hB4, upd_same, (rr.up ((n2.1.trans n3.1).trans n4.1)).app (.cons r4 .nil), hc'⟩
      refine ⟨nx4.1, fun a u z => ?_, fun a u z => ?_, nx4.2.2.2⟩
      · have ha : a ≠ Da := ne_of_none z hD
        rw [upd_ne ha]; exact nx4.2.1 a u z
      · have ha : a ≠ Da := ne_of_none z hB4
        rw [upd_ne ha]; exact nx4.2.2.1 a u z
  · have e : i = ds.length := by omega
    subst e
    rw [List.take_length, hf] at hc
    cases hc
    refine .inl ⟨w.st H' (nx.1.trans nx.2.2.1), ?_⟩
    exact q Da ws Bc H' (n1.trans nx) (Ex.none n1.2.1 hD) hb hd rr
section
variable {T : Type} {m : Option (List D)} {f : D → Option T} {post : T → Env} {js : List Nat} {k : T → Option Bool} {g : T → Option D} {elt iter : Expr} {ifs : List Expr} {scope : Scope} {own : List (Str × Nat)}
/-- the tests of a clause -/
structure DTs (X : Cx) (ifs : List Expr) (ρ : Env) (m : Option Bool) : Prop where
  pts : PTs X ifs (cB X.K ρ m)
theorem dts_nil : DTs X [] ρ (some true) := ⟨⟨fun pins s σ H Q I w => pts_nil.run pins s σ H Q I (by
  obtain ⟨B0, H0, B, hh, b, hm, q⟩ := w
  cases hm
  exact q B H (Nx.refl hh.ex))⟩⟩
theorem dts_one {m : Option Bool} (h : DT X c ρ m) : DTs X [c] ρ m := ⟨⟨fun pins s σ H Q I w => (pts_one h.pt).run pins s σ H Q I w⟩⟩
/-- any data: the judgements of the block hold for every datum of the target, as one reading -/
theorem peA {T : Type} {X : Cx} {e : Expr} {t : T → TE} (h : ∀ x, PE X e (t x)) : PE X e (fun σ H Q => ∃ x, t x σ H Q) := ⟨fun pins s σ H Q I ⟨x, w⟩ => (h x).run pins s σ H Q I w⟩
theorem ptsA {T : Type} {X : Cx} {es : List Expr} {t : T → TT} (h : ∀ x, PTs X es (t x)) : PTs X es (fun σ H Q => ∃ x, t x σ H Q) := ⟨fun pins s σ H Q I ⟨x, w⟩ => (h x).run pins s σ H Q I w⟩
theorem df_lc (hc : X.calm = true) (hN : X.N.Nodup) (hi : DI X tg iter ρ m) (ok : BlkOk X.N X.env.scope scope own)
    (hg : ∀ (s : Shared) (H : Hp) (C : Addr) (cl : List (Str × Addr)) (fp : List Addr), DG (X.blk s H scope (compEnvC scope cl C X.env) fp) tg (wipeE ρ (own.map (·.2))) f post js)
    (ht : ∀ (s : Shared) (H : Hp) (C : Addr) (cl : List (Str × Addr)) (fp : List Addr) (t : T), DTs (X.blk s H scope (compEnvC scope cl C X.env) fp) ifs (post t) (k t))
    (he : ∀ (s : Shared) (H : Hp) (C : Addr) (cl : List (Str × Addr)) (fp : List Addr) (t : T), DE (X.blk s H scope (compEnvC scope cl C X.env) fp) elt (post t) (g t))
    (hj : ∀ j ∈ js, j ∈ own.map (·.2)) (hs : ∀ x, foldedSetIterable iter X.env x = pure x) : DF X (.ListComp elt [⟨tg, iter, ifs, 0⟩] scope pos) ρ (m.bind (compM (turnC f k g))) :=
  ⟨peI (pe_lc (own := own) hc hN hi.pi ok (fun s H C cl fp => (hg s H C cl fp).pg) (fun s H C cl fp => ptsA fun t => (ht s H C cl fp t).pts) (fun s H C cl fp => peA fun t => (he s H C cl fp t).pe) hs)
    (tLcD (fun _ _ _ h => h) (fun _ _ _ _ h => h) (fun t _ _ _ h => ⟨t, h⟩) (fun t _ _ _ h => ⟨t, h⟩) hj)⟩
end
end
end Dl

/-! Data layer, part 6: statements, own functions. -/
namespace Dl
open PySem L2 PySem.Spec PyProof.Rows PySem.W PySem.SeqAt
open Evl (Ex)

inductive Fl (S L : Type) where
  | nx (s : S)
  | rt (d : D)
  | bk (l : L)
  | ct (l : L)
/-- what is wanted of a return -/
abbrev RT := PySem.W.Frag → Hp → Hp → D → VK → Prop
def rV : RT := fun K B0 H0 d k => ∀ v B' H', Nx B0 H0 B' H' → Rep K B' v d → k v H'
/-- a new list -/
def rF : RT := fun K B0 H0 d k => ∀ ds, d = .list ds → ∀ p vs B' H', Nx B0 H0 B' H' → H0 p = none → B' p = none → H' p = some (.lst vs) → Reps K B' vs ds → k (.ref p) H'
def cS (K : PySem.W.Frag) (R : RT) (ρ : Env) {S L : Type} (m : Option (Fl S L)) (post : S → Env) (lp : L → Env) : TS := fun Dn σ H => ∃ B0 H0 B, Holds K B0 H0 ρ σ B H ∧ ∃ f, m = some f ∧ match f with
  | .nx s => ∀ σ' B' H', Holds K B0 H0 (post s) σ' B' H' → Ex B B' → Dn.nx σ' H'
  | .bk l => ∀ σ' B' H', Holds K B0 H0 (lp l) σ' B' H' → Ex B B' → Dn.bk σ' H'
  | .ct l => ∀ σ' B' H', Holds K B0 H0 (lp l) σ' B' H' → Ex B B' → Dn.ct σ' H'
  | .rt d => R K B0 H0 d Dn.rt
structure DS (X : Cx) (R : RT) (st : Stmt) (ρ : Env) {S L : Type} (m : Option (Fl S L)) (post : S → Env) (lp : L → Env) : Prop where
  ps : PS X st (cS X.K R ρ m post lp)
structure DB (X : Cx) (R : RT) (sts : List Stmt) (ρ : Env) {S L : Type} (m : Option (Fl S L)) (post : S → Env) (lp : L → Env) : Prop where
  ps : PSs X sts (cS X.K R ρ m post lp)
/-- one statement, then the rest -/
@[irreducible] def seqF {S T L : Type} (m : Option (Fl S L)) (n : S → Option (Fl T L)) : Option (Fl T L) := m.bind fun f => match f with
  | .nx s => n s
  | .rt d => some (.rt d)
  | .bk l => some (.bk l)
  | .ct l => some (.ct l)
theorem seqF_some {S T L : Type} {m : Option (Fl S L)} {n : S → Option (Fl T L)} {f : Fl T L} (h : seqF m n = some f) : ∃ g, m = some g ∧ (match g with
  | .nx s => n s
  | .rt d => some (.rt d)
  | .bk l => some (.bk l)
  | .ct l => some (.ct l)) = some f := by
  unfold seqF at h
  exact bind_some h
/-- a for's turns -/
def forF {α L M : Type} (F : α → L → Option (Fl L L)) : List α → L → Option (Fl L M)
  | [], l => some (.nx l)
  | d :: r, l => (F d l).bind fun f => match f with
    | .nx l' => forF F r l'
    | .ct l' => forF F r l'
    | .bk l' => some (.nx l')
    | .rt d => some (.rt d)
/-- a while's turns, at most n -/
def whileF {L M : Type} (c : L → Option Bool) (F : L → Option (Fl L L)) : Nat → L → Option (Fl L M)
  | 0, _ => none
  | n + 1, l => (c l).bind fun b => if b then (F l).bind fun f => (match f with
    | .nx l' => whileF c F n l'
    | .ct l' => whileF c F n l'
    | .bk l' => some (.nx l')
    | .rt d => some (.rt d)) else some (.nx l)

section
variable {X : Cx} {R : RT} {tg e a b c : Expr} {es : List Expr} {ρ : Env} {pos : Pos} {st : Stmt} {sts : List Stmt}
theorem psI {t t' : TS} (h : PS X st t) (f : ∀ D σ H, t' D σ H → t D σ H) : PS X st t' := ⟨fun pins s σ H D I w => h.run pins s σ H D I (f D σ H w)⟩
theorem pssI {t t' : TS} (h : PSs X sts t) (f : ∀ D σ H, t' D σ H → t D σ H) : PSs X sts t' := ⟨fun pins s σ H D I w => h.run pins s σ H D I (f D σ H w)⟩
theorem pssA {T : Type} {t : T → TS} (h : ∀ x, PSs X sts (t x)) : PSs X sts (fun D σ H => ∃ x, t x D σ H) := ⟨fun pins s σ H D I ⟨x, w⟩ => (h x).run pins s σ H D I w⟩
section
variable {S T L : Type} {lp : L → Env}
theorem db_nil {post : S → Env} {s : S} (w : Wk ρ (post s)) : DB X R [] ρ (some (.nx s)) post lp := ⟨pssI pss_nil (by
  intro D σ H ⟨B0, H0, B, hh, f, hm, q⟩
  cases hm
  exact q σ B H (hh.wk w) (Ex.refl B))⟩
theorem db_cons {p1 : S → Env} {p2 : T → Env} {m : Option (Fl S L)} {n : S → Option (Fl T L)} (h1 : DS X R st ρ m p1 lp) (h2 : ∀ s, DB X R sts (p1 s) (n s) p2 lp) : DB X R (st :: sts) ρ (seqF m n) p2 lp := ⟨pssI (pss_cons h1.ps (pssA fun s => (h2 s).ps)) (by
  intro D σ H ⟨B0, H0, B, hh, f, hm, q⟩
  obtain ⟨g, hg, hm⟩ := seqF_some hm
  refine ⟨B0, H0, B, hh, g, hg, ?_⟩
  cases g with
  | nx s =>
    intro σ' B' H' h' e
    refine ⟨s, B0, H0, B', h', f, hm, ?_⟩
    cases f with
    | nx t => exact fun σ'' B'' H'' h'' e' => q σ'' B'' H'' h'' (e.trans e')
    | bk t => exact fun σ'' B'' H'' h'' e' => q σ'' B'' H'' h'' (e.trans e')
    | ct t => exact fun σ'' B'' H'' h'' e' => q σ'' B'' H'' h'' (e.trans e')
    | rt d => exact q
  | rt d => cases hm; exact q
  | bk l => cases hm; exact q
  | ct l => cases hm; exact q)⟩
theorem db_one {post : S → Env} {m : Option (Fl S L)} (h : DS X R st ρ m post lp) : DB X R [st] ρ m post lp := ⟨pss_one h.ps⟩
theorem db_wk {ρ' : Env} {post : S → Env} {m : Option (Fl S L)} (w : Wk ρ ρ') (h : DB X R sts ρ' m post lp) : DB X R sts ρ m post lp := ⟨pssI h.ps (by
  intro D σ H ⟨B0, H0, B, hh, q⟩
  exact ⟨B0, H0, B, hh.wk w, q⟩)⟩
/-- a list of one's own is never changed from here on -/
theorem db_frz {i : Nat} {ds : List D} {post : S → Env} {m : Option (Fl S L)} (hi : ρ[i]? = some (.own ds)) (h : DB X R sts (ρ.set i (.val (.list ds))) m post lp) : DB X R sts ρ m post lp := ⟨pssI h.ps (by
  intro D σ H ⟨B0, H0, B, hh, f, hm, q⟩
  obtain ⟨p, vs, h1, h2, h3, h4, h5⟩ := hh.own i ds hi
  have hE : Ex B (upd B p (.lst vs)) := Ex.new h3
  have nn : Nx B0 H0 (upd B p (.lst vs)) H := by
    refine ⟨hh.nx.1.trans hE, hh.nx.2.1, fun a u z => ?_, fun a ha hb => ?_⟩
    · by_cases e : a = p
      · subst e; rw [upd_same] at z; rw [h4]; exact z
      · rw [upd_ne e] at z; exact hh.ex a u z
    · have e : a ≠ p := fun z => ha (by rw [z]; exact h2)
      rw [upd_ne e]; exact hh.nx.2.2.2 a ha hb
  have gs : ∀ {j : Nat} {x : Sl}, (ρ.set i (.val (.list ds)))[j]? = some x → (j = i ∧ x = .val (.list ds)) ∨ (j ≠ i ∧ ρ[j]? = some x) := fun {j x} z => by
    rcases getset z with ⟨e1, e2⟩ | z
    · exact .inl ⟨e1, e2.symm⟩
    · exact .inr z
  have K2 : Holds X.K B0 H0 (ρ.set i (.val (.list ds))) σ (upd B p (.lst vs)) H := by
    refine ⟨nn, by rw [List.length_set]; exact hh.len, fun j d z => ?_, fun j es z => ?_, fun j ns z => ?_, fun j k es fs r z1 z2 z3 z4 => ?_⟩
    · rcases gs z with ⟨rfl, e2⟩ | ⟨_, z⟩
      · cases e2
        exact ⟨_, h1, .lst upd_same (h5.up hE)⟩
      · obtain ⟨v, g1, g2⟩ := hh.val j d z
        exact ⟨v, g1, g2.up hE⟩
    · rcases gs z with ⟨_, e2⟩ | ⟨ne, z⟩
      · cases e2
      · obtain ⟨p', vs', g1, g2, g3, g4, g5⟩ := hh.own j es z
        have np : p' ≠ p := fun e => ne (hh.apart j i es ds p' z hi g1 (by rw [e]; exact h1))
        exact ⟨p', vs', g1, g2, by rw [upd_ne np]; exact g3, g4, g5.up hE⟩
    · rcases gs z with ⟨_, e2⟩ | ⟨ne, z⟩
      · cases e2
      · obtain ⟨a, g1, g2⟩ := hh.scr j ns z
        exact ⟨a, g1, Evl.ex_l hE g2⟩
    · rcases gs z1 with ⟨_, e2⟩ | ⟨_, y1⟩
      · cases e2
      · rcases gs z2 with ⟨_, e2⟩ | ⟨_, y2⟩
        · cases e2
        · exact hh.apart j k es fs r y1 y2 z3 z4
  refine ⟨B0, H0, _, K2, f, hm, ?_⟩
  cases f with
  | nx t => exact fun σ'' B'' H'' h'' e' => q σ'' B'' H'' h'' (hE.trans e')
  | bk t => exact fun σ'' B'' H'' h'' e' => q σ'' B'' H'' h'' (hE.trans e')
  | ct t => exact fun σ'' B'' H'' h'' e' => q σ'' B'' H'' h'' (hE.trans e')
  | rt d => exact q)⟩

/-! ### assignments -/
abbrev nxt {S L : Type} (m : Option S) : Option (Fl S L) := m.map .nx
theorem nxt_some {m : Option S} {f : Fl S L} (h : (nxt m : Option (Fl S L)) = some f) : ∃ s, m = some s ∧ f = .nx s := by
  obtain ⟨s, h1, h2⟩ := map_some h
  exact ⟨s, h1, h2.symm⟩
theorem ds_asg {i : Nat} {x : Str} {pos' : Pos} {m : Option D} (hN : X.N.Nodup) (hi : X.N[i]? = some x) (hx : Loc X.env.scope x) (he : DE X e ρ m) (hs : swapsWith e (some (.Name x pos')) pos.line X.env = pure false) (hf : X.fn x = true ∨ X.env.scope.names.lookup x = some .local) :
    DS X R (.Assign [.Name x pos'] e pos) ρ (nxt m) (fun d => ρ.set i (.val d)) lp := ⟨psI (ps_set hN hi hx he.pe hs hf) (by
  intro D σ H ⟨B0, H0, B, hh, f, hm, q⟩
  obtain ⟨d, hd, rfl⟩ := nxt_some hm
  exact ⟨B0, H0, B, hh, d, hd, fun v B1 H1 n1 r1 => q _ B1 H1 ((hh.step n1).setv r1) n1.1⟩)⟩
theorem Holds.newOwn {K : PySem.W.Frag} {B0 H0 B H B1 H1 : Hp} {σ : L2.St} {p : Addr} {vs : List V} {ds : List D} {i : Nat} (hh : Holds K B0 H0 ρ σ B H) (n1 : Nx B H B1 H1) (hp : H p = none) (hb : B1 p = none) (he : H1 p = some (.lst vs)) (r : Reps K B1 vs ds) :
    Holds K B0 H0 (ρ.set i (.own ds)) (σ.set i (some (.ref p))) B1 H1 := by
  refine (hh.step n1).seto r (Ex.none hh.nx.2.1 hp) hb he fun j es hj hr z => ?_
  obtain ⟨p', vs', g1, g2, g3, g4, g5⟩ := hh.own j es hr
  rw [g1] at z
  cases z
  rw [hp] at g4; cases g4
theorem ds_asgF {i : Nat} {x : Str} {pos' : Pos} {m : Option (List D)} (hN : X.N.Nodup) (hi : X.N[i]? = some x) (hx : Loc X.env.scope x) (he : DF X e ρ m) (hs : swapsWith e (some (.Name x pos')) pos.line X.env = pure false) (hf : X.fn x = true ∨ X.env.scope.names.lookup x = some .local) :
    DS X R (.Assign [.Name x pos'] e pos) ρ (nxt m) (fun d => ρ.set i (.own d)) lp := ⟨psI (ps_set hN hi hx he.pe hs hf) (by
  intro D σ H ⟨B0, H0, B, hh, f, hm, q⟩
  obtain ⟨d, hd, rfl⟩ := nxt_some hm
  exact ⟨B0, H0, B, hh, d, hd, fun p vs B1 H1 n1 hp hb he r1 => q _ B1 H1 (hh.newOwn n1 hp hb he r1) n1.1⟩)⟩
/-- a, b = e -/
theorem ds_tg {T : Type} {f : D → Option T} {post : T → Env} {js : List Nat} {m : Option D} (he : DE X e ρ m) (hg : DG X tg ρ f post js) (hs : swapsWithSole [tg] e pos.line X.env = pure false) (hw : swappedStores [tg] e X.env = pure none) (h1 : (assignEach [tg] X.env).map (·.2) = [assign tg X.env]) :
    DS X R (.Assign [tg] e pos) ρ (nxt (m.bind f)) post lp := ⟨⟨fun pins s σ H D I w => by
  obtain ⟨B0, H0, B, hh, f', hm, q⟩ := w
  obtain ⟨t, ht, rfl⟩ := nxt_some hm
  obtain ⟨d, hd, ht⟩ := bind_some ht
  refine (ps_asg (g := fun v σ' H' Q => ∃ B1, Nx B H B1 H' ∧ Rep X.K B1 v d ∧ σ' = σ ∧ gT X.K ρ f post js v σ' H' Q) he.pe (pgI hg.pg fun v σ' H' Q ⟨B1, n1, r1, e1, w⟩ => w) hs hw h1).run pins s σ H D I ?_
  refine ⟨B0, H0, B, hh, d, hd, fun v B1 H1 n1 r1 => ⟨B1, n1, r1, rfl, B0, H0, B1, d, t, hh.step n1, r1, ht, fun σ' _ h' => q σ' B1 H1 h' n1.1⟩⟩⟩⟩
theorem ds_aug {i : Nat} {x : Str} {pos' : Pos} {op : Operator} {f : D → D → Option D} {m : Option D} {d0 : D} (hl : look ρ i = some d0) (hN : X.N.Nodup) (hi : X.N[i]? = some x) (hx : Loc X.env.scope x) (he : DE X e ρ m) (ho : PIp X op (rD X.K f)) (hf : X.fn x = true ∨ X.env.scope.names.lookup x = some .local) :
    DS X R (.AugAssign (.Name x pos') op e pos) ρ (nxt (m.bind fun y => f d0 y)) (fun d => ρ.set i (.val d)) lp := ⟨psI (ps_aug hN hi hx he.pe ho hf) (by
  intro D σ H ⟨B0, H0, B, hh, f', hm, q⟩
  obtain ⟨t, ht, rfl⟩ := nxt_some hm
  obtain ⟨y, hy, ht⟩ := bind_some ht
  obtain ⟨v0, g1, g2⟩ := hh.val i d0 (look_some hl)
  refine ⟨v0, g1, B0, H0, B, hh, y, hy, fun v B1 H1 n1 r1 => ⟨B1, d0, y, t, n1.2.2.1, g2.up n1.1, r1, ht, fun w B2 H2 n2 r2 => ?_⟩⟩
  exact q _ B2 H2 (((hh.step n1).step n2).setv r2) (n1.1.trans n2.1))⟩
def iaddD : D → D → Option D
  | .int i, .int j => some (.int (i + j))
  | _, _ => none
theorem ip_addD : PIp X .Add (rD X.K iaddD) := by
  intro pins s σ H x y v u Q I rx ry ⟨B, d, e, r, ex, hd, he, hf, q⟩
  cases hd with
  | int i =>
    cases he with
    | int j => cases hf; exact ip_add pins s σ H _ _ v u Q I rx ry ⟨i, j, rfl, rfl, q _ B H (Nx.refl ex) (.int _)⟩
    | _ => simp [iaddD] at hf
  | _ => cases he <;> simp [iaddD] at hf
theorem ip_subD : PIp X .Sub (rD X.K subD) := by
  intro pins s σ H x y v u Q I rx ry ⟨B, d, e, r, ex, hd, he, hf, q⟩
  cases hd with
  | int i =>
    cases he with
    | int j => cases hf; exact ip_sub pins s σ H _ _ v u Q I rx ry ⟨i, j, rfl, rfl, q _ B H (Nx.refl ex) (.int _)⟩
    | _ => simp [subD] at hf
  | _ => cases he <;> simp [subD] at hf
end
end
end Dl

/-! Data layer, part 7: the rest of the statements, own functions. -/
namespace Dl
open PySem L2 PySem.Spec PyProof.Rows PySem.W PySem.SeqAt
open Evl (Ex)

section
variable {X : Cx} {R : RT} {tg e a b c : Expr} {es : List Expr} {ρ : Env} {pos : Pos} {st : Stmt} {sts : List Stmt} {S T L : Type} {lp : L → Env}
section
variable {T : Type} {m : Option (List D)} {f : D → Option T} {post : T → Env} {js : List Nat} {k : T → Option Bool} {g : T → Option D} {elt iter : Expr} {ifs : List Expr} {scope : Scope} {own : List (Str × Nat)}
/-- name = [.. for ..], the name a local -/
theorem ds_setLc {i : Nat} {y : Str} {py : Pos} {spos : Pos} (hc : X.calm = true) (hN : X.N.Nodup) (hy : X.N[i]? = some y) (hyl : X.env.scope.names.lookup y = some .local)
    (hsw : swapsWith (.ListComp elt [⟨tg, iter, ifs, 0⟩] scope pos) (some (.Name y py)) spos.line X.env = pure true) (hi : DI X tg iter ρ m) (ok : BlkOk X.N X.env.scope scope own)
    (hg : ∀ (s : Shared) (H : Hp) (C : Addr) (cl : List (Str × Addr)) (fp : List Addr), DG (X.blk s H scope (compEnvC scope cl C X.env) fp) tg (wipeE ρ (own.map (·.2))) f post js)
    (ht : ∀ (s : Shared) (H : Hp) (C : Addr) (cl : List (Str × Addr)) (fp : List Addr) (t : T), DTs (X.blk s H scope (compEnvC scope cl C X.env) fp) ifs (post t) (k t))
    (he : ∀ (s : Shared) (H : Hp) (C : Addr) (cl : List (Str × Addr)) (fp : List Addr) (t : T), DE (X.blk s H scope (compEnvC scope cl C X.env) fp) elt (post t) (g t))
    (hj : ∀ j ∈ js, j ∈ own.map (·.2)) (hs : ∀ x, foldedSetIterable iter X.env x = pure x) :
    DS X R (.Assign [.Name y py] (.ListComp elt [⟨tg, iter, ifs, 0⟩] scope pos) spos) ρ (nxt (m.bind (compM (turnC f k g)))) (fun ys => ρ.set i (.own ys)) lp :=
  ⟨psI (ps_setLc (own := own) hc hN hy hyl hsw hi.pi ok (fun s H C cl fp => (hg s H C cl fp).pg) (fun s H C cl fp => ptsA fun t => (ht s H C cl fp t).pts) (fun s H C cl fp => peA fun t => (he s H C cl fp t).pe) hs) (by
    intro Dn σ H ⟨B0, H0, B, hh, f', hm, q⟩
    obtain ⟨ys, hd, rfl⟩ := nxt_some hm
    refine tLcD (post := post) (f := f) (k := k) (g := g) (fun _ _ _ h => h) (fun _ _ _ _ h => h) (fun t _ _ _ h => ⟨t, h⟩) (fun t _ _ _ h => ⟨t, h⟩) hj σ H _ ⟨B0, H0, B, hh, ys, hd, fun p vs B1 H1 n1 hp hb he r1 => ?_⟩
    exact q _ B1 H1 (hh.newOwn n1 hp hb he r1) n1.1)⟩
end
/-- an own list gets a change: its object is rewritten -/
theorem Holds.reown {K : PySem.W.Frag} {B0 H0 B H : Hp} {σ : L2.St} {i : Nat} {p : Addr} {us vs : List V} {ds es : List D} (hh : Holds K B0 H0 ρ σ B H) (hi : ρ[i]? = some (.own ds)) (hp : σ[i]? = some (some (.ref p)))
    (h0 : H0 p = none) (hb : B p = none) (hl : H p = some (.lst us)) (r : Reps K B vs es) : Holds K B0 H0 (ρ.set i (.own es)) σ B (upd H p (.lst vs)) := by
  have gs : ∀ {j : Nat} {x : Sl}, (ρ.set i (.own es))[j]? = some x → (j = i ∧ x = .own es) ∨ (j ≠ i ∧ ρ[j]? = some x) := fun {j x} z => by
    rcases getset z with ⟨e1, e2⟩ | z
    · exact .inl ⟨e1, e2.symm⟩
    · exact .inr z
  refine ⟨⟨hh.nx.1, fun a u z => ?_, fun a u z => ?_, hh.nx.2.2.2⟩, by rw [List.length_set]; exact hh.len, fun j d z => ?_, fun j fs z => ?_, fun j ns z => ?_, fun j k fs gs' q z1 z2 z3 z4 => ?_⟩
  · have ne : a ≠ p := ne_of_none z h0
    rw [upd_ne ne]; exact hh.nx.2.1 a u z
  · have ne : a ≠ p := ne_of_none z hb
    rw [upd_ne ne]; exact hh.ex a u z
  · rcases gs z with ⟨_, e2⟩ | ⟨_, z⟩
    · cases e2
    · exact hh.val j d z
  · rcases gs z with ⟨rfl, e2⟩ | ⟨ne, z⟩
    · cases e2
      exact ⟨p, vs, hp, h0, hb, upd_same, r⟩
    · obtain ⟨p', vs', g1, g2, g3, g4, g5⟩ := hh.own j fs z
      have np : p' ≠ p := fun e => ne (hh.apart j i fs ds p' z hi g1 (by rw [e]; exact hp))
      exact ⟨p', vs', g1, g2, g3, by rw [upd_ne np]; exact g4, g5⟩
  · rcases gs z with ⟨_, e2⟩ | ⟨_, z⟩
    · cases e2
    · exact hh.scr j ns z
  · have o1 : ∃ fs, ρ[j]? = some (.own fs) := by
      rcases gs z1 with ⟨e1, _⟩ | ⟨_, y⟩
      · exact ⟨ds, by rw [e1]; exact hi⟩
      · exact ⟨_, y⟩
    have o2 : ∃ fs, ρ[k]? = some (.own fs) := by
      rcases gs z2 with ⟨e1, _⟩ | ⟨_, y⟩
      · exact ⟨ds, by rw [e1]; exact hi⟩
      · exact ⟨_, y⟩
    obtain ⟨f1, o1⟩ := o1
    obtain ⟨f2, o2⟩ := o2
    exact hh.apart j k f1 f2 q o1 o2 z3 z4
/-- x.append(e), x a list of one's own -/
theorem ds_app {i : Nat} {x : Str} {p1 p2 p3 : Pos} {m : Option D} {ds : List D} (hi : ρ[i]? = some (.own ds)) (hN : X.N[i]? = some x) (hv : Vis X.env.scope x) (hd : (x == ("__debug__" : Str)) = false) (hcd : (x == ("__classdict__" : Str)) = false)
    (he : DE X e ρ m) (hq : PE X (.Call (.Attribute (.Name x p1) "append" p2) [e] [] p3) (tBM X.K "list" rAppend (tVar i) (tCons (cT X.K ρ m) tNil)))
    (hs : swapsWith (.Call (.Attribute (.Name x p1) "append" p2) [e] [] p3) none pos.line X.env = pure false) :
    DS X R (.Expr (.Call (.Attribute (.Name x p1) "append" p2) [e] [] p3) pos) ρ (nxt (m.bind fun d => fit (ds.length + 1) d)) (fun d => ρ.set i (.own (ds ++ [d]))) lp := ⟨psI (ps_expr hq hs) (by
  intro Dn σ H ⟨B0, H0, B, hh, f', hm, q⟩
  obtain ⟨d, hd0, rfl⟩ := nxt_some hm
  obtain ⟨d', hd1, hf⟩ := bind_some hd0
  obtain ⟨hz, rfl⟩ := fit_some hf
  obtain ⟨p, vs, g1, g2, g3, g4, g5⟩ := hh.own i ds hi
  refine ⟨.ref p, g1, .inl ⟨rfl, vs, .inl (.inl g4)⟩, B0, H0, B, hh, d', hd1, fun v B1 H1 n1 r1 => ?_⟩
  have k1 : H1 p = some (.lst vs) := n1.2.1 _ _ g4
  have kb : B1 p = none := n1.2.2.2 p (by rw [g4]; simp) g3
  refine ⟨p, vs, v, rfl, rfl, k1, by rw [g5.len]; exact hz, ?_⟩
  exact q _ B1 _ ((hh.step n1).reown hi g1 g2 kb k1 ((g5.up n1.1).app (.cons r1 .nil))) n1.1)⟩
/-- x[i] = e, x a list of one's own -/
theorem ds_seti {i : Nat} {x : Str} {p1 p2 : Pos} {m n : Option D} {ds : List D} (hi : ρ[i]? = some (.own ds)) (hN : X.N[i]? = some x) (hv : Vis X.env.scope x) (hd : (x == ("__debug__" : Str)) = false) (hcd : (x == ("__classdict__" : Str)) = false)
    (he : DE X e ρ m) (hk : DE X a ρ n) (hq : PG X (.Subscript (.Name x p1) a p2) (gSub (tVar i) (cT X.K ρ n) rSetL))
    (hs : swapsWithSole [.Subscript (.Name x p1) a p2] e pos.line X.env = pure false) (hw : swappedStores [.Subscript (.Name x p1) a p2] e X.env = pure none) (h1 : (assignEach [.Subscript (.Name x p1) a p2] X.env).map (·.2) = [assign (.Subscript (.Name x p1) a p2) X.env]) :
    DS X R (.Assign [.Subscript (.Name x p1) a p2] e pos) ρ (nxt (m.bind fun d => n.bind fun k => match k with | .int j => (ixN ds.length j).map fun t => ds.set t d | _ => none)) (fun es => ρ.set i (.own es)) lp := ⟨psI (ps_asg he.pe hq hs hw h1) (by
  intro Dn σ H ⟨B0, H0, B, hh, f', hm, q⟩
  obtain ⟨es, hd, rfl⟩ := nxt_some hm
  obtain ⟨d, hd, hf⟩ := bind_some hd
  obtain ⟨k, hk, hf⟩ := bind_some hf
  obtain ⟨p, vs, g1, g2, g3, g4, g5⟩ := hh.own i ds hi
  refine ⟨B0, H0, B, hh, d, hd, fun v B1 H1 n1 r1 => ⟨.ref p, g1, B0, H0, B1, hh.step n1, k, hk, fun w B2 H2 n2 r2 => ?_⟩⟩
  cases r2 with
  | int j =>
    obtain ⟨t, ht, rfl⟩ := map_some hf
    have k2 : H2 p = some (.lst vs) := n2.2.1 _ _ (n1.2.1 _ _ g4)
    have kb1 : B1 p = none := n1.2.2.2 p (by rw [g4]; simp) g3
    have kb2 : B2 p = none := n2.2.2.2 p (by rw [n1.2.1 _ _ g4]; simp) kb1
    refine ⟨p, vs, j, t, rfl, rfl, k2, by rw [g5.len]; exact ht, ?_⟩
    exact q _ B2 _ (((hh.step n1).step n2).reown hi g1 g2 kb2 k2 ((g5.up (n1.1.trans n2.1)).set (r1.up n2.1) t)) (n1.1.trans n2.1)
  | _ => simp at hf)⟩
/-- an expression alone -/
theorem ds_expr {m : Option D} (he : DE X e ρ m) (hs : swapsWith e none pos.line X.env = pure false) : DS X R (.Expr e pos) ρ (nxt (m.map fun _ => ())) (fun _ => ρ) lp := ⟨psI (ps_expr he.pe hs) (by
  intro Dn σ H ⟨B0, H0, B, hh, f', hm, q⟩
  obtain ⟨es, hd, rfl⟩ := nxt_some hm
  obtain ⟨d, hd, _⟩ := map_some hd
  exact ⟨B0, H0, B, hh, d, hd, fun v B1 H1 n1 r1 => q σ B1 H1 (hh.step n1) n1.1⟩)⟩
theorem ds_pass : DS X R (.Pass pos) ρ (some (.nx ())) (fun _ => ρ) lp := ⟨psI ps_pass (by
  intro Dn σ H ⟨B0, H0, B, hh, f', hm, q⟩
  cases hm
  exact q σ B H hh (Ex.refl B))⟩
theorem ds_if {p q : List Stmt} {post : S → Env} {k : Option Bool} {m n : Option (Fl S L)} (hc : DT X c ρ k) (ha : DB X R p ρ m post lp) (hb : DB X R q ρ n post lp) : DS X R (.If c p q pos) ρ (iteM k m n) post lp := ⟨psI (ps_if hc.pt ha.ps hb.ps) (by
  intro Dn σ H ⟨B0, H0, B, hh, f, hm, q⟩
  obtain ⟨k, hk, hm⟩ := bind_some hm
  refine ⟨B0, H0, B, hh, k, hk, fun B1 H1 n1 => ?_⟩
  have fin : cS X.K R ρ (if k = true then m else n) post lp Dn σ H1 := by
    refine ⟨B0, H0, B1, hh.step n1, f, hm, ?_⟩
    cases f with
    | nx t => exact fun σ'' B'' H'' h'' e' => q σ'' B'' H'' h'' (n1.1.trans e')
    | bk t => exact fun σ'' B'' H'' h'' e' => q σ'' B'' H'' h'' (n1.1.trans e')
    | ct t => exact fun σ'' B'' H'' h'' e' => q σ'' B'' H'' h'' (n1.1.trans e')
    | rt d => exact q
  cases k with
  | true => exact fin
  | false => exact fin)⟩
theorem ds_ret {post : S → Env} {m : Option D} (he : DE X e ρ m) : DS X rV (.Return (some e) pos) ρ (m.map .rt) post lp := ⟨psI (ps_ret he.pe) (by
  intro Dn σ H ⟨B0, H0, B, hh, f, hm, q⟩
  obtain ⟨d, hd, rfl⟩ := map_some hm
  exact ⟨B0, H0, B, hh, d, hd, fun v B1 H1 n1 r1 => q v B1 H1 (hh.nx.trans n1) r1⟩)⟩
theorem ds_retN {post : S → Env} : DS X rV (.Return none pos) ρ (some (.rt .none)) post lp := ⟨psI ps_retN (by
  intro Dn σ H ⟨B0, H0, B, hh, f, hm, q⟩
  cases hm
  exact q .non B H hh.nx .non)⟩
theorem ds_retF {post : S → Env} {m : Option (List D)} (he : DF X e ρ m) : DS X rF (.Return (some e) pos) ρ (m.map fun ds => .rt (.list ds)) post lp := ⟨psI (ps_ret he.pe) (by
  intro Dn σ H ⟨B0, H0, B, hh, f, hm, q⟩
  obtain ⟨d, hd, rfl⟩ := map_some hm
  exact ⟨B0, H0, B, hh, d, hd, fun p vs B1 H1 n1 hp hb he r1 => q d rfl p vs B1 H1 (hh.nx.trans n1) (Ex.none hh.nx.2.1 hp) hb he r1⟩)⟩
/-- return x, x a list of one's own -/
theorem ds_retO {i : Nat} {x : Str} {p1 : Pos} {ds : List D} {post : S → Env} (hi : ρ[i]? = some (.own ds)) (hN : X.N[i]? = some x) (hv : Vis X.env.scope x) (hd : (x == ("__debug__" : Str)) = false) (hcd : (x == ("__classdict__" : Str)) = false) :
    DS X rF (.Return (some (.Name x p1)) pos) ρ (some (.rt (.list ds))) post lp := ⟨psI (ps_ret (pe_var hN hv hd hcd)) (by
  intro Dn σ H ⟨B0, H0, B, hh, f, hm, q⟩
  cases hm
  obtain ⟨p, vs, g1, g2, g3, g4, g5⟩ := hh.own i ds hi
  exact ⟨.ref p, g1, q ds rfl p vs B H hh.nx g2 g3 g4 g5⟩)⟩
theorem ds_brk {post : S → Env} {l : L} (w : Wk ρ (lp l)) : DS X R (.Break pos) ρ (some (.bk l)) post lp := ⟨psI ps_break (by
  intro Dn σ H ⟨B0, H0, B, hh, f, hm, q⟩
  cases hm
  exact q σ B H (hh.wk w) (Ex.refl B))⟩
theorem ds_cnt {post : S → Env} {l : L} (w : Wk ρ (lp l)) : DS X R (.Continue pos) ρ (some (.ct l)) post lp := ⟨psI ps_continue (by
  intro Dn σ H ⟨B0, H0, B, hh, f, hm, q⟩
  cases hm
  exact q σ B H (hh.wk w) (Ex.refl B))⟩
/-- for -/
theorem ds_for {M : Type} {iter : Expr} {body : List Stmt} {m : Option (List D)} {l0 : L} {f : D → Option T} {pt : L → T → Env} {js : List Nat} {F : L → T → Option (Fl L L)} {lq : M → Env} (hp : PassesOwn (model X.prog X.w) X.A X.env X.xe) (hc : X.calm = true)
    (w0 : Wk ρ (lp l0)) (hi : DI X tg iter ρ m) (hg : ∀ l, DG X tg (lp l) f (pt l) js) (hb : ∀ l t, DB X R body (pt l t) (F l t) lp lp) (hs : ∀ x, foldedSetIterable iter X.env x = pure x) :
    DS X R (.For tg iter body [] pos) ρ (m.bind fun ds => (forF (fun d l => (f d).bind fun t => F l t) ds l0 : Option (Fl L M))) lp lq := by
  have hG : PG X tg (fun v σ H Q => ∃ l, gT X.K (lp l) f (pt l) js v σ H Q) := ⟨fun pins s σ H v u Q I r ⟨l, w⟩ => (hg l).pg.run pins s σ H v u Q I r w⟩
  have hB : PSs X body (fun Dn σ H => ∃ l t, cS X.K R (pt l t) (F l t) lp lp Dn σ H) := ⟨fun pins s σ H Dn I ⟨l, t, w⟩ => (hb l t).ps.run pins s σ H Dn I w⟩
  refine ⟨psI (ps_for hp hc hi.pi hG hB hs) ?_⟩
  intro Dn σ H ⟨B0, H0, B, hh, ft, hm, q⟩
  obtain ⟨ds, hx, hf⟩ := bind_some hm
  refine ⟨B0, H0, B, hh, ds, hx, fun J B1 H1 n1 w => ?_⟩
  let P : Nat → L2.St → Hp → Prop := fun i σ' H' => ∃ l Bc, Holds X.K B0 H0 (lp l) σ' Bc H' ∧ Ex B1 Bc ∧ (forF (fun d l => (f d).bind fun t => F l t) (ds.drop i) l : Option (Fl L M)) = some ft
  refine ⟨fun i n σ' H' => n = ds.length - i ∧ i ≤ ds.length ∧ P i σ' H', ⟨ds.length, by simp, Nat.zero_le _, l0, B1, (hh.step n1).wk w0, Ex.refl B1, hf⟩, ?_⟩
  rintro i n σ' H' ⟨rfl, hi, l, Bc, hc', e1, hr⟩
  by_cases hlt : i < ds.length
  · refine .inr ⟨w.go i H' hlt (e1.trans hc'.ex), P (i + 1), fun σ2 H2 p => ⟨ds.length - (i + 1), by omega, rfl, hlt, p⟩, fun x H2 y => ?_⟩
    have hdi : ds[i]? = some ds[i] := by simp [hlt]
    rw [List.drop_eq_getElem_cons hlt] at hr
    obtain ⟨g, hg', hr⟩ := bind_some hr
    obtain ⟨t, ht, hF⟩ := bind_some hg'
    obtain ⟨B2, n2, r2⟩ := w.yl i H' x H2 Bc ds[i] hdi e1 hc'.ex y
    refine ⟨l, B0, H0, B2, ds[i], t, hc'.step n2, r2, ht, fun σ3 _ h3 => ⟨l, t, B0, H0, B2, h3, g, hF, ?_⟩⟩
    cases g with
    | nx l' => exact fun σ'' B'' H'' h'' e' => ⟨l', B'', h'', (e1.trans n2.1).trans e', hr⟩
    | ct l' => exact fun σ'' B'' H'' h'' e' => ⟨l', B'', h'', (e1.trans n2.1).trans e', hr⟩
    | bk l' =>
      cases hr
      exact fun σ'' B'' H'' h'' e' => q σ'' B'' H'' h'' (n1.1.trans ((e1.trans n2.1).trans e'))
    | rt d =>
      cases hr
      exact q
  · have e : i = ds.length := by omega
    subst e
    rw [List.drop_length] at hr
    cases hr
    exact .inl ⟨w.st H' (e1.trans hc'.ex), q σ' Bc H' hc' (n1.1.trans e1)⟩
/-- while -/
theorem ds_while {M : Type} {body : List Stmt} {l0 : L} {k : L → Option Bool} {F : L → Option (Fl L L)} {lq : M → Env} (n : Nat) (hp : PassesOwn (model X.prog X.w) X.A X.env X.xe) (w0 : Wk ρ (lp l0))
    (ht : ∀ l, DT X c (lp l) (k l)) (hb : ∀ l, DB X R body (lp l) (F l) lp lp) : DS X R (.While c body [] pos) ρ (whileF k F n l0 : Option (Fl L M)) lp lq := by
  have hT : PT X c (fun σ H Q => ∃ l, cB X.K (lp l) (k l) σ H Q) := ⟨fun pins s σ H Q I ⟨l, w⟩ => (ht l).pt.run pins s σ H Q I w⟩
  have hB : PSs X body (fun Dn σ H => ∃ l, cS X.K R (lp l) (F l) lp lp Dn σ H) := ⟨fun pins s σ H Dn I ⟨l, w⟩ => (hb l).ps.run pins s σ H Dn I w⟩
  refine ⟨psI (ps_while hp hT hB) ?_⟩
  intro Dn σ H ⟨B0, H0, B, hh, ft, hm, q⟩
  refine ⟨fun i σ' H' => ∃ l Bc, Holds X.K B0 H0 (lp l) σ' Bc H' ∧ Ex B Bc ∧ (whileF k F i l : Option (Fl L M)) = some ft, ⟨n, l0, B, hh.wk w0, Ex.refl B, hm⟩, ?_⟩
  rintro i σ' H' ⟨l, Bc, hc, e1, hr⟩
  cases i with
  | zero => cases hr
  | succ i =>
    obtain ⟨b, hk, hr⟩ := bind_some hr
    refine ⟨l, B0, H0, Bc, hc, b, hk, fun B2 H2 n2 => ?_⟩
    cases b with
    | false =>
      cases hr
      refine L2.iteF ?_
      exact q σ' B2 H2 (hc.step n2) (e1.trans n2.1)
    | true =>
      obtain ⟨g, hF, hr⟩ := bind_some hr
      refine L2.iteT ?_
      refine ⟨fun σ3 H3 => ∃ l Bc, Holds X.K B0 H0 (lp l) σ3 Bc H3 ∧ Ex B Bc ∧ (whileF k F i l : Option (Fl L M)) = some ft, fun σ3 H3 w => ⟨i, Nat.lt_succ_self i, w⟩, l, B0, H0, B2, hc.step n2, g, hF, ?_⟩
      cases g with
      | nx l' => exact fun σ'' B'' H'' h'' e' => ⟨l', B'', h'', (e1.trans n2.1).trans e', hr⟩
      | ct l' => exact fun σ'' B'' H'' h'' e' => ⟨l', B'', h'', (e1.trans n2.1).trans e', hr⟩
      | bk l' =>
        cases hr
        exact fun σ'' B'' H'' h'' e' => q σ'' B'' H'' h'' ((e1.trans n2.1).trans e')
      | rt d =>
        cases hr
        exact q
end

/-! ### own functions -/
def spD (K : PySem.W.Frag) (g : List D → Option D) : Sp := fun vs H Q _ => ∃ B ds d, Ex B H ∧ Reps K B vs ds ∧ g ds = some d ∧ ∀ v B' H', Nx B H B' H' → Rep K B' v d → Q v H'
/-- .. that hands back a new list -/
def spF (K : PySem.W.Frag) (g : List D → Option (List D)) : Sp := fun vs H Q _ => ∃ B ds r, Ex B H ∧ Reps K B vs ds ∧ g ds = some r ∧ ∀ p us B' H', Nx B H B' H' → H p = none → B' p = none → H' p = some (.lst us) → Reps K B' us r → Q (.ref p) H'
def f1 {α : Type} (f : D → Option α) : List D → Option α
  | [a] => f a
  | _ => none
def f2 {α : Type} (f : D → D → Option α) : List D → Option α
  | [a, b] => f a b
  | _ => none
def f3 {α : Type} (f : D → D → D → Option α) : List D → Option α
  | [a, b, c] => f a b c
  | _ => none
def f4 {α : Type} (f : D → D → D → D → Option α) : List D → Option α
  | [a, b, c, d] => f a b c d
  | _ => none
def f5 {α : Type} (f : D → D → D → D → D → Option α) : List D → Option α
  | [a, b, c, d, e] => f a b c d e
  | _ => none
section
variable {X : Cx} {e : Expr} {es : List Expr} {ρ : Env} {pos p : Pos} {k : Nat} {f : Addr} {fd : FuncData} {ps : List Str} {x : Str} {m : Option (List D)}
theorem de_fn {g : List D → Option D} (F : FnOk X.prog X.w X.K X.mg X.base CX0 k f fd ps (spD X.K g)) (hr : Room k X.A) (hg : Gl X x) (hm : X.mg x = some (.ref f)) (hk : PySem.W.keepIn X.K (.ref f) = true) (hb : Binds X.K fd ps [])
    (ha : DA X (e :: es) ρ m) (hdb : (x == ("__debug__" : Str)) = false) (he : starEach (e :: es) X.env = (false, eval e X.env) :: starEach es X.env) (hpl : (backTo pos (starEach es X.env)).any (·.1) = false) :
    DE X (.Call (.Name x p) (e :: es) [] pos) ρ (m.bind g) := ⟨peI (pe_call F hr hg hm hk hb .nil pass0 ha.pa hdb he hpl) (by
  intro σ H Q ⟨B0, H0, B, hh, d', hm, q⟩
  obtain ⟨ds, hx, hf⟩ := bind_some hm
  refine ⟨B0, H0, B, hh, ds, hx, fun vs B1 H1 n1 r1 => ?_⟩
  show spD X.K g (vs ++ []) H1 Q _
  rw [List.append_nil]
  exact ⟨B1, ds, d', n1.2.2.1, r1, hf, fun w B2 H2 n2 r2 => q w B2 H2 (n1.trans n2) r2⟩)⟩
theorem df_fn {g : List D → Option (List D)} (F : FnOk X.prog X.w X.K X.mg X.base CX0 k f fd ps (spF X.K g)) (hr : Room k X.A) (hg : Gl X x) (hm : X.mg x = some (.ref f)) (hk : PySem.W.keepIn X.K (.ref f) = true) (hb : Binds X.K fd ps [])
    (ha : DA X (e :: es) ρ m) (hdb : (x == ("__debug__" : Str)) = false) (he : starEach (e :: es) X.env = (false, eval e X.env) :: starEach es X.env) (hpl : (backTo pos (starEach es X.env)).any (·.1) = false) :
    DF X (.Call (.Name x p) (e :: es) [] pos) ρ (m.bind g) := ⟨peI (pe_call F hr hg hm hk hb .nil pass0 ha.pa hdb he hpl) (by
  intro σ H Q ⟨B0, H0, B, hh, d', hm, q⟩
  obtain ⟨ds, hx, hf⟩ := bind_some hm
  refine ⟨B0, H0, B, hh, ds, hx, fun vs B1 H1 n1 r1 => ?_⟩
  show spF X.K g (vs ++ []) H1 Q _
  rw [List.append_nil]
  exact ⟨B1, ds, d', n1.2.2.1, r1, hf, fun p us B2 H2 n2 hp hb he r2 => q p us B2 H2 (n1.trans n2) (Ex.none n1.2.1 hp) hb he r2⟩)⟩
end
/-- the slots at the entry -/
def startE (N : List Str) (ds : List D) : Env := ds.map .val ++ List.replicate (N.length - ds.length) .no
theorem start_holds {K : PySem.W.Frag} {N : List Str} {B H : Hp} {vs : List V} {ds : List D} (e : Ex B H) (r : Reps K B vs ds) : Holds K B H (startE N ds) (L2.start N vs) B H := by
  have hl := r.len
  have noO : ∀ {i : Nat} {x : Sl}, (startE N ds)[i]? = some x → (∃ d, x = .val d ∧ ds[i]? = some d) ∨ x = .no := fun {i x} h => by
    unfold startE at h
    by_cases hi : i < (ds.map Sl.val).length
    · rw [List.getElem?_append_left hi, List.getElem?_map] at h
      obtain ⟨d, h1, h2⟩ := map_some h
      exact .inl ⟨d, h2.symm, h1⟩
    · rw [List.getElem?_append_right (by omega), List.getElem?_replicate] at h
      split at h
      · exact .inr (Option.some.inj h).symm
      · cases h
  refine ⟨Nx.refl e, by unfold startE L2.start; simp [hl], fun i d h => ?_, fun i d h => ?_, fun i d h => ?_, fun i j ds es p h1 h2 => ?_⟩
  · rcases noO h with ⟨d', e1, e2⟩ | e1
    · cases e1
      obtain ⟨v, h1, h2⟩ := r.at e2
      refine ⟨v, ?_, h2⟩
      unfold L2.start
      have hi : i < (vs.map some).length := by
        have := (List.getElem?_eq_some_iff.mp h1).1
        simpa using this
      rw [List.getElem?_append_left hi, List.getElem?_map, h1]
      rfl
    · cases e1
  · rcases noO h with ⟨d', e1, e2⟩ | e1 <;> cases e1
  · rcases noO h with ⟨d', e1, e2⟩ | e1 <;> cases e1
  · rcases noO h1 with ⟨d', e1, e2⟩ | e1 <;> cases e1
/-- what a body hands back: the end without a return is None -/
def outD (m : Option (Fl Unit Unit)) : Option D := m.bind fun f => match f with
  | .nx _ => some .none
  | .rt d => some d
  | _ => none
def outF (m : Option (Fl Unit Unit)) : Option (List D) := m.bind fun f => match f with
  | .rt (.list ds) => some ds
  | _ => none
section
variable {P : Program} {w : World} {K : PySem.W.Frag} {mg : Str → Option Value} {base : Heap}
theorem fn_D {x qual : Str} {st : Stmt} {f : Addr} {fd : FuncData} {N ps : List Str} {k : Nat} {g : List D → Option D} {m : List D → Option (Fl Unit Unit)} (F : Fun K x qual st f fd) (S : FnScope N ps (defScope st)) (hl : ∀ ds d, g ds = some d → ds.length = ps.length)
    (hg : ∀ ds d, g ds = some d → outD (m ds) = some d)
    (hb : ∀ (cdv : Value) (A : Around) (outer : List PySem.Env) (s : Shared) (H : Hp) (E : XK), Room k (A.deeper (envOfC qual (defScope st) s.heap.objs.size f cdv)) → ∀ ds d, g ds = some d → ∃ po lp, DB (cxOf CX0 P w K mg base N qual (defScope st) f cdv A outer s H E).nox rV (defBody st) (startE N ds) (m ds) po lp) :
    FnOk P w K mg base CX0 (k + 1) f fd ps (spD K g) := by
  refine F.ok S (fun vs H Q E ⟨B, ds, d, e, r, hd, q⟩ => by rw [r.len]; exact hl ds d hd) (fun cdv A outer s H vs Q E hr ⟨B, ds, d, e, r, hd, q⟩ => ?_)
  obtain ⟨po, lp, h⟩ := hb cdv A outer s H E hr ds d hd
  refine ⟨_, h.ps, B, H, B, start_holds e r, ?_⟩
  obtain ⟨fl, h1, h2⟩ := bind_some (hg ds d hd)
  refine ⟨fl, h1, ?_⟩
  cases fl with
  | nx s =>
    cases h2
    exact fun σ' B' H' h' e' => q .non B' H' h'.nx .non
  | rt d' =>
    cases h2
    exact q
  | bk l => cases h2
  | ct l => cases h2
theorem fn_F {x qual : Str} {st : Stmt} {f : Addr} {fd : FuncData} {N ps : List Str} {k : Nat} {g : List D → Option (List D)} {m : List D → Option (Fl Unit Unit)} (F : Fun K x qual st f fd) (S : FnScope N ps (defScope st)) (hl : ∀ ds d, g ds = some d → ds.length = ps.length)
    (hg : ∀ ds d, g ds = some d → outF (m ds) = some d)
    (hb : ∀ (cdv : Value) (A : Around) (outer : List PySem.Env) (s : Shared) (H : Hp) (E : XK), Room k (A.deeper (envOfC qual (defScope st) s.heap.objs.size f cdv)) → ∀ ds d, g ds = some d → ∃ po lp, DB (cxOf CX0 P w K mg base N qual (defScope st) f cdv A outer s H E).nox rF (defBody st) (startE N ds) (m ds) po lp) :
    FnOk P w K mg base CX0 (k + 1) f fd ps (spF K g) := by
  refine F.ok S (fun vs H Q E ⟨B, ds, d, e, r, hd, q⟩ => by rw [r.len]; exact hl ds d hd) (fun cdv A outer s H vs Q E hr ⟨B, ds, d, e, r, hd, q⟩ => ?_)
  obtain ⟨po, lp, h⟩ := hb cdv A outer s H E hr ds d hd
  refine ⟨_, h.ps, B, H, B, start_holds e r, ?_⟩
  obtain ⟨fl, h1, h2⟩ := bind_some (hg ds d hd)
  refine ⟨fl, h1, ?_⟩
  cases fl with
  | nx s => cases h2
  | rt d' =>
    intro ds' e'
    subst e'
    cases h2
    exact q
  | bk l => cases h2
  | ct l => cases h2
end
end Dl

/-! Data layer, part 8: lists of one's own that are read; more sources and calls. -/
namespace Dl
open PySem L2 PySem.Spec PyProof.Rows PySem.W PySem.SeqAt
open Evl (Ex)

/-! ### reading lists of one's own -/
inductive Th : Env → Env → Prop
  | nil : Th [] []
  | k {x : Sl} {r s : Env} : Th r s → Th (x :: r) (x :: s)
  | o {ds : List D} {r s : Env} : Th r s → Th (.own ds :: r) (.val (.list ds) :: s)
theorem Th.at : ∀ {r s : Env}, Th r s → r.length = s.length ∧ ∀ (i : Nat) (x : Sl), s[i]? = some x → r[i]? = some x ∨ ∃ ds, x = .val (.list ds) ∧ r[i]? = some (.own ds)
  | _, _, .nil => ⟨rfl, fun i x h => by simp at h⟩
  | _, _, .k w => ⟨by simp [w.at.1], fun i x h => by
      cases i with
      | zero => exact .inl h
      | succ i => exact w.at.2 i x (by simpa using h)⟩
  | _, _, .o w => ⟨by simp [w.at.1], fun i x h => by
      cases i with
      | zero => exact .inr ⟨_, (Option.some.inj h).symm, rfl⟩
      | succ i => exact w.at.2 i x (by simpa using h)⟩
section
variable {K : PySem.W.Frag} {B0 H0 B H : Hp} {ρ ρ' : Env} {σ : L2.St}
def thw (ρ ρ' : Env) (σ : L2.St) (a : Addr) : Prop := ∃ (i : Nat) (ds : List D), ρ[i]? = some (.own ds) ∧ ρ'[i]? = some (.val (.list ds)) ∧ σ[i]? = some (some (.ref a))
open Classical in
theorem Holds.thaw (hh : Holds K B0 H0 ρ σ B H) (t : Th ρ ρ') : ∃ B1, Holds K B0 H0 ρ' σ B1 H ∧ ∀ B2 H2, Nx B1 H B2 H2 → ∃ B3, Nx B H B3 H2 ∧ ∀ v d, Rep K B2 v d → (∀ ds, d ≠ .list ds ∧ d ≠ .tuple ds) → Rep K B3 v d := by
  have hO : ∀ {a : Addr}, thw ρ ρ' σ a → B a = none ∧ H0 a = none ∧ ∃ vs ds, H a = some (.lst vs) ∧ Reps K B vs ds := fun {a} ⟨i, ds, h1, h2, h3⟩ => by
    obtain ⟨p, vs, g1, g2, g3, g4, g5⟩ := hh.own i ds h1
    rw [h3] at g1; cases g1
    exact ⟨g3, g2, vs, ds, g4, g5⟩
  let B1 : Hp := fun a => if thw ρ ρ' σ a then H a else B a
  have b1y : ∀ {a : Addr}, thw ρ ρ' σ a → B1 a = H a := fun h => if_pos h
  have b1n : ∀ {a : Addr}, ¬ thw ρ ρ' σ a → B1 a = B a := fun h => if_neg h
  have e1 : Ex B B1 := fun a u z => by
    rw [b1n (fun h => by rw [(hO h).1] at z; cases z)]; exact z
  refine ⟨B1, ⟨⟨hh.nx.1.trans e1, hh.nx.2.1, fun a u z => ?_, fun a ha hb => ?_⟩, hh.len.trans t.at.1, fun i d z => ?_, fun i ds z => ?_, fun i ns z => ?_, fun i j ds es p z1 z2 z3 z4 => ?_⟩, fun B2 H2 n => ?_⟩
  · by_cases h : thw ρ ρ' σ a
    · rw [b1y h] at z; exact z
    · rw [b1n h] at z; exact hh.ex a u z
  · rw [b1n fun h => ha (hO h).2.1]; exact hh.nx.2.2.2 a ha hb
  · rcases t.at.2 i _ z with y | ⟨ds, y1, y2⟩
    · obtain ⟨v, g1, g2⟩ := hh.val i d y
      exact ⟨v, g1, g2.up e1⟩
    · cases y1
      obtain ⟨p, vs, g1, g2, g3, g4, g5⟩ := hh.own i ds y2
      exact ⟨.ref p, g1, .lst (by rw [b1y ⟨i, ds, y2, z, g1⟩]; exact g4) (g5.up e1)⟩
  · rcases t.at.2 i _ z with y | ⟨_, y1, _⟩
    · obtain ⟨p, vs, g1, g2, g3, g4, g5⟩ := hh.own i ds y
      have hn : ¬ thw ρ ρ' σ p := fun ⟨j, es, h1, h2, h3⟩ => by
        have e := hh.apart i j ds es p y h1 g1 h3
        subst e
        rw [z] at h2; cases h2
      exact ⟨p, vs, g1, g2, (b1n hn).trans g3, g4, g5.up e1⟩
    · cases y1
  · rcases t.at.2 i _ z with y | ⟨_, y1, _⟩
    · obtain ⟨a, g1, g2⟩ := hh.scr i ns y
      exact ⟨a, g1, Evl.ex_l e1 g2⟩
    · cases y1
  · rcases t.at.2 i _ z1 with y1 | ⟨_, y1, _⟩
    · rcases t.at.2 j _ z2 with y2 | ⟨_, y2, _⟩
      · exact hh.apart i j ds es p y1 y2 z3 z4
      · cases y2
    · cases y1
  · let B3 : Hp := fun a => if thw ρ ρ' σ a then none else B2 a
    have b3y : ∀ {a : Addr}, thw ρ ρ' σ a → B3 a = none := fun h => if_pos h
    have b3n : ∀ {a : Addr}, ¬ thw ρ ρ' σ a → B3 a = B2 a := fun h => if_neg h
    refine ⟨B3, ⟨fun a u z => ?_, n.2.1, fun a u z => ?_, fun a ha hb => ?_⟩, fun v d r hd => ?_⟩
    · have hn : ¬ thw ρ ρ' σ a := fun h => by rw [(hO h).1] at z; cases z
      rw [b3n hn]
      exact n.1 a u (by rw [b1n hn]; exact z)
    · by_cases h : thw ρ ρ' σ a
      · rw [b3y h] at z; cases z
      · rw [b3n h] at z; exact n.2.2.1 a u z
    · by_cases h : thw ρ ρ' σ a
      · exact b3y h
      · rw [b3n h]; exact n.2.2.2 a ha (by rw [b1n h]; exact hb)
    · cases r with
      | non => exact .non
      | bl b => exact .bl b
      | int i => exact .int i
      | str x => exact .str x
      | lst _ _ => exact absurd rfl (hd _).1
      | tup _ _ => exact absurd rfl (hd _).2
end
def flatD : D → Option D
  | .list _ => none
  | .tuple _ => none
  | d => some d
theorem flatD_some {d d' : D} (h : flatD d = some d') : d = d' ∧ ∀ ds, d ≠ .list ds ∧ d ≠ .tuple ds := by
  unfold flatD at h
  split at h
  · cases h
  · cases h
  · cases h
    rename_i a b
    exact ⟨rfl, fun ds => ⟨fun e => a ds e, fun e => b ds e⟩⟩
section
variable {X : Cx} {R : RT} {tg e a b c : Expr} {es : List Expr} {ρ ρ' : Env} {pos : Pos}
/-- a value without parts, read where lists of one's own are taken as they stand -/
theorem de_thaw {m : Option D} (t : Th ρ ρ') (h : DE X e ρ' m) : DE X e ρ (m.bind flatD) := ⟨peI h.pe (by
  intro σ H Q ⟨B0, H0, B, hh, d', hm, q⟩
  obtain ⟨d, hd, hf⟩ := bind_some hm
  obtain ⟨rfl, hn⟩ := flatD_some hf
  obtain ⟨B1, h1, f⟩ := hh.thaw t
  refine ⟨B0, H0, B1, h1, d, hd, fun v B2 H2 n2 r2 => ?_⟩
  obtain ⟨B3, n3, g⟩ := f B2 H2 n2
  exact q v B3 H2 n3 (g v d r2 hn))⟩
theorem dt_thaw {m : Option Bool} (t : Th ρ ρ') (h : DT X e ρ' m) : DT X e ρ m := ⟨ptI h.pt (by
  intro σ H Q ⟨B0, H0, B, hh, d, hd, q⟩
  obtain ⟨B1, h1, f⟩ := hh.thaw t
  refine ⟨B0, H0, B1, h1, d, hd, fun B2 H2 n2 => ?_⟩
  obtain ⟨B3, n3, g⟩ := f B2 H2 n2
  exact q B3 H2 n3)⟩
/-- x[i], x a list of one's own -/
theorem de_oix {i : Nat} {x : Str} {p1 : Pos} {ds : List D} {n : Option D} (hi : ρ[i]? = some (.own ds)) (hN : X.N[i]? = some x) (hv : Vis X.env.scope x) (hd : (x == ("__debug__" : Str)) = false) (hcd : (x == ("__classdict__" : Str)) = false) (hb : DE X b ρ n) (hs : PlainIx b) :
    DE X (.Subscript (.Name x p1) b pos) ρ (n.bind fun k => idxD (.list ds) k) := ⟨peI (pe_ix ix_list (pe_var hN hv hd hcd) hb.pe hs) (by
  intro σ H Q ⟨B0, H0, B, hh, d', hm, q⟩
  obtain ⟨k, hk, hf⟩ := bind_some hm
  obtain ⟨p, vs, g1, g2, g3, g4, g5⟩ := hh.own i ds hi
  refine ⟨.ref p, g1, B0, H0, B, hh, k, hk, fun v B1 H1 n1 r1 => ?_⟩
  cases r1 with
  | int j =>
    obtain ⟨w, e1, e2⟩ := (g5.up n1.1).atI hf
    exact ⟨p, vs, j, w, rfl, rfl, .inl (.inl (n1.2.1 _ _ g4)), e1, q w B1 H1 n1 e2⟩
  | _ => simp [idxD] at hf)⟩
/-- a + b as a new list -/
def catF : D → D → Option (List D)
  | .list a, .list b => fit (a.length + b.length) (a ++ b)
  | _, _ => none
abbrev b2F (m n : Option D) (f : D → D → Option (List D)) : Option (List D) := m.bind fun x => n.bind fun y => f x y
theorem df_add {m n : Option D} (ha : DE X a ρ m) (hb : DE X b ρ n) : DF X (.BinOp a .Add b pos) ρ (b2F m n catF) := ⟨peI (pe_op op_cat ha.pe hb.pe) (by
  intro σ H Q ⟨B0, H0, B, hh, d', hm, q⟩
  obtain ⟨x, hx, hm⟩ := bind_some hm
  obtain ⟨y, hy, hf⟩ := bind_some hm
  refine ⟨B0, H0, B, hh, x, hx, fun v B1 H1 n1 r1 => ⟨B0, H0, B1, hh.step n1, y, hy, fun w B2 H2 n2 r2 => ?_⟩⟩
  cases r1 with
  | @lst l xs ds g1 rr =>
    cases r2 with
    | @lst l2 ys es g2 rr2 =>
      obtain ⟨hz, rfl⟩ := fit_some hf
      refine ⟨l, l2, xs, ys, rfl, rfl, n2.2.1 _ _ (n1.2.2.1 _ _ g1), n2.2.2.1 _ _ g2, by rw [rr.len, rr2.len]; exact hz, fun p hp => ?_⟩
      have n3 := n1.trans n2
      exact q p _ B2 _ (n3.trans (Nx.own n3.2.2.1 hp)) (Ex.none n3.2.1 hp) (Ex.none n3.2.2.1 hp) upd_same ((rr.up n2.1).app rr2)
    | _ => simp [catF] at hf
  | _ => cases r2 <;> simp [catF] at hf)⟩
/-- [..] * k as a new list -/
def repF : D → D → Option (List D)
  | .list a, .int k => if -9223372036854775808 ≤ k ∧ k < 9223372036854775808 ∧ a.length * k.toNat ≤ 16777216 then some (List.replicate k.toNat a).flatten else none
  | _, _ => none
theorem df_mul {m n : Option D} (ha : DE X a ρ m) (hb : DE X b ρ n) : DF X (.BinOp a .Mult b pos) ρ (b2F m n repF) := ⟨peI (pe_op op_rep ha.pe hb.pe) (by
  intro σ H Q ⟨B0, H0, B, hh, d', hm, q⟩
  obtain ⟨x, hx, hm⟩ := bind_some hm
  obtain ⟨y, hy, hf⟩ := bind_some hm
  refine ⟨B0, H0, B, hh, x, hx, fun v B1 H1 n1 r1 => ⟨B0, H0, B1, hh.step n1, y, hy, fun w B2 H2 n2 r2 => ?_⟩⟩
  cases r1 with
  | @lst l xs ds g1 rr =>
    cases r2 with
    | int k =>
      simp only [repF] at hf
      split at hf
      · rename_i hc
        cases hf
        refine ⟨l, k, xs, rfl, rfl, n2.2.1 _ _ (n1.2.2.1 _ _ g1), by omega, by omega, by rw [rr.len, sizeLine_eq]; exact hc.2.2, fun p hp => ?_⟩
        have n3 := n1.trans n2
        exact q p _ B2 _ (n3.trans (Nx.own n3.2.2.1 hp)) (Ex.none n3.2.1 hp) (Ex.none n3.2.2.1 hp) upd_same ((rr.up n2.1).rep _)
      · cases hf
    | _ => simp [repF] at hf
  | _ => cases r2 <;> simp [repF] at hf)⟩

/-! ### chains -/
abbrev ch3 (m n : Option D) (f f' : D → D → Option D) (o : Option D) : Option D := m.bind fun x => n.bind fun y => (f x y).bind fun r => (isB r).bind fun k => if k then o.bind fun z => f' y z else some (.bool false)
theorem tChD {f f' : D → D → Option D} {m n o : Option D} : ∀ (σ : L2.St) (H : Hp) (Q : VK), cT X.K ρ (ch3 m n f f' o) σ H Q → tChain (rD X.K f) (rD X.K f') (cT X.K ρ m) (cT X.K ρ n) (cT X.K ρ o) σ H Q := by
  intro σ H Q ⟨B0, H0, B, hh, d, hm, q⟩
  obtain ⟨x, hx, hm⟩ := bind_some hm
  obtain ⟨y, hy, hm⟩ := bind_some hm
  obtain ⟨r, hr, hm⟩ := bind_some hm
  obtain ⟨k, hk, hm⟩ := bind_some hm
  refine ⟨B0, H0, B, hh, x, hx, fun v B1 H1 n1 r1 => ⟨B0, H0, B1, hh.step n1, y, hy, fun w B2 H2 n2 r2 => ⟨B2, x, y, r, n2.2.2.1, r1.up n2.1, r2, hr, fun u B3 H3 n3 r3 => ⟨k, isB_some r3 hk, ?_⟩⟩⟩⟩
  have n123 := (n1.trans n2).trans n3
  cases k with
  | false =>
    cases hm
    exact L2.iteF (q _ B3 H3 n123 (.bl _))
  | true =>
    obtain ⟨z, hz, hf⟩ := bind_some (show (o.bind fun z => f' y z) = some d from hm)
    refine L2.iteT ?_
    refine ⟨B0, H0, B3, hh.step n123, z, hz, fun t B4 H4 n4 r4 => ⟨B4, y, z, d, n4.2.2.1, r2.up (n3.1.trans n4.1), r4, hf, fun w' B5 H5 n5 r5 => q w' B5 H5 ((n123.trans n4).trans n5) r5⟩⟩
theorem de_chain {op op' : CmpOp} {f f' : D → D → Option D} {m n o : Option D} (ho : OpR X (compareOp op) (rD X.K f)) (ho' : OpR X (compareOp op') (rD X.K f')) (ha : DE X a ρ m) (hb : DE X b ρ n) (hc : DE X c ρ o) (hm : lastMarks [op, op'] [b, c] = false) :
    DE X (.Compare a [op, op'] [b, c] pos) ρ (ch3 m n f f' o) := ⟨peI (pe_chain ho ho' ha.pe hb.pe hc.pe hm) tChD⟩
theorem dt_chain {op op' : CmpOp} {f f' : D → D → Option D} {m n o : Option D} (ho : OpR X (compareOp op) (rD X.K f)) (ho' : OpR X (compareOp op') (rD X.K f')) (ha : DE X a ρ m) (hb : DE X b ρ n) (hc : DE X c ρ o) (hm : lastMarks [op, op'] [b, c] = false) :
    DT X (.Compare a [op, op'] [b, c] pos) ρ ((ch3 m n f f' o).bind isB) := ⟨ptI (pt_chain ho ho' ha.pe hb.pe hc.pe hm) (by
  intro σ H Q ⟨B0, H0, B, hh, d', hm, q⟩
  obtain ⟨x, hx, hf⟩ := bind_some hm
  refine tChD σ H _ ⟨B0, H0, B, hh, x, hx, fun v B1 H1 n1 r1 => ?_⟩
  exact ⟨d', isB_some r1 hf, q B1 H1 n1⟩)⟩

/-! ### more sources -/
def enumL (ds : List D) : List D := ds.zipIdx.map fun p => .tuple [.int p.2, p.1]
def enumD : List D → Option (List D)
  | [.list ds] => fit ds.length (enumL ds)
  | _ => none
theorem enumL_at {ds : List D} {i : Nat} {d : D} (h : (enumL ds)[i]? = some d) : ∃ e, ds[i]? = some e ∧ d = .tuple [.int i, e] := by
  unfold enumL at h
  rw [List.getElem?_map, List.getElem?_zipIdx] at h
  obtain ⟨p, h1, h2⟩ := map_some h
  obtain ⟨e, h3, h4⟩ := map_some h1
  subst h4
  refine ⟨e, h3, ?_⟩
  rw [← h2]
  simp
theorem di_enum {elts : List Expr} {kk : Nat} {tpos p : Pos} {m : Option (List D)} (hg : Gl X "enumerate") (hm : X.mg "enumerate" = none) (ha : DA X [e] ρ m) (hs : starEach [e] X.env = [(false, eval e X.env)]) :
    DI X (.Tuple elts kk tpos) (.Call (.Name "enumerate" p) [e] [] pos) ρ (m.bind enumD) := ⟨⟨fun pins s σ H R I w => by
  obtain ⟨B0, H0, B, hh, ds, hm', q⟩ := w
  obtain ⟨xs, hx, hf⟩ := bind_some hm'
  unfold enumD at hf
  split at hf
  · rename_i es
    obtain ⟨hz, rfl⟩ := fit_some hf
    refine (pi_enum hg hm (ha.pa) hs).run pins s σ H R I ⟨B0, H0, B, hh, _, hx, fun vs B1 H1 n1 r1 => ?_⟩
    obtain ⟨v, rfl, h1⟩ := one_rep r1
    cases h1 with
    | @lst l us _ g1 rr =>
      refine ⟨l, us, rfl, .inl (.inl (n1.2.2.1 _ _ g1)), q _ B1 H1 n1 ⟨?_, fun i H hi e => ?_, fun H e => ?_, fun i H x H' Bc d hd e1 e2 y => ?_⟩⟩
      · simpa [enumL] using hz
      · exact walk_enum.goes i H (by rw [rr.len]; simpa [enumL] using hi) (.inl (.inl (e _ _ g1)))
      · have := (walk_enum (K := X.K) (a := l) (xs := us)).stops H (.inl (.inl (e _ _ g1)))
        rw [rr.len] at this
        simpa [enumL] using this
      · obtain ⟨z, hz, rfl⟩ := enumL_at hd
        have hi := (List.getElem?_eq_some_iff.mp hz).1
        obtain ⟨T, x1, x2, rfl, hT, rfl, f1, f2⟩ := walk_enum.yields i H x H' (by rw [rr.len]; exact hi) (.inl (.inl ((e1.trans e2) _ _ g1))) y
        cases f1
        exact ⟨_, Nx.new e2 hT, Nx.tup (.cons (.int _) (.cons ((atV rr f2 hz).up e1) .nil)) e2 hT⟩
  · cases hf⟩⟩

def revF : List D → Option (List D)
  | [.list ds] => fit ds.length ds.reverse
  | _ => none
theorem di_rev {p : Pos} {m : Option (List D)} (hg : Gl X "reversed") (hm : X.mg "reversed" = none) (ha : DA X [e] ρ m) (hs : starEach [e] X.env = [(false, eval e X.env)]) : DI X tg (.Call (.Name "reversed" p) [e] [] pos) ρ (m.bind revF) := ⟨⟨fun pins s σ H R I w => by
  obtain ⟨B0, H0, B, hh, ds, hm', q⟩ := w
  obtain ⟨xs, hx, hf⟩ := bind_some hm'
  unfold revF at hf
  split at hf
  · rename_i es
    obtain ⟨hz, rfl⟩ := fit_some hf
    refine (pi_reversed hg hm (ha.pa) hs).run pins s σ H R I ⟨B0, H0, B, hh, _, hx, fun vs B1 H1 n1 r1 => ?_⟩
    obtain ⟨v, rfl, h1⟩ := one_rep r1
    cases h1 with
    | @lst l us _ g1 rr =>
      have hl := rr.len
      refine ⟨l, us, rfl, .inl (.inl (n1.2.2.1 _ _ g1)), q _ B1 H1 n1 ⟨by simpa using hz, fun i H hi e => ?_, fun H e => ?_, fun i H x H' Bc d hd e1 e2 y => ?_⟩⟩
      · exact (walk_rev (K := X.K) (a := l) (xs := us)).goes i H (by rw [hl]; simpa using hi) (.inl (.inl (e _ _ g1)))
      · have := (walk_rev (K := X.K) (a := l) (xs := us)).stops H (.inl (.inl (e _ _ g1)))
        rw [hl] at this
        rw [hl]
        simpa using this
      · have hi := (List.getElem?_eq_some_iff.mp hd).1
        rw [List.length_reverse] at hi
        obtain ⟨rfl, hx'⟩ := (walk_rev (K := X.K) (a := l) (xs := us)).yields i H x H' (by rw [hl]; exact hi) (.inl (.inl ((e1.trans e2) _ _ g1))) y
        rw [List.getElem?_reverse hi] at hd
        rw [hl] at hx'
        exact ⟨Bc, Nx.refl e2, (atV rr hx' hd).up e1⟩
  · cases hf⟩⟩
def zipL (xs ys : List D) : List D := (xs.zip ys).map fun p => .tuple [p.1, p.2]
def zipD : List D → Option (List D)
  | [.list xs, .list ys] => fit xs.length (zipL xs ys)
  | _ => none
theorem di_zip {elts : List Expr} {kk : Nat} {tpos p : Pos} {m : Option (List D)} (hg : Gl X "zip") (hm : X.mg "zip" = none) (ha : DA X [a, b] ρ m) (hs : starEach [a, b] X.env = (false, eval a X.env) :: starEach [b] X.env) (hpl : (backTo pos (starEach [b] X.env)).any (·.1) = false) :
    DI X (.Tuple elts kk tpos) (.Call (.Name "zip" p) [a, b] [] pos) ρ (m.bind zipD) := ⟨⟨fun pins s σ H R I w => by
  obtain ⟨B0, H0, B, hh, ds, hm', q⟩ := w
  obtain ⟨xs, hx, hf⟩ := bind_some hm'
  unfold zipD at hf
  split at hf
  · rename_i es fs
    obtain ⟨hz, rfl⟩ := fit_some hf
    refine (pi_zip hg hm (ha.pa) hs hpl).run pins s σ H R I ⟨B0, H0, B, hh, _, hx, fun vs B1 H1 n1 r1 => ?_⟩
    obtain ⟨v, v', rfl, h1, h2⟩ := two_rep r1
    cases h1 with
    | @lst l us _ g1 rr =>
      cases h2 with
      | @lst l2 us2 _ g2 rr2 =>
        have hl := rr.len
        have hl2 := rr2.len
        have hn : (zipL es fs).length = min us.length us2.length := by unfold zipL; rw [List.length_map, List.length_zip, hl, hl2]
        have W := walk_zip (K := X.K) (a := l) (b := l2) (xs := us) (ys := us2) hn
        refine ⟨l, l2, us, us2, rfl, .inl (.inl (n1.2.2.1 _ _ g1)), .inl (.inl (n1.2.2.1 _ _ g2)), q _ B1 H1 n1 ⟨by rw [hn]; omega, fun i H hi e => W.goes i H hi ⟨.inl (.inl (e _ _ g1)), .inl (.inl (e _ _ g2))⟩, fun H e => W.stops H ⟨.inl (.inl (e _ _ g1)), .inl (.inl (e _ _ g2))⟩, fun i H x H' Bc d hd e1 e2 y => ?_⟩⟩
        have hi := (List.getElem?_eq_some_iff.mp hd).1
        obtain ⟨T, x1, x2, rfl, hT, rfl, f1, f2⟩ := W.yields i H x H' hi ⟨.inl (.inl ((e1.trans e2) _ _ g1)), .inl (.inl ((e1.trans e2) _ _ g2))⟩ y
        obtain ⟨d1, k1, k2⟩ := rr.atV f1
        obtain ⟨d2, k3, k4⟩ := rr2.atV f2
        have e : d = .tuple [d1, d2] := by
          unfold zipL at hd
          rw [List.getElem?_map, (List.getElem?_zip_eq_some (z := (d1, d2))).mpr ⟨k1, k3⟩] at hd
          exact (Option.some.inj hd).symm
        subst e
        exact ⟨_, Nx.new e2 hT, Nx.tup (.cons (k2.up e1) (.cons (k4.up e1) .nil)) e2 hT⟩
  · cases hf⟩⟩
/-- list(range(..)) -/
def cR (K : PySem.W.Frag) (ρ : Env) (m : Option (Int × Int)) : L2.St → Hp → (Int → Int → Hp → Prop) → Prop := fun σ H Q => ∃ B0 H0 B, Holds K B0 H0 ρ σ B H ∧ ∃ p, m = some p ∧ ∀ B' H', Nx B H B' H' → Q p.1 p.2 H'
def int1 : List D → Option (Int × Int)
  | [.int j] => some (0, j)
  | _ => none
def int2 : List D → Option (Int × Int)
  | [.int i, .int j] => some (i, j)
  | _ => none
structure DR (X : Cx) (e : Expr) (ρ : Env) (m : Option (Int × Int)) : Prop where
  pr : PRg X e (cR X.K ρ m)
theorem prI {t t' : L2.St → Hp → (Int → Int → Hp → Prop) → Prop} (h : PRg X e t) (f : ∀ σ H Q, t' σ H Q → t σ H Q) : PRg X e t' := fun pins s σ H Q I w => h pins s σ H Q I (f σ H Q w)
theorem dr_1 {p : Pos} {m : Option D} (hg : Gl X "range") (hm : X.mg "range" = none) (ha : DE X a ρ m) (na : starEach [a] X.env = (false, eval a X.env) :: starEach [] X.env) : DR X (.Call (.Name "range" p) [a] [] pos) ρ ((c2 m (some [])).bind int1) := ⟨prI (prg_1 hg hm ha.pe na) (by
  intro σ H Q ⟨B0, H0, B, hh, p', hm, q⟩
  obtain ⟨ds, hd0, hf⟩ := bind_some hm
  obtain ⟨d, hd, hd2⟩ := bind_some hd0
  cases hd2
  refine ⟨B0, H0, B, hh, d, hd, fun v B1 H1 n1 r1 => ?_⟩
  cases r1 <;> simp [int1] at hf
  · subst hf
    exact ⟨_, rfl, q B1 H1 n1⟩)⟩
theorem dr_2 {p : Pos} {m n : Option D} (hg : Gl X "range") (hm : X.mg "range" = none) (ha : DE X a ρ m) (hb : DE X b ρ n) (na : starEach [a, b] X.env = (false, eval a X.env) :: starEach [b] X.env) (nb : starEach [b] X.env = (false, eval b X.env) :: starEach [] X.env) (hpl : (backTo pos (starEach [b] X.env)).any (·.1) = false) : DR X (.Call (.Name "range" p) [a, b] [] pos) ρ ((c2 m (c2 n (some []))).bind int2) := ⟨prI (prg_2 hg hm ha.pe hb.pe na nb hpl) (by
  intro σ H Q ⟨B0, H0, B, hh, p', hm, q⟩
  obtain ⟨ds, hd0, hf⟩ := bind_some hm
  obtain ⟨d, hd, hd2⟩ := bind_some hd0
  obtain ⟨es, he0, hd3⟩ := bind_some hd2
  obtain ⟨e', he, he2⟩ := bind_some he0
  cases he2
  cases hd3
  refine ⟨B0, H0, B, hh, d, hd, fun v B1 H1 n1 r1 => ⟨B0, H0, B1, hh.step n1, e', he, fun w B2 H2 n2 r2 => ?_⟩⟩
  cases r1 <;> cases r2 <;> simp [int2] at hf
  · subst hf
    exact ⟨_, _, rfl, rfl, q B2 H2 (n1.trans n2)⟩)⟩
def rngF (p : Int × Int) : Option (List D) := if (-4611686018427387904 ≤ p.1 ∧ p.1 < 4611686018427387904) ∧ -4611686018427387904 ≤ p.2 ∧ p.2 < 4611686018427387904 then fit (p.2 - p.1).toNat (rangeI p.1 (p.2 - p.1).toNat) else none
theorem reps_rng {K : PySem.W.Frag} {B : Hp} (lo : Int) (f : Nat → V) (h : ∀ i, f i = .int (lo + (i : Int))) : ∀ n : Nat, Reps K B ((List.range n).map f) (rangeI lo n)
  | 0 => .nil
  | n + 1 => by
    unfold rangeI
    rw [List.range_succ, List.map_append, List.map_append]
    exact (reps_rng lo f h n).app (.cons (by rw [h n]; exact .int _) .nil)
theorem df_listRg {p : Pos} {m : Option (Int × Int)} (hc : X.calm = true) (hg : Gl X "list") (hm : X.mg "list" = none) (he : DR X e ρ m) (na : starEach [e] X.env = (false, eval e X.env) :: starEach [] X.env) : DF X (.Call (.Name "list" p) [e] [] pos) ρ (m.bind rngF) := ⟨peI (pe_listRg hc hg hm he.pr na) (by
  intro σ H Q ⟨B0, H0, B, hh, ds, hm, q⟩
  obtain ⟨pr, hd, hf⟩ := bind_some hm
  unfold rngF at hf
  split at hf
  · rename_i hj
    obtain ⟨hz, rfl⟩ := fit_some hf
    have hs : (sizeLine : Nat) = 16777216 := sizeLine_eq
    refine ⟨B0, H0, B, hh, pr, hd, fun B1 H1 n1 => ⟨⟨by omega, by omega, by omega, by omega, by omega⟩, fun p hp => ?_⟩⟩
    exact q p _ B1 _ (n1.trans (Nx.own n1.2.2.1 hp)) (Ex.none n1.2.1 hp) (Ex.none n1.2.2.1 hp) upd_same (reps_rng _ _ (fun _ => rfl) _)
  · cases hf)⟩
/-! ### isinstance -/
def tyName : D → String
  | .none => "NoneType"
  | .bool _ => "bool"
  | .int _ => "int"
  | .str _ => "str"
  | .list _ => "list"
  | .tuple _ => "tuple"
  | .dict _ => "dict"
def insD (T : String) (d : D) : Option D := (kitB (tyName d) T).map .bool
theorem de_isi {T : String} {y : Str} {p p2 : Pos} {m : Option D} (hg : Gl X "isinstance") (hm : X.mg "isinstance" = none) (hg2 : Gl X y) (hm2 : X.mg y = none) (hv2 : bootBuiltins y = some (.type T)) (he : DE X e ρ m) (hn2 : y ≠ "__name__") (hd2 : (y == ("__debug__" : Str)) = false)
    (h1 : starEach [e, .Name y p2] X.env = (false, eval e X.env) :: starEach [.Name y p2] X.env) (h2 : starEach [.Name y p2] X.env = (false, eval (.Name y p2) X.env) :: starEach [] X.env) (hpl : (backTo pos (starEach [.Name y p2] X.env)).any (·.1) = false) :
    DE X (.Call (.Name "isinstance" p) [e, .Name y p2] [] pos) ρ (m.bind (insD T)) := ⟨peI (pe_callB call_isi hg hm PyProof.Rows.boot_isinstance (pa_cons he.pe (pa_cons (pe_bltn (v := .ty T) hg2 hm2 hv2 rfl hn2 hd2) pa_nil h2) h1) (by decide) (by decide) h1 hpl) (by
  intro σ H Q ⟨B0, H0, B, hh, d', hm, q⟩
  obtain ⟨d, hd, hf⟩ := bind_some hm
  obtain ⟨k, hk, rfl⟩ := map_some hf
  refine ⟨B0, H0, B, hh, d, hd, fun v B1 H1 n1 r1 => ?_⟩
  refine ⟨v, .ty T, .type (tyName d), .type T, k, rfl, .ty T, ?_, kit_ty hk, q _ B1 H1 n1 (.bl _)⟩
  cases r1 with
  | non => exact .base .non
  | bl b => exact .base (.bl b)
  | int b => exact .base (.int b)
  | str b => exact .base (.str b)
  | lst g rr => exact .base (.lst (n1.2.2.1 _ _ g))
  | tup g rr =>
    rcases Evl.ex_t n1.2.2.1 g with (g | ⟨o, g⟩) | ⟨o, its, n, g, gc, _⟩
    · exact .base (.tup g)
    · exact .fTuple g
    · exact .kTuple g gc)⟩
end
end Dl

/-! Data layer, part 9: short words for printed derivations. -/
namespace Dl
open PySem L2 PySem.Spec PyProof.Rows PySem.W PySem.SeqAt
open Evl (Ex)

structure Nm (x : Str) : Prop where
  d : (x == ("__debug__" : Str)) = false
  c : (x == ("__classdict__" : Str)) = false

section
variable {X : Cx} {R : RT} {tg e a b c : Expr} {es : List Expr} {ρ : Env} {pos : Pos} {st : Stmt} {sts : List Stmt} {S T L : Type} {lp : L → Env}
theorem de_v {i : Nat} {x : Str} {d : D} (n : Nm x) (hl : look ρ i = some d) (hN : X.N[i]? = some x) (hv : Vis X.env.scope x) : DE X (.Name x pos) ρ (some d) := de_var hl hN hv n.d n.c
theorem de_ox {i : Nat} {x : Str} {p1 : Pos} {ds : List D} {n : Option D} (nm : Nm x) (hi : ρ[i]? = some (.own ds)) (hN : X.N[i]? = some x) (hv : Vis X.env.scope x) (hb : DE X b ρ n) (hs : PlainIx b) :
    DE X (.Subscript (.Name x p1) b pos) ρ (n.bind fun k => idxD (.list ds) k) := de_oix hi hN hv nm.d nm.c hb hs
theorem ds_rO {i : Nat} {x : Str} {p1 : Pos} {ds : List D} {post : S → Env} (n : Nm x) (hi : ρ[i]? = some (.own ds)) (hN : X.N[i]? = some x) (hv : Vis X.env.scope x) :
    DS X rF (.Return (some (.Name x p1)) pos) ρ (some (.rt (.list ds))) post lp := ds_retO hi hN hv n.d n.c
theorem db_at (ρ' : Env) {post : S → Env} {m : Option (Fl S L)} (h : ρ = ρ') (x : DB X R sts ρ' m post lp) : DB X R sts ρ m post lp := h ▸ x
theorem ds_ap {i : Nat} {x : Str} {p1 p2 p3 : Pos} {m : Option D} {ds : List D} (n : Nm x) (hi : ρ[i]? = some (.own ds)) (hN : X.N[i]? = some x) (hv : Vis X.env.scope x) (he : DE X e ρ m)
    (hbase : attributeBase (.Name x p1) "append" X.env (eval (.Name x p1) X.env) = eval (.Name x p1) X.env)
    (hfew : ((backTo p3 (starEach [e] X.env)).all (fun x => !x.1) && (backToKw p3 (keywordEach [] X.env)).all (fun x => x.1.isSome) && decide ([e].length + ([] : List Keyword).length + (if ([] : List Keyword).isEmpty then 0 else 1) < 30)) = true)
    (hline : (p2.endLine == p3.line) = true) (hs : starEach [e] X.env = (false, eval e X.env) :: starEach [] X.env) (hplain : (backTo p3 (starEach [] X.env)).any (·.1) = false)
    (hsw : swapsWith (.Call (.Attribute (.Name x p1) "append" p2) [e] [] p3) none pos.line X.env = pure false) :
    DS X R (.Expr (.Call (.Attribute (.Name x p1) "append" p2) [e] [] p3) pos) ρ (nxt (m.bind fun d => fit (ds.length + 1) d)) (fun d => ρ.set i (.own (ds ++ [d]))) lp :=
  ds_app hi hN hv n.d n.c he (pe_bm PySem.F.plainAttrs_list PySem.F.slot_list_append PySem.F.type_list_append mt_append (pe_var hN hv n.d n.c) (pa_cons he.pe pa_nil hs) hbase hfew hline hs hplain) hsw
def setM (ds : List D) (m n : Option D) : Option (List D) := m.bind fun d => n.bind fun k => match k with
  | .int j => (ixN ds.length j).map fun t => ds.set t d
  | _ => none
theorem ds_st {i : Nat} {x : Str} {p1 p2 : Pos} {m n : Option D} {ds : List D} (nm : Nm x) (hi : ρ[i]? = some (.own ds)) (hN : X.N[i]? = some x) (hv : Vis X.env.scope x) (he : DE X e ρ m) (hk : DE X a ρ n)
    (hs : swapsWithSole [.Subscript (.Name x p1) a p2] e pos.line X.env = pure false) (hw : swappedStores [.Subscript (.Name x p1) a p2] e X.env = pure none) (h1 : (assignEach [.Subscript (.Name x p1) a p2] X.env).map (·.2) = [assign (.Subscript (.Name x p1) a p2) X.env])
    (hq : ∀ {to ti : TE} {t : TSet}, PE X (.Name x p1) to → PE X a ti → PSet X t → PG X (.Subscript (.Name x p1) a p2) (gSub to ti t)) :
    DS X R (.Assign [.Subscript (.Name x p1) a p2] e pos) ρ (nxt (setM ds m n)) (fun es => ρ.set i (.own es)) lp :=
  ds_seti hi hN hv nm.d nm.c he hk (hq (pe_var hN hv nm.d nm.c) hk.pe set_list) hs hw h1
/-- x[a], x[b] = e -/
def setM2 (ds : List D) (m n : Option D) (o : List D → Option D) : Option (List D) := (m.bind un2).bind fun p => (setM ds (some p.1) n).bind fun es => setM es (some p.2) (o es)
theorem ds_st2 {i kt : Nat} {x : Str} {p1 p2 p3 p4 pt : Pos} {m n : Option D} {o : List D → Option D} {ds : List D} (nm : Nm x) (hi : ρ[i]? = some (.own ds)) (hN : X.N[i]? = some x) (hv : Vis X.env.scope x) (hc : X.calm = true) (he : DE X e ρ m) (hk : DE X a ρ n) (hk2 : ∀ es, DE X b (ρ.set i (.own es)) (o es))
    (hq : ∀ {to ti t to' ti' t'}, PE X (.Name x p1) to → PE X a ti → PSet X t → PE X (.Name x p3) to' → PE X b ti' → PSet X t' → PG X (.Tuple [.Subscript (.Name x p1) a p2, .Subscript (.Name x p3) b p4] kt pt) (gTup X.K 2 (gCons (gSub to ti t) (gCons (gSub to' ti' t') gNil))))
    (hs : swapsWithSole [.Tuple [.Subscript (.Name x p1) a p2, .Subscript (.Name x p3) b p4] kt pt] e pos.line X.env = pure false) (hw : swappedStores [.Tuple [.Subscript (.Name x p1) a p2, .Subscript (.Name x p3) b p4] kt pt] e X.env = pure none)
    (h1 : (assignEach [.Tuple [.Subscript (.Name x p1) a p2, .Subscript (.Name x p3) b p4] kt pt] X.env).map (·.2) = [assign (.Tuple [.Subscript (.Name x p1) a p2, .Subscript (.Name x p3) b p4] kt pt) X.env]) :
    DS X R (.Assign [.Tuple [.Subscript (.Name x p1) a p2, .Subscript (.Name x p3) b p4] kt pt] e pos) ρ (nxt (setM2 ds m n o)) (fun es => ρ.set i (.own es)) lp := by
  have hX : PE X b (fun σ H Q => ∃ es, cT X.K (ρ.set i (.own es)) (o es) σ H Q) := ⟨fun pins s σ H Q I ⟨es, w⟩ => (hk2 es).pe.run pins s σ H Q I w⟩
  refine ⟨psI (ps_asg he.pe (hq (pe_var hN hv nm.d nm.c) hk.pe set_list (pe_var hN hv nm.d nm.c) hX set_list) hs hw h1) ?_⟩
  intro Dn σ H ⟨B0, H0, B, hh, f', hm, q⟩
  obtain ⟨es, hd, rfl⟩ := nxt_some hm
  obtain ⟨pr, hd, hf⟩ := bind_some hd
  obtain ⟨d, hd, hu⟩ := bind_some hd
  obtain ⟨es1, g1, g2⟩ := bind_some hf
  obtain ⟨p, vs, k1, k2, k3, k4, k5⟩ := hh.own i ds hi
  refine ⟨B0, H0, B, hh, d, hd, fun v B1 H1 n1 r1 => ?_⟩
  unfold un2 at hu
  split at hu
  · rename_i x1 x2
    cases hu
    cases r1 with
    | @tup t ws _ t1 rr =>
      obtain ⟨v1, v2, rfl, w1, w2⟩ := two_rep rr
      obtain ⟨z1, e1, g1⟩ := bind_some g1
      cases e1
      obtain ⟨j1, hj1, g1⟩ := bind_some g1
      obtain ⟨z2, e2, g2⟩ := bind_some g2
      cases e2
      obtain ⟨j2, hj2, g2⟩ := bind_some g2
      refine ⟨t, [v1, v2], rfl, Evl.ex_t n1.2.2.1 t1, rfl, v1, [v2], rfl, .ref p, k1, B0, H0, B1, hh.step n1, j1, hj1, fun w B2 H2 n2 r2 => ?_⟩
      cases r2 with
      | int c1 =>
        obtain ⟨t1', ht1, rfl⟩ := map_some g1
        have a1 : H2 p = some (.lst vs) := n2.2.1 _ _ (n1.2.1 _ _ k4)
        have b1 : B1 p = none := n1.2.2.2 p (by rw [k4]; simp) k3
        have b2 : B2 p = none := n2.2.2.2 p (by rw [n1.2.1 _ _ k4]; simp) b1
        refine ⟨p, vs, c1, t1', rfl, rfl, a1, by rw [k5.len]; exact ht1, ?_⟩
        have K2 := ((hh.step n1).step n2).reown hi k1 k2 b2 a1 ((k5.up (n1.1.trans n2.1)).set (w1.up n2.1) t1')
        refine ⟨v2, [], rfl, .ref p, k1, _, B0, H0, B2, K2, j2, hj2, fun w' B3 H3 n3 r3 => ?_⟩
        cases r3 with
        | int c2 =>
          obtain ⟨t2', ht2, rfl⟩ := map_some g2
          have hi2 : (ρ.set i (.own (ds.set t1' x1)))[i]? = some (.own (ds.set t1' x1)) := List.getElem?_set_self (List.getElem?_eq_some_iff.mp hi).1
          have a2 : H3 p = some (.lst (vs.set t1' v1)) := n3.2.1 _ _ upd_same
          have b3 : B3 p = none := n3.2.2.2 p (by rw [upd_same]; simp) b2
          refine ⟨p, vs.set t1' v1, c2, t2', rfl, rfl, a2, by rw [List.length_set, k5.len]; rw [List.length_set] at ht2; exact ht2, rfl, ?_⟩
          have K3 := (K2.step n3).reown hi2 k1 k2 b3 a2 ((((k5.up (n1.1.trans n2.1)).set (w1.up n2.1) t1').up n3.1).set (w2.up (n2.1.trans n3.1)) t2')
          rw [List.set_set] at K3
          exact q _ B3 _ K3 ((n1.1.trans n2.1).trans n3.1)
        | _ => simp at g2
      | _ => simp at g1
  · cases hu
def un2L : List D → Option (D × D)
  | [x, y] => some (x, y)
  | _ => none
theorem ds_par {i j : Nat} {x y : Str} {px py pt : Pos} {kt k2 : Nat} {pt2 : Pos} {m : Option (List D)} (hc : X.calm = true) (hN : X.N.Nodup) (hi : X.N[i]? = some x) (hj : X.N[j]? = some y) (hij : i ≠ j)
    (hq : ∀ t, PA X [a, b] t → PS X (.Assign [.Tuple [.Name x px, .Name y py] kt pt] (.Tuple [a, b] k2 pt2) pos) (tPar i j t)) (ha : DA X [a, b] ρ m) :
    DS X R (.Assign [.Tuple [.Name x px, .Name y py] kt pt] (.Tuple [a, b] k2 pt2) pos) ρ (nxt (m.bind un2L)) (fun p => (ρ.set i (.val p.1)).set j (.val p.2)) lp := ⟨psI (hq _ ha.pa) (by
  intro Dn σ H ⟨B0, H0, B, hh, f, hm, q⟩
  obtain ⟨p, hp, rfl⟩ := nxt_some hm
  obtain ⟨ds, hd, hf⟩ := bind_some hp
  refine ⟨B0, H0, B, hh, ds, hd, fun vs B1 H1 n1 r1 => ?_⟩
  unfold un2L at hf
  split at hf
  · cases hf
    obtain ⟨v, v', rfl, g1, g2⟩ := two_rep r1
    exact ⟨v, v', rfl, q _ B1 H1 (((hh.step n1).setv g1).setv g2) n1.1⟩
  · cases hf)⟩

/-! ### methods -/
noncomputable def countD : D → D → Option D
  | .list ds, d => @ite _ (shalAll ds d) (Classical.propDecidable _) (some (.int ((ds.countP fun y => PyData.eqv y d : Nat) : Int))) none
  | _, _ => none
def indexD : D → D → Option D
  | .list ds, d => if shalAll ds d then (dataPlace ds d).map fun j => .int (j : Nat) else none
  | _, _ => none
def rMD (K : PySem.W.Frag) (f : D → D → Option D) : V → List V → Hp → VK → Prop := fun x xs H Q => ∃ y, xs = [y] ∧ rD K f x y H Q
theorem mt_countD (hu : X.A.units + 200 < cLine) : MtR X "list.count" (rMD X.K countD) := by
  intro pins s σ H x xs v us Q I rx rxs ⟨y, e, B, d, d', r, ex, hd, he, hf, q⟩
  subst e
  cases hd with
  | @lst l ws ds h1 rr =>
    simp only [countD] at hf
    split at hf
    · rename_i hc
      cases hf
      cases rx
      obtain ⟨uy, rfl, ry⟩ := rxs.one
      obtain ⟨bs, r1⟩ := he.reads rfl I ex ry
      obtain ⟨its, rv, pl, hz⟩ := I.list (.inl (.inl (ex _ _ h1)))
      obtain ⟨as, ra⟩ := Dp.readsAll I _ _ _ (Reps.dp (Reps.up ex rr)) rv
      exact count_list_data pl.isList (by simpa using ra) r1 (Reps.plain rr) he.plain (shalAll_room hc hu) ⟨.int _, H, I.tok _, ⟨_, rfl⟩, q _ B H (Nx.refl ex) (.int _)⟩
    · cases hf
  | _ => simp [countD] at hf
theorem bmD {id : String} {name : Str} {apos cpos : Pos} {f : D → D → Option D} {m n : Option D} (slot : Slot "list" name id) (hty : typeOf (.builtin id) = pure (.type "method_descriptor")) (hm : MtR X id (rMD X.K f)) (hl : ∀ d e r, f d e = some r → ∃ ds, d = .list ds) (ha : DE X a ρ m) (hb : DE X b ρ n)
    (hbase : attributeBase a name X.env (eval a X.env) = eval a X.env)
    (hfew : ((backTo cpos (starEach [b] X.env)).all (fun x => !x.1) && (backToKw cpos (keywordEach [] X.env)).all (fun x => x.1.isSome) && decide ([b].length + ([] : List Keyword).length + (if ([] : List Keyword).isEmpty then 0 else 1) < 30)) = true)
    (hline : (apos.endLine == cpos.line) = true) (hs : starEach [b] X.env = (false, eval b X.env) :: starEach [] X.env) (hplain : (backTo cpos (starEach [] X.env)).any (·.1) = false) :
    DE X (.Call (.Attribute a name apos) [b] [] cpos) ρ (b2 m n f) := ⟨peI (pe_bm PySem.F.plainAttrs_list slot hty hm ha.pe (pa_cons hb.pe pa_nil hs) hbase hfew hline hs hplain) (by
  intro σ H Q ⟨B0, H0, B, hh, d, hm, q⟩
  obtain ⟨x, hx, hm⟩ := bind_some hm
  obtain ⟨y, hy, hf⟩ := bind_some hm
  obtain ⟨ds, rfl⟩ := hl _ _ _ hf
  refine ⟨B0, H0, B, hh, _, hx, fun v B1 H1 n1 r1 => ?_⟩
  have r1' := r1
  cases r1 with
  | @lst l ws _ h1 rr =>
    refine ⟨.inl ⟨rfl, ws, .inl (.inl (n1.2.2.1 _ _ h1))⟩, B0, H0, B1, hh.step n1, y, hy, fun w B2 H2 n2 r2 => ?_⟩
    exact ⟨w, rfl, B2, _, y, d, n2.2.2.1, r1'.up n2.1, r2, hf, fun u B3 H3 n3 r3 => q u B3 H3 ((n1.trans n2).trans n3) r3⟩)⟩
theorem de_count {apos cpos : Pos} {m n : Option D} (hu : X.A.units + 200 < cLine) (ha : DE X a ρ m) (hb : DE X b ρ n) (hbase : attributeBase a "count" X.env (eval a X.env) = eval a X.env)
    (hfew : ((backTo cpos (starEach [b] X.env)).all (fun x => !x.1) && (backToKw cpos (keywordEach [] X.env)).all (fun x => x.1.isSome) && decide ([b].length + ([] : List Keyword).length + (if ([] : List Keyword).isEmpty then 0 else 1) < 30)) = true)
    (hline : (apos.endLine == cpos.line) = true) (hs : starEach [b] X.env = (false, eval b X.env) :: starEach [] X.env) (hplain : (backTo cpos (starEach [] X.env)).any (·.1) = false) :
    DE X (.Call (.Attribute a "count" apos) [b] [] cpos) ρ (b2 m n countD) := bmD PySem.F.slot_list_count PySem.F.type_list_count (mt_countD hu) (fun d e r h => by cases d <;> simp [countD] at h; exact ⟨_, rfl⟩) ha hb hbase hfew hline hs hplain

/-! ### own functions, bundled -/
structure Callee (P : Program) (w : World) (K : PySem.W.Frag) (mg : Str → Option Value) (base : Heap) (x : Str) (ps : List Str) (k : Nat) (sp : Sp) : Prop where
  ex : ∃ f fd, FnOk P w K mg base CX0 k f fd ps sp ∧ mg x = some (.ref f) ∧ PySem.W.keepIn K (.ref f) = true ∧ Binds K fd ps []
theorem de_call {x : Str} {p : Pos} {ps : List Str} {k : Nat} {g : List D → Option D} {m : Option (List D)} (C : Callee X.prog X.w X.K X.mg X.base x ps k (spD X.K g)) (hr : Room k X.A) (ha : DA X (e :: es) ρ m) (hg : Gl X x) (hdb : (x == ("__debug__" : Str)) = false)
    (he : starEach (e :: es) X.env = (false, eval e X.env) :: starEach es X.env) (hpl : (backTo pos (starEach es X.env)).any (·.1) = false) : DE X (.Call (.Name x p) (e :: es) [] pos) ρ (m.bind g) :=
  let ⟨_, _, F, h1, h2, h3⟩ := C.ex
  de_fn F hr hg h1 h2 h3 ha hdb he hpl
theorem df_call {x : Str} {p : Pos} {ps : List Str} {k : Nat} {g : List D → Option (List D)} {m : Option (List D)} (C : Callee X.prog X.w X.K X.mg X.base x ps k (spF X.K g)) (hr : Room k X.A) (ha : DA X (e :: es) ρ m) (hg : Gl X x) (hdb : (x == ("__debug__" : Str)) = false)
    (he : starEach (e :: es) X.env = (false, eval e X.env) :: starEach es X.env) (hpl : (backTo pos (starEach es X.env)).any (·.1) = false) : DF X (.Call (.Name x p) (e :: es) [] pos) ρ (m.bind g) :=
  let ⟨_, _, F, h1, h2, h3⟩ := C.ex
  df_fn F hr hg h1 h2 h3 ha hdb he hpl
/-- a reader of the script -/
def cellD (ns : List Int) : D → Option D
  | .int k => if 0 ≤ k ∧ k < 64 then some (.int (ns.getD k.toNat 0)) else none
  | _ => none
def spCell (K : PySem.W.Frag) : Sp := fun vs H Q _ => ∃ (a : Addr) (k : Int) (ns : List Int) (B : Hp), vs = [.ref a, .int k] ∧ Ex B H ∧ SqL K B a (ns.map V.int) ∧ ns.length ≤ 63 ∧ 0 ≤ k ∧ k < 64 ∧ ∀ B' H', Nx B H B' H' → Q (.int (ns.getD k.toNat 0)) H'
theorem de_cell {x y : Str} {p p1 : Pos} {ps : List Str} {k i : Nat} {ns : List Int} {m : Option D} (C : Callee X.prog X.w X.K X.mg X.base x ps k (spCell X.K)) (hr : Room k X.A) (n : Nm y) (hn : ns.length ≤ 63) (hi : ρ[i]? = some (.scr ns)) (hN : X.N[i]? = some y) (hv : Vis X.env.scope y) (hb : DE X b ρ m) (hg : Gl X x)
    (hdb : (x == ("__debug__" : Str)) = false) (he : starEach [.Name y p1, b] X.env = (false, eval (.Name y p1) X.env) :: starEach [b] X.env) (he2 : starEach [b] X.env = (false, eval b X.env) :: starEach [] X.env) (hpl : (backTo pos (starEach [b] X.env)).any (·.1) = false) :
    DE X (.Call (.Name x p) [.Name y p1, b] [] pos) ρ (m.bind (cellD ns)) := by
  obtain ⟨f, fd, F, h1, h2, h3⟩ := C.ex
  refine ⟨peI (pe_call F hr hg h1 h2 h3 .nil pass0 (pa_cons (pe_var hN hv n.d n.c) (pa_cons hb.pe pa_nil he2) he) hdb he hpl) ?_⟩
  intro σ H Q ⟨B0, H0, B, hh, d, hm, q⟩
  obtain ⟨x, hx, hf⟩ := bind_some hm
  obtain ⟨a, g1, g2⟩ := hh.scr i ns hi
  refine ⟨.ref a, g1, B0, H0, B, hh, x, hx, fun v B1 H1 n1 r1 => ?_⟩
  cases r1 <;> simp [cellD] at hf
  · obtain ⟨⟨c1, c2⟩, rfl⟩ := hf
    exact ⟨a, _, ns, B1, rfl, n1.2.2.1, Evl.ex_l n1.1 g2, hn, c1, c2, fun B' H' n' => q _ B' H' (n1.trans n') (by rw [List.getD_eq_getElem?_getD]; exact .int _)⟩
end

/-! ### defs -/
section
variable {P : Program} {w : World} {K : PySem.W.Frag} {mg : Str → Option Value} {base : Heap} {α : Type}
theorem f1_len {f : D → Option α} : ∀ ds d, f1 f ds = some d → ds.length = 1
  | [_], _, _ => rfl
  | [], _, h | _ :: _ :: _, _, h => by cases h
theorem f2_len {f : D → D → Option α} : ∀ ds d, f2 f ds = some d → ds.length = 2
  | [_, _], _, _ => rfl
  | [], _, h | [_], _, h | _ :: _ :: _ :: _, _, h => by cases h
theorem f3_len {f : D → D → D → Option α} : ∀ ds d, f3 f ds = some d → ds.length = 3
  | [_, _, _], _, _ => rfl
  | [], _, h | [_], _, h | [_, _], _, h | _ :: _ :: _ :: _ :: _, _, h => by cases h
theorem f4_len {f : D → D → D → D → Option α} : ∀ ds d, f4 f ds = some d → ds.length = 4
  | [_, _, _, _], _, _ => rfl
  | [], _, h | [_], _, h | [_, _], _, h | [_, _, _], _, h | _ :: _ :: _ :: _ :: _ :: _, _, h => by cases h
theorem f5_len {f : D → D → D → D → D → Option α} : ∀ ds d, f5 f ds = some d → ds.length = 5
  | [_, _, _, _, _], _, _ => rfl
  | [], _, h | [_], _, h | [_, _], _, h | [_, _, _], _, h | [_, _, _, _], _, h | _ :: _ :: _ :: _ :: _ :: _ :: _, _, h => by cases h
theorem f1_args {f : D → Option α} {ds : List D} {d : α} (h : f1 f ds = some d) : ∃ a, ds = [a] := by
  match ds, f1_len _ _ h with | [a], _ => exact ⟨a, rfl⟩
theorem f2_args {f : D → D → Option α} {ds : List D} {d : α} (h : f2 f ds = some d) : ∃ a b, ds = [a, b] := by
  match ds, f2_len _ _ h with | [a, b], _ => exact ⟨a, b, rfl⟩
theorem f3_args {f : D → D → D → Option α} {ds : List D} {d : α} (h : f3 f ds = some d) : ∃ a b c, ds = [a, b, c] := by
  match ds, f3_len _ _ h with | [a, b, c], _ => exact ⟨a, b, c, rfl⟩
theorem f4_args {f : D → D → D → D → Option α} {ds : List D} {d : α} (h : f4 f ds = some d) : ∃ a b c e, ds = [a, b, c, e] := by
  match ds, f4_len _ _ h with | [a, b, c, e], _ => exact ⟨a, b, c, e, rfl⟩
theorem f5_args {f : D → D → D → D → D → Option α} {ds : List D} {d : α} (h : f5 f ds = some d) : ∃ a b c e g, ds = [a, b, c, e, g] := by
  match ds, f5_len _ _ h with | [a, b, c, e, g], _ => exact ⟨a, b, c, e, g, rfl⟩
theorem f1_outD {f : D → Option D} {b : D → Option (Fl Unit Unit)} (h : ∀ x, f x = outD (b x)) : ∀ ds d, f1 f ds = some d → outD (f1 b ds) = some d := fun ds d e => by
  obtain ⟨a, rfl⟩ := f1_args e
  exact (h a).symm.trans e
theorem f2_outD {f : D → D → Option D} {b : D → D → Option (Fl Unit Unit)} (h : ∀ x y, f x y = outD (b x y)) : ∀ ds d, f2 f ds = some d → outD (f2 b ds) = some d := fun ds d e => by
  obtain ⟨a, c, rfl⟩ := f2_args e
  exact (h a c).symm.trans e
theorem f3_outD {f : D → D → D → Option D} {b : D → D → D → Option (Fl Unit Unit)} (h : ∀ x y z, f x y z = outD (b x y z)) : ∀ ds d, f3 f ds = some d → outD (f3 b ds) = some d := fun ds d e => by
  obtain ⟨a, c, g, rfl⟩ := f3_args e
  exact (h a c g).symm.trans e
theorem f4_outD {f : D → D → D → D → Option D} {b : D → D → D → D → Option (Fl Unit Unit)} (h : ∀ x y z u, f x y z u = outD (b x y z u)) : ∀ ds d, f4 f ds = some d → outD (f4 b ds) = some d := fun ds d e => by
  obtain ⟨a, c, g, k, rfl⟩ := f4_args e
  exact (h a c g k).symm.trans e
theorem f5_outD {f : D → D → D → D → D → Option D} {b : D → D → D → D → D → Option (Fl Unit Unit)} (h : ∀ x y z u v, f x y z u v = outD (b x y z u v)) : ∀ ds d, f5 f ds = some d → outD (f5 b ds) = some d := fun ds d e => by
  obtain ⟨a, c, g, k, l, rfl⟩ := f5_args e
  exact (h a c g k l).symm.trans e
theorem f1_outF {f : D → Option (List D)} {b : D → Option (Fl Unit Unit)} (h : ∀ x, f x = outF (b x)) : ∀ ds d, f1 f ds = some d → outF (f1 b ds) = some d := fun ds d e => by
  obtain ⟨a, rfl⟩ := f1_args e
  exact (h a).symm.trans e
theorem f2_outF {f : D → D → Option (List D)} {b : D → D → Option (Fl Unit Unit)} (h : ∀ x y, f x y = outF (b x y)) : ∀ ds d, f2 f ds = some d → outF (f2 b ds) = some d := fun ds d e => by
  obtain ⟨a, c, rfl⟩ := f2_args e
  exact (h a c).symm.trans e
theorem f3_outF {f : D → D → D → Option (List D)} {b : D → D → D → Option (Fl Unit Unit)} (h : ∀ x y z, f x y z = outF (b x y z)) : ∀ ds d, f3 f ds = some d → outF (f3 b ds) = some d := fun ds d e => by
  obtain ⟨a, c, g, rfl⟩ := f3_args e
  exact (h a c g).symm.trans e
theorem f4_outF {f : D → D → D → D → Option (List D)} {b : D → D → D → D → Option (Fl Unit Unit)} (h : ∀ x y z u, f x y z u = outF (b x y z u)) : ∀ ds d, f4 f ds = some d → outF (f4 b ds) = some d := fun ds d e => by
  obtain ⟨a, c, g, k, rfl⟩ := f4_args e
  exact (h a c g k).symm.trans e
theorem f5_outF {f : D → D → D → D → D → Option (List D)} {b : D → D → D → D → D → Option (Fl Unit Unit)} (h : ∀ x y z u v, f x y z u v = outF (b x y z u v)) : ∀ ds d, f5 f ds = some d → outF (f5 b ds) = some d := fun ds d e => by
  obtain ⟨a, c, g, k, l, rfl⟩ := f5_args e
  exact (h a c g k l).symm.trans e
theorem fn_none {f : Addr} {fd : FuncData} {k : Nat} {ps : List Str} {g : List D → Option D} (h : ∀ ds, g ds = none) : FnOk P w K mg base CX0 k f fd ps (spD K g) :=
  ⟨fun vs H Q E ⟨B, ds, d, _, _, e, _⟩ => by (rw [h ds] at e; cases e), fun A outer s H args us vs Q E _ _ _ _ ⟨B, ds, d, _, _, e, _⟩ => by (rw [h ds] at e; cases e)⟩
/-- the law's promise -/
def spLaw (K : PySem.W.Frag) (g : List Int → Option D) : Sp := fun vs H Q _ => ∃ a ns, vs = [.ref a] ∧ SqL K H a (ns.map V.int) ∧ ns.length ≤ 63 ∧ g ns = some (.bool true) ∧ ∀ H', Q (.bl true) H'
theorem fn_law {x qual : Str} {st : Stmt} {f : Addr} {fd : FuncData} {N : List Str} {sc : Str} {k : Nat} {g : List Int → Option D} {m : List Int → Option (Fl Unit Unit)} (F : Fun K x qual st f fd) (S : FnScope N [sc] (defScope st)) (hg : ∀ ns, g ns = outD (m ns))
    (hb : ∀ (cdv : Value) (A : Around) (outer : List PySem.Env) (s : Shared) (H : Hp) (E : XK), Room k (A.deeper (envOfC qual (defScope st) s.heap.objs.size f cdv)) → ∀ ns : List Int, ns.length ≤ 63 → ∃ po lp, DB (cxOf CX0 P w K mg base N qual (defScope st) f cdv A outer s H E).nox rV (defBody st) (.scr ns :: List.replicate (N.length - 1) .no) (m ns) po lp) :
    FnOk P w K mg base CX0 (k + 1) f fd [sc] (spLaw K g) := by
  refine F.ok S (fun vs H Q E ⟨a, ns, h, _⟩ => by rw [h]; rfl) (fun cdv A outer s H vs Q E hr ⟨a, ns, e, hs, hl, hd, q⟩ => ?_)
  subst e
  obtain ⟨po, lp, h⟩ := hb cdv A outer s H E hr ns hl
  have hN : 1 ≤ N.length := by
    have := S.pre
    have h2 := congrArg List.length this
    simp at h2
    omega
  have hh : Holds K H H (.scr ns :: List.replicate (N.length - 1) .no) (L2.start N [.ref a]) H H := by
    have noO : ∀ {i : Nat} {x : Sl}, ((.scr ns : Sl) :: List.replicate (N.length - 1) .no)[i]? = some x → (i = 0 ∧ x = .scr ns) ∨ x = .no := fun {i x} h => by
      cases i with
      | zero => exact .inl ⟨rfl, (Option.some.inj h).symm⟩
      | succ i =>
        rw [List.getElem?_cons_succ, List.getElem?_replicate] at h
        split at h
        · exact .inr (Option.some.inj h).symm
        · cases h
    refine ⟨Nx.refl (Ex.refl H), by unfold L2.start; simp, fun i d h => ?_, fun i d h => ?_, fun i d h => ?_, fun i j ds es p h1 h2 => ?_⟩
    · rcases noO h with ⟨_, e⟩ | e <;> cases e
    · rcases noO h with ⟨_, e⟩ | e <;> cases e
    · rcases noO h with ⟨rfl, e⟩ | e
      · cases e; exact ⟨a, rfl, hs⟩
      · cases e
    · rcases noO h1 with ⟨_, e⟩ | e <;> cases e
  refine ⟨_, h.ps, H, H, H, hh, ?_⟩
  rw [hg ns] at hd
  obtain ⟨fl, h1, h2⟩ := bind_some hd
  refine ⟨fl, h1, ?_⟩
  cases fl with
  | nx s => cases h2
  | rt d' =>
    cases h2
    intro v B' H' n r
    cases r
    exact q H'
  | bk l => cases h2
  | ct l => cases h2
end
end Dl

/-! Data layer, part 10: functions that hand back a tuple with a list of its own; the caller changes that list. -/
namespace Dl
open PySem L2 PySem.Spec PyProof.Rows PySem.W PySem.SeqAt
open Evl (Ex)

/-- v is a tuple (in B) whose k-th item is a list that did not stand in H -/
def FreshAt (K : PySem.W.Frag) (B H : Hp) (k : Nat) (d : D) (v : V) : Prop := ∃ a xs p ws ds, d = .tuple ds ∧ Reps K B xs ds ∧ v = .ref a ∧ B a = some (.tup xs) ∧ xs[k]? = some (.ref p) ∧ H p = none ∧ B p = some (.lst ws)
def outT (m : Option (Fl Unit Unit)) : Option D := m.bind fun f => match f with
  | .rt d => some d
  | _ => none
def rN (k : Nat) : RT := fun K B0 H0 d kk => ∀ v B' H', Nx B0 H0 B' H' → Rep K B' v d → FreshAt K B' H0 k d v → kk v H'
def spN (K : PySem.W.Frag) (k : Nat) (g : List D → Option D) : Sp := fun vs H Q _ => ∃ B ds d, Ex B H ∧ Reps K B vs ds ∧ g ds = some d ∧ ∀ v B' H', Nx B H B' H' → Rep K B' v d → FreshAt K B' H k d v → Q v H'
/-- the items of a tuple, the k-th a list of one's own -/
def cAN (K : PySem.W.Frag) (ρ : Env) (k : Nat) (m : Option (List D)) : TA := fun σ H Q => ∃ B0 H0 B, Holds K B0 H0 ρ σ B H ∧ ∃ ds, m = some ds ∧
  ∀ vs B' H', Nx B0 H0 B' H' → Ex B B' → Reps K B' vs ds → (∃ p ws, vs[k]? = some (.ref p) ∧ H0 p = none ∧ B' p = some (.lst ws)) → Q vs H'
structure DAN (X : Cx) (es : List Expr) (ρ : Env) (k : Nat) (m : Option (List D)) : Prop where
  pa : PA X es (cAN X.K ρ k m)
section
variable {X : Cx} {e : Expr} {es : List Expr} {ρ : Env} {pos : Pos} {k : Nat}
theorem dan_later {m : Option D} {n : Option (List D)} (ha : DE X e ρ m) (hr : DAN X es ρ k n) (hs : starEach (e :: es) X.env = (false, eval e X.env) :: starEach es X.env) : DAN X (e :: es) ρ (k + 1) (c2 m n) := ⟨paI (pa_cons ha.pe hr.pa hs) (by
  intro σ H Q ⟨B0, H0, B, hh, d', hm, q⟩
  obtain ⟨x, hx, hm⟩ := bind_some hm
  obtain ⟨xs, hy, hf⟩ := bind_some hm
  cases hf
  exact ⟨B0, H0, B, hh, x, hx, fun v B1 H1 n1 r1 => ⟨B0, H0, B1, hh.step n1, xs, hy, fun vs B2 H2 n2 x2 r2 f2 => q (v :: vs) B2 H2 n2 (n1.1.trans x2) (.cons (r1.up x2) r2) f2⟩⟩)⟩
theorem dan_new {m : Option (List D)} {n : Option (List D)} (ha : DF X e ρ m) (hr : DA X es ρ n) (hs : starEach (e :: es) X.env = (false, eval e X.env) :: starEach es X.env) : DAN X (e :: es) ρ 0 (c2 (m.map .list) n) := ⟨paI (pa_cons ha.pe hr.pa hs) (by
  intro σ H Q ⟨B0, H0, B, hh, d', hm, q⟩
  obtain ⟨x, hx, hm⟩ := bind_some hm
  obtain ⟨ys, hx1, rfl⟩ := map_some hx
  obtain ⟨xs, hy, hf⟩ := bind_some hm
  cases hf
  refine ⟨B0, H0, B, hh, ys, hx1, fun p vs B1 H1 n1 hp hb he r1 => ?_⟩
  have nf := n1.freeze hp hb he
  refine ⟨B0, H0, _, hh.step nf, xs, hy, fun us B2 H2 n2 r2 => ?_⟩
  have hl : B2 p = some (.lst vs) := n2.1 _ _ upd_same
  exact q (.ref p :: us) B2 H2 ((hh.nx.trans nf).trans n2) (nf.1.trans n2.1) (.cons (.lst hl (r1.up ((Ex.new hb).trans n2.1))) r2) ⟨p, vs, rfl, Ex.none hh.nx.2.1 hp, hl⟩)⟩
theorem Holds.frz {K : PySem.W.Frag} {B0 H0 B H : Hp} {σ : L2.St} {i : Nat} {ds : List D} {p : Addr} {vs : List V} (hh : Holds K B0 H0 ρ σ B H) (hi : ρ[i]? = some (.own ds)) (h1 : σ[i]? = some (some (.ref p))) (h2 : H0 p = none) (h3 : B p = none) (h4 : H p = some (.lst vs)) (h5 : Reps K B vs ds) :
    Holds K B0 H0 (ρ.set i (.val (.list ds))) σ (upd B p (.lst vs)) H := by
  have hE : Ex B (upd B p (.lst vs)) := Ex.new h3
  have nn : Nx B0 H0 (upd B p (.lst vs)) H := by
    refine ⟨hh.nx.1.trans hE, hh.nx.2.1, fun a u z => ?_, fun a ha hb => ?_⟩
    · by_cases e : a = p
      · subst e; rw [upd_same] at z; rw [h4]; exact z
      · rw [upd_ne e] at z; exact hh.ex a u z
    · have e : a ≠ p := fun z => ha (by rw [z]; exact h2)
      rw [upd_ne e]; exact hh.nx.2.2.2 a ha hb
  have gs : ∀ {j : Nat} {x : Sl}, (ρ.set i (.val (.list ds)))[j]? = some x → (j = i ∧ x = .val (.list ds)) ∨ (j ≠ i ∧ ρ[j]? = some x) := fun {j x} z => by
    rcases getset z with ⟨e1, e2⟩ | z
    · exact .inl ⟨e1, e2.symm⟩
    · exact .inr z
  refine ⟨nn, by rw [List.length_set]; exact hh.len, fun j d z => ?_, fun j es z => ?_, fun j ns z => ?_, fun j k es fs r z1 z2 z3 z4 => ?_⟩
  · rcases gs z with ⟨rfl, e2⟩ | ⟨_, z⟩
    · cases e2
      exact ⟨_, h1, .lst upd_same (h5.up hE)⟩
    · obtain ⟨v, g1, g2⟩ := hh.val j d z
      exact ⟨v, g1, g2.up hE⟩
  · rcases gs z with ⟨_, e2⟩ | ⟨ne, z⟩
    · cases e2
    · obtain ⟨p', vs', g1, g2, g3, g4, g5⟩ := hh.own j es z
      have np : p' ≠ p := fun e => ne (hh.apart j i es ds p' z hi g1 (by rw [e]; exact h1))
      exact ⟨p', vs', g1, g2, by rw [upd_ne np]; exact g3, g4, g5.up hE⟩
  · rcases gs z with ⟨_, e2⟩ | ⟨ne, z⟩
    · cases e2
    · obtain ⟨a, g1, g2⟩ := hh.scr j ns z
      exact ⟨a, g1, Evl.ex_l hE g2⟩
  · rcases gs z1 with ⟨_, e2⟩ | ⟨_, y1⟩
    · cases e2
    · rcases gs z2 with ⟨_, e2⟩ | ⟨_, y2⟩
      · cases e2
      · exact hh.apart j k es fs r y1 y2 z3 z4
theorem dan_own {i : Nat} {x : Str} {p1 : Pos} {ds : List D} {n : Option (List D)} (nm : Nm x) (hi : ρ[i]? = some (.own ds)) (hN : X.N[i]? = some x) (hv : Vis X.env.scope x) (hr : DA X es (ρ.set i (.val (.list ds))) n)
    (hs : starEach (.Name x p1 :: es) X.env = (false, eval (.Name x p1) X.env) :: starEach es X.env) : DAN X (.Name x p1 :: es) ρ 0 (c2 (some (.list ds)) n) := ⟨paI (pa_cons (pe_var hN hv nm.d nm.c) hr.pa hs) (by
  intro σ H Q ⟨B0, H0, B, hh, d', hm, q⟩
  obtain ⟨x, hx, hm⟩ := bind_some hm
  cases hx
  obtain ⟨xs, hy, hf⟩ := bind_some hm
  cases hf
  obtain ⟨p, vs, h1, h2, h3, h4, h5⟩ := hh.own i ds hi
  have hE : Ex B (upd B p (.lst vs)) := Ex.new h3
  refine ⟨.ref p, h1, B0, H0, _, hh.frz hi h1 h2 h3 h4 h5, xs, hy, fun us B2 H2 n2 r2 => ?_⟩
  have hl : B2 p = some (.lst vs) := n2.1 _ _ upd_same
  exact q (.ref p :: us) B2 H2 ((hh.frz hi h1 h2 h3 h4 h5).nx.trans n2) (hE.trans n2.1) (.cons (.lst hl (h5.up (hE.trans n2.1))) r2) ⟨p, vs, rfl, h2, hl⟩)⟩
variable {S L : Type} {R : RT} {lp : L → Env} {x : Str} {p : Pos} {f : Addr} {fd : FuncData} {ps : List Str}
theorem ds_retT {kk : Nat} {post : S → Env} {m : Option (List D)} (h : DAN X es ρ k m) : DS X (rN k) (.Return (some (.Tuple es kk p)) pos) ρ ((m.bind fun xs => fit xs.length (.tuple xs)).map .rt) post lp := ⟨psI (ps_ret (pe_tup h.pa)) (by
  intro Dn σ H ⟨B0, H0, B, hh, f, hm, q⟩
  obtain ⟨d, hd, rfl⟩ := map_some hm
  obtain ⟨xs, hx, hf⟩ := bind_some hd
  obtain ⟨hz, rfl⟩ := fit_some hf
  refine ⟨B0, H0, B, hh, xs, hx, fun vs B1 H1 n1 _ r1 ⟨p, ws, f1, f2, f3⟩ => ⟨by rw [r1.len]; exact hz, fun a ha => ?_⟩⟩
  have hb : B1 a = none := Ex.none n1.2.2.1 ha
  refine q _ _ _ (n1.trans (Nx.new n1.2.2.1 ha)) (Nx.tup r1 n1.2.2.1 ha) ⟨a, vs, p, ws, xs, rfl, r1.up (Ex.new hb), rfl, upd_same, f1, f2, ?_⟩
  have hne : p ≠ a := fun e => by rw [e, hb] at f3; cases f3
  rw [upd_ne hne]; exact f3)⟩
theorem fn_N {P : Program} {w : World} {K : PySem.W.Frag} {mg : Str → Option Value} {base : Heap} {j : Nat} {x qual : Str} {st : Stmt} {f : Addr} {fd : FuncData} {N ps : List Str} {k : Nat} {g : List D → Option D} {m : List D → Option (Fl Unit Unit)} (F : Fun K x qual st f fd) (S : FnScope N ps (defScope st)) (hl : ∀ ds d, g ds = some d → ds.length = ps.length)
    (hg : ∀ ds d, g ds = some d → outT (m ds) = some d)
    (hb : ∀ (cdv : Value) (A : Around) (outer : List PySem.Env) (s : Shared) (H : Hp) (E : XK), Room k (A.deeper (envOfC qual (defScope st) s.heap.objs.size f cdv)) → ∀ ds d, g ds = some d → ∃ po lp, DB (cxOf CX0 P w K mg base N qual (defScope st) f cdv A outer s H E).nox (rN j) (defBody st) (startE N ds) (m ds) po lp) :
    FnOk P w K mg base CX0 (k + 1) f fd ps (spN K j g) := by
  refine F.ok S (fun vs H Q E ⟨B, ds, d, e, r, hd, q⟩ => by rw [r.len]; exact hl ds d hd) (fun cdv A outer s H vs Q E hr ⟨B, ds, d, e, r, hd, q⟩ => ?_)
  obtain ⟨po, lp, h⟩ := hb cdv A outer s H E hr ds d hd
  refine ⟨_, h.ps, B, H, B, start_holds e r, ?_⟩
  obtain ⟨fl, h1, h2⟩ := bind_some (hg ds d hd)
  refine ⟨fl, h1, ?_⟩
  cases fl with
  | nx s => cases h2
  | rt d' => cases h2; exact q
  | bk l => cases h2
  | ct l => cases h2
/-- what the caller of such a function has -/
def cN (K : PySem.W.Frag) (ρ : Env) (k : Nat) (m : Option D) : TE := fun σ H Q => ∃ B0 H0 B, Holds K B0 H0 ρ σ B H ∧ ∃ d, m = some d ∧ ∀ v B' H', Nx B H B' H' → Rep K B' v d → FreshAt K B' H k d v → Q v H'
structure DN (X : Cx) (e : Expr) (ρ : Env) (k : Nat) (m : Option D) : Prop where
  pe : PE X e (cN X.K ρ k m)
theorem FreshAt.old {K : PySem.W.Frag} {B H H1 : Hp} {v : V} {d : D} (f : FreshAt K B H1 k d v) (e : Ex H H1) : FreshAt K B H k d v := by
  obtain ⟨a, xs, p, ws, ds, g1, g2, h1, h2, h3, h4, h5⟩ := f
  exact ⟨a, xs, p, ws, ds, g1, g2, h1, h2, h3, Ex.none e h4, h5⟩
theorem dn_call {j : Nat} {g : List D → Option D} {m : Option (List D)} (C : Callee X.prog X.w X.K X.mg X.base x ps j (spN X.K k g)) (hr : Room j X.A) (ha : DA X (e :: es) ρ m) (hg : Gl X x) (hdb : (x == ("__debug__" : Str)) = false)
    (he : starEach (e :: es) X.env = (false, eval e X.env) :: starEach es X.env) (hpl : (backTo pos (starEach es X.env)).any (·.1) = false) : DN X (.Call (.Name x p) (e :: es) [] pos) ρ k (m.bind g) :=
  let ⟨_, _, F, h1, h2, h3⟩ := C.ex
  ⟨peI (pe_call F hr hg h1 h2 h3 .nil pass0 ha.pa hdb he hpl) (by
  intro σ H Q ⟨B0, H0, B, hh, d', hm, q⟩
  obtain ⟨ds, hx, hf⟩ := bind_some hm
  refine ⟨B0, H0, B, hh, ds, hx, fun vs B1 H1 n1 r1 => ?_⟩
  show spN X.K k g (vs ++ []) H1 Q _
  rw [List.append_nil]
  exact ⟨B1, ds, d', n1.2.2.1, r1, hf, fun w B2 H2 n2 r2 f2 => q w B2 H2 (n1.trans n2) r2 (f2.old n1.2.1)⟩)⟩
theorem Callee.plain {P : Program} {w : World} {K : PySem.W.Frag} {mg : Str → Option Value} {base : Heap} {j : Nat} {g : List D → Option D} (C : Callee P w K mg base x ps j (spN K k g)) : Callee P w K mg base x ps j (spD K g) :=
  let ⟨f, fd, F, h1, h2, h3⟩ := C.ex
  ⟨f, fd, F.imp fun vs H Q E ⟨B, ds, d, q1, q2, q3, q4⟩ => ⟨B, ds, d, q1, q2, q3, fun v B' H' n r _ => q4 v B' H' n r⟩, h1, h2, h3⟩
/-- the change: the list in the k-th place takes one more -/
def appN (k : Nat) (d : D) : Option Unit := match d with
  | .tuple ds => match ds[k]? with
    | some (.list es) => fit (es.length + 1) ()
    | _ => none
  | _ => none
theorem Holds.late {K : PySem.W.Frag} {B0 H0 B H H' : Hp} {σ : L2.St} (hh : Holds K B0 H0 ρ σ B H) (e : Ex H H') : Holds K B0 H0 ρ σ B H' := hh.step ⟨Ex.refl B, e, hh.ex.trans e, fun _ _ h => h⟩
theorem Holds.junk {K : PySem.W.Frag} {B0 H0 B H : Hp} {σ : L2.St} (hh : Holds K B0 H0 ρ σ B H) (i : Nat) (o : Option V) : Holds K B0 H0 (ρ.set i .no) (σ.set i o) B H where
  nx := hh.nx
  len := by rw [List.length_set, List.length_set]; exact hh.len
  val := fun j d e => by
    rcases getset e with ⟨_, z⟩ | ⟨ne, z⟩
    · cases z
    · rw [List.getElem?_set_ne (fun z => ne z.symm)]; exact hh.val j d z
  own := fun j d e => by
    rcases getset e with ⟨_, z⟩ | ⟨ne, z⟩
    · cases z
    · rw [List.getElem?_set_ne (fun z => ne z.symm)]; exact hh.own j d z
  scr := fun j d e => by
    rcases getset e with ⟨_, z⟩ | ⟨ne, z⟩
    · cases z
    · rw [List.getElem?_set_ne (fun z => ne z.symm)]; exact hh.scr j d z
  apart := fun j k es fs r q1 q2 q3 q4 => by
    rcases getset q1 with ⟨_, z⟩ | ⟨n1, z1⟩
    · cases z
    rcases getset q2 with ⟨_, z⟩ | ⟨n2, z2⟩
    · cases z
    rw [List.getElem?_set_ne (fun z => n1 z.symm)] at q3
    rw [List.getElem?_set_ne (fun z => n2 z.symm)] at q4
    exact hh.apart j k es fs r z1 z2 q3 q4
/-- told = f(..); if c: return False; told[k].append(a) -/
theorem db_told {S : Type} {i k j1 j2 : Nat} {y : Str} {call a c : Expr} {rest : List Stmt} {pa pb p1 p2 p3 p4 p5 p6 p7 p8 pos1 : Pos} {post : S → Env} {m : Option D} {cc : D → Option Bool} {mx : D → Option D} {n : Option (Fl S L)}
    (hN : X.N.Nodup) (hi : X.N[i]? = some y) (hl : i < ρ.length) (hx : Loc X.env.scope y) (hv : Vis X.env.scope y) (nm : Nm y) (hf : X.fn y = true ∨ X.env.scope.names.lookup y = some .local) (hcall : DN X call ρ k m) (hs : swapsWith call (some (.Name y pa)) pos1.line X.env = pure false)
    (hc : ∀ d, DT X c (ρ.set i (.val d)) (cc d)) (ha : ∀ d, DE X a (ρ.set i (.val d)) (mx d)) (hpi : PlainIx (.Constant (.int (k : Int)) j1 p7))
    (hbase : attributeBase (.Subscript (.Name y p8) (.Constant (.int (k : Int)) j1 p7) p1) "append" X.env (eval (.Subscript (.Name y p8) (.Constant (.int (k : Int)) j1 p7) p1) X.env) = eval (.Subscript (.Name y p8) (.Constant (.int (k : Int)) j1 p7) p1) X.env)
    (hfew : ((backTo p3 (starEach [a] X.env)).all (fun x => !x.1) && (backToKw p3 (keywordEach [] X.env)).all (fun x => x.1.isSome) && decide ([a].length + ([] : List Keyword).length + (if ([] : List Keyword).isEmpty then 0 else 1) < 30)) = true)
    (hline : (p2.endLine == p3.line) = true) (hsa : starEach [a] X.env = (false, eval a X.env) :: starEach [] X.env) (hplain : (backTo p3 (starEach [] X.env)).any (·.1) = false)
    (hs3 : swapsWith (.Call (.Attribute (.Subscript (.Name y p8) (.Constant (.int (k : Int)) j1 p7) p1) "append" p2) [a] [] p3) none p4.line X.env = pure false) (hrest : DB X rV rest (ρ.set i .no) n post lp) :
    DB X rV (.Assign [.Name y pa] call pos1 :: .If c [.Return (some (.Constant (.bool false) j2 pb)) p5] [] p6 :: .Expr (.Call (.Attribute (.Subscript (.Name y p8) (.Constant (.int (k : Int)) j1 p7) p1) "append" p2) [a] [] p3) p4 :: rest) ρ
      (seqF (nxt m) fun d => seqF (iteM (cc d) (some (.rt (.bool false))) (some (.nx ()))) fun (_ : Unit) => seqF (nxt ((mx d).bind fun _ => appN k d)) fun (_ : Unit) => n) post lp := by
  have hct : PT X c (fun σ H Q => ∃ d, cB X.K (ρ.set i (.val d)) (cc d) σ H Q) := ⟨fun pins s σ H Q I ⟨d, w⟩ => (hc d).pt.run pins s σ H Q I w⟩
  have hat : PE X a (fun σ H Q => ∃ d, cT X.K (ρ.set i (.val d)) (mx d) σ H Q) := ⟨fun pins s σ H Q I ⟨d, w⟩ => (ha d).pe.run pins s σ H Q I w⟩
  refine ⟨pssI (pss_cons (ps_set hN hi hx hcall.pe hs hf) (pss_cons (ps_if hct (pss_one (ps_ret pe_bl)) pss_nil) (pss_cons (ps_expr (pe_bm PySem.F.plainAttrs_list PySem.F.slot_list_append PySem.F.type_list_append mt_append (pe_ix ix_tup (pe_var hi hv nm.d nm.c) pe_int hpi) (pa_cons hat pa_nil hsa) hbase hfew hline hsa hplain) hs3) hrest.ps))) ?_⟩
  intro Dn σ H ⟨B0, H0, B, hh, f, hm, q⟩
  obtain ⟨g, hg, hm⟩ := seqF_some hm
  obtain ⟨d, hd, rfl⟩ := nxt_some hg
  obtain ⟨g2, hg2, hm⟩ := seqF_some hm
  obtain ⟨b, hb, hg2⟩ := bind_some hg2
  have hσ : ∀ v : V, (σ.set i (some v))[i]? = some (some v) := fun v => by rw [List.getElem?_set_self (by rw [hh.len]; exact hl)]
  refine ⟨B0, H0, B, hh, d, hd, fun v B1 H1 n1 r1 f1 => ?_⟩
  have h1 := (hh.step n1).setv (i := i) r1
  refine ⟨d, B0, H0, B1, h1, b, hb, fun B2 H2 n2 => ?_⟩
  cases b with
  | true =>
    simp only [if_true] at hg2
    cases hg2
    cases hm
    refine L2.iteT ?_
    exact q (.bl false) B2 H2 ((h1.step n2).nx) (.bl false)
  | false =>
    simp only [Bool.false_eq_true, if_false] at hg2
    cases hg2
    refine L2.iteF ?_
    obtain ⟨g3, hg3, hm3⟩ := seqF_some hm
    obtain ⟨u, hu, rfl⟩ := nxt_some hg3
    obtain ⟨dx, hdx, hu⟩ := bind_some hu
    obtain ⟨a0, xs, p, ws, ds, g1, rr, e1, e2, e3, e4, e5⟩ := f1
    subst e1 g1
    -- the data that stand there
    have e2' : B2 a0 = some (.tup xs) := n2.1 _ _ e2
    have e5' : B2 p = some (.lst ws) := n2.1 _ _ e5
    have h2 := h1.step n2
    have hk : atI xs (k : Int) = some (.ref p) := by
      have hlt := (List.getElem?_eq_some_iff.mp e3).1
      unfold atI ixN
      rw [if_pos (by omega), if_pos (by omega)]
      simpa using e3
    have hwl : ws.length < sizeLine := by
      unfold appN at hu
      obtain ⟨dk, d1, d2⟩ := rr.atV e3
      simp only [d1] at hu
      cases d2 with
      | @lst l2 us es g2 rr2 =>
        rw [e5] at g2; cases g2
        simp only at hu
        obtain ⟨hz, _⟩ := fit_some hu
        have := rr2.len
        omega
      | _ => simp at hu
    refine ⟨.ref a0, hσ _, ?_⟩
    refine ⟨a0, xs, (k : Int), .ref p, rfl, rfl, .inl (.inl (h2.ex _ _ e2')), hk, ?_⟩
    refine ⟨.inl ⟨rfl, ws, .inl (.inl (h2.ex _ _ e5'))⟩, .tuple ds, B0, H0, B2, h2, dx, hdx, fun vx B3 H3 n3 r3 => ?_⟩
    have hp3 : H3 p = some (.lst ws) := n3.2.1 _ _ (h2.ex _ _ e5')
    refine ⟨p, ws, vx, rfl, rfl, hp3, hwl, ?_⟩
    have hE : Ex H (upd H3 p (.lst (ws ++ [vx]))) := fun z u hz => by
      have hne : z ≠ p := fun e => by rw [e, e4] at hz; cases hz
      rw [upd_ne hne]
      exact n3.2.1 _ _ (n2.2.1 _ _ (n1.2.1 _ _ hz))
    exact ⟨B0, H0, B, (hh.late hE).junk i _, f, hm3, q⟩
end
theorem f1_outN {f : D → Option D} {b : D → Option (Fl Unit Unit)} (h : ∀ x, f x = outT (b x)) : ∀ ds d, f1 f ds = some d → outT (f1 b ds) = some d := fun ds d e => by
  obtain ⟨a0, rfl⟩ := f1_args e
  exact (h a0).symm.trans e
theorem f2_outN {f : D → D → Option D} {b : D → D → Option (Fl Unit Unit)} (h : ∀ x y, f x y = outT (b x y)) : ∀ ds d, f2 f ds = some d → outT (f2 b ds) = some d := fun ds d e => by
  obtain ⟨a0, a1, rfl⟩ := f2_args e
  exact (h a0 a1).symm.trans e
theorem f3_outN {f : D → D → D → Option D} {b : D → D → D → Option (Fl Unit Unit)} (h : ∀ x y z, f x y z = outT (b x y z)) : ∀ ds d, f3 f ds = some d → outT (f3 b ds) = some d := fun ds d e => by
  obtain ⟨a0, a1, a2, rfl⟩ := f3_args e
  exact (h a0 a1 a2).symm.trans e
theorem f4_outN {f : D → D → D → D → Option D} {b : D → D → D → D → Option (Fl Unit Unit)} (h : ∀ x y z u, f x y z u = outT (b x y z u)) : ∀ ds d, f4 f ds = some d → outT (f4 b ds) = some d := fun ds d e => by
  obtain ⟨a0, a1, a2, a3, rfl⟩ := f4_args e
  exact (h a0 a1 a2 a3).symm.trans e
theorem f5_outN {f : D → D → D → D → D → Option D} {b : D → D → D → D → D → Option (Fl Unit Unit)} (h : ∀ x y z u v, f x y z u v = outT (b x y z u v)) : ∀ ds d, f5 f ds = some d → outT (f5 b ds) = some d := fun ds d e => by
  obtain ⟨a0, a1, a2, a3, a4, rfl⟩ := f5_args e
  exact (h a0 a1 a2 a3 a4).symm.trans e
end Dl

/-! Data layer, part 11: ranges with a step. -/
namespace Dl
open PySem L2 PySem.Spec PyProof.Rows PySem.W PySem.SeqAt
open Evl (Ex)
def stepI (lo c : Int) (n : Nat) : List D := (List.range n).map fun (i : Nat) => .int (lo + (i : Int) * c)
def rng3D : List D → Option (List D)
  | [.int i, .int j, .int c] => if (c ≠ 0 ∧ c.natAbs < 1073741824) ∧ Builtin.Range.small i j c = true ∧ 0 ≤ Builtin.Range.rangeSize i j c then fit (Builtin.Range.rangeSize i j c).toNat (stepI i c (Builtin.Range.rangeSize i j c).toNat) else none
  | _ => none
theorem wk_rngC {K : PySem.W.Frag} {B : Hp} (lo c : Int) {n : Nat} (h : n ≤ sizeLine) : WkD K B (Itc lo c n) (stepI lo c n) := by
  refine ⟨by unfold stepI; simpa using h, fun i H hi e => ?_, fun H e => ?_, fun i H x H' Bc d hd e1 e2 y => ?_⟩
  · unfold stepI at hi; simp at hi; exact hi
  · show n ≤ _
    unfold stepI; simp
  · obtain ⟨rfl, rfl⟩ := y
    have e : d = .int (lo + (i : Int) * c) := by
      unfold stepI at hd
      rw [List.getElem?_map] at hd
      obtain ⟨j, hj, rfl⟩ := map_some hd
      obtain ⟨h1, h2⟩ := List.getElem?_eq_some_iff.mp hj
      simp at h2
      rw [h2]
    subst e
    exact ⟨Bc, Nx.refl e2, .int _⟩
theorem three_rep {K : PySem.W.Frag} {B : Hp} {xs : List V} {a b c : D} (r : Reps K B xs [a, b, c]) : ∃ u v w, xs = [u, v, w] ∧ Rep K B u a ∧ Rep K B v b ∧ Rep K B w c := by
  cases r with
  | cons h t => cases t with
    | cons h2 t => cases t with
      | cons h3 t => cases t; exact ⟨_, _, _, rfl, h, h2, h3⟩
theorem di_rng3 {X : Cx} {tg a b c : Expr} {ρ : Env} {pos : Pos} {m : Option (List D)} {p : Pos} (hg : Gl X "range") (hm : X.mg "range" = none) (ha : DA X [a, b, c] ρ m) (hs : starEach [a, b, c] X.env = (false, eval a X.env) :: starEach [b, c] X.env) (hs2 : (backTo pos (starEach [b, c] X.env)).any (·.1) = false) :
    DI X tg (.Call (.Name "range" p) [a, b, c] [] pos) ρ (m.bind rng3D) := ⟨piI (pi_range3 hg hm ha.pa hs hs2) (by
  intro σ H R ⟨B0, H0, B, hh, ds, hm, q⟩
  obtain ⟨xs, hx, hf⟩ := bind_some hm
  refine ⟨B0, H0, B, hh, xs, hx, fun vs B1 H1 n1 r1 => ?_⟩
  unfold rng3D at hf
  split at hf
  · split at hf
    · rename_i i j k hc
      obtain ⟨hz, rfl⟩ := fit_some hf
      obtain ⟨u, v, w, rfl, g1, g2, g3⟩ := three_rep r1
      cases g1; cases g2; cases g3
      exact ⟨i, j, k, _, rfl, ⟨hc.1.1, hc.1.2, hc.2.1, by rw [Int.toNat_of_nonneg hc.2.2]⟩, q _ B1 H1 n1 (wk_rngC i k hz)⟩
    · cases hf
  · cases hf)⟩
end Dl

namespace Wk0
open PySem L2 PySem.Spec PyProof.Rows PySem.W PySem.SeqAt Dl
def topS (i : Nat) : Stmt := PySem.Challenge.pw_nobodywaits_k34_whole_copies_as_many_as.main.body.getD i (.Pass ⟨0, 0, 0, 0⟩)
theorem nm_answer : Nm ("answer" : Str) := ⟨by decide, by decide⟩
theorem nm_at : Nm ("at" : Str) := ⟨by decide, by decide⟩
theorem nm_busy : Nm ("busy" : Str) := ⟨by decide, by decide⟩
theorem nm_cell : Nm ("cell" : Str) := ⟨by decide, by decide⟩
theorem nm_copies : Nm ("copies" : Str) := ⟨by decide, by decide⟩
theorem nm_copy : Nm ("copy" : Str) := ⟨by decide, by decide⟩
theorem nm_count : Nm ("count" : Str) := ⟨by decide, by decide⟩
theorem nm_day : Nm ("day" : Str) := ⟨by decide, by decide⟩
theorem nm_days : Nm ("days" : Str) := ⟨by decide, by decide⟩
theorem nm_draws : Nm ("draws" : Str) := ⟨by decide, by decide⟩
theorem nm_due : Nm ("due" : Str) := ⟨by decide, by decide⟩
theorem nm_first : Nm ("first" : Str) := ⟨by decide, by decide⟩
theorem nm_found : Nm ("found" : Str) := ⟨by decide, by decide⟩
theorem nm_j : Nm ("j" : Str) := ⟨by decide, by decide⟩
theorem nm_k : Nm ("k" : Str) := ⟨by decide, by decide⟩
theorem nm_kept : Nm ("kept" : Str) := ⟨by decide, by decide⟩
theorem nm_later : Nm ("later" : Str) := ⟨by decide, by decide⟩
theorem nm_limit : Nm ("limit" : Str) := ⟨by decide, by decide⟩
theorem nm_loan : Nm ("loan" : Str) := ⟨by decide, by decide⟩
theorem nm_loans : Nm ("loans" : Str) := ⟨by decide, by decide⟩
theorem nm_mixed : Nm ("mixed" : Str) := ⟨by decide, by decide⟩
theorem nm_more : Nm ("more" : Str) := ⟨by decide, by decide⟩
theorem nm_one : Nm ("one" : Str) := ⟨by decide, by decide⟩
theorem nm_other : Nm ("other" : Str) := ⟨by decide, by decide⟩
theorem nm_paper : Nm ("paper" : Str) := ⟨by decide, by decide⟩
theorem nm_rest : Nm ("rest" : Str) := ⟨by decide, by decide⟩
theorem nm_script : Nm ("script" : Str) := ⟨by decide, by decide⟩
theorem nm_taken : Nm ("taken" : Str) := ⟨by decide, by decide⟩
theorem nm_told : Nm ("told" : Str) := ⟨by decide, by decide⟩
theorem nm_verdict : Nm ("verdict" : Str) := ⟨by decide, by decide⟩
abbrev s__law_numbers : Stmt := topS 11
theorem sc__law_numbers : FnScope ["cell", "count", "limit", "found", "k", "mixed"] ["cell", "count", "limit"] (defScope s__law_numbers) := ⟨rfl, rfl, rfl, by decide +kernel, rfl, by decide +kernel, by decide +kernel⟩
abbrev s__law_given : Stmt := topS 14
theorem sc__law_given : FnScope ["loans", "found", "loan", "k", "busy", "j", "copy"] ["loans"] (defScope s__law_given) := ⟨rfl, rfl, rfl, by decide +kernel, rfl, by decide +kernel, by decide +kernel⟩
abbrev s__law_out_on : Stmt := topS 13
theorem sc__law_out_on : FnScope ["loans", "day", "loan"] ["loans", "day"] (defScope s__law_out_on) := ⟨rfl, rfl, rfl, by decide +kernel, rfl, by decide +kernel, by decide +kernel⟩
abbrev s__law_copies_due : Stmt := topS 15
theorem sc__law_copies_due : FnScope ["loans", "days", "count", "loan", "day"] ["loans"] (defScope s__law_copies_due) := ⟨rfl, rfl, rfl, by decide +kernel, rfl, by decide +kernel, by decide +kernel⟩
abbrev s__law_bent_copies : Stmt := topS 17
theorem sc__law_bent_copies : FnScope ["told", "draws", "count", "copies", "day", "found", "at", "copy"] ["told", "draws"] (defScope s__law_bent_copies) := ⟨rfl, rfl, rfl, by decide +kernel, rfl, by decide +kernel, by decide +kernel⟩
abbrev s__law_cell : Stmt := topS 10
theorem sc__law_cell : FnScope ["script", "k"] ["script", "k"] (defScope s__law_cell) := ⟨rfl, rfl, rfl, by decide +kernel, rfl, by decide +kernel, by decide +kernel⟩
abbrev s_is_out : Stmt := topS 1
theorem sc_is_out : FnScope ["loan", "day"] ["loan", "day"] (defScope s_is_out) := ⟨rfl, rfl, rfl, by decide +kernel, rfl, by decide +kernel, by decide +kernel⟩
abbrev s_free_copy : Stmt := topS 3
theorem sc_free_copy : FnScope ["taken", "day", "busy", "loan", "copy"] ["taken", "day"] (defScope s_free_copy) := ⟨rfl, rfl, rfl, by decide +kernel, rfl, by decide +kernel, by decide +kernel⟩
abbrev s_given_copies : Stmt := topS 4
theorem sc_given_copies : FnScope ["loans", "found", "taken", "_", "k", "loan"] ["loans"] (defScope s_given_copies) := ⟨rfl, rfl, rfl, by decide +kernel, rfl, by decide +kernel, by decide +kernel⟩
abbrev s_out_on : Stmt := topS 2
theorem sc_out_on : FnScope ["loans", "day", "loan"] ["loans", "day"] (defScope s_out_on) := ⟨rfl, rfl, rfl, by decide +kernel, rfl, by decide +kernel, by decide +kernel⟩
abbrev s_find_copies : Stmt := topS 5
theorem sc_find_copies : FnScope ["loans", "copies", "count", "days", "first", "_", "day"] ["loans"] (defScope s_find_copies) := ⟨rfl, rfl, rfl, by decide +kernel, rfl, by decide +kernel, by decide +kernel⟩
abbrev s_both_out : Stmt := topS 6
theorem sc_both_out : FnScope ["one", "other"] ["one", "other"] (defScope s_both_out) := ⟨rfl, rfl, rfl, by decide +kernel, rfl, by decide +kernel, by decide +kernel⟩
abbrev s_are_apart : Stmt := topS 7
theorem sc_are_apart : FnScope ["loans", "count", "copies", "k", "j", "copy"] ["loans", "count", "copies"] (defScope s_are_apart) := ⟨rfl, rfl, rfl, by decide +kernel, rfl, by decide +kernel, by decide +kernel⟩
abbrev s_judge_copies : Stmt := topS 8
theorem sc_judge_copies : FnScope ["loans", "verdict", "count", "copies", "day"] ["loans", "verdict"] (defScope s_judge_copies) := ⟨rfl, rfl, rfl, by decide +kernel, rfl, by decide +kernel, by decide +kernel⟩
abbrev s__law_same : Stmt := topS 12
theorem sc__law_same : FnScope ["told", "due", "k"] ["told", "due"] (defScope s__law_same) := ⟨rfl, rfl, rfl, by decide +kernel, rfl, by decide +kernel, by decide +kernel⟩
abbrev s__law_copies_fit : Stmt := topS 16
theorem sc__law_copies_fit : FnScope ["loans", "paper", "count", "copies", "day", "k", "j", "copy"] ["loans", "paper"] (defScope s__law_copies_fit) := ⟨rfl, rfl, rfl, by decide +kernel, rfl, by decide +kernel, by decide +kernel⟩
abbrev s_law : Stmt := topS 18
theorem sc_law : FnScope ["script", "draws", "loans", "k", "first", "kept", "due", "turn", "told", "more", "paper", "answer", "later", "rest", "j", "copy"] ["script"] (defScope s_law) := ⟨rfl, rfl, rfl, by decide +kernel, rfl, by decide +kernel, by decide +kernel⟩
noncomputable def b__law_numbers (p_cell p_count p_limit : D) : Option (Fl Unit Unit) := (seqF (nxt ((some []).bind fun xs => fit xs.length xs)) fun found1 => (seqF (iteM ((b2 (some p_cell) (b2 (some (.int 10)) (some (.int 18)) powD) geD).bind isB) (seqF (((c2 (some p_count) (some [])).bind rng1D).bind fun ds => forF (fun d (l2 : D × List D) => ((fun d => some d) d).bind fun v3 => (seqF (nxt ((b2 ((c2 (some l2.1) (some [])).bind intL) (some p_limit) modD).bind fun d => fit (l2.2.length + 1) d)) fun a4 => (seqF (nxt (b2 ((c2 (some l2.1) (some [])).bind intL) (some p_limit) fdivD)) fun cell5 => (some (.nx (cell5, (l2.2 ++ [a4]))))))) ds (p_cell, found1)) fun l2 => (some (.rt (.list l2.2)))) (some (.nx ()))) fun _ => (seqF (((c2 (some p_count) (some [])).bind rng1D).bind fun ds => forF (fun d (l6 : List D) => ((fun d => some d) d).bind fun v7 => (seqF (nxt (b2 ((c2 (b2 (b2 (b2 (some p_cell) (some (.int 48271)) mulD) (b2 (some v7) (some (.int 69621)) mulD) addD) (some (.int 7)) addD) (some [])).bind intL) (some (.int 2147483647)) modD)) fun mixed8 => (seqF (nxt (b2 ((c2 (b2 (b2 (b2 (b2 (some mixed8) (some mixed8) mulD) (b2 (some mixed8) (some (.int 40692)) mulD) addD) (b2 (some v7) (some (.int 16807)) mulD) addD) (some (.int 11)) addD) (some [])).bind intL) (some (.int 2147483399)) modD)) fun mixed9 => (seqF (nxt ((b2 ((c2 (b2 (some mixed9) (some (.int 32)) fdivD) (some [])).bind intL) (some p_limit) modD).bind fun d => fit (l6.length + 1) d)) fun a10 => (some (.nx (l6 ++ [a10]))))))) ds found1) fun l6 => (some (.rt (.list l6))))))
noncomputable def d__law_numbers (p_cell p_count p_limit : D) : Option (List D) := outF (b__law_numbers p_cell p_count p_limit)
noncomputable def b__law_given (p_loans : D) : Option (Fl Unit Unit) := (seqF (nxt (((some p_loans).bind itemsD).bind (compM (turnC (fun d => some d) (fun loan2 => (some true)) (fun loan2 => (some .none)))))) fun found1 => (seqF (((((c2 ((((c2 ((c2 (some p_loans) (some [])).bind lenL) (some [])).bind rng1D).bind (compM (turnC (fun d => some d) (fun k3 => (some true)) (fun k3 => ((c2 (b2 (some p_loans) (some k3) idxD) (c2 (some k3) (some []))).bind fun xs => fit xs.length (.tuple xs)))))).map .list) (some [])).bind sortF).map .list).bind itemsD).bind fun ds => forF (fun d (l4 : List D) => (un2 d).bind fun v5 => (seqF (nxt ((((c2 ((c2 (some p_loans) (some [])).bind lenL) (some [])).bind rng1D).bind (compM (turnC (fun d => some d) (fun j7 => (andB ((b2 ((some j7).bind fun k => idxD (.list l4) k) (some .none) isNotD).bind isB) (andB ((b2 (b2 (b2 (some p_loans) (some j7) idxD) (some (.int 0)) idxD) (b2 (some v5.1) (some (.int 0)) idxD) leD).bind isB) ((b2 (b2 (some v5.1) (some (.int 0)) idxD) (b2 (b2 (some p_loans) (some j7) idxD) (some (.int 1)) idxD) ltD).bind isB)))) (fun j7 => ((some j7).bind fun k => idxD (.list l4) k))))).map .list)) fun busy6 => (seqF (nxt (setM l4 (b2 ((((c2 ((c2 (some p_loans) (some [])).bind lenL) (some [])).bind rng1D).bind (compM (turnC (fun d => some d) (fun copy8 => ((b2 (some copy8) (some busy6) notInD).bind isB)) (fun copy8 => (some copy8))))).map .list) (some (.int 0)) idxD) (some v5.2))) fun found9 => (some (.nx found9))))) ds found1) fun l4 => (some (.rt (.list l4)))))
noncomputable def d__law_given (p_loans : D) : Option (List D) := outF (b__law_given p_loans)
noncomputable def b__law_out_on (p_loans p_day : D) : Option (Fl Unit Unit) := (((c2 ((((some p_loans).bind itemsD).bind (compM (turnC (fun d => some d) (fun loan1 => (andB ((b2 (b2 (some loan1) (some (.int 0)) idxD) (some p_day) leD).bind isB) ((b2 (some p_day) (b2 (some loan1) (some (.int 1)) idxD) ltD).bind isB))) (fun loan1 => (some loan1))))).map .list) (some [])).bind lenL).map .rt)
noncomputable def d__law_out_on (p_loans p_day : D) : Option D := outD (b__law_out_on p_loans p_day)
noncomputable def b__law_copies_due (p_loans : D) : Option (Fl Unit Unit) := (seqF (iteM ((b2 ((c2 (some p_loans) (some [])).bind lenL) (some (.int 0)) eqD).bind isB) (((c2 (some (.int 0)) (c2 (((some []).bind fun xs => fit xs.length xs).map .list) (c2 (some .none) (some [])))).bind fun xs => fit xs.length (.tuple xs)).map .rt) (some (.nx ()))) fun _ => (seqF (nxt (((c2 ((((some p_loans).bind itemsD).bind (compM (turnC (fun d => some d) (fun loan2 => (some true)) (fun loan2 => (b2 (some loan2) (some (.int 0)) idxD))))).map .list) (some [])).bind sortF).map .list)) fun days1 => (seqF (nxt ((c2 ((((some days1).bind itemsD).bind (compM (turnC (fun d => some d) (fun day4 => (some true)) (fun day4 => ((c2 (some p_loans) (c2 (some day4) (some []))).bind (f2 d__law_out_on)))))).map .list) (some [])).bind maxL)) fun count3 => (((c2 (some count3) (c2 (((c2 (some p_loans) (some [])).bind (f1 d__law_given)).map .list) (c2 (b2 ((((some days1).bind itemsD).bind (compM (turnC (fun d => some d) (fun day5 => ((b2 ((c2 (some p_loans) (c2 (some day5) (some []))).bind (f2 d__law_out_on)) (some count3) eqD).bind isB)) (fun day5 => (some day5))))).map .list) (some (.int 0)) idxD) (some [])))).bind fun xs => fit xs.length (.tuple xs)).map .rt))))
noncomputable def d__law_copies_due (p_loans : D) : Option D := outD (b__law_copies_due p_loans)
noncomputable def b__law_bent_copies (p_told p_draws : D) : Option (Fl Unit Unit) := (seqF (nxt ((some p_told).bind un3)) fun t1 => (seqF (nxt ((c2 (some p_told) (c2 (b3 (some p_told) (oI (some (.int 0))) (oI (some (.int 2)))) (c2 (b2 (some p_told) ((c2 (some (.int 0)) (some [])).bind fun xs => fit xs.length (.tuple xs)) addD) (c2 ((c2 (b2 (some t1.1) (some (.int 1)) addD) (c2 (some t1.2.1) (c2 (some t1.2.2) (some [])))).bind fun xs => fit xs.length (.tuple xs)) (c2 ((c2 (b2 (some t1.1) (some (.int 1)) subD) (c2 (some t1.2.1) (c2 (some t1.2.2) (some [])))).bind fun xs => fit xs.length (.tuple xs)) (c2 ((c2 (some t1.1) (c2 (some t1.2.1) (c2 (some .none) (some [])))).bind fun xs => fit xs.length (.tuple xs)) (c2 ((c2 (some t1.1) (c2 (some t1.2.1) (c2 ((some (.int 1)).bind negD) (some [])))).bind fun xs => fit xs.length (.tuple xs)) (c2 ((c2 (some t1.1) (c2 (some t1.2.1) (c2 (b2 (b2 (some p_draws) (some (.int 0)) idxD) (some (.int 12)) modD) (some [])))).bind fun xs => fit xs.length (.tuple xs)) (c2 ((c2 (some t1.1) (c2 (b3 (some t1.2.1) (oI (some (.int 1))) (some none)) (c2 (some t1.2.2) (some [])))).bind fun xs => fit xs.length (.tuple xs)) (some [])))))))))).bind fun xs => fit xs.length xs)) fun found2 => (seqF (nxt (b2F (some (.list found2)) (((c2 ((c2 (some t1.1) (c2 (b2 (some t1.2.1) (((c2 (some (.int 0)) (some [])).bind fun xs => fit xs.length xs).map .list) addD) (c2 (some t1.2.2) (some [])))).bind fun xs => fit xs.length (.tuple xs)) (c2 ((c2 (some t1.1) (c2 ((some t1.2.1).bind revD) (c2 (some t1.2.2) (some [])))).bind fun xs => fit xs.length (.tuple xs)) (c2 ((c2 (some (.int 0)) (c2 (((some []).bind fun xs => fit xs.length xs).map .list) (c2 (some .none) (some [])))).bind fun xs => fit xs.length (.tuple xs)) (c2 ((c2 ((c2 (some t1.2.1) (some [])).bind lenL) (c2 ((((c2 ((c2 (some t1.2.1) (some [])).bind lenL) (some [])).bind int1).bind rngF).map .list) (c2 (some t1.2.2) (some [])))).bind fun xs => fit xs.length (.tuple xs)) (c2 ((c2 (some t1.1) (c2 (((some []).bind fun xs => fit xs.length xs).map .list) (c2 (some t1.2.2) (some [])))).bind fun xs => fit xs.length (.tuple xs)) (some [])))))).bind fun xs => fit xs.length xs).map .list) catF)) fun found4 => (seqF (iteM ((b2 ((c2 (some t1.2.1) (some [])).bind lenL) (some (.int 0)) gtD).bind isB) (seqF (nxt (b2 (b2 (some p_draws) (some (.int 1)) idxD) ((c2 (some t1.2.1) (some [])).bind lenL) modD)) fun at6 => (seqF (((((c2 ((some (.int 1)).bind negD) (c2 (some t1.1) (c2 (b2 (b2 (some p_draws) (some (.int 2)) idxD) (b2 (some t1.1) (some (.int 1)) addD) modD) (c2 (some (.int 0)) (some []))))).bind fun xs => fit xs.length xs).map .list).bind itemsD).bind fun ds => forF (fun d (l7 : List D) => ((fun d => some d) d).bind fun v8 => (seqF (nxt (((c2 (some t1.1) (c2 (b2 (b2 (b3 (some t1.2.1) (oI (some (.int 0))) (oI (some at6))) (((c2 (some v8) (some [])).bind fun xs => fit xs.length xs).map .list) addD) (b3 (some t1.2.1) (oI (b2 (some at6) (some (.int 1)) addD)) (some none)) addD) (c2 (some t1.2.2) (some [])))).bind fun xs => fit xs.length (.tuple xs)).bind fun d => fit (l7.length + 1) d)) fun a9 => (some (.nx (l7 ++ [a9]))))) ds found4) fun l7 => (some (.nx l7)))) (some (.nx found4))) fun j5 => (some (.rt (.list j5)))))))
noncomputable def d__law_bent_copies (p_told p_draws : D) : Option (List D) := outF (b__law_bent_copies p_told p_draws)
noncomputable def b_is_out (p_loan p_day : D) : Option (Fl Unit Unit) := ((ch3 (b2 (some p_loan) (some (.int 0)) idxD) (some p_day) leD ltD (b2 (some p_loan) (some (.int 1)) idxD)).map .rt)
noncomputable def d_is_out (p_loan p_day : D) : Option D := outD (b_is_out p_loan p_day)
noncomputable def b_free_copy (p_taken p_day : D) : Option (Fl Unit Unit) := (seqF (nxt ((((some p_taken).bind itemsD).bind (compM (turnC un2 (fun loan2 => (((c2 (some loan2.1) (c2 (some p_day) (some []))).bind (f2 d_is_out)).bind truth)) (fun loan2 => (some loan2.2))))).map .list)) fun busy1 => ((b2 ((((c2 (b2 ((c2 (some busy1) (some [])).bind lenL) (some (.int 1)) addD) (some [])).bind rng1D).bind (compM (turnC (fun d => some d) (fun copy3 => ((b2 (some copy3) (some busy1) notInD).bind isB)) (fun copy3 => (some copy3))))).map .list) (some (.int 0)) idxD).map .rt))
noncomputable def d_free_copy (p_taken p_day : D) : Option D := outD (b_free_copy p_taken p_day)
noncomputable def b_given_copies (p_loans : D) : Option (Fl Unit Unit) := (seqF (nxt (((some p_loans).bind itemsD).bind (compM (turnC (fun d => some d) (fun x2 => (some true)) (fun x2 => (some (.int 0))))))) fun found1 => (seqF (nxt ((some []).bind fun xs => fit xs.length xs)) fun taken3 => (seqF (((((c2 ((((c2 (some p_loans) (some [])).bind enumD).bind (compM (turnC un2 (fun k4 => (some true)) (fun k4 => ((c2 (some k4.2) (c2 (some k4.1) (some []))).bind fun xs => fit xs.length (.tuple xs)))))).map .list) (some [])).bind sortF).map .list).bind itemsD).bind fun ds => forF (fun d (l5 : List D × List D) => (un2 d).bind fun v6 => (seqF (nxt (setM l5.1 (((c2 (some (.list l5.2)) (c2 (b2 (b2 (some p_loans) (some v6.2) idxD) (some (.int 0)) idxD) (some []))).bind (f2 d_free_copy)).bind flatD) (some v6.2))) fun found7 => (seqF (nxt (((c2 (b2 (some p_loans) (some v6.2) idxD) (c2 ((some v6.2).bind fun k => idxD (.list found7) k) (some []))).bind fun xs => fit xs.length (.tuple xs)).bind fun d => fit (l5.2.length + 1) d)) fun a8 => (some (.nx (found7, (l5.2 ++ [a8]))))))) ds (found1, taken3)) fun l5 => (some (.rt (.list l5.1))))))
noncomputable def d_given_copies (p_loans : D) : Option (List D) := outF (b_given_copies p_loans)
noncomputable def b_out_on (p_loans p_day : D) : Option (Fl Unit Unit) := (((c2 ((((some p_loans).bind itemsD).bind (compM (turnC (fun d => some d) (fun loan1 => (((c2 (some loan1) (c2 (some p_day) (some []))).bind (f2 d_is_out)).bind truth)) (fun loan1 => (some loan1))))).map .list) (some [])).bind lenL).map .rt)
noncomputable def d_out_on (p_loans p_day : D) : Option D := outD (b_out_on p_loans p_day)
noncomputable def b_find_copies (p_loans : D) : Option (Fl Unit Unit) := (seqF (iteM (((some p_loans).bind truth).map (!·)) (((c2 (some (.int 0)) (c2 (((some []).bind fun xs => fit xs.length xs).map .list) (c2 (some .none) (some [])))).bind fun xs => fit xs.length (.tuple xs)).map .rt) (some (.nx ()))) fun _ => (seqF (nxt ((c2 (some p_loans) (some [])).bind (f1 d_given_copies))) fun copies1 => (seqF (nxt (b2 (((c2 (some (.list copies1)) (some [])).bind maxL).bind flatD) (some (.int 1)) addD)) fun count2 => (seqF (nxt (((c2 ((((some p_loans).bind itemsD).bind (compM (turnC un2 (fun first4 => (some true)) (fun first4 => (some first4.1))))).map .list) (some [])).bind sortF).map .list)) fun days3 => (((c2 (some count2) (c2 (some (.list copies1)) (c2 (b2 ((((some days3).bind itemsD).bind (compM (turnC (fun d => some d) (fun day5 => ((b2 ((c2 (some p_loans) (c2 (some day5) (some []))).bind (f2 d_out_on)) (some count2) eqD).bind isB)) (fun day5 => (some day5))))).map .list) (some (.int 0)) idxD) (some [])))).bind fun xs => fit xs.length (.tuple xs)).map .rt)))))
noncomputable def d_find_copies (p_loans : D) : Option D := outT (b_find_copies p_loans)
noncomputable def b_both_out (p_one p_other : D) : Option (Fl Unit Unit) := ((andV (b2 (b2 (some p_one) (some (.int 0)) idxD) (b2 (some p_other) (some (.int 1)) idxD) ltD) (b2 (b2 (some p_other) (some (.int 0)) idxD) (b2 (some p_one) (some (.int 1)) idxD) ltD)).map .rt)
noncomputable def d_both_out (p_one p_other : D) : Option D := outD (b_both_out p_one p_other)
noncomputable def b_are_apart (p_loans p_count p_copies : D) : Option (Fl Unit Unit) := (seqF (iteM (orB ((b2 ((c2 (some p_copies) (some [])).bind lenL) ((c2 (some p_loans) (some [])).bind lenL) neD).bind isB) ((((c2 ((((some p_copies).bind itemsD).bind (compM (turnC (fun d => some d) (fun copy1 => (some true)) (fun copy1 => (ch3 (some (.int 0)) (some copy1) leD ltD (some p_count)))))).map .list) (some [])).bind allL).bind truth).map (!·))) ((some (.bool false)).map .rt) (some (.nx ()))) fun _ => (seqF (((c2 ((c2 (some p_loans) (some [])).bind lenL) (some [])).bind rng1D).bind fun ds => forF (fun d (l2 : Unit) => ((fun d => some d) d).bind fun v3 => (seqF (((c2 (some v3) (some [])).bind rng1D).bind fun ds => forF (fun d (l4 : Unit) => ((fun d => some d) d).bind fun v5 => (iteM (andB ((b2 (b2 (some p_copies) (some v5) idxD) (b2 (some p_copies) (some v3) idxD) eqD).bind isB) (((c2 (b2 (some p_loans) (some v5) idxD) (c2 (b2 (some p_loans) (some v3) idxD) (some []))).bind (f2 d_both_out)).bind truth)) ((some (.bool false)).map .rt) (some (.nx ())))) ds ()) fun l4 => (some (.nx ())))) ds ()) fun l2 => ((some (.bool true)).map .rt)))
noncomputable def d_are_apart (p_loans p_count p_copies : D) : Option D := outD (b_are_apart p_loans p_count p_copies)
noncomputable def b_judge_copies (p_loans p_verdict : D) : Option (Fl Unit Unit) := (seqF (iteM ((b2 ((c2 (some p_verdict) (some [])).bind lenL) (some (.int 3)) neD).bind isB) ((some (.bool false)).map .rt) (some (.nx ()))) fun _ => (seqF (nxt ((some p_verdict).bind un3)) fun t1 => (seqF (iteM ((((c2 (some p_loans) (c2 (some t1.1) (c2 (some t1.2.1) (some [])))).bind (f3 d_are_apart)).bind truth).map (!·)) ((some (.bool false)).map .rt) (some (.nx ()))) fun _ => (seqF (iteM (orB ((b2 (some t1.1) (some (.int 0)) eqD).bind isB) ((b2 (some t1.2.2) (some .none) isD).bind isB)) ((andV (b2 (some t1.1) (some (.int 0)) eqD) (b2 (some t1.2.2) (some .none) isD)).map .rt) (some (.nx ()))) fun _ => ((b2 ((c2 (some p_loans) (c2 (some t1.2.2) (some []))).bind (f2 d_out_on)) (some t1.1) eqD).map .rt)))))
noncomputable def d_judge_copies (p_loans p_verdict : D) : Option D := outD (b_judge_copies p_loans p_verdict)
noncomputable def b__law_same (rec : D → D → Option D) (p_told p_due : D) : Option (Fl Unit Unit) := (seqF (iteM (((some p_due).bind (insD "list")).bind truth) (iteM (orB ((((some p_told).bind (insD "list")).bind truth).map (!·)) ((b2 ((c2 (some p_told) (some [])).bind lenL) ((c2 (some p_due) (some [])).bind lenL) neD).bind isB)) ((some (.bool false)).map .rt) (some (.nx ()))) (iteM (((some p_due).bind (insD "tuple")).bind truth) (iteM (orB ((((some p_told).bind (insD "tuple")).bind truth).map (!·)) ((b2 ((c2 (some p_told) (some [])).bind lenL) ((c2 (some p_due) (some [])).bind lenL) neD).bind isB)) ((some (.bool false)).map .rt) (some (.nx ()))) (iteM ((b2 (some p_due) (some .none) isD).bind isB) ((b2 (some p_told) (some .none) isD).map .rt) (iteM (((some p_due).bind (insD "bool")).bind truth) ((andV ((some p_told).bind (insD "bool")) (b2 (some p_told) (some p_due) eqD)).map .rt) (iteM (((some p_due).bind (insD "int")).bind truth) ((andV ((some p_told).bind (insD "int")) (andV (((some p_told).bind (insD "bool")).bind fun x => (truth x).map fun k => .bool (!k)) (b2 (some p_told) (some p_due) eqD))).map .rt) ((andV ((some p_told).bind (insD "str")) (b2 (some p_told) (some p_due) eqD)).map .rt)))))) fun j1 => (seqF (((c2 ((c2 (some p_due) (some [])).bind lenL) (some [])).bind rng1D).bind fun ds => forF (fun d (l2 : Unit) => ((fun d => some d) d).bind fun v3 => (iteM ((((c2 (b2 (some p_told) (some v3) idxD) (c2 (b2 (some p_due) (some v3) idxD) (some []))).bind (f2 rec)).bind truth).map (!·)) ((some (.bool false)).map .rt) (some (.nx ())))) ds ()) fun l2 => ((some (.bool true)).map .rt)))
noncomputable def d__law_same : Nat → D → D → Option D
  | 0 => fun _ _ => none
  | n + 1 => fun p_told p_due => outD (b__law_same (d__law_same n) p_told p_due)
noncomputable def b__law_copies_fit (p_loans p_paper : D) : Option (Fl Unit Unit) := (seqF (iteM ((b2 ((c2 (some p_paper) (some [])).bind lenL) (some (.int 3)) neD).bind isB) ((some (.bool false)).map .rt) (some (.nx ()))) fun _ => (seqF (nxt ((some p_paper).bind un3)) fun t1 => (seqF (iteM (orB ((b2 ((c2 (some t1.2.1) (some [])).bind lenL) ((c2 (some p_loans) (some [])).bind lenL) neD).bind isB) ((b2 ((c2 ((((some t1.2.1).bind itemsD).bind (compM (turnC (fun d => some d) (fun copy2 => (orB ((b2 (some copy2) (some (.int 0)) ltD).bind isB) ((b2 (some copy2) (some t1.1) geD).bind isB))) (fun copy2 => (some copy2))))).map .list) (some [])).bind lenL) (some (.int 0)) gtD).bind isB)) ((some (.bool false)).map .rt) (some (.nx ()))) fun _ => (seqF (((c2 ((c2 (some p_loans) (some [])).bind lenL) (some [])).bind rng1D).bind fun ds => forF (fun d (l3 : Unit) => ((fun d => some d) d).bind fun v4 => (seqF (((c2 (some v4) (some [])).bind rng1D).bind fun ds => forF (fun d (l5 : Unit) => ((fun d => some d) d).bind fun v6 => (iteM (andB ((b2 (b2 (some t1.2.1) (some v6) idxD) (b2 (some t1.2.1) (some v4) idxD) eqD).bind isB) ((b2 ((c2 (b2 (b2 (some p_loans) (some v6) idxD) (some (.int 0)) idxD) (c2 (b2 (b2 (some p_loans) (some v4) idxD) (some (.int 0)) idxD) (some []))).bind maxL) ((c2 (b2 (b2 (some p_loans) (some v6) idxD) (some (.int 1)) idxD) (c2 (b2 (b2 (some p_loans) (some v4) idxD) (some (.int 1)) idxD) (some []))).bind minL) ltD).bind isB)) ((some (.bool false)).map .rt) (some (.nx ())))) ds ()) fun l5 => (some (.nx ())))) ds ()) fun l3 => (seqF (iteM (orB ((b2 (some t1.1) (some (.int 0)) eqD).bind isB) ((b2 (some t1.2.2) (some .none) isD).bind isB)) ((andV (b2 (some t1.1) (some (.int 0)) eqD) (b2 (some t1.2.2) (some .none) isD)).map .rt) (some (.nx ()))) fun _ => ((b2 ((c2 (some p_loans) (c2 (some t1.2.2) (some []))).bind (f2 d__law_out_on)) (some t1.1) eqD).map .rt))))))
noncomputable def d__law_copies_fit (p_loans p_paper : D) : Option D := outD (b__law_copies_fit p_loans p_paper)
noncomputable def b_law (ns : List Int) : Option (Fl Unit Unit) := (seqF (nxt (((c2 ((some (.int 0)).bind (cellD ns)) (c2 (some (.int 90)) (c2 (some (.int 27720)) (some [])))).bind (f3 d__law_numbers)).map .list)) fun draws1 => (seqF (nxt ((some []).bind fun xs => fit xs.length xs)) fun loans2 => (seqF (((c2 (b2 (b2 (some draws1) (some (.int 0)) idxD) (some (.int 13)) modD) (some [])).bind rng1D).bind fun ds => forF (fun d (l3 : List D) => ((fun d => some d) d).bind fun v4 => (seqF (nxt (b2 (b2 (some draws1) (b2 (some (.int 1)) (b2 (some (.int 2)) (some v4) mulD) addD) idxD) (some (.int 9)) modD)) fun first5 => (seqF (nxt (((c2 (some first5) (c2 (b2 (b2 (some first5) (some (.int 1)) addD) (b2 (b2 (some draws1) (b2 (some (.int 2)) (b2 (some (.int 2)) (some v4) mulD) addD) idxD) (some (.int 6)) modD) addD) (some []))).bind fun xs => fit xs.length (.tuple xs)).bind fun d => fit (l3.length + 1) d)) fun a6 => (some (.nx (l3 ++ [a6])))))) ds loans2) fun l3 => (seqF (iteM ((b2 (b2 (b2 (some draws1) (some (.int 88)) idxD) (some (.int 6)) modD) (some (.int 0)) eqD).bind isB) (seqF (nxt (((c2 (some (.int 40)) (some [])).bind rng1D).bind (compM (turnC (fun d => some d) (fun k9 => (some true)) (fun k9 => ((c2 (b2 (b2 (some draws1) (b2 (some (.int 2)) (some k9) mulD) idxD) (some (.int 9900)) modD) (c2 (b2 (b2 (b2 (b2 (some draws1) (b2 (some (.int 2)) (some k9) mulD) idxD) (some (.int 9900)) modD) (some (.int 1)) addD) (b2 (b2 (some draws1) (b2 (b2 (some (.int 2)) (some k9) mulD) (some (.int 1)) addD) idxD) (b2 (((c2 (some (.int 9)) (c2 (some (.int 99)) (some []))).bind fun xs => fit xs.length xs).map .list) (b2 ((c2 (some k9) (some [])).bind intL) (some (.int 2)) modD) idxD) modD) addD) (some []))).bind fun xs => fit xs.length (.tuple xs))))))) fun loans8 => (some (.nx loans8))) (some (.nx l3))) fun j7 => (seqF (nxt (((c2 (some (.list j7)) (some [])).bind listF).map .list)) fun kept11 => (seqF (nxt ((c2 (some (.list j7)) (some [])).bind (f1 d__law_copies_due))) fun due12 => (seqF (((c2 (some (.int 2)) (some [])).bind rng1D).bind fun ds => forF (fun d (l13 : Unit) => ((fun d => some d) d).bind fun v14 => (seqF (nxt ((c2 (some (.list j7)) (some [])).bind (f1 d_find_copies))) fun told15 => (seqF (iteM (orB ((((c2 (some told15) (c2 (some due12) (some []))).bind (f2 (d__law_same 12))).bind truth).map (!·)) (orB ((b2 (some (.list j7)) (some kept11) neD).bind isB) ((b2 ((c2 ((((b2 (some due12) (some (.int 1)) idxD).bind itemsD).bind (compM (turnC (fun d => some d) (fun copy16 => ((b2 (some copy16) (b2 (some due12) (some (.int 0)) idxD) geD).bind isB)) (fun copy16 => (some copy16))))).map .list) (some [])).bind lenL) (some (.int 0)) gtD).bind isB))) (some (.rt (.bool false))) (some (.nx ()))) fun (_ : Unit) => (seqF (nxt (((some (.int 0)) : Option D).bind fun _ => appN 1 told15)) fun (_ : Unit) => (some (.nx ())))))) ds ()) fun l13 => (seqF (nxt (((c2 ((some (.int 1)).bind (cellD ns)) (c2 (some (.int 10)) (c2 (some (.int 5040)) (some [])))).bind (f3 d__law_numbers)).map .list)) fun more17 => (seqF (((((c2 (some due12) (c2 (some more17) (some []))).bind (f2 d__law_bent_copies)).map .list).bind itemsD).bind fun ds => forF (fun d (l18 : Unit) => ((fun d => some d) d).bind fun v19 => (seqF (nxt ((c2 (some (.list j7)) (c2 (some v19) (some []))).bind (f2 d_judge_copies))) fun answer20 => (iteM (orB ((((c2 (some answer20) (c2 ((c2 (some (.list j7)) (c2 (some v19) (some []))).bind (f2 d__law_copies_fit)) (some []))).bind (f2 (d__law_same 12))).bind truth).map (!·)) (andB ((some answer20).bind truth) ((b2 (b2 (some v19) (some (.int 0)) idxD) (b2 (some due12) (some (.int 0)) idxD) neD).bind isB))) ((some (.bool false)).map .rt) (some (.nx ()))))) ds ()) fun l18 => (seqF (((c2 (some (.int 0)) (c2 ((c2 (some (.list j7)) (some [])).bind lenL) (c2 (b2 (some (.int 1)) (b2 ((c2 (some (.list j7)) (some [])).bind lenL) (some (.int 12)) fdivD) addD) (some [])))).bind rng3D).bind fun ds => forF (fun d (l21 : Unit) => ((fun d => some d) d).bind fun v22 => (seqF (iteM ((b2 (b2 ((c2 (b2 (b3 (some (.list j7)) (oI (some (.int 0))) (oI (some v22))) (b3 (some (.list j7)) (oI (b2 (some v22) (some (.int 1)) addD)) (some none)) addD) (some [])).bind (f1 d_find_copies)) (some (.int 0)) idxD) (b2 (some due12) (some (.int 0)) idxD) gtD).bind isB) ((some (.bool false)).map .rt) (some (.nx ()))) fun _ => (seqF (nxt ((((c2 ((c2 (some (.list j7)) (some [])).bind lenL) (some [])).bind rng1D).bind (compM (turnC (fun d => some d) (fun j24 => (andB ((b2 (some j24) (some v22) neD).bind isB) ((b2 (b2 (b2 (some (.list j7)) (some j24) idxD) (some (.int 0)) idxD) (b2 (b2 (some (.list j7)) (some v22) idxD) (some (.int 1)) idxD) eqD).bind isB))) (fun j24 => (some j24))))).map .list)) fun later23 => (iteM ((b2 ((c2 (some later23) (some [])).bind lenL) (some (.int 0)) gtD).bind isB) (seqF (nxt (((c2 ((c2 (some (.list j7)) (some [])).bind lenL) (some [])).bind rng1D).bind (compM (turnC (fun d => some d) (fun j26 => (andB ((b2 (some j26) (some v22) neD).bind isB) ((b2 (some j26) (b2 (some later23) (some (.int 0)) idxD) neD).bind isB))) (fun j26 => (b2 (some (.list j7)) (some j26) idxD)))))) fun rest25 => (iteM ((b2 (b2 ((c2 (b2 (some (.list rest25)) (((c2 ((c2 (b2 (b2 (some (.list j7)) (some v22) idxD) (some (.int 0)) idxD) (c2 (b2 (b2 (some (.list j7)) (b2 (some later23) (some (.int 0)) idxD) idxD) (some (.int 1)) idxD) (some []))).bind fun xs => fit xs.length (.tuple xs)) (some [])).bind fun xs => fit xs.length xs).map .list) addD) (some [])).bind (f1 d_find_copies)) (some (.int 0)) idxD) (b2 (some due12) (some (.int 0)) idxD) neD).bind isB) ((some (.bool false)).map .rt) (some (.nx ())))) (some (.nx ())))))) ds ()) fun l21 => ((some (.bool true)).map .rt)))))))))))
noncomputable def d_law (ns : List Int) : Option D := outD (b_law ns)
section
variable {P : Program} {w : World} {K : PySem.W.Frag} {mg : Str → Option Value} {base : Heap}
variable (z_all : mg "all" = none) (z_bool : mg "bool" = none) (z_enumerate : mg "enumerate" = none) (z_int : mg "int" = none) (z_isinstance : mg "isinstance" = none) (z_len : mg "len" = none) (z_list : mg "list" = none) (z_max : mg "max" = none) (z_min : mg "min" = none) (z_range : mg "range" = none) (z_sorted : mg "sorted" = none) (z_str : mg "str" = none) (z_tuple : mg "tuple" = none)
include z_all z_bool z_enumerate z_int z_isinstance z_len z_list z_max z_min z_range z_sorted z_str z_tuple

theorem ok__law_numbers {f : Addr} {fd : FuncData} (F : Fun K "_law_numbers" "_law_numbers" s__law_numbers f fd) : FnOk P w K mg base CX0 1 f fd ["cell", "count", "limit"] (spF K (f3 d__law_numbers)) := by
  refine fn_F (m := f3 b__law_numbers) F sc__law_numbers f3_len (f3_outF fun p_cell p_count p_limit => rfl) fun cdv A outer s H E hr ds d hd => ?_
  have nd := sc__law_numbers.nd
  have hu : (A.deeper (envOfC "_law_numbers" (defScope s__law_numbers) s.heap.objs.size f cdv)).units + 200 < cLine := by have := hr.un; omega
  obtain ⟨p_cell, p_count, p_limit, rfl⟩ := f3_args hd
  exact ⟨fun _ => [.no, .no, .no, .no, .no, .no], fun _ => [.no, .no, .no, .no, .no, .no], (db_at [.val p_cell, .val p_count, .val p_limit, .no, .no, .no] rfl (db_cons (ds_asgF (i := 3) nd rfl (.inl rfl) (df_lst da_nil) rfl (.inl rfl)) fun found1 => (db_at [.val p_cell, .val p_count, .val p_limit, .own found1, .no, .no] rfl (db_cons (ds_if (S := Unit) (post := fun _ => [.val p_cell, .val p_count, .val p_limit, .own found1, .no, .no]) (dt_cmp (op_geD' hu) (de_v (i := 0) nm_cell rfl rfl (.inl rfl)) (de_op op_powD de_int de_int) (nomark _)) (db_at [.val p_cell, .val p_count, .val p_limit, .own found1, .no, .no] rfl (db_cons (ds_for (l0 := (p_cell, found1)) (lp := fun (l2 : D × List D) => [.val l2.1, .val p_count, .val p_limit, .own l2.2, .no, .no]) (pt := fun (l2 : D × List D) (v3 : D) => [.val l2.1, .val p_count, .val p_limit, .own l2.2, .val v3, .no]) (js := [4]) PassesOwn.never rfl (.k (.k (.k (.k (.n (.n .nil)))))) (di_rng1 (by rfl) z_range (da_cons (de_v (i := 1) nm_count rfl rfl (.inl rfl)) da_nil rfl) rfl) (fun l2 => (dg_name (i := 4) nd rfl (.inl rfl) (.inl rfl))) (fun l2 v3 => (db_cons (ds_ap (i := 3) nm_found rfl rfl (.inl rfl) (de_op op_modD (de_callT (ct_int) (by rfl) z_int (by decide +kernel) (da_cons (de_v (i := 0) nm_cell rfl rfl (.inl rfl)) da_nil rfl) (by decide) (by decide) rfl rfl) (de_v (i := 2) nm_limit rfl rfl (.inl rfl))) rfl rfl rfl rfl rfl rfl) fun a4 => (db_at [.val l2.1, .val p_count, .val p_limit, .own (l2.2 ++ [a4]), .val v3, .no] rfl (db_cons (ds_asg (i := 0) nd rfl (.inl rfl) (de_op op_fdivD (de_callT (ct_int) (by rfl) z_int (by decide +kernel) (da_cons (de_v (i := 0) nm_cell rfl rfl (.inl rfl)) da_nil rfl) (by decide) (by decide) rfl rfl) (de_v (i := 2) nm_limit rfl rfl (.inl rfl))) rfl (.inl rfl)) fun cell5 => (db_at [.val cell5, .val p_count, .val p_limit, .own (l2.2 ++ [a4]), .val v3, .no] rfl (db_nil (s := (cell5, (l2.2 ++ [a4]))) (.k (.k (.k (.k (.n (.n .nil)))))))))))) (fun _ => rfl)) fun l2 => (db_at [.val l2.1, .val p_count, .val p_limit, .own l2.2, .no, .no] rfl (db_one (ds_rO (i := 3) nm_found rfl rfl (.inl rfl)))))) (db_nil (s := ()) (Wk.refl _))) fun _ => (db_at [.val p_cell, .val p_count, .val p_limit, .own found1, .no, .no] rfl (db_cons (ds_for (l0 := found1) (lp := fun (l6 : List D) => [.val p_cell, .val p_count, .val p_limit, .own l6, .no, .no]) (pt := fun (l6 : List D) (v7 : D) => [.val p_cell, .val p_count, .val p_limit, .own l6, .val v7, .no]) (js := [4]) PassesOwn.never rfl (.k (.k (.k (.k (.n (.n .nil)))))) (di_rng1 (by rfl) z_range (da_cons (de_v (i := 1) nm_count rfl rfl (.inl rfl)) da_nil rfl) rfl) (fun l6 => (dg_name (i := 4) nd rfl (.inl rfl) (.inl rfl))) (fun l6 v7 => (db_cons (ds_asg (i := 5) nd rfl (.inl rfl) (de_op op_modD (de_callT (ct_int) (by rfl) z_int (by decide +kernel) (da_cons (de_op op_addD (de_op op_addD (de_op op_mulD (de_v (i := 0) nm_cell rfl rfl (.inl rfl)) de_int) (de_op op_mulD (de_v (i := 4) nm_k rfl rfl (.inl rfl)) de_int)) de_int) da_nil rfl) (by decide) (by decide) rfl rfl) de_int) rfl (.inl rfl)) fun mixed8 => (db_at [.val p_cell, .val p_count, .val p_limit, .own l6, .val v7, .val mixed8] rfl (db_cons (ds_asg (i := 5) nd rfl (.inl rfl) (de_op op_modD (de_callT (ct_int) (by rfl) z_int (by decide +kernel) (da_cons (de_op op_addD (de_op op_addD (de_op op_addD (de_op op_mulD (de_v (i := 5) nm_mixed rfl rfl (.inl rfl)) (de_v (i := 5) nm_mixed rfl rfl (.inl rfl))) (de_op op_mulD (de_v (i := 5) nm_mixed rfl rfl (.inl rfl)) de_int)) (de_op op_mulD (de_v (i := 4) nm_k rfl rfl (.inl rfl)) de_int)) de_int) da_nil rfl) (by decide) (by decide) rfl rfl) de_int) rfl (.inl rfl)) fun mixed9 => (db_at [.val p_cell, .val p_count, .val p_limit, .own l6, .val v7, .val mixed9] rfl (db_cons (ds_ap (i := 3) nm_found rfl rfl (.inl rfl) (de_op op_modD (de_callT (ct_int) (by rfl) z_int (by decide +kernel) (da_cons (de_op op_fdivD (de_v (i := 5) nm_mixed rfl rfl (.inl rfl)) de_int) da_nil rfl) (by decide) (by decide) rfl rfl) (de_v (i := 2) nm_limit rfl rfl (.inl rfl))) rfl rfl rfl rfl rfl rfl) fun a10 => (db_at [.val p_cell, .val p_count, .val p_limit, .own (l6 ++ [a10]), .val v7, .val mixed9] rfl (db_nil (s := (l6 ++ [a10])) (.k (.k (.k (.k (.n (.n .nil)))))))))))))) (fun _ => rfl)) fun l6 => (db_at [.val p_cell, .val p_count, .val p_limit, .own l6, .no, .no] rfl (db_one (ds_rO (i := 3) nm_found rfl rfl (.inl rfl))))))))))⟩
theorem ok__law_given {f : Addr} {fd : FuncData} (F : Fun K "_law_given" "_law_given" s__law_given f fd) : FnOk P w K mg base CX0 1 f fd ["loans"] (spF K (f1 d__law_given)) := by
  refine fn_F (m := f1 b__law_given) F sc__law_given f1_len (f1_outF fun p_loans => rfl) fun cdv A outer s H E hr ds d hd => ?_
  have nd := sc__law_given.nd
  have hu : (A.deeper (envOfC "_law_given" (defScope s__law_given) s.heap.objs.size f cdv)).units + 200 < cLine := by have := hr.un; omega
  obtain ⟨p_loans, rfl⟩ := f1_args hd
  exact ⟨fun _ => [.no, .no, .no, .no, .no, .no, .no], fun _ => [.no, .no, .no, .no, .no, .no, .no], (db_at [.val p_loans, .no, .no, .no, .no, .no, .no] rfl (db_cons (ds_asgF (i := 1) nd rfl (.inr rfl) (df_lc (own := [("loan", 2)]) (post := fun (loan2 : D) => [.val p_loans, .no, .val loan2, .no, .no, .no, .no]) (js := [2]) rfl nd (di_seq (de_v (i := 0) nm_loans rfl rfl (.inr (.inl rfl)))) (blkOk_by (N := ["loans", "found", "loan", "k", "busy", "j", "copy"]) (sc := defScope s__law_given) (own := [("loan", 2)]) (by decide +kernel)) (fun _ _ _ _ _ => (dg_name (i := 2) nd rfl (.inl rfl) (.inr rfl))) (fun _ _ _ _ _ loan2 => dts_nil) (fun _ _ _ _ _ loan2 => de_non) (by decide) (fun _ => rfl)) rfl (.inl rfl)) fun found1 => (db_at [.val p_loans, .own found1, .no, .no, .no, .no, .no] rfl (db_cons (ds_for (l0 := found1) (lp := fun (l4 : List D) => [.val p_loans, .own l4, .no, .no, .no, .no, .no]) (pt := fun (l4 : List D) (v5 : D × D) => [.val p_loans, .own l4, .val v5.1, .val v5.2, .no, .no, .no]) (js := [2, 3]) PassesOwn.never rfl (.k (.k (.n (.n (.n (.n (.n .nil))))))) (di_seq (DF.de (df_callB (cb_sorted hu) (by rfl) z_sorted (by decide +kernel) (da_cons (DF.de (df_lc (own := [("k", 3)]) (post := fun (k3 : D) => [.val p_loans, .own found1, .no, .val k3, .no, .no, .no]) (js := [3]) rfl nd (di_rng1 (by rfl) z_range (da_cons (de_callB (cb_len) (by rfl) z_len (by decide +kernel) (da_cons (de_v (i := 0) nm_loans rfl rfl (.inr (.inl rfl))) da_nil rfl) (by decide) (by decide) rfl rfl) da_nil rfl) rfl) (blkOk_by (N := ["loans", "found", "loan", "k", "busy", "j", "copy"]) (sc := defScope s__law_given) (own := [("k", 3)]) (by decide +kernel)) (fun _ _ _ _ _ => (dg_name (i := 3) nd rfl (.inl rfl) (.inr rfl))) (fun _ _ _ _ _ k3 => dts_nil) (fun _ _ _ _ _ k3 => (de_tup (da_cons (de_ix ix_D (de_v (i := 0) nm_loans rfl rfl (.inr (.inl rfl))) (de_v (i := 3) nm_k rfl rfl (.inl rfl)) (fun _ _ => rfl)) (da_cons (de_v (i := 3) nm_k rfl rfl (.inl rfl)) da_nil rfl) rfl))) (by decide) (fun _ => rfl))) da_nil rfl) (by decide) (by decide) rfl rfl))) (fun l4 => (dg_tup2 rfl (dgs_cons (i := 2) nd rfl (.inr rfl) (.inl rfl) fun _ => (dgs_cons (i := 3) nd rfl (.inl rfl) (.inl rfl) fun _ => dgs_nil)) rfl rfl (fun _ _ => rfl))) (fun l4 v5 => (db_cons (ds_asg (i := 4) nd rfl (.inr rfl) (DF.de (df_lc (own := [("j", 5)]) (post := fun (j7 : D) => [.val p_loans, .own l4, .val v5.1, .val v5.2, .no, .val j7, .no]) (js := [5]) rfl nd (di_rng1 (by rfl) z_range (da_cons (de_callB (cb_len) (by rfl) z_len (by decide +kernel) (da_cons (de_v (i := 0) nm_loans rfl rfl (.inr (.inl rfl))) da_nil rfl) (by decide) (by decide) rfl rfl) da_nil rfl) rfl) (blkOk_by (N := ["loans", "found", "loan", "k", "busy", "j", "copy"]) (sc := defScope s__law_given) (own := [("j", 5)]) (by decide +kernel)) (fun _ _ _ _ _ => (dg_name (i := 5) nd rfl (.inl rfl) (.inr rfl))) (fun _ _ _ _ _ j7 => (dts_one (DW.dt (dw_and (dt_cmp op_isNotD (de_ox (i := 1) nm_found rfl rfl (.inr (.inl rfl)) (de_v (i := 5) nm_j rfl rfl (.inl rfl)) (fun _ _ => rfl)) de_non (nomark _)) (dw_and (dt_cmp (op_leD' hu) (de_ix ix_D (de_ix ix_D (de_v (i := 0) nm_loans rfl rfl (.inr (.inl rfl))) (de_v (i := 5) nm_j rfl rfl (.inl rfl)) (fun _ _ => rfl)) de_int (fun _ _ => rfl)) (de_ix ix_D (de_v (i := 2) nm_loan rfl rfl (.inr (.inl rfl))) de_int (fun _ _ => rfl)) (nomark _)) (dw_and1 (dt_cmp (op_ltD' hu) (de_ix ix_D (de_v (i := 2) nm_loan rfl rfl (.inr (.inl rfl))) de_int (fun _ _ => rfl)) (de_ix ix_D (de_ix ix_D (de_v (i := 0) nm_loans rfl rfl (.inr (.inl rfl))) (de_v (i := 5) nm_j rfl rfl (.inl rfl)) (fun _ _ => rfl)) de_int (fun _ _ => rfl)) (nomark _)))))))) (fun _ _ _ _ _ j7 => (de_ox (i := 1) nm_found rfl rfl (.inr (.inl rfl)) (de_v (i := 5) nm_j rfl rfl (.inl rfl)) (fun _ _ => rfl))) (by decide) (fun _ => rfl))) rfl (.inl rfl)) fun busy6 => (db_at [.val p_loans, .own l4, .val v5.1, .val v5.2, .val busy6, .no, .no] rfl (db_cons (ds_st (i := 1) nm_found rfl rfl (.inr (.inl rfl)) (de_ix ix_D (DF.de (df_lc (own := [("copy", 6)]) (post := fun (copy8 : D) => [.val p_loans, .own l4, .val v5.1, .val v5.2, .val busy6, .no, .val copy8]) (js := [6]) rfl nd (di_rng1 (by rfl) z_range (da_cons (de_callB (cb_len) (by rfl) z_len (by decide +kernel) (da_cons (de_v (i := 0) nm_loans rfl rfl (.inr (.inl rfl))) da_nil rfl) (by decide) (by decide) rfl rfl) da_nil rfl) rfl) (blkOk_by (N := ["loans", "found", "loan", "k", "busy", "j", "copy"]) (sc := defScope s__law_given) (own := [("copy", 6)]) (by decide +kernel)) (fun _ _ _ _ _ => (dg_name (i := 6) nd rfl (.inl rfl) (.inr rfl))) (fun _ _ _ _ _ copy8 => (dts_one (dt_cmp (op_notInD' hu) (de_v (i := 6) nm_copy rfl rfl (.inl rfl)) (de_v (i := 4) nm_busy rfl rfl (.inr (.inl rfl))) rfl))) (fun _ _ _ _ _ copy8 => (de_v (i := 6) nm_copy rfl rfl (.inl rfl))) (by decide) (fun _ => rfl))) de_int (fun _ _ => rfl)) (de_v (i := 3) nm_k rfl rfl (.inl rfl)) rfl rfl rfl (fun ho hi hs => pg_sub ho hi hs)) fun found9 => (db_at [.val p_loans, .own found9, .val v5.1, .val v5.2, .val busy6, .no, .no] rfl (db_nil (s := found9) (.k (.k (.n (.n (.n (.n (.n .nil))))))))))))) (fun _ => rfl)) fun l4 => (db_at [.val p_loans, .own l4, .no, .no, .no, .no, .no] rfl (db_one (ds_rO (i := 1) nm_found rfl rfl (.inr (.inl rfl)))))))))⟩
theorem ok__law_out_on {f : Addr} {fd : FuncData} (F : Fun K "_law_out_on" "_law_out_on" s__law_out_on f fd) : FnOk P w K mg base CX0 1 f fd ["loans", "day"] (spD K (f2 d__law_out_on)) := by
  refine fn_D (m := f2 b__law_out_on) F sc__law_out_on f2_len (f2_outD fun p_loans p_day => rfl) fun cdv A outer s H E hr ds d hd => ?_
  have nd := sc__law_out_on.nd
  have hu : (A.deeper (envOfC "_law_out_on" (defScope s__law_out_on) s.heap.objs.size f cdv)).units + 200 < cLine := by have := hr.un; omega
  obtain ⟨p_loans, p_day, rfl⟩ := f2_args hd
  exact ⟨fun _ => [.no, .no, .no], fun _ => [.no, .no, .no], (db_at [.val p_loans, .val p_day, .no] rfl (db_one (ds_ret (de_callB (cb_len) (by rfl) z_len (by decide +kernel) (da_cons (DF.de (df_lc (own := [("loan", 2)]) (post := fun (loan1 : D) => [.val p_loans, .val p_day, .val loan1]) (js := [2]) rfl nd (di_seq (de_v (i := 0) nm_loans rfl rfl (.inl rfl))) (blkOk_by (N := ["loans", "day", "loan"]) (sc := defScope s__law_out_on) (own := [("loan", 2)]) (by decide +kernel)) (fun _ _ _ _ _ => (dg_name (i := 2) nd rfl (.inl rfl) (.inr rfl))) (fun _ _ _ _ _ loan1 => (dts_one (DW.dt (dw_and (dt_cmp (op_leD' hu) (de_ix ix_D (de_v (i := 2) nm_loan rfl rfl (.inl rfl)) de_int (fun _ _ => rfl)) (de_v (i := 1) nm_day rfl rfl (.inr (.inl rfl))) (nomark _)) (dw_and1 (dt_cmp (op_ltD' hu) (de_v (i := 1) nm_day rfl rfl (.inr (.inl rfl))) (de_ix ix_D (de_v (i := 2) nm_loan rfl rfl (.inl rfl)) de_int (fun _ _ => rfl)) (nomark _))))))) (fun _ _ _ _ _ loan1 => (de_v (i := 2) nm_loan rfl rfl (.inl rfl))) (by decide) (fun _ => rfl))) da_nil rfl) (by decide) (by decide) rfl rfl))))⟩
theorem ok__law_copies_due {f : Addr} {fd : FuncData} (F : Fun K "_law_copies_due" "_law_copies_due" s__law_copies_due f fd) (c__law_given : Dl.Callee P w K mg base "_law_given" ["loans"] 1 (spF K (f1 d__law_given))) (c__law_out_on : Dl.Callee P w K mg base "_law_out_on" ["loans", "day"] 1 (spD K (f2 d__law_out_on))) : FnOk P w K mg base CX0 2 f fd ["loans"] (spD K (f1 d__law_copies_due)) := by
  refine fn_D (m := f1 b__law_copies_due) F sc__law_copies_due f1_len (f1_outD fun p_loans => rfl) fun cdv A outer s H E hr ds d hd => ?_
  have nd := sc__law_copies_due.nd
  have hu : (A.deeper (envOfC "_law_copies_due" (defScope s__law_copies_due) s.heap.objs.size f cdv)).units + 200 < cLine := by have := hr.un; omega
  obtain ⟨p_loans, rfl⟩ := f1_args hd
  exact ⟨fun _ => [.no, .no, .no, .no, .no], fun _ => [.no, .no, .no, .no, .no], (db_at [.val p_loans, .no, .no, .no, .no] rfl (db_cons (ds_if (S := Unit) (post := fun _ => [.val p_loans, .no, .no, .no, .no]) (dt_cmp (op_eqD' hu) (de_callB (cb_len) (by rfl) z_len (by decide +kernel) (da_cons (de_v (i := 0) nm_loans rfl rfl (.inr (.inl rfl))) da_nil rfl) (by decide) (by decide) rfl rfl) de_int (nomark _)) (db_at [.val p_loans, .no, .no, .no, .no] rfl (db_one (ds_ret (de_tup (da_cons de_int (da_cons (DF.de (df_lst da_nil)) (da_cons de_non da_nil rfl) rfl) rfl))))) (db_nil (s := ()) (Wk.refl _))) fun _ => (db_at [.val p_loans, .no, .no, .no, .no] rfl (db_cons (ds_asg (i := 1) nd rfl (.inl rfl) (DF.de (df_callB (cb_sorted hu) (by rfl) z_sorted (by decide +kernel) (da_cons (DF.de (df_lc (own := [("loan", 3)]) (post := fun (loan2 : D) => [.val p_loans, .no, .no, .val loan2, .no]) (js := [3]) rfl nd (di_seq (de_v (i := 0) nm_loans rfl rfl (.inr (.inl rfl)))) (blkOk_by (N := ["loans", "days", "count", "loan", "day"]) (sc := defScope s__law_copies_due) (own := [("loan", 3)]) (by decide +kernel)) (fun _ _ _ _ _ => (dg_name (i := 3) nd rfl (.inl rfl) (.inr rfl))) (fun _ _ _ _ _ loan2 => dts_nil) (fun _ _ _ _ _ loan2 => (de_ix ix_D (de_v (i := 3) nm_loan rfl rfl (.inl rfl)) de_int (fun _ _ => rfl))) (by decide) (fun _ => rfl))) da_nil rfl) (by decide) (by decide) rfl rfl)) rfl (.inl rfl)) fun days1 => (db_at [.val p_loans, .val days1, .no, .no, .no] rfl (db_cons (ds_asg (i := 2) nd rfl (.inr rfl) (de_callB (cb_max rfl hu) (by rfl) z_max (by decide +kernel) (da_cons (DF.de (df_lc (own := [("day", 4)]) (post := fun (day4 : D) => [.val p_loans, .val days1, .no, .no, .val day4]) (js := [4]) rfl nd (di_seq (de_v (i := 1) nm_days rfl rfl (.inl rfl))) (blkOk_by (N := ["loans", "days", "count", "loan", "day"]) (sc := defScope s__law_copies_due) (own := [("day", 4)]) (by decide +kernel)) (fun _ _ _ _ _ => (dg_name (i := 4) nd rfl (.inl rfl) (.inr rfl))) (fun _ _ _ _ _ day4 => dts_nil) (fun _ _ _ _ _ day4 => (de_call c__law_out_on (hr.mono (by decide)) (da_cons (de_v (i := 0) nm_loans rfl rfl (.inr (.inl rfl))) (da_cons (de_v (i := 4) nm_day rfl rfl (.inl rfl)) da_nil rfl) rfl) (by rfl) (by decide) rfl rfl)) (by decide) (fun _ => rfl))) da_nil rfl) (by decide) (by decide) rfl rfl) rfl (.inl rfl)) fun count3 => (db_at [.val p_loans, .val days1, .val count3, .no, .no] rfl (db_one (ds_ret (de_tup (da_cons (de_v (i := 2) nm_count rfl rfl (.inr (.inl rfl))) (da_cons (DF.de (df_call c__law_given (hr.mono (by decide)) (da_cons (de_v (i := 0) nm_loans rfl rfl (.inr (.inl rfl))) da_nil rfl) (by rfl) (by decide) rfl rfl)) (da_cons (de_ix ix_D (DF.de (df_lc (own := [("day", 4)]) (post := fun (day5 : D) => [.val p_loans, .val days1, .val count3, .no, .val day5]) (js := [4]) rfl nd (di_seq (de_v (i := 1) nm_days rfl rfl (.inl rfl))) (blkOk_by (N := ["loans", "days", "count", "loan", "day"]) (sc := defScope s__law_copies_due) (own := [("day", 4)]) (by decide +kernel)) (fun _ _ _ _ _ => (dg_name (i := 4) nd rfl (.inl rfl) (.inr rfl))) (fun _ _ _ _ _ day5 => (dts_one (dt_cmp (op_eqD' hu) (de_call c__law_out_on (hr.mono (by decide)) (da_cons (de_v (i := 0) nm_loans rfl rfl (.inr (.inl rfl))) (da_cons (de_v (i := 4) nm_day rfl rfl (.inl rfl)) da_nil rfl) rfl) (by rfl) (by decide) rfl rfl) (de_v (i := 2) nm_count rfl rfl (.inr (.inl rfl))) (nomark _)))) (fun _ _ _ _ _ day5 => (de_v (i := 4) nm_day rfl rfl (.inl rfl))) (by decide) (fun _ => rfl))) de_int (fun _ _ => rfl)) da_nil rfl) rfl) rfl)))))))))))⟩
theorem ok__law_bent_copies {f : Addr} {fd : FuncData} (F : Fun K "_law_bent_copies" "_law_bent_copies" s__law_bent_copies f fd) : FnOk P w K mg base CX0 1 f fd ["told", "draws"] (spF K (f2 d__law_bent_copies)) := by
  refine fn_F (m := f2 b__law_bent_copies) F sc__law_bent_copies f2_len (f2_outF fun p_told p_draws => rfl) fun cdv A outer s H E hr ds d hd => ?_
  have nd := sc__law_bent_copies.nd
  have hu : (A.deeper (envOfC "_law_bent_copies" (defScope s__law_bent_copies) s.heap.objs.size f cdv)).units + 200 < cLine := by have := hr.un; omega
  obtain ⟨p_told, p_draws, rfl⟩ := f2_args hd
  exact ⟨fun _ => [.no, .no, .no, .no, .no, .no, .no, .no], fun _ => [.no, .no, .no, .no, .no, .no, .no, .no], (db_at [.val p_told, .val p_draws, .no, .no, .no, .no, .no, .no] rfl (db_cons (ds_tg (post := fun (t1 : D × D × D) => [.val p_told, .val p_draws, .val t1.1, .val t1.2.1, .val t1.2.2, .no, .no, .no]) (de_v (i := 0) nm_told rfl rfl (.inl rfl)) (dg_tup3 rfl (dgs_cons (i := 2) nd rfl (.inl rfl) (.inl rfl) fun _ => (dgs_cons (i := 3) nd rfl (.inl rfl) (.inl rfl) fun _ => (dgs_cons (i := 4) nd rfl (.inl rfl) (.inl rfl) fun _ => dgs_nil))) rfl rfl (fun _ _ _ => rfl)) rfl rfl rfl) fun t1 => (db_at [.val p_told, .val p_draws, .val t1.1, .val t1.2.1, .val t1.2.2, .no, .no, .no] rfl (db_cons (ds_asgF (i := 5) nd rfl (.inl rfl) (df_lst (da_cons (de_v (i := 0) nm_told rfl rfl (.inl rfl)) (da_cons (de_slice (de_v (i := 0) nm_told rfl rfl (.inl rfl)) (do_some de_int) (do_some de_int)) (da_cons (de_op op_addD (de_v (i := 0) nm_told rfl rfl (.inl rfl)) (de_tup (da_cons de_int da_nil rfl))) (da_cons (de_tup (da_cons (de_op op_addD (de_v (i := 2) nm_count rfl rfl (.inl rfl)) de_int) (da_cons (de_v (i := 3) nm_copies rfl rfl (.inl rfl)) (da_cons (de_v (i := 4) nm_day rfl rfl (.inl rfl)) da_nil rfl) rfl) rfl)) (da_cons (de_tup (da_cons (de_op op_subD (de_v (i := 2) nm_count rfl rfl (.inl rfl)) de_int) (da_cons (de_v (i := 3) nm_copies rfl rfl (.inl rfl)) (da_cons (de_v (i := 4) nm_day rfl rfl (.inl rfl)) da_nil rfl) rfl) rfl)) (da_cons (de_tup (da_cons (de_v (i := 2) nm_count rfl rfl (.inl rfl)) (da_cons (de_v (i := 3) nm_copies rfl rfl (.inl rfl)) (da_cons de_non da_nil rfl) rfl) rfl)) (da_cons (de_tup (da_cons (de_v (i := 2) nm_count rfl rfl (.inl rfl)) (da_cons (de_v (i := 3) nm_copies rfl rfl (.inl rfl)) (da_cons (de_un un_negD de_int) da_nil rfl) rfl) rfl)) (da_cons (de_tup (da_cons (de_v (i := 2) nm_count rfl rfl (.inl rfl)) (da_cons (de_v (i := 3) nm_copies rfl rfl (.inl rfl)) (da_cons (de_op op_modD (de_ix ix_D (de_v (i := 1) nm_draws rfl rfl (.inl rfl)) de_int (fun _ _ => rfl)) de_int) da_nil rfl) rfl) rfl)) (da_cons (de_tup (da_cons (de_v (i := 2) nm_count rfl rfl (.inl rfl)) (da_cons (de_slice (de_v (i := 3) nm_copies rfl rfl (.inl rfl)) (do_some de_int) do_none) (da_cons (de_v (i := 4) nm_day rfl rfl (.inl rfl)) da_nil rfl) rfl) rfl)) da_nil rfl) rfl) rfl) rfl) rfl) rfl) rfl) rfl) rfl)) rfl (.inl rfl)) fun found2 => (db_at [.val p_told, .val p_draws, .val t1.1, .val t1.2.1, .val t1.2.2, .own found2, .no, .no] rfl (db_frz (i := 5) rfl (db_at [.val p_told, .val p_draws, .val t1.1, .val t1.2.1, .val t1.2.2, .val (.list found2), .no, .no] rfl (db_cons (ds_asgF (i := 5) nd rfl (.inl rfl) (df_add (de_v (i := 5) nm_found rfl rfl (.inl rfl)) (DF.de (df_lst (da_cons (de_tup (da_cons (de_v (i := 2) nm_count rfl rfl (.inl rfl)) (da_cons (de_op op_addD (de_v (i := 3) nm_copies rfl rfl (.inl rfl)) (DF.de (df_lst (da_cons de_int da_nil rfl)))) (da_cons (de_v (i := 4) nm_day rfl rfl (.inl rfl)) da_nil rfl) rfl) rfl)) (da_cons (de_tup (da_cons (de_v (i := 2) nm_count rfl rfl (.inl rfl)) (da_cons (de_rev (de_v (i := 3) nm_copies rfl rfl (.inl rfl))) (da_cons (de_v (i := 4) nm_day rfl rfl (.inl rfl)) da_nil rfl) rfl) rfl)) (da_cons (de_tup (da_cons de_int (da_cons (DF.de (df_lst da_nil)) (da_cons de_non da_nil rfl) rfl) rfl)) (da_cons (de_tup (da_cons (de_callB (cb_len) (by rfl) z_len (by decide +kernel) (da_cons (de_v (i := 3) nm_copies rfl rfl (.inl rfl)) da_nil rfl) (by decide) (by decide) rfl rfl) (da_cons (DF.de (df_listRg rfl (by rfl) z_list (dr_1 (by rfl) z_range (de_callB (cb_len) (by rfl) z_len (by decide +kernel) (da_cons (de_v (i := 3) nm_copies rfl rfl (.inl rfl)) da_nil rfl) (by decide) (by decide) rfl rfl) rfl) rfl)) (da_cons (de_v (i := 4) nm_day rfl rfl (.inl rfl)) da_nil rfl) rfl) rfl)) (da_cons (de_tup (da_cons (de_v (i := 2) nm_count rfl rfl (.inl rfl)) (da_cons (DF.de (df_lst da_nil)) (da_cons (de_v (i := 4) nm_day rfl rfl (.inl rfl)) da_nil rfl) rfl) rfl)) da_nil rfl) rfl) rfl) rfl) rfl)))) rfl (.inl rfl)) fun found4 => (db_at [.val p_told, .val p_draws, .val t1.1, .val t1.2.1, .val t1.2.2, .own found4, .no, .no] rfl (db_cons (ds_if (S := List D) (post := fun j5 => [.val p_told, .val p_draws, .val t1.1, .val t1.2.1, .val t1.2.2, .own j5, .no, .no]) (dt_cmp (op_gtD' hu) (de_callB (cb_len) (by rfl) z_len (by decide +kernel) (da_cons (de_v (i := 3) nm_copies rfl rfl (.inl rfl)) da_nil rfl) (by decide) (by decide) rfl rfl) de_int (nomark _)) (db_at [.val p_told, .val p_draws, .val t1.1, .val t1.2.1, .val t1.2.2, .own found4, .no, .no] rfl (db_cons (ds_asg (i := 6) nd rfl (.inl rfl) (de_op op_modD (de_ix ix_D (de_v (i := 1) nm_draws rfl rfl (.inl rfl)) de_int (fun _ _ => rfl)) (de_callB (cb_len) (by rfl) z_len (by decide +kernel) (da_cons (de_v (i := 3) nm_copies rfl rfl (.inl rfl)) da_nil rfl) (by decide) (by decide) rfl rfl)) rfl (.inl rfl)) fun at6 => (db_at [.val p_told, .val p_draws, .val t1.1, .val t1.2.1, .val t1.2.2, .own found4, .val at6, .no] rfl (db_cons (ds_for (l0 := found4) (lp := fun (l7 : List D) => [.val p_told, .val p_draws, .val t1.1, .val t1.2.1, .val t1.2.2, .own l7, .val at6, .no]) (pt := fun (l7 : List D) (v8 : D) => [.val p_told, .val p_draws, .val t1.1, .val t1.2.1, .val t1.2.2, .own l7, .val at6, .val v8]) (js := [7]) PassesOwn.never rfl (.k (.k (.k (.k (.k (.k (.k (.n .nil)))))))) (di_seq (DF.de (df_lst (da_cons (de_un un_negD de_int) (da_cons (de_v (i := 2) nm_count rfl rfl (.inl rfl)) (da_cons (de_op op_modD (de_ix ix_D (de_v (i := 1) nm_draws rfl rfl (.inl rfl)) de_int (fun _ _ => rfl)) (de_op op_addD (de_v (i := 2) nm_count rfl rfl (.inl rfl)) de_int)) (da_cons de_int da_nil rfl) rfl) rfl) rfl)))) (fun l7 => (dg_name (i := 7) nd rfl (.inl rfl) (.inl rfl))) (fun l7 v8 => (db_cons (ds_ap (i := 5) nm_found rfl rfl (.inl rfl) (de_tup (da_cons (de_v (i := 2) nm_count rfl rfl (.inl rfl)) (da_cons (de_op op_addD (de_op op_addD (de_slice (de_v (i := 3) nm_copies rfl rfl (.inl rfl)) (do_some de_int) (do_some (de_v (i := 6) nm_at rfl rfl (.inl rfl)))) (DF.de (df_lst (da_cons (de_v (i := 7) nm_copy rfl rfl (.inl rfl)) da_nil rfl)))) (de_slice (de_v (i := 3) nm_copies rfl rfl (.inl rfl)) (do_some (de_op op_addD (de_v (i := 6) nm_at rfl rfl (.inl rfl)) de_int)) do_none)) (da_cons (de_v (i := 4) nm_day rfl rfl (.inl rfl)) da_nil rfl) rfl) rfl)) rfl rfl rfl rfl rfl rfl) fun a9 => (db_at [.val p_told, .val p_draws, .val t1.1, .val t1.2.1, .val t1.2.2, .own (l7 ++ [a9]), .val at6, .val v8] rfl (db_nil (s := (l7 ++ [a9])) (.k (.k (.k (.k (.k (.k (.k (.n .nil)))))))))))) (fun _ => rfl)) fun l7 => (db_at [.val p_told, .val p_draws, .val t1.1, .val t1.2.1, .val t1.2.2, .own l7, .val at6, .no] rfl (db_nil (s := l7) (.k (.k (.k (.k (.k (.k (.n (.n .nil)))))))))))))) (db_at [.val p_told, .val p_draws, .val t1.1, .val t1.2.1, .val t1.2.2, .own found4, .no, .no] rfl (db_nil (s := found4) (.k (.k (.k (.k (.k (.k (.n (.n .nil))))))))))) fun j5 => (db_at [.val p_told, .val p_draws, .val t1.1, .val t1.2.1, .val t1.2.2, .own j5, .no, .no] rfl (db_one (ds_rO (i := 5) nm_found rfl rfl (.inl rfl))))))))))))))⟩
theorem ok_is_out {f : Addr} {fd : FuncData} (F : Fun K "is_out" "is_out" s_is_out f fd) : FnOk P w K mg base CX0 1 f fd ["loan", "day"] (spD K (f2 d_is_out)) := by
  refine fn_D (m := f2 b_is_out) F sc_is_out f2_len (f2_outD fun p_loan p_day => rfl) fun cdv A outer s H E hr ds d hd => ?_
  have nd := sc_is_out.nd
  have hu : (A.deeper (envOfC "is_out" (defScope s_is_out) s.heap.objs.size f cdv)).units + 200 < cLine := by have := hr.un; omega
  obtain ⟨p_loan, p_day, rfl⟩ := f2_args hd
  exact ⟨fun _ => [.no, .no], fun _ => [.no, .no], (db_at [.val p_loan, .val p_day] rfl (db_one (ds_ret (de_chain (op_leD' hu) (op_ltD' hu) (de_ix ix_D (de_v (i := 0) nm_loan rfl rfl (.inl rfl)) de_int (fun _ _ => rfl)) (de_v (i := 1) nm_day rfl rfl (.inl rfl)) (de_ix ix_D (de_v (i := 0) nm_loan rfl rfl (.inl rfl)) de_int (fun _ _ => rfl)) rfl))))⟩
theorem ok_free_copy {f : Addr} {fd : FuncData} (F : Fun K "free_copy" "free_copy" s_free_copy f fd) (c_is_out : Dl.Callee P w K mg base "is_out" ["loan", "day"] 1 (spD K (f2 d_is_out))) : FnOk P w K mg base CX0 2 f fd ["taken", "day"] (spD K (f2 d_free_copy)) := by
  refine fn_D (m := f2 b_free_copy) F sc_free_copy f2_len (f2_outD fun p_taken p_day => rfl) fun cdv A outer s H E hr ds d hd => ?_
  have nd := sc_free_copy.nd
  have hu : (A.deeper (envOfC "free_copy" (defScope s_free_copy) s.heap.objs.size f cdv)).units + 200 < cLine := by have := hr.un; omega
  obtain ⟨p_taken, p_day, rfl⟩ := f2_args hd
  exact ⟨fun _ => [.no, .no, .no, .no, .no], fun _ => [.no, .no, .no, .no, .no], (db_at [.val p_taken, .val p_day, .no, .no, .no] rfl (db_cons (ds_asg (i := 2) nd rfl (.inr rfl) (DF.de (df_lc (own := [("loan", 3), ("copy", 4)]) (post := fun (loan2 : D × D) => [.val p_taken, .val p_day, .no, .val loan2.1, .val loan2.2]) (js := [3, 4]) rfl nd (di_seq (de_v (i := 0) nm_taken rfl rfl (.inl rfl))) (blkOk_by (N := ["taken", "day", "busy", "loan", "copy"]) (sc := defScope s_free_copy) (own := [("loan", 3), ("copy", 4)]) (by decide +kernel)) (fun _ _ _ _ _ => (dg_tup2 rfl (dgs_cons (i := 3) nd rfl (.inl rfl) (.inr rfl) fun _ => (dgs_cons (i := 4) nd rfl (.inl rfl) (.inr rfl) fun _ => dgs_nil)) rfl rfl (fun _ _ => rfl))) (fun _ _ _ _ _ loan2 => (dts_one (dt_truth (de_call c_is_out (hr.mono (by decide)) (da_cons (de_v (i := 3) nm_loan rfl rfl (.inl rfl)) (da_cons (de_v (i := 1) nm_day rfl rfl (.inr (.inl rfl))) da_nil rfl) rfl) (by rfl) (by decide) rfl rfl) (fun _ => rfl)))) (fun _ _ _ _ _ loan2 => (de_v (i := 4) nm_copy rfl rfl (.inl rfl))) (by decide) (fun _ => rfl))) rfl (.inl rfl)) fun busy1 => (db_at [.val p_taken, .val p_day, .val busy1, .no, .no] rfl (db_one (ds_ret (de_ix ix_D (DF.de (df_lc (own := [("copy", 4)]) (post := fun (copy3 : D) => [.val p_taken, .val p_day, .val busy1, .no, .val copy3]) (js := [4]) rfl nd (di_rng1 (by rfl) z_range (da_cons (de_op op_addD (de_callB (cb_len) (by rfl) z_len (by decide +kernel) (da_cons (de_v (i := 2) nm_busy rfl rfl (.inr (.inl rfl))) da_nil rfl) (by decide) (by decide) rfl rfl) de_int) da_nil rfl) rfl) (blkOk_by (N := ["taken", "day", "busy", "loan", "copy"]) (sc := defScope s_free_copy) (own := [("copy", 4)]) (by decide +kernel)) (fun _ _ _ _ _ => (dg_name (i := 4) nd rfl (.inl rfl) (.inr rfl))) (fun _ _ _ _ _ copy3 => (dts_one (dt_cmp (op_notInD' hu) (de_v (i := 4) nm_copy rfl rfl (.inl rfl)) (de_v (i := 2) nm_busy rfl rfl (.inr (.inl rfl))) rfl))) (fun _ _ _ _ _ copy3 => (de_v (i := 4) nm_copy rfl rfl (.inl rfl))) (by decide) (fun _ => rfl))) de_int (fun _ _ => rfl)))))))⟩
theorem ok_given_copies {f : Addr} {fd : FuncData} (F : Fun K "given_copies" "given_copies" s_given_copies f fd) (c_free_copy : Dl.Callee P w K mg base "free_copy" ["taken", "day"] 2 (spD K (f2 d_free_copy))) : FnOk P w K mg base CX0 3 f fd ["loans"] (spF K (f1 d_given_copies)) := by
  refine fn_F (m := f1 b_given_copies) F sc_given_copies f1_len (f1_outF fun p_loans => rfl) fun cdv A outer s H E hr ds d hd => ?_
  have nd := sc_given_copies.nd
  have hu : (A.deeper (envOfC "given_copies" (defScope s_given_copies) s.heap.objs.size f cdv)).units + 200 < cLine := by have := hr.un; omega
  obtain ⟨p_loans, rfl⟩ := f1_args hd
  exact ⟨fun _ => [.no, .no, .no, .no, .no, .no], fun _ => [.no, .no, .no, .no, .no, .no], (db_at [.val p_loans, .no, .no, .no, .no, .no] rfl (db_cons (ds_setLc (i := 1) (own := [("_", 3)]) (post := fun (x2 : D) => [.val p_loans, .no, .no, .val x2, .no, .no]) (js := [3]) rfl nd rfl rfl (sw_true rfl rfl rfl (by decide +kernel)) (di_seq (de_v (i := 0) nm_loans rfl rfl (.inl rfl))) (blkOk_by (N := ["loans", "found", "taken", "_", "k", "loan"]) (sc := defScope s_given_copies) (own := [("_", 3)]) (by decide +kernel)) (fun _ _ _ _ _ => (dg_name (i := 3) nd rfl (.inl rfl) (.inr rfl))) (fun _ _ _ _ _ x2 => dts_nil) (fun _ _ _ _ _ x2 => de_int) (by decide) (fun _ => rfl)) fun found1 => (db_at [.val p_loans, .own found1, .no, .no, .no, .no] rfl (db_cons (ds_asgF (i := 2) nd rfl (.inl rfl) (df_lst da_nil) rfl (.inl rfl)) fun taken3 => (db_at [.val p_loans, .own found1, .own taken3, .no, .no, .no] rfl (db_cons (ds_for (l0 := (found1, taken3)) (lp := fun (l5 : List D × List D) => [.val p_loans, .own l5.1, .own l5.2, .no, .no, .no]) (pt := fun (l5 : List D × List D) (v6 : D × D) => [.val p_loans, .own l5.1, .own l5.2, .val v6.1, .val v6.2, .no]) (js := [3, 4]) PassesOwn.never rfl (.k (.k (.k (.n (.n (.n .nil)))))) (di_seq (DF.de (df_callB (cb_sorted hu) (by rfl) z_sorted (by decide +kernel) (da_cons (DF.de (df_lc (own := [("k", 4), ("loan", 5)]) (post := fun (k4 : D × D) => [.val p_loans, .own found1, .own taken3, .no, .val k4.1, .val k4.2]) (js := [4, 5]) rfl nd (di_enum (by rfl) z_enumerate (da_cons (de_v (i := 0) nm_loans rfl rfl (.inl rfl)) da_nil rfl) rfl) (blkOk_by (N := ["loans", "found", "taken", "_", "k", "loan"]) (sc := defScope s_given_copies) (own := [("k", 4), ("loan", 5)]) (by decide +kernel)) (fun _ _ _ _ _ => (dg_tup2 rfl (dgs_cons (i := 4) nd rfl (.inl rfl) (.inr rfl) fun _ => (dgs_cons (i := 5) nd rfl (.inl rfl) (.inr rfl) fun _ => dgs_nil)) rfl rfl (fun _ _ => rfl))) (fun _ _ _ _ _ k4 => dts_nil) (fun _ _ _ _ _ k4 => (de_tup (da_cons (de_v (i := 5) nm_loan rfl rfl (.inl rfl)) (da_cons (de_v (i := 4) nm_k rfl rfl (.inl rfl)) da_nil rfl) rfl))) (by decide) (fun _ => rfl))) da_nil rfl) (by decide) (by decide) rfl rfl))) (fun l5 => (dg_tup2 rfl (dgs_cons (i := 3) nd rfl (.inl rfl) (.inl rfl) fun _ => (dgs_cons (i := 4) nd rfl (.inl rfl) (.inl rfl) fun _ => dgs_nil)) rfl rfl (fun _ _ => rfl))) (fun l5 v6 => (db_cons (ds_st (i := 1) nm_found rfl rfl (.inl rfl) (de_thaw (.k (.o (.o (.k (.k (.k .nil)))))) (de_call c_free_copy (hr.mono (by decide)) (da_cons (de_v (i := 2) nm_taken rfl rfl (.inl rfl)) (da_cons (de_ix ix_D (de_ix ix_D (de_v (i := 0) nm_loans rfl rfl (.inl rfl)) (de_v (i := 4) nm_k rfl rfl (.inl rfl)) (fun _ _ => rfl)) de_int (fun _ _ => rfl)) da_nil rfl) rfl) (by rfl) (by decide) rfl rfl)) (de_v (i := 4) nm_k rfl rfl (.inl rfl)) rfl rfl rfl (fun ho hi hs => pg_sub ho hi hs)) fun found7 => (db_at [.val p_loans, .own found7, .own l5.2, .val v6.1, .val v6.2, .no] rfl (db_cons (ds_ap (i := 2) nm_taken rfl rfl (.inl rfl) (de_tup (da_cons (de_ix ix_D (de_v (i := 0) nm_loans rfl rfl (.inl rfl)) (de_v (i := 4) nm_k rfl rfl (.inl rfl)) (fun _ _ => rfl)) (da_cons (de_ox (i := 1) nm_found rfl rfl (.inl rfl) (de_v (i := 4) nm_k rfl rfl (.inl rfl)) (fun _ _ => rfl)) da_nil rfl) rfl)) rfl rfl rfl rfl rfl rfl) fun a8 => (db_at [.val p_loans, .own found7, .own (l5.2 ++ [a8]), .val v6.1, .val v6.2, .no] rfl (db_nil (s := (found7, (l5.2 ++ [a8]))) (.k (.k (.k (.n (.n (.n .nil)))))))))))) (fun _ => rfl)) fun l5 => (db_at [.val p_loans, .own l5.1, .own l5.2, .no, .no, .no] rfl (db_one (ds_rO (i := 1) nm_found rfl rfl (.inl rfl))))))))))⟩
theorem ok_out_on {f : Addr} {fd : FuncData} (F : Fun K "out_on" "out_on" s_out_on f fd) (c_is_out : Dl.Callee P w K mg base "is_out" ["loan", "day"] 1 (spD K (f2 d_is_out))) : FnOk P w K mg base CX0 2 f fd ["loans", "day"] (spD K (f2 d_out_on)) := by
  refine fn_D (m := f2 b_out_on) F sc_out_on f2_len (f2_outD fun p_loans p_day => rfl) fun cdv A outer s H E hr ds d hd => ?_
  have nd := sc_out_on.nd
  have hu : (A.deeper (envOfC "out_on" (defScope s_out_on) s.heap.objs.size f cdv)).units + 200 < cLine := by have := hr.un; omega
  obtain ⟨p_loans, p_day, rfl⟩ := f2_args hd
  exact ⟨fun _ => [.no, .no, .no], fun _ => [.no, .no, .no], (db_at [.val p_loans, .val p_day, .no] rfl (db_one (ds_ret (de_callB (cb_len) (by rfl) z_len (by decide +kernel) (da_cons (DF.de (df_lc (own := [("loan", 2)]) (post := fun (loan1 : D) => [.val p_loans, .val p_day, .val loan1]) (js := [2]) rfl nd (di_seq (de_v (i := 0) nm_loans rfl rfl (.inl rfl))) (blkOk_by (N := ["loans", "day", "loan"]) (sc := defScope s_out_on) (own := [("loan", 2)]) (by decide +kernel)) (fun _ _ _ _ _ => (dg_name (i := 2) nd rfl (.inl rfl) (.inr rfl))) (fun _ _ _ _ _ loan1 => (dts_one (dt_truth (de_call c_is_out (hr.mono (by decide)) (da_cons (de_v (i := 2) nm_loan rfl rfl (.inl rfl)) (da_cons (de_v (i := 1) nm_day rfl rfl (.inr (.inl rfl))) da_nil rfl) rfl) (by rfl) (by decide) rfl rfl) (fun _ => rfl)))) (fun _ _ _ _ _ loan1 => (de_v (i := 2) nm_loan rfl rfl (.inl rfl))) (by decide) (fun _ => rfl))) da_nil rfl) (by decide) (by decide) rfl rfl))))⟩
theorem ok_find_copies {f : Addr} {fd : FuncData} (F : Fun K "find_copies" "find_copies" s_find_copies f fd) (c_given_copies : Dl.Callee P w K mg base "given_copies" ["loans"] 3 (spF K (f1 d_given_copies))) (c_out_on : Dl.Callee P w K mg base "out_on" ["loans", "day"] 2 (spD K (f2 d_out_on))) : FnOk P w K mg base CX0 4 f fd ["loans"] (spN K 1 (f1 d_find_copies)) := by
  refine fn_N (m := f1 b_find_copies) F sc_find_copies f1_len (f1_outN fun p_loans => rfl) fun cdv A outer s H E hr ds d hd => ?_
  have nd := sc_find_copies.nd
  have hu : (A.deeper (envOfC "find_copies" (defScope s_find_copies) s.heap.objs.size f cdv)).units + 200 < cLine := by have := hr.un; omega
  obtain ⟨p_loans, rfl⟩ := f1_args hd
  exact ⟨fun _ => [.no, .no, .no, .no, .no, .no, .no], fun _ => [.no, .no, .no, .no, .no, .no, .no], (db_at [.val p_loans, .no, .no, .no, .no, .no, .no] rfl (db_cons (ds_if (S := Unit) (post := fun _ => [.val p_loans, .no, .no, .no, .no, .no, .no]) (dt_not (dt_truth (de_v (i := 0) nm_loans rfl rfl (.inr (.inl rfl))) (fun _ => rfl))) (db_at [.val p_loans, .no, .no, .no, .no, .no, .no] rfl (db_one (ds_retT (dan_later de_int (dan_new (df_lst da_nil) (da_cons de_non da_nil rfl) rfl) rfl)))) (db_nil (s := ()) (Wk.refl _))) fun _ => (db_at [.val p_loans, .no, .no, .no, .no, .no, .no] rfl (db_cons (ds_asgF (i := 1) nd rfl (.inl rfl) (df_call c_given_copies (hr.mono (by decide)) (da_cons (de_v (i := 0) nm_loans rfl rfl (.inr (.inl rfl))) da_nil rfl) (by rfl) (by decide) rfl rfl) rfl (.inl rfl)) fun copies1 => (db_at [.val p_loans, .own copies1, .no, .no, .no, .no, .no] rfl (db_cons (ds_asg (i := 2) nd rfl (.inr rfl) (de_op op_addD (de_thaw (.k (.o (.k (.k (.k (.k (.k .nil))))))) (de_callB (cb_max rfl hu) (by rfl) z_max (by decide +kernel) (da_cons (de_v (i := 1) nm_copies rfl rfl (.inl rfl)) da_nil rfl) (by decide) (by decide) rfl rfl)) de_int) rfl (.inl rfl)) fun count2 => (db_at [.val p_loans, .own copies1, .val count2, .no, .no, .no, .no] rfl (db_cons (ds_asg (i := 3) nd rfl (.inl rfl) (DF.de (df_callB (cb_sorted hu) (by rfl) z_sorted (by decide +kernel) (da_cons (DF.de (df_lc (own := [("first", 4), ("_", 5)]) (post := fun (first4 : D × D) => [.val p_loans, .own copies1, .val count2, .no, .val first4.1, .val first4.2, .no]) (js := [4, 5]) rfl nd (di_seq (de_v (i := 0) nm_loans rfl rfl (.inr (.inl rfl)))) (blkOk_by (N := ["loans", "copies", "count", "days", "first", "_", "day"]) (sc := defScope s_find_copies) (own := [("first", 4), ("_", 5)]) (by decide +kernel)) (fun _ _ _ _ _ => (dg_tup2 rfl (dgs_cons (i := 4) nd rfl (.inl rfl) (.inr rfl) fun _ => (dgs_cons (i := 5) nd rfl (.inl rfl) (.inr rfl) fun _ => dgs_nil)) rfl rfl (fun _ _ => rfl))) (fun _ _ _ _ _ first4 => dts_nil) (fun _ _ _ _ _ first4 => (de_v (i := 4) nm_first rfl rfl (.inl rfl))) (by decide) (fun _ => rfl))) da_nil rfl) (by decide) (by decide) rfl rfl)) rfl (.inl rfl)) fun days3 => (db_at [.val p_loans, .own copies1, .val count2, .val days3, .no, .no, .no] rfl (db_one (ds_retT (dan_later (de_v (i := 2) nm_count rfl rfl (.inr (.inl rfl))) (dan_own (i := 1) nm_copies rfl rfl (.inl rfl) (da_cons (de_ix ix_D (DF.de (df_lc (own := [("day", 6)]) (post := fun (day5 : D) => [.val p_loans, .val (.list copies1), .val count2, .val days3, .no, .no, .val day5]) (js := [6]) rfl nd (di_seq (de_v (i := 3) nm_days rfl rfl (.inl rfl))) (blkOk_by (N := ["loans", "copies", "count", "days", "first", "_", "day"]) (sc := defScope s_find_copies) (own := [("day", 6)]) (by decide +kernel)) (fun _ _ _ _ _ => (dg_name (i := 6) nd rfl (.inl rfl) (.inr rfl))) (fun _ _ _ _ _ day5 => (dts_one (dt_cmp (op_eqD' hu) (de_call c_out_on (hr.mono (by decide)) (da_cons (de_v (i := 0) nm_loans rfl rfl (.inr (.inl rfl))) (da_cons (de_v (i := 6) nm_day rfl rfl (.inl rfl)) da_nil rfl) rfl) (by rfl) (by decide) rfl rfl) (de_v (i := 2) nm_count rfl rfl (.inr (.inl rfl))) (nomark _)))) (fun _ _ _ _ _ day5 => (de_v (i := 6) nm_day rfl rfl (.inl rfl))) (by decide) (fun _ => rfl))) de_int (fun _ _ => rfl)) da_nil rfl) rfl) rfl))))))))))))⟩
theorem ok_both_out {f : Addr} {fd : FuncData} (F : Fun K "both_out" "both_out" s_both_out f fd) : FnOk P w K mg base CX0 1 f fd ["one", "other"] (spD K (f2 d_both_out)) := by
  refine fn_D (m := f2 b_both_out) F sc_both_out f2_len (f2_outD fun p_one p_other => rfl) fun cdv A outer s H E hr ds d hd => ?_
  have nd := sc_both_out.nd
  have hu : (A.deeper (envOfC "both_out" (defScope s_both_out) s.heap.objs.size f cdv)).units + 200 < cLine := by have := hr.un; omega
  obtain ⟨p_one, p_other, rfl⟩ := f2_args hd
  exact ⟨fun _ => [.no, .no], fun _ => [.no, .no], (db_at [.val p_one, .val p_other] rfl (db_one (ds_ret (de_and (de_cmp (op_ltD' hu) (de_ix ix_D (de_v (i := 0) nm_one rfl rfl (.inl rfl)) de_int (fun _ _ => rfl)) (de_ix ix_D (de_v (i := 1) nm_other rfl rfl (.inl rfl)) de_int (fun _ _ => rfl)) (nomark _)) (de_one (de_cmp (op_ltD' hu) (de_ix ix_D (de_v (i := 1) nm_other rfl rfl (.inl rfl)) de_int (fun _ _ => rfl)) (de_ix ix_D (de_v (i := 0) nm_one rfl rfl (.inl rfl)) de_int (fun _ _ => rfl)) (nomark _)))))))⟩
theorem ok_are_apart {f : Addr} {fd : FuncData} (F : Fun K "are_apart" "are_apart" s_are_apart f fd) (c_both_out : Dl.Callee P w K mg base "both_out" ["one", "other"] 1 (spD K (f2 d_both_out))) : FnOk P w K mg base CX0 2 f fd ["loans", "count", "copies"] (spD K (f3 d_are_apart)) := by
  refine fn_D (m := f3 b_are_apart) F sc_are_apart f3_len (f3_outD fun p_loans p_count p_copies => rfl) fun cdv A outer s H E hr ds d hd => ?_
  have nd := sc_are_apart.nd
  have hu : (A.deeper (envOfC "are_apart" (defScope s_are_apart) s.heap.objs.size f cdv)).units + 200 < cLine := by have := hr.un; omega
  obtain ⟨p_loans, p_count, p_copies, rfl⟩ := f3_args hd
  exact ⟨fun _ => [.no, .no, .no, .no, .no, .no], fun _ => [.no, .no, .no, .no, .no, .no], (db_at [.val p_loans, .val p_count, .val p_copies, .no, .no, .no] rfl (db_cons (ds_if (S := Unit) (post := fun _ => [.val p_loans, .val p_count, .val p_copies, .no, .no, .no]) (DW.dt (dw_or (dt_cmp (op_neD' hu) (de_callB (cb_len) (by rfl) z_len (by decide +kernel) (da_cons (de_v (i := 2) nm_copies rfl rfl (.inl rfl)) da_nil rfl) (by decide) (by decide) rfl rfl) (de_callB (cb_len) (by rfl) z_len (by decide +kernel) (da_cons (de_v (i := 0) nm_loans rfl rfl (.inl rfl)) da_nil rfl) (by decide) (by decide) rfl rfl) (nomark _)) (dw_or1 (dt_not (dt_truth (de_callB (cb_all rfl) (by rfl) z_all (by decide +kernel) (da_cons (DF.de (df_lc (own := [("copy", 5)]) (post := fun (copy1 : D) => [.val p_loans, .val p_count, .val p_copies, .no, .no, .val copy1]) (js := [5]) rfl nd (di_seq (de_v (i := 2) nm_copies rfl rfl (.inl rfl))) (blkOk_by (N := ["loans", "count", "copies", "k", "j", "copy"]) (sc := defScope s_are_apart) (own := [("copy", 5)]) (by decide +kernel)) (fun _ _ _ _ _ => (dg_name (i := 5) nd rfl (.inl rfl) (.inr rfl))) (fun _ _ _ _ _ copy1 => dts_nil) (fun _ _ _ _ _ copy1 => (de_chain (op_leD' hu) (op_ltD' hu) de_int (de_v (i := 5) nm_copy rfl rfl (.inl rfl)) (de_v (i := 1) nm_count rfl rfl (.inr (.inl rfl))) rfl)) (by decide) (fun _ => rfl))) da_nil rfl) (by decide) (by decide) rfl rfl) (fun _ => rfl)))))) (db_at [.val p_loans, .val p_count, .val p_copies, .no, .no, .no] rfl (db_one (ds_ret de_bl))) (db_nil (s := ()) (Wk.refl _))) fun _ => (db_at [.val p_loans, .val p_count, .val p_copies, .no, .no, .no] rfl (db_cons (ds_for (l0 := ()) (lp := fun (l2 : Unit) => [.val p_loans, .val p_count, .val p_copies, .no, .no, .no]) (pt := fun (l2 : Unit) (v3 : D) => [.val p_loans, .val p_count, .val p_copies, .val v3, .no, .no]) (js := [3]) PassesOwn.never rfl (.k (.k (.k (.n (.n (.n .nil)))))) (di_rng1 (by rfl) z_range (da_cons (de_callB (cb_len) (by rfl) z_len (by decide +kernel) (da_cons (de_v (i := 0) nm_loans rfl rfl (.inl rfl)) da_nil rfl) (by decide) (by decide) rfl rfl) da_nil rfl) rfl) (fun l2 => (dg_name (i := 3) nd rfl (.inl rfl) (.inl rfl))) (fun l2 v3 => (db_cons (ds_for (l0 := ()) (lp := fun (l4 : Unit) => [.val p_loans, .val p_count, .val p_copies, .val v3, .no, .no]) (pt := fun (l4 : Unit) (v5 : D) => [.val p_loans, .val p_count, .val p_copies, .val v3, .val v5, .no]) (js := [4]) PassesOwn.never rfl (.k (.k (.k (.k (.n (.n .nil)))))) (di_rng1 (by rfl) z_range (da_cons (de_v (i := 3) nm_k rfl rfl (.inl rfl)) da_nil rfl) rfl) (fun l4 => (dg_name (i := 4) nd rfl (.inl rfl) (.inl rfl))) (fun l4 v5 => (db_one (ds_if (DW.dt (dw_and (dt_cmp (op_eqD' hu) (de_ix ix_D (de_v (i := 2) nm_copies rfl rfl (.inl rfl)) (de_v (i := 4) nm_j rfl rfl (.inl rfl)) (fun _ _ => rfl)) (de_ix ix_D (de_v (i := 2) nm_copies rfl rfl (.inl rfl)) (de_v (i := 3) nm_k rfl rfl (.inl rfl)) (fun _ _ => rfl)) (nomark _)) (dw_and1 (dt_truth (de_call c_both_out (hr.mono (by decide)) (da_cons (de_ix ix_D (de_v (i := 0) nm_loans rfl rfl (.inl rfl)) (de_v (i := 4) nm_j rfl rfl (.inl rfl)) (fun _ _ => rfl)) (da_cons (de_ix ix_D (de_v (i := 0) nm_loans rfl rfl (.inl rfl)) (de_v (i := 3) nm_k rfl rfl (.inl rfl)) (fun _ _ => rfl)) da_nil rfl) rfl) (by rfl) (by decide) rfl rfl) (fun _ => rfl))))) (db_at [.val p_loans, .val p_count, .val p_copies, .val v3, .val v5, .no] rfl (db_one (ds_ret de_bl))) (db_at [.val p_loans, .val p_count, .val p_copies, .val v3, .val v5, .no] rfl (db_nil (s := ()) (.k (.k (.k (.k (.n (.n .nil))))))))))) (fun _ => rfl)) fun l4 => (db_at [.val p_loans, .val p_count, .val p_copies, .val v3, .no, .no] rfl (db_nil (s := ()) (.k (.k (.k (.n (.n (.n .nil)))))))))) (fun _ => rfl)) fun l2 => (db_at [.val p_loans, .val p_count, .val p_copies, .no, .no, .no] rfl (db_one (ds_ret de_bl)))))))⟩
theorem ok_judge_copies {f : Addr} {fd : FuncData} (F : Fun K "judge_copies" "judge_copies" s_judge_copies f fd) (c_are_apart : Dl.Callee P w K mg base "are_apart" ["loans", "count", "copies"] 2 (spD K (f3 d_are_apart))) (c_out_on : Dl.Callee P w K mg base "out_on" ["loans", "day"] 2 (spD K (f2 d_out_on))) : FnOk P w K mg base CX0 3 f fd ["loans", "verdict"] (spD K (f2 d_judge_copies)) := by
  refine fn_D (m := f2 b_judge_copies) F sc_judge_copies f2_len (f2_outD fun p_loans p_verdict => rfl) fun cdv A outer s H E hr ds d hd => ?_
  have nd := sc_judge_copies.nd
  have hu : (A.deeper (envOfC "judge_copies" (defScope s_judge_copies) s.heap.objs.size f cdv)).units + 200 < cLine := by have := hr.un; omega
  obtain ⟨p_loans, p_verdict, rfl⟩ := f2_args hd
  exact ⟨fun _ => [.no, .no, .no, .no, .no], fun _ => [.no, .no, .no, .no, .no], (db_at [.val p_loans, .val p_verdict, .no, .no, .no] rfl (db_cons (ds_if (S := Unit) (post := fun _ => [.val p_loans, .val p_verdict, .no, .no, .no]) (dt_cmp (op_neD' hu) (de_callB (cb_len) (by rfl) z_len (by decide +kernel) (da_cons (de_v (i := 1) nm_verdict rfl rfl (.inl rfl)) da_nil rfl) (by decide) (by decide) rfl rfl) de_int (nomark _)) (db_at [.val p_loans, .val p_verdict, .no, .no, .no] rfl (db_one (ds_ret de_bl))) (db_nil (s := ()) (Wk.refl _))) fun _ => (db_at [.val p_loans, .val p_verdict, .no, .no, .no] rfl (db_cons (ds_tg (post := fun (t1 : D × D × D) => [.val p_loans, .val p_verdict, .val t1.1, .val t1.2.1, .val t1.2.2]) (de_v (i := 1) nm_verdict rfl rfl (.inl rfl)) (dg_tup3 rfl (dgs_cons (i := 2) nd rfl (.inl rfl) (.inl rfl) fun _ => (dgs_cons (i := 3) nd rfl (.inl rfl) (.inl rfl) fun _ => (dgs_cons (i := 4) nd rfl (.inl rfl) (.inl rfl) fun _ => dgs_nil))) rfl rfl (fun _ _ _ => rfl)) rfl rfl rfl) fun t1 => (db_at [.val p_loans, .val p_verdict, .val t1.1, .val t1.2.1, .val t1.2.2] rfl (db_cons (ds_if (S := Unit) (post := fun _ => [.val p_loans, .val p_verdict, .val t1.1, .val t1.2.1, .val t1.2.2]) (dt_not (dt_truth (de_call c_are_apart (hr.mono (by decide)) (da_cons (de_v (i := 0) nm_loans rfl rfl (.inl rfl)) (da_cons (de_v (i := 2) nm_count rfl rfl (.inl rfl)) (da_cons (de_v (i := 3) nm_copies rfl rfl (.inl rfl)) da_nil rfl) rfl) rfl) (by rfl) (by decide) rfl rfl) (fun _ => rfl))) (db_at [.val p_loans, .val p_verdict, .val t1.1, .val t1.2.1, .val t1.2.2] rfl (db_one (ds_ret de_bl))) (db_nil (s := ()) (Wk.refl _))) fun _ => (db_at [.val p_loans, .val p_verdict, .val t1.1, .val t1.2.1, .val t1.2.2] rfl (db_cons (ds_if (S := Unit) (post := fun _ => [.val p_loans, .val p_verdict, .val t1.1, .val t1.2.1, .val t1.2.2]) (DW.dt (dw_or (dt_cmp (op_eqD' hu) (de_v (i := 2) nm_count rfl rfl (.inl rfl)) de_int (nomark _)) (dw_or1 (dt_cmp op_isD (de_v (i := 4) nm_day rfl rfl (.inl rfl)) de_non (nomark _))))) (db_at [.val p_loans, .val p_verdict, .val t1.1, .val t1.2.1, .val t1.2.2] rfl (db_one (ds_ret (de_and (de_cmp (op_eqD' hu) (de_v (i := 2) nm_count rfl rfl (.inl rfl)) de_int (nomark _)) (de_one (de_cmp op_isD (de_v (i := 4) nm_day rfl rfl (.inl rfl)) de_non (nomark _))))))) (db_nil (s := ()) (Wk.refl _))) fun _ => (db_at [.val p_loans, .val p_verdict, .val t1.1, .val t1.2.1, .val t1.2.2] rfl (db_one (ds_ret (de_cmp (op_eqD' hu) (de_call c_out_on (hr.mono (by decide)) (da_cons (de_v (i := 0) nm_loans rfl rfl (.inl rfl)) (da_cons (de_v (i := 4) nm_day rfl rfl (.inl rfl)) da_nil rfl) rfl) (by rfl) (by decide) rfl rfl) (de_v (i := 2) nm_count rfl rfl (.inl rfl)) (nomark _)))))))))))))⟩
theorem ok__law_same {f : Addr} {fd : FuncData} (F : Fun K "_law_same" "_law_same" s__law_same f fd) (gf : mg "_law_same" = some (.ref f)) (bf : Binds K fd ["told", "due"] []) : ∀ n : Nat, FnOk P w K mg base CX0 (0 + n) f fd ["told", "due"] (spD K (f2 (d__law_same n)))
  | 0 => fn_none fun ds => by unfold f2; split <;> rfl
  | n + 1 => by
    have c_rec : Dl.Callee P w K mg base "_law_same" ["told", "due"] (0 + n) (spD K (f2 (d__law_same n))) := ⟨f, fd, ok__law_same F gf bf  n, gf, F.kp, bf⟩
    refine fn_D (m := f2 (b__law_same (d__law_same n))) F sc__law_same f2_len (f2_outD fun p_told p_due => rfl) fun cdv A outer s H E hr ds d hd => ?_
    have nd := sc__law_same.nd
    have hu : (A.deeper (envOfC "_law_same" (defScope s__law_same) s.heap.objs.size f cdv)).units + 200 < cLine := by have := hr.un; omega
    obtain ⟨p_told, p_due, rfl⟩ := f2_args hd
    exact ⟨fun _ => [.no, .no, .no], fun _ => [.no, .no, .no], (db_at [.val p_told, .val p_due, .no] rfl (db_cons (ds_if (S := Unit) (post := fun j1 => [.val p_told, .val p_due, .no]) (dt_truth (de_isi (T := "list") (by rfl) z_isinstance (by rfl) z_list (by decide +kernel) (de_v (i := 1) nm_due rfl rfl (.inl rfl)) (by decide) (by decide) rfl rfl rfl) (fun _ => rfl)) (db_at [.val p_told, .val p_due, .no] rfl (db_one (ds_if (DW.dt (dw_or (dt_not (dt_truth (de_isi (T := "list") (by rfl) z_isinstance (by rfl) z_list (by decide +kernel) (de_v (i := 0) nm_told rfl rfl (.inl rfl)) (by decide) (by decide) rfl rfl rfl) (fun _ => rfl))) (dw_or1 (dt_cmp (op_neD' hu) (de_callB (cb_len) (by rfl) z_len (by decide +kernel) (da_cons (de_v (i := 0) nm_told rfl rfl (.inl rfl)) da_nil rfl) (by decide) (by decide) rfl rfl) (de_callB (cb_len) (by rfl) z_len (by decide +kernel) (da_cons (de_v (i := 1) nm_due rfl rfl (.inl rfl)) da_nil rfl) (by decide) (by decide) rfl rfl) (nomark _))))) (db_at [.val p_told, .val p_due, .no] rfl (db_one (ds_ret de_bl))) (db_at [.val p_told, .val p_due, .no] rfl (db_nil (s := ()) (.k (.k (.n .nil)))))))) (db_at [.val p_told, .val p_due, .no] rfl (db_one (ds_if (dt_truth (de_isi (T := "tuple") (by rfl) z_isinstance (by rfl) z_tuple (by decide +kernel) (de_v (i := 1) nm_due rfl rfl (.inl rfl)) (by decide) (by decide) rfl rfl rfl) (fun _ => rfl)) (db_at [.val p_told, .val p_due, .no] rfl (db_one (ds_if (DW.dt (dw_or (dt_not (dt_truth (de_isi (T := "tuple") (by rfl) z_isinstance (by rfl) z_tuple (by decide +kernel) (de_v (i := 0) nm_told rfl rfl (.inl rfl)) (by decide) (by decide) rfl rfl rfl) (fun _ => rfl))) (dw_or1 (dt_cmp (op_neD' hu) (de_callB (cb_len) (by rfl) z_len (by decide +kernel) (da_cons (de_v (i := 0) nm_told rfl rfl (.inl rfl)) da_nil rfl) (by decide) (by decide) rfl rfl) (de_callB (cb_len) (by rfl) z_len (by decide +kernel) (da_cons (de_v (i := 1) nm_due rfl rfl (.inl rfl)) da_nil rfl) (by decide) (by decide) rfl rfl) (nomark _))))) (db_at [.val p_told, .val p_due, .no] rfl (db_one (ds_ret de_bl))) (db_at [.val p_told, .val p_due, .no] rfl (db_nil (s := ()) (.k (.k (.n .nil)))))))) (db_at [.val p_told, .val p_due, .no] rfl (db_one (ds_if (dt_cmp op_isD (de_v (i := 1) nm_due rfl rfl (.inl rfl)) de_non (nomark _)) (db_at [.val p_told, .val p_due, .no] rfl (db_one (ds_ret (de_cmp op_isD (de_v (i := 0) nm_told rfl rfl (.inl rfl)) de_non (nomark _))))) (db_at [.val p_told, .val p_due, .no] rfl (db_one (ds_if (dt_truth (de_isi (T := "bool") (by rfl) z_isinstance (by rfl) z_bool (by decide +kernel) (de_v (i := 1) nm_due rfl rfl (.inl rfl)) (by decide) (by decide) rfl rfl rfl) (fun _ => rfl)) (db_at [.val p_told, .val p_due, .no] rfl (db_one (ds_ret (de_and (de_isi (T := "bool") (by rfl) z_isinstance (by rfl) z_bool (by decide +kernel) (de_v (i := 0) nm_told rfl rfl (.inl rfl)) (by decide) (by decide) rfl rfl rfl) (de_one (de_cmp (op_eqD' hu) (de_v (i := 0) nm_told rfl rfl (.inl rfl)) (de_v (i := 1) nm_due rfl rfl (.inl rfl)) (nomark _))))))) (db_at [.val p_told, .val p_due, .no] rfl (db_one (ds_if (dt_truth (de_isi (T := "int") (by rfl) z_isinstance (by rfl) z_int (by decide +kernel) (de_v (i := 1) nm_due rfl rfl (.inl rfl)) (by decide) (by decide) rfl rfl rfl) (fun _ => rfl)) (db_at [.val p_told, .val p_due, .no] rfl (db_one (ds_ret (de_and (de_isi (T := "int") (by rfl) z_isinstance (by rfl) z_int (by decide +kernel) (de_v (i := 0) nm_told rfl rfl (.inl rfl)) (by decide) (by decide) rfl rfl rfl) (de_and (de_not (de_isi (T := "bool") (by rfl) z_isinstance (by rfl) z_bool (by decide +kernel) (de_v (i := 0) nm_told rfl rfl (.inl rfl)) (by decide) (by decide) rfl rfl rfl)) (de_one (de_cmp (op_eqD' hu) (de_v (i := 0) nm_told rfl rfl (.inl rfl)) (de_v (i := 1) nm_due rfl rfl (.inl rfl)) (nomark _)))))))) (db_at [.val p_told, .val p_due, .no] rfl (db_one (ds_ret (de_and (de_isi (T := "str") (by rfl) z_isinstance (by rfl) z_str (by decide +kernel) (de_v (i := 0) nm_told rfl rfl (.inl rfl)) (by decide) (by decide) rfl rfl rfl) (de_one (de_cmp (op_eqD' hu) (de_v (i := 0) nm_told rfl rfl (.inl rfl)) (de_v (i := 1) nm_due rfl rfl (.inl rfl)) (nomark _)))))))))))))))))))) fun j1 => (db_at [.val p_told, .val p_due, .no] rfl (db_cons (ds_for (l0 := ()) (lp := fun (l2 : Unit) => [.val p_told, .val p_due, .no]) (pt := fun (l2 : Unit) (v3 : D) => [.val p_told, .val p_due, .val v3]) (js := [2]) PassesOwn.never rfl (.k (.k (.n .nil))) (di_rng1 (by rfl) z_range (da_cons (de_callB (cb_len) (by rfl) z_len (by decide +kernel) (da_cons (de_v (i := 1) nm_due rfl rfl (.inl rfl)) da_nil rfl) (by decide) (by decide) rfl rfl) da_nil rfl) rfl) (fun l2 => (dg_name (i := 2) nd rfl (.inl rfl) (.inl rfl))) (fun l2 v3 => (db_one (ds_if (dt_not (dt_truth (de_call c_rec hr (da_cons (de_ix ix_D (de_v (i := 0) nm_told rfl rfl (.inl rfl)) (de_v (i := 2) nm_k rfl rfl (.inl rfl)) (fun _ _ => rfl)) (da_cons (de_ix ix_D (de_v (i := 1) nm_due rfl rfl (.inl rfl)) (de_v (i := 2) nm_k rfl rfl (.inl rfl)) (fun _ _ => rfl)) da_nil rfl) rfl) (by rfl) (by decide) rfl rfl) (fun _ => rfl))) (db_at [.val p_told, .val p_due, .val v3] rfl (db_one (ds_ret de_bl))) (db_at [.val p_told, .val p_due, .val v3] rfl (db_nil (s := ()) (.k (.k (.n .nil)))))))) (fun _ => rfl)) fun l2 => (db_at [.val p_told, .val p_due, .no] rfl (db_one (ds_ret de_bl)))))))⟩
theorem ok__law_copies_fit {f : Addr} {fd : FuncData} (F : Fun K "_law_copies_fit" "_law_copies_fit" s__law_copies_fit f fd) (c__law_out_on : Dl.Callee P w K mg base "_law_out_on" ["loans", "day"] 1 (spD K (f2 d__law_out_on))) : FnOk P w K mg base CX0 2 f fd ["loans", "paper"] (spD K (f2 d__law_copies_fit)) := by
  refine fn_D (m := f2 b__law_copies_fit) F sc__law_copies_fit f2_len (f2_outD fun p_loans p_paper => rfl) fun cdv A outer s H E hr ds d hd => ?_
  have nd := sc__law_copies_fit.nd
  have hu : (A.deeper (envOfC "_law_copies_fit" (defScope s__law_copies_fit) s.heap.objs.size f cdv)).units + 200 < cLine := by have := hr.un; omega
  obtain ⟨p_loans, p_paper, rfl⟩ := f2_args hd
  exact ⟨fun _ => [.no, .no, .no, .no, .no, .no, .no, .no], fun _ => [.no, .no, .no, .no, .no, .no, .no, .no], (db_at [.val p_loans, .val p_paper, .no, .no, .no, .no, .no, .no] rfl (db_cons (ds_if (S := Unit) (post := fun _ => [.val p_loans, .val p_paper, .no, .no, .no, .no, .no, .no]) (dt_cmp (op_neD' hu) (de_callB (cb_len) (by rfl) z_len (by decide +kernel) (da_cons (de_v (i := 1) nm_paper rfl rfl (.inl rfl)) da_nil rfl) (by decide) (by decide) rfl rfl) de_int (nomark _)) (db_at [.val p_loans, .val p_paper, .no, .no, .no, .no, .no, .no] rfl (db_one (ds_ret de_bl))) (db_nil (s := ()) (Wk.refl _))) fun _ => (db_at [.val p_loans, .val p_paper, .no, .no, .no, .no, .no, .no] rfl (db_cons (ds_tg (post := fun (t1 : D × D × D) => [.val p_loans, .val p_paper, .val t1.1, .val t1.2.1, .val t1.2.2, .no, .no, .no]) (de_v (i := 1) nm_paper rfl rfl (.inl rfl)) (dg_tup3 rfl (dgs_cons (i := 2) nd rfl (.inr rfl) (.inl rfl) fun _ => (dgs_cons (i := 3) nd rfl (.inl rfl) (.inl rfl) fun _ => (dgs_cons (i := 4) nd rfl (.inl rfl) (.inl rfl) fun _ => dgs_nil))) rfl rfl (fun _ _ _ => rfl)) rfl rfl rfl) fun t1 => (db_at [.val p_loans, .val p_paper, .val t1.1, .val t1.2.1, .val t1.2.2, .no, .no, .no] rfl (db_cons (ds_if (S := Unit) (post := fun _ => [.val p_loans, .val p_paper, .val t1.1, .val t1.2.1, .val t1.2.2, .no, .no, .no]) (DW.dt (dw_or (dt_cmp (op_neD' hu) (de_callB (cb_len) (by rfl) z_len (by decide +kernel) (da_cons (de_v (i := 3) nm_copies rfl rfl (.inl rfl)) da_nil rfl) (by decide) (by decide) rfl rfl) (de_callB (cb_len) (by rfl) z_len (by decide +kernel) (da_cons (de_v (i := 0) nm_loans rfl rfl (.inl rfl)) da_nil rfl) (by decide) (by decide) rfl rfl) (nomark _)) (dw_or1 (dt_cmp (op_gtD' hu) (de_callB (cb_len) (by rfl) z_len (by decide +kernel) (da_cons (DF.de (df_lc (own := [("copy", 7)]) (post := fun (copy2 : D) => [.val p_loans, .val p_paper, .val t1.1, .val t1.2.1, .val t1.2.2, .no, .no, .val copy2]) (js := [7]) rfl nd (di_seq (de_v (i := 3) nm_copies rfl rfl (.inl rfl))) (blkOk_by (N := ["loans", "paper", "count", "copies", "day", "k", "j", "copy"]) (sc := defScope s__law_copies_fit) (own := [("copy", 7)]) (by decide +kernel)) (fun _ _ _ _ _ => (dg_name (i := 7) nd rfl (.inl rfl) (.inr rfl))) (fun _ _ _ _ _ copy2 => (dts_one (DW.dt (dw_or (dt_cmp (op_ltD' hu) (de_v (i := 7) nm_copy rfl rfl (.inl rfl)) de_int (nomark _)) (dw_or1 (dt_cmp (op_geD' hu) (de_v (i := 7) nm_copy rfl rfl (.inl rfl)) (de_v (i := 2) nm_count rfl rfl (.inr (.inl rfl))) (nomark _))))))) (fun _ _ _ _ _ copy2 => (de_v (i := 7) nm_copy rfl rfl (.inl rfl))) (by decide) (fun _ => rfl))) da_nil rfl) (by decide) (by decide) rfl rfl) de_int (nomark _))))) (db_at [.val p_loans, .val p_paper, .val t1.1, .val t1.2.1, .val t1.2.2, .no, .no, .no] rfl (db_one (ds_ret de_bl))) (db_nil (s := ()) (Wk.refl _))) fun _ => (db_at [.val p_loans, .val p_paper, .val t1.1, .val t1.2.1, .val t1.2.2, .no, .no, .no] rfl (db_cons (ds_for (l0 := ()) (lp := fun (l3 : Unit) => [.val p_loans, .val p_paper, .val t1.1, .val t1.2.1, .val t1.2.2, .no, .no, .no]) (pt := fun (l3 : Unit) (v4 : D) => [.val p_loans, .val p_paper, .val t1.1, .val t1.2.1, .val t1.2.2, .val v4, .no, .no]) (js := [5]) PassesOwn.never rfl (.k (.k (.k (.k (.k (.n (.n (.n .nil)))))))) (di_rng1 (by rfl) z_range (da_cons (de_callB (cb_len) (by rfl) z_len (by decide +kernel) (da_cons (de_v (i := 0) nm_loans rfl rfl (.inl rfl)) da_nil rfl) (by decide) (by decide) rfl rfl) da_nil rfl) rfl) (fun l3 => (dg_name (i := 5) nd rfl (.inl rfl) (.inl rfl))) (fun l3 v4 => (db_cons (ds_for (l0 := ()) (lp := fun (l5 : Unit) => [.val p_loans, .val p_paper, .val t1.1, .val t1.2.1, .val t1.2.2, .val v4, .no, .no]) (pt := fun (l5 : Unit) (v6 : D) => [.val p_loans, .val p_paper, .val t1.1, .val t1.2.1, .val t1.2.2, .val v4, .val v6, .no]) (js := [6]) PassesOwn.never rfl (.k (.k (.k (.k (.k (.k (.n (.n .nil)))))))) (di_rng1 (by rfl) z_range (da_cons (de_v (i := 5) nm_k rfl rfl (.inl rfl)) da_nil rfl) rfl) (fun l5 => (dg_name (i := 6) nd rfl (.inl rfl) (.inl rfl))) (fun l5 v6 => (db_one (ds_if (DW.dt (dw_and (dt_cmp (op_eqD' hu) (de_ix ix_D (de_v (i := 3) nm_copies rfl rfl (.inl rfl)) (de_v (i := 6) nm_j rfl rfl (.inl rfl)) (fun _ _ => rfl)) (de_ix ix_D (de_v (i := 3) nm_copies rfl rfl (.inl rfl)) (de_v (i := 5) nm_k rfl rfl (.inl rfl)) (fun _ _ => rfl)) (nomark _)) (dw_and1 (dt_cmp (op_ltD' hu) (de_callB (cb_max rfl hu) (by rfl) z_max (by decide +kernel) (da_cons (de_ix ix_D (de_ix ix_D (de_v (i := 0) nm_loans rfl rfl (.inl rfl)) (de_v (i := 6) nm_j rfl rfl (.inl rfl)) (fun _ _ => rfl)) de_int (fun _ _ => rfl)) (da_cons (de_ix ix_D (de_ix ix_D (de_v (i := 0) nm_loans rfl rfl (.inl rfl)) (de_v (i := 5) nm_k rfl rfl (.inl rfl)) (fun _ _ => rfl)) de_int (fun _ _ => rfl)) da_nil rfl) rfl) (by decide) (by decide) rfl rfl) (de_callB (cb_min rfl hu) (by rfl) z_min (by decide +kernel) (da_cons (de_ix ix_D (de_ix ix_D (de_v (i := 0) nm_loans rfl rfl (.inl rfl)) (de_v (i := 6) nm_j rfl rfl (.inl rfl)) (fun _ _ => rfl)) de_int (fun _ _ => rfl)) (da_cons (de_ix ix_D (de_ix ix_D (de_v (i := 0) nm_loans rfl rfl (.inl rfl)) (de_v (i := 5) nm_k rfl rfl (.inl rfl)) (fun _ _ => rfl)) de_int (fun _ _ => rfl)) da_nil rfl) rfl) (by decide) (by decide) rfl rfl) (nomark _))))) (db_at [.val p_loans, .val p_paper, .val t1.1, .val t1.2.1, .val t1.2.2, .val v4, .val v6, .no] rfl (db_one (ds_ret de_bl))) (db_at [.val p_loans, .val p_paper, .val t1.1, .val t1.2.1, .val t1.2.2, .val v4, .val v6, .no] rfl (db_nil (s := ()) (.k (.k (.k (.k (.k (.k (.n (.n .nil))))))))))))) (fun _ => rfl)) fun l5 => (db_at [.val p_loans, .val p_paper, .val t1.1, .val t1.2.1, .val t1.2.2, .val v4, .no, .no] rfl (db_nil (s := ()) (.k (.k (.k (.k (.k (.n (.n (.n .nil)))))))))))) (fun _ => rfl)) fun l3 => (db_at [.val p_loans, .val p_paper, .val t1.1, .val t1.2.1, .val t1.2.2, .no, .no, .no] rfl (db_cons (ds_if (S := Unit) (post := fun _ => [.val p_loans, .val p_paper, .val t1.1, .val t1.2.1, .val t1.2.2, .no, .no, .no]) (DW.dt (dw_or (dt_cmp (op_eqD' hu) (de_v (i := 2) nm_count rfl rfl (.inr (.inl rfl))) de_int (nomark _)) (dw_or1 (dt_cmp op_isD (de_v (i := 4) nm_day rfl rfl (.inl rfl)) de_non (nomark _))))) (db_at [.val p_loans, .val p_paper, .val t1.1, .val t1.2.1, .val t1.2.2, .no, .no, .no] rfl (db_one (ds_ret (de_and (de_cmp (op_eqD' hu) (de_v (i := 2) nm_count rfl rfl (.inr (.inl rfl))) de_int (nomark _)) (de_one (de_cmp op_isD (de_v (i := 4) nm_day rfl rfl (.inl rfl)) de_non (nomark _))))))) (db_nil (s := ()) (Wk.refl _))) fun _ => (db_at [.val p_loans, .val p_paper, .val t1.1, .val t1.2.1, .val t1.2.2, .no, .no, .no] rfl (db_one (ds_ret (de_cmp (op_eqD' hu) (de_call c__law_out_on (hr.mono (by decide)) (da_cons (de_v (i := 0) nm_loans rfl rfl (.inl rfl)) (da_cons (de_v (i := 4) nm_day rfl rfl (.inl rfl)) da_nil rfl) rfl) (by rfl) (by decide) rfl rfl) (de_v (i := 2) nm_count rfl rfl (.inr (.inl rfl))) (nomark _)))))))))))))))⟩
theorem ok_law {f : Addr} {fd : FuncData} (F : Fun K "law" "law" s_law f fd) (c__law_bent_copies : Dl.Callee P w K mg base "_law_bent_copies" ["told", "draws"] 1 (spF K (f2 d__law_bent_copies))) (c__law_cell : Dl.Callee P w K mg base "_law_cell" ["script", "k"] 1 (spCell K)) (c__law_copies_due : Dl.Callee P w K mg base "_law_copies_due" ["loans"] 2 (spD K (f1 d__law_copies_due))) (c__law_copies_fit : Dl.Callee P w K mg base "_law_copies_fit" ["loans", "paper"] 2 (spD K (f2 d__law_copies_fit))) (c__law_numbers : Dl.Callee P w K mg base "_law_numbers" ["cell", "count", "limit"] 1 (spF K (f3 d__law_numbers))) (c__law_same : Dl.Callee P w K mg base "_law_same" ["told", "due"] 12 (spD K (f2 (d__law_same 12)))) (c_find_copies : Dl.Callee P w K mg base "find_copies" ["loans"] 4 (spN K 1 (f1 d_find_copies))) (c_judge_copies : Dl.Callee P w K mg base "judge_copies" ["loans", "verdict"] 3 (spD K (f2 d_judge_copies))) : FnOk P w K mg base CX0 13 f fd ["script"] (spLaw K d_law) := by
  refine fn_law (m := b_law) F sc_law (fun _ => rfl) fun cdv A outer s H E hr ns hl => ?_
  have nd := sc_law.nd
  have hu : (A.deeper (envOfC "law" (defScope s_law) s.heap.objs.size f cdv)).units + 200 < cLine := by have := hr.un; omega
  exact ⟨fun _ => [.no, .no, .no, .no, .no, .no, .no, .no, .no, .no, .no, .no, .no, .no, .no, .no], fun _ => [.no, .no, .no, .no, .no, .no, .no, .no, .no, .no, .no, .no, .no, .no, .no, .no], (db_at [.scr ns, .no, .no, .no, .no, .no, .no, .no, .no, .no, .no, .no, .no, .no, .no, .no] rfl (db_cons (ds_asg (i := 1) nd rfl (.inr rfl) (DF.de (df_call c__law_numbers (hr.mono (by decide)) (da_cons (de_cell c__law_cell (hr.mono (by decide)) (i := 0) nm_script hl rfl rfl (.inl rfl) de_int (by rfl) (by decide) rfl rfl rfl) (da_cons de_int (da_cons de_int da_nil rfl) rfl) rfl) (by rfl) (by decide) rfl rfl)) rfl (.inl rfl)) fun draws1 => (db_at [.scr ns, .val draws1, .no, .no, .no, .no, .no, .no, .no, .no, .no, .no, .no, .no, .no, .no] rfl (db_cons (ds_asgF (i := 2) nd rfl (.inr rfl) (df_lst da_nil) rfl (.inl rfl)) fun loans2 => (db_at [.scr ns, .val draws1, .own loans2, .no, .no, .no, .no, .no, .no, .no, .no, .no, .no, .no, .no, .no] rfl (db_cons (ds_for (l0 := loans2) (lp := fun (l3 : List D) => [.scr ns, .val draws1, .own l3, .no, .no, .no, .no, .no, .no, .no, .no, .no, .no, .no, .no, .no]) (pt := fun (l3 : List D) (v4 : D) => [.scr ns, .val draws1, .own l3, .val v4, .no, .no, .no, .no, .no, .no, .no, .no, .no, .no, .no, .no]) (js := [3]) PassesOwn.never rfl (.k (.k (.k (.n (.n (.n (.n (.n (.n (.n (.n (.n (.n (.n (.n (.n .nil)))))))))))))))) (di_rng1 (by rfl) z_range (da_cons (de_op op_modD (de_ix ix_D (de_v (i := 1) nm_draws rfl rfl (.inr (.inl rfl))) de_int (fun _ _ => rfl)) de_int) da_nil rfl) rfl) (fun l3 => (dg_name (i := 3) nd rfl (.inr rfl) (.inl rfl))) (fun l3 v4 => (db_cons (ds_asg (i := 4) nd rfl (.inl rfl) (de_op op_modD (de_ix ix_D (de_v (i := 1) nm_draws rfl rfl (.inr (.inl rfl))) (de_op op_addD de_int (de_op op_mulD de_int (de_v (i := 3) nm_k rfl rfl (.inr (.inl rfl))))) (fun _ _ => rfl)) de_int) rfl (.inl rfl)) fun first5 => (db_at [.scr ns, .val draws1, .own l3, .val v4, .val first5, .no, .no, .no, .no, .no, .no, .no, .no, .no, .no, .no] rfl (db_cons (ds_ap (i := 2) nm_loans rfl rfl (.inr (.inl rfl)) (de_tup (da_cons (de_v (i := 4) nm_first rfl rfl (.inl rfl)) (da_cons (de_op op_addD (de_op op_addD (de_v (i := 4) nm_first rfl rfl (.inl rfl)) de_int) (de_op op_modD (de_ix ix_D (de_v (i := 1) nm_draws rfl rfl (.inr (.inl rfl))) (de_op op_addD de_int (de_op op_mulD de_int (de_v (i := 3) nm_k rfl rfl (.inr (.inl rfl))))) (fun _ _ => rfl)) de_int)) da_nil rfl) rfl)) rfl rfl rfl rfl rfl rfl) fun a6 => (db_at [.scr ns, .val draws1, .own (l3 ++ [a6]), .val v4, .val first5, .no, .no, .no, .no, .no, .no, .no, .no, .no, .no, .no] rfl (db_nil (s := (l3 ++ [a6])) (.k (.k (.k (.n (.n (.n (.n (.n (.n (.n (.n (.n (.n (.n (.n (.n .nil)))))))))))))))))))))) (fun _ => rfl)) fun l3 => (db_at [.scr ns, .val draws1, .own l3, .no, .no, .no, .no, .no, .no, .no, .no, .no, .no, .no, .no, .no] rfl (db_cons (ds_if (S := List D) (post := fun j7 => [.scr ns, .val draws1, .own j7, .no, .no, .no, .no, .no, .no, .no, .no, .no, .no, .no, .no, .no]) (dt_cmp (op_eqD' hu) (de_op op_modD (de_ix ix_D (de_v (i := 1) nm_draws rfl rfl (.inr (.inl rfl))) de_int (fun _ _ => rfl)) de_int) de_int (nomark _)) (db_at [.scr ns, .val draws1, .own l3, .no, .no, .no, .no, .no, .no, .no, .no, .no, .no, .no, .no, .no] rfl (db_cons (ds_asgF (i := 2) nd rfl (.inr rfl) (df_lc (own := [("k", 3)]) (post := fun (k9 : D) => [.scr ns, .val draws1, .own l3, .val k9, .no, .no, .no, .no, .no, .no, .no, .no, .no, .no, .no, .no]) (js := [3]) rfl nd (di_rng1 (by rfl) z_range (da_cons de_int da_nil rfl) rfl) (blkOk_by (N := ["script", "draws", "loans", "k", "first", "kept", "due", "turn", "told", "more", "paper", "answer", "later", "rest", "j", "copy"]) (sc := defScope s_law) (own := [("k", 3)]) (by decide +kernel)) (fun _ _ _ _ _ => (dg_name (i := 3) nd rfl (.inl rfl) (.inr rfl))) (fun _ _ _ _ _ k9 => dts_nil) (fun _ _ _ _ _ k9 => (de_tup (da_cons (de_op op_modD (de_ix ix_D (de_v (i := 1) nm_draws rfl rfl (.inr (.inl rfl))) (de_op op_mulD de_int (de_v (i := 3) nm_k rfl rfl (.inl rfl))) (fun _ _ => rfl)) de_int) (da_cons (de_op op_addD (de_op op_addD (de_op op_modD (de_ix ix_D (de_v (i := 1) nm_draws rfl rfl (.inr (.inl rfl))) (de_op op_mulD de_int (de_v (i := 3) nm_k rfl rfl (.inl rfl))) (fun _ _ => rfl)) de_int) de_int) (de_op op_modD (de_ix ix_D (de_v (i := 1) nm_draws rfl rfl (.inr (.inl rfl))) (de_op op_addD (de_op op_mulD de_int (de_v (i := 3) nm_k rfl rfl (.inl rfl))) de_int) (fun _ _ => rfl)) (de_ix ix_D (DF.de (df_lst (da_cons de_int (da_cons de_int da_nil rfl) rfl))) (de_op op_modD (de_callT (ct_int) (by rfl) z_int (by decide +kernel) (da_cons (de_v (i := 3) nm_k rfl rfl (.inl rfl)) da_nil rfl) (by decide) (by decide) rfl rfl) de_int) (fun _ _ => rfl)))) da_nil rfl) rfl))) (by decide) (fun _ => rfl)) rfl (.inl rfl)) fun loans8 => (db_at [.scr ns, .val draws1, .own loans8, .no, .no, .no, .no, .no, .no, .no, .no, .no, .no, .no, .no, .no] rfl (db_nil (s := loans8) (.k (.k (.k (.n (.n (.n (.n (.n (.n (.n (.n (.n (.n (.n (.n (.n .nil)))))))))))))))))))) (db_at [.scr ns, .val draws1, .own l3, .no, .no, .no, .no, .no, .no, .no, .no, .no, .no, .no, .no, .no] rfl (db_nil (s := l3) (.k (.k (.k (.n (.n (.n (.n (.n (.n (.n (.n (.n (.n (.n (.n (.n .nil))))))))))))))))))) fun j7 => (db_at [.scr ns, .val draws1, .own j7, .no, .no, .no, .no, .no, .no, .no, .no, .no, .no, .no, .no, .no] rfl (db_frz (i := 2) rfl (db_at [.scr ns, .val draws1, .val (.list j7), .no, .no, .no, .no, .no, .no, .no, .no, .no, .no, .no, .no, .no] rfl (db_cons (ds_asg (i := 5) nd rfl (.inl rfl) (DF.de (df_callT ct_list (by rfl) z_list (by decide +kernel) (da_cons (de_v (i := 2) nm_loans rfl rfl (.inr (.inl rfl))) da_nil rfl) (by decide) (by decide) rfl rfl)) rfl (.inl rfl)) fun kept11 => (db_at [.scr ns, .val draws1, .val (.list j7), .no, .no, .val kept11, .no, .no, .no, .no, .no, .no, .no, .no, .no, .no] rfl (db_cons (ds_asg (i := 6) nd rfl (.inr rfl) (de_call c__law_copies_due (hr.mono (by decide)) (da_cons (de_v (i := 2) nm_loans rfl rfl (.inr (.inl rfl))) da_nil rfl) (by rfl) (by decide) rfl rfl) rfl (.inl rfl)) fun due12 => (db_at [.scr ns, .val draws1, .val (.list j7), .no, .no, .val kept11, .val due12, .no, .no, .no, .no, .no, .no, .no, .no, .no] rfl (db_cons (ds_for (l0 := ()) (lp := fun (l13 : Unit) => [.scr ns, .val draws1, .val (.list j7), .no, .no, .val kept11, .val due12, .no, .no, .no, .no, .no, .no, .no, .no, .no]) (pt := fun (l13 : Unit) (v14 : D) => [.scr ns, .val draws1, .val (.list j7), .no, .no, .val kept11, .val due12, .val v14, .no, .no, .no, .no, .no, .no, .no, .no]) (js := [7]) PassesOwn.never rfl (.k (.k (.k (.n (.n (.k (.k (.n (.n (.n (.n (.n (.n (.n (.n (.n .nil)))))))))))))))) (di_rng1 (by rfl) z_range (da_cons de_int da_nil rfl) rfl) (fun l13 => (dg_name (i := 7) nd rfl (.inl rfl) (.inl rfl))) (fun l13 v14 => (db_told (i := 8) (k := 1) nd rfl (by simp) (.inl rfl) (.inl rfl) nm_told (.inl rfl) (dn_call c_find_copies (hr.mono (by decide)) (da_cons (de_v (i := 2) nm_loans rfl rfl (.inr (.inl rfl))) da_nil rfl) (by rfl) (by decide) rfl rfl) rfl (fun told15 => (DW.dt (dw_or (dt_not (dt_truth (de_call c__law_same (hr.mono (by decide)) (da_cons (de_v (i := 8) nm_told rfl rfl (.inl rfl)) (da_cons (de_v (i := 6) nm_due rfl rfl (.inr (.inl rfl))) da_nil rfl) rfl) (by rfl) (by decide) rfl rfl) (fun _ => rfl))) (dw_or (dt_cmp (op_neD' hu) (de_v (i := 2) nm_loans rfl rfl (.inr (.inl rfl))) (de_v (i := 5) nm_kept rfl rfl (.inl rfl)) (nomark _)) (dw_or1 (dt_cmp (op_gtD' hu) (de_callB (cb_len) (by rfl) z_len (by decide +kernel) (da_cons (DF.de (df_lc (own := [("copy", 15)]) (post := fun (copy16 : D) => [.scr ns, .val draws1, .val (.list j7), .no, .no, .val kept11, .val due12, .val v14, .val told15, .no, .no, .no, .no, .no, .no, .val copy16]) (js := [15]) rfl nd (di_seq (de_ix ix_D (de_v (i := 6) nm_due rfl rfl (.inr (.inl rfl))) de_int (fun _ _ => rfl))) (blkOk_by (N := ["script", "draws", "loans", "k", "first", "kept", "due", "turn", "told", "more", "paper", "answer", "later", "rest", "j", "copy"]) (sc := defScope s_law) (own := [("copy", 15)]) (by decide +kernel)) (fun _ _ _ _ _ => (dg_name (i := 15) nd rfl (.inl rfl) (.inr rfl))) (fun _ _ _ _ _ copy16 => (dts_one (dt_cmp (op_geD' hu) (de_v (i := 15) nm_copy rfl rfl (.inl rfl)) (de_ix ix_D (de_v (i := 6) nm_due rfl rfl (.inr (.inl rfl))) de_int (fun _ _ => rfl)) (nomark _)))) (fun _ _ _ _ _ copy16 => (de_v (i := 15) nm_copy rfl rfl (.inl rfl))) (by decide) (fun _ => rfl))) da_nil rfl) (by decide) (by decide) rfl rfl) de_int (nomark _))))))) (fun told15 => de_int) (fun _ _ => rfl) rfl rfl rfl rfl rfl rfl (db_at [.scr ns, .val draws1, .val (.list j7), .no, .no, .val kept11, .val due12, .val v14, .no, .no, .no, .no, .no, .no, .no, .no] rfl (db_nil (s := ()) (.k (.k (.k (.n (.n (.k (.k (.n (.n (.n (.n (.n (.n (.n (.n (.n .nil)))))))))))))))))))) (fun _ => rfl)) fun l13 => (db_at [.scr ns, .val draws1, .val (.list j7), .no, .no, .val kept11, .val due12, .no, .no, .no, .no, .no, .no, .no, .no, .no] rfl (db_cons (ds_asg (i := 9) nd rfl (.inl rfl) (DF.de (df_call c__law_numbers (hr.mono (by decide)) (da_cons (de_cell c__law_cell (hr.mono (by decide)) (i := 0) nm_script hl rfl rfl (.inl rfl) de_int (by rfl) (by decide) rfl rfl rfl) (da_cons de_int (da_cons de_int da_nil rfl) rfl) rfl) (by rfl) (by decide) rfl rfl)) rfl (.inl rfl)) fun more17 => (db_at [.scr ns, .val draws1, .val (.list j7), .no, .no, .val kept11, .val due12, .no, .no, .val more17, .no, .no, .no, .no, .no, .no] rfl (db_cons (ds_for (l0 := ()) (lp := fun (l18 : Unit) => [.scr ns, .val draws1, .val (.list j7), .no, .no, .val kept11, .val due12, .no, .no, .val more17, .no, .no, .no, .no, .no, .no]) (pt := fun (l18 : Unit) (v19 : D) => [.scr ns, .val draws1, .val (.list j7), .no, .no, .val kept11, .val due12, .no, .no, .val more17, .val v19, .no, .no, .no, .no, .no]) (js := [10]) PassesOwn.never rfl (.k (.k (.k (.n (.n (.k (.k (.n (.n (.k (.n (.n (.n (.n (.n (.n .nil)))))))))))))))) (di_seq (DF.de (df_call c__law_bent_copies (hr.mono (by decide)) (da_cons (de_v (i := 6) nm_due rfl rfl (.inr (.inl rfl))) (da_cons (de_v (i := 9) nm_more rfl rfl (.inl rfl)) da_nil rfl) rfl) (by rfl) (by decide) rfl rfl))) (fun l18 => (dg_name (i := 10) nd rfl (.inl rfl) (.inl rfl))) (fun l18 v19 => (db_cons (ds_asg (i := 11) nd rfl (.inl rfl) (de_call c_judge_copies (hr.mono (by decide)) (da_cons (de_v (i := 2) nm_loans rfl rfl (.inr (.inl rfl))) (da_cons (de_v (i := 10) nm_paper rfl rfl (.inl rfl)) da_nil rfl) rfl) (by rfl) (by decide) rfl rfl) rfl (.inl rfl)) fun answer20 => (db_at [.scr ns, .val draws1, .val (.list j7), .no, .no, .val kept11, .val due12, .no, .no, .val more17, .val v19, .val answer20, .no, .no, .no, .no] rfl (db_one (ds_if (DW.dt (dw_or (dt_not (dt_truth (de_call c__law_same (hr.mono (by decide)) (da_cons (de_v (i := 11) nm_answer rfl rfl (.inl rfl)) (da_cons (de_call c__law_copies_fit (hr.mono (by decide)) (da_cons (de_v (i := 2) nm_loans rfl rfl (.inr (.inl rfl))) (da_cons (de_v (i := 10) nm_paper rfl rfl (.inl rfl)) da_nil rfl) rfl) (by rfl) (by decide) rfl rfl) da_nil rfl) rfl) (by rfl) (by decide) rfl rfl) (fun _ => rfl))) (dw_or1 (DW.dt (dw_and (dt_truth (de_v (i := 11) nm_answer rfl rfl (.inl rfl)) (fun _ => rfl)) (dw_and1 (dt_cmp (op_neD' hu) (de_ix ix_D (de_v (i := 10) nm_paper rfl rfl (.inl rfl)) de_int (fun _ _ => rfl)) (de_ix ix_D (de_v (i := 6) nm_due rfl rfl (.inr (.inl rfl))) de_int (fun _ _ => rfl)) (nomark _)))))))) (db_at [.scr ns, .val draws1, .val (.list j7), .no, .no, .val kept11, .val due12, .no, .no, .val more17, .val v19, .val answer20, .no, .no, .no, .no] rfl (db_one (ds_ret de_bl))) (db_at [.scr ns, .val draws1, .val (.list j7), .no, .no, .val kept11, .val due12, .no, .no, .val more17, .val v19, .val answer20, .no, .no, .no, .no] rfl (db_nil (s := ()) (.k (.k (.k (.n (.n (.k (.k (.n (.n (.k (.n (.n (.n (.n (.n (.n .nil))))))))))))))))))))))) (fun _ => rfl)) fun l18 => (db_at [.scr ns, .val draws1, .val (.list j7), .no, .no, .val kept11, .val due12, .no, .no, .val more17, .no, .no, .no, .no, .no, .no] rfl (db_cons (ds_for (l0 := ()) (lp := fun (l21 : Unit) => [.scr ns, .val draws1, .val (.list j7), .no, .no, .val kept11, .val due12, .no, .no, .val more17, .no, .no, .no, .no, .no, .no]) (pt := fun (l21 : Unit) (v22 : D) => [.scr ns, .val draws1, .val (.list j7), .val v22, .no, .val kept11, .val due12, .no, .no, .val more17, .no, .no, .no, .no, .no, .no]) (js := [3]) PassesOwn.never rfl (.k (.k (.k (.n (.n (.k (.k (.n (.n (.k (.n (.n (.n (.n (.n (.n .nil)))))))))))))))) (di_rng3 (by rfl) z_range (da_cons de_int (da_cons (de_callB (cb_len) (by rfl) z_len (by decide +kernel) (da_cons (de_v (i := 2) nm_loans rfl rfl (.inr (.inl rfl))) da_nil rfl) (by decide) (by decide) rfl rfl) (da_cons (de_op op_addD de_int (de_op op_fdivD (de_callB (cb_len) (by rfl) z_len (by decide +kernel) (da_cons (de_v (i := 2) nm_loans rfl rfl (.inr (.inl rfl))) da_nil rfl) (by decide) (by decide) rfl rfl) de_int)) da_nil rfl) rfl) rfl) rfl rfl) (fun l21 => (dg_name (i := 3) nd rfl (.inr rfl) (.inl rfl))) (fun l21 v22 => (db_cons (ds_if (S := Unit) (post := fun _ => [.scr ns, .val draws1, .val (.list j7), .val v22, .no, .val kept11, .val due12, .no, .no, .val more17, .no, .no, .no, .no, .no, .no]) (dt_cmp (op_gtD' hu) (de_ix ix_D (de_call c_find_copies.plain (hr.mono (by decide)) (da_cons (de_op op_addD (de_slice (de_v (i := 2) nm_loans rfl rfl (.inr (.inl rfl))) (do_some de_int) (do_some (de_v (i := 3) nm_k rfl rfl (.inr (.inl rfl))))) (de_slice (de_v (i := 2) nm_loans rfl rfl (.inr (.inl rfl))) (do_some (de_op op_addD (de_v (i := 3) nm_k rfl rfl (.inr (.inl rfl))) de_int)) do_none)) da_nil rfl) (by rfl) (by decide) rfl rfl) de_int (fun _ _ => rfl)) (de_ix ix_D (de_v (i := 6) nm_due rfl rfl (.inr (.inl rfl))) de_int (fun _ _ => rfl)) (nomark _)) (db_at [.scr ns, .val draws1, .val (.list j7), .val v22, .no, .val kept11, .val due12, .no, .no, .val more17, .no, .no, .no, .no, .no, .no] rfl (db_one (ds_ret de_bl))) (db_nil (s := ()) (Wk.refl _))) fun _ => (db_at [.scr ns, .val draws1, .val (.list j7), .val v22, .no, .val kept11, .val due12, .no, .no, .val more17, .no, .no, .no, .no, .no, .no] rfl (db_cons (ds_asg (i := 12) nd rfl (.inr rfl) (DF.de (df_lc (own := [("j", 14)]) (post := fun (j24 : D) => [.scr ns, .val draws1, .val (.list j7), .val v22, .no, .val kept11, .val due12, .no, .no, .val more17, .no, .no, .no, .no, .val j24, .no]) (js := [14]) rfl nd (di_rng1 (by rfl) z_range (da_cons (de_callB (cb_len) (by rfl) z_len (by decide +kernel) (da_cons (de_v (i := 2) nm_loans rfl rfl (.inr (.inl rfl))) da_nil rfl) (by decide) (by decide) rfl rfl) da_nil rfl) rfl) (blkOk_by (N := ["script", "draws", "loans", "k", "first", "kept", "due", "turn", "told", "more", "paper", "answer", "later", "rest", "j", "copy"]) (sc := defScope s_law) (own := [("j", 14)]) (by decide +kernel)) (fun _ _ _ _ _ => (dg_name (i := 14) nd rfl (.inl rfl) (.inr rfl))) (fun _ _ _ _ _ j24 => (dts_one (DW.dt (dw_and (dt_cmp (op_neD' hu) (de_v (i := 14) nm_j rfl rfl (.inl rfl)) (de_v (i := 3) nm_k rfl rfl (.inr (.inl rfl))) (nomark _)) (dw_and1 (dt_cmp (op_eqD' hu) (de_ix ix_D (de_ix ix_D (de_v (i := 2) nm_loans rfl rfl (.inr (.inl rfl))) (de_v (i := 14) nm_j rfl rfl (.inl rfl)) (fun _ _ => rfl)) de_int (fun _ _ => rfl)) (de_ix ix_D (de_ix ix_D (de_v (i := 2) nm_loans rfl rfl (.inr (.inl rfl))) (de_v (i := 3) nm_k rfl rfl (.inr (.inl rfl))) (fun _ _ => rfl)) de_int (fun _ _ => rfl)) (nomark _))))))) (fun _ _ _ _ _ j24 => (de_v (i := 14) nm_j rfl rfl (.inl rfl))) (by decide) (fun _ => rfl))) rfl (.inl rfl)) fun later23 => (db_at [.scr ns, .val draws1, .val (.list j7), .val v22, .no, .val kept11, .val due12, .no, .no, .val more17, .no, .no, .val later23, .no, .no, .no] rfl (db_one (ds_if (dt_cmp (op_gtD' hu) (de_callB (cb_len) (by rfl) z_len (by decide +kernel) (da_cons (de_v (i := 12) nm_later rfl rfl (.inr (.inl rfl))) da_nil rfl) (by decide) (by decide) rfl rfl) de_int (nomark _)) (db_at [.scr ns, .val draws1, .val (.list j7), .val v22, .no, .val kept11, .val due12, .no, .no, .val more17, .no, .no, .val later23, .no, .no, .no] rfl (db_cons (ds_setLc (i := 13) (own := [("j", 14)]) (post := fun (j26 : D) => [.scr ns, .val draws1, .val (.list j7), .val v22, .no, .val kept11, .val due12, .no, .no, .val more17, .no, .no, .val later23, .no, .val j26, .no]) (js := [14]) rfl nd rfl rfl (sw_true rfl rfl rfl (by decide +kernel)) (di_rng1 (by rfl) z_range (da_cons (de_callB (cb_len) (by rfl) z_len (by decide +kernel) (da_cons (de_v (i := 2) nm_loans rfl rfl (.inr (.inl rfl))) da_nil rfl) (by decide) (by decide) rfl rfl) da_nil rfl) rfl) (blkOk_by (N := ["script", "draws", "loans", "k", "first", "kept", "due", "turn", "told", "more", "paper", "answer", "later", "rest", "j", "copy"]) (sc := defScope s_law) (own := [("j", 14)]) (by decide +kernel)) (fun _ _ _ _ _ => (dg_name (i := 14) nd rfl (.inl rfl) (.inr rfl))) (fun _ _ _ _ _ j26 => (dts_one (DW.dt (dw_and (dt_cmp (op_neD' hu) (de_v (i := 14) nm_j rfl rfl (.inl rfl)) (de_v (i := 3) nm_k rfl rfl (.inr (.inl rfl))) (nomark _)) (dw_and1 (dt_cmp (op_neD' hu) (de_v (i := 14) nm_j rfl rfl (.inl rfl)) (de_ix ix_D (de_v (i := 12) nm_later rfl rfl (.inr (.inl rfl))) de_int (fun _ _ => rfl)) (nomark _))))))) (fun _ _ _ _ _ j26 => (de_ix ix_D (de_v (i := 2) nm_loans rfl rfl (.inr (.inl rfl))) (de_v (i := 14) nm_j rfl rfl (.inl rfl)) (fun _ _ => rfl))) (by decide) (fun _ => rfl)) fun rest25 => (db_at [.scr ns, .val draws1, .val (.list j7), .val v22, .no, .val kept11, .val due12, .no, .no, .val more17, .no, .no, .val later23, .own rest25, .no, .no] rfl (db_frz (i := 13) rfl (db_at [.scr ns, .val draws1, .val (.list j7), .val v22, .no, .val kept11, .val due12, .no, .no, .val more17, .no, .no, .val later23, .val (.list rest25), .no, .no] rfl (db_one (ds_if (dt_cmp (op_neD' hu) (de_ix ix_D (de_call c_find_copies.plain (hr.mono (by decide)) (da_cons (de_op op_addD (de_v (i := 13) nm_rest rfl rfl (.inl rfl)) (DF.de (df_lst (da_cons (de_tup (da_cons (de_ix ix_D (de_ix ix_D (de_v (i := 2) nm_loans rfl rfl (.inr (.inl rfl))) (de_v (i := 3) nm_k rfl rfl (.inr (.inl rfl))) (fun _ _ => rfl)) de_int (fun _ _ => rfl)) (da_cons (de_ix ix_D (de_ix ix_D (de_v (i := 2) nm_loans rfl rfl (.inr (.inl rfl))) (de_ix ix_D (de_v (i := 12) nm_later rfl rfl (.inr (.inl rfl))) de_int (fun _ _ => rfl)) (fun _ _ => rfl)) de_int (fun _ _ => rfl)) da_nil rfl) rfl)) da_nil rfl)))) da_nil rfl) (by rfl) (by decide) rfl rfl) de_int (fun _ _ => rfl)) (de_ix ix_D (de_v (i := 6) nm_due rfl rfl (.inr (.inl rfl))) de_int (fun _ _ => rfl)) (nomark _)) (db_at [.scr ns, .val draws1, .val (.list j7), .val v22, .no, .val kept11, .val due12, .no, .no, .val more17, .no, .no, .val later23, .val (.list rest25), .no, .no] rfl (db_one (ds_ret de_bl))) (db_at [.scr ns, .val draws1, .val (.list j7), .val v22, .no, .val kept11, .val due12, .no, .no, .val more17, .no, .no, .val later23, .val (.list rest25), .no, .no] rfl (db_nil (s := ()) (.k (.k (.k (.n (.n (.k (.k (.n (.n (.k (.n (.n (.n (.n (.n (.n .nil))))))))))))))))))))))))) (db_at [.scr ns, .val draws1, .val (.list j7), .val v22, .no, .val kept11, .val due12, .no, .no, .val more17, .no, .no, .val later23, .no, .no, .no] rfl (db_nil (s := ()) (.k (.k (.k (.n (.n (.k (.k (.n (.n (.k (.n (.n (.n (.n (.n (.n .nil))))))))))))))))))))))))) (fun _ => rfl)) fun l21 => (db_at [.scr ns, .val draws1, .val (.list j7), .no, .no, .val kept11, .val due12, .no, .no, .val more17, .no, .no, .no, .no, .no, .no] rfl (db_one (ds_ret de_bl)))))))))))))))))))))))))⟩
end
end Wk0

/-! Plain laws, part 1: the mirrors' words computed on data with a Lean type. -/
namespace Dl
open PySem L2 PySem.Spec PyProof.Rows PySem.W PySem.SeqAt

section
variable {S T L : Type}
@[simp] theorem seqF_nx (s : S) (n : S → Option (Fl T L)) : seqF (some (.nx s) : Option (Fl S L)) n = n s := by unfold seqF; rfl
@[simp] theorem seqF_rt (d : D) (n : S → Option (Fl T L)) : seqF (some (.rt d) : Option (Fl S L)) n = some (.rt d) := by unfold seqF; rfl
@[simp] theorem seqF_ct (d : L) (n : S → Option (Fl T L)) : seqF (some (.ct d) : Option (Fl S L)) n = some (.ct d) := by unfold seqF; rfl
@[simp] theorem seqF_bk (d : L) (n : S → Option (Fl T L)) : seqF (some (.bk d) : Option (Fl S L)) n = some (.bk d) := by unfold seqF; rfl
theorem seqF_go {m : Option S} {n : S → Option (Fl T L)} {v : S} {r : Option (Fl T L)} (h : m = some v) (k : n v = r) : seqF (nxt m) n = r := by
  subst h; simpa using k
theorem seqF_do {m : Option (Fl S L)} {n : S → Option (Fl T L)} {v : S} {r : Option (Fl T L)} (h : m = some (.nx v)) (k : n v = r) : seqF m n = r := by
  subst h; simpa using k
theorem seqF_no {c : Option Bool} {m : Option (Fl Unit L)} {n : Unit → Option (Fl T L)} {r : Option (Fl T L)} (h : c = some false) (k : n () = r) : seqF (iteM c m (some (.nx ()))) n = r := by
  subst h; simpa using k
end
@[simp] theorem outD_rt (d : D) : outD (some (.rt d)) = some d := rfl
@[simp] theorem outF_rt (ds : List D) : outF (some (.rt (.list ds))) = some ds := rfl
@[simp] theorem f1_one {α : Type} (f : D → Option α) (x : D) : f1 f [x] = f x := rfl
@[simp] theorem f2_two {α : Type} (f : D → D → Option α) (x y : D) : f2 f [x, y] = f x y := rfl
@[simp] theorem f3_three {α : Type} (f : D → D → D → Option α) (x y z : D) : f3 f [x, y, z] = f x y z := rfl
@[simp] theorem f4_four {α : Type} (f : D → D → D → D → Option α) (x y z w : D) : f4 f [x, y, z, w] = f x y z w := rfl
@[simp] theorem f5_five {α : Type} (f : D → D → D → D → D → Option α) (x y z w u : D) : f5 f [x, y, z, w, u] = f x y z w u := rfl

/-! turns -/
section
variable {α L M : Type} {F : α → L → Option (Fl L L)}
@[simp] theorem forF_nil (l : L) : (forF F [] l : Option (Fl L M)) = some (.nx l) := rfl
theorem forF_inv (I : Nat → L → Prop) : ∀ (ds : List α) (k : Nat) (l : L), I k l → (∀ i d l, ds[i]? = some d → I (k + i) l → ∃ l', F d l = some (.nx l') ∧ I (k + i + 1) l') →
    ∃ l', (forF F ds l : Option (Fl L M)) = some (.nx l') ∧ I (k + ds.length) l'
  | [], k, l, h, _ => ⟨l, rfl, h⟩
  | d :: r, k, l, h, hs => by
    obtain ⟨l1, e1, i1⟩ := hs 0 d l rfl h
    obtain ⟨l2, e2, i2⟩ := forF_inv I r (k + 1) l1 i1 (fun i d' l' hd hi => by
      have := hs (i + 1) d' l' (by simpa using hd) (by rwa [show k + (i + 1) = k + 1 + i from by omega])
      rwa [show k + (i + 1) + 1 = k + 1 + i + 1 from by omega] at this)
    refine ⟨l2, ?_, by
      have e : k + (d :: r).length = k + 1 + r.length := by simp only [List.length_cons]; omega
      rwa [e]⟩
    show ((F d l).bind _) = _
    rw [e1]
    exact e2
theorem forF_at (I : Nat → L → Prop) {ds : List α} {l : L} (h : I 0 l) (hs : ∀ i d l, ds[i]? = some d → I i l → ∃ l', F d l = some (.nx l') ∧ I (i + 1) l') :
    ∃ l', (forF F ds l : Option (Fl L M)) = some (.nx l') ∧ I ds.length l' := by
  obtain ⟨l', e, i⟩ := forF_inv (F := F) (M := M) I ds 0 l h (fun i d l hd hi => by
    simp only [Nat.zero_add] at hi ⊢
    exact hs i d l hd hi)
  exact ⟨l', e, by simpa using i⟩
theorem forF_fold {β σ : Type} (e : β → α) (en : σ → L) (g : σ → β → σ) (P : σ → Prop) : ∀ (xs : List β) (s : σ), P s → (∀ x ∈ xs, ∀ s, P s → F (e x) (en s) = some (.nx (en (g s x))) ∧ P (g s x)) →
    (forF F (xs.map e) (en s) : Option (Fl L M)) = some (.nx (en (xs.foldl g s))) ∧ P (xs.foldl g s)
  | [], s, h, _ => ⟨rfl, h⟩
  | x :: r, s, h, hs => by
    obtain ⟨e1, h1⟩ := hs x (.head _) s h
    have := forF_fold e en g P r (g s x) h1 (fun y hy => hs y (.tail _ hy))
    refine ⟨?_, this.2⟩
    show ((F (e x) (en s)).bind _) = _
    rw [e1]
    exact this.1
end
theorem forF_all {α M : Type} {F : α → Unit → Option (Fl Unit Unit)} : ∀ {ds : List α}, (∀ d ∈ ds, F d () = some (.nx ())) → (forF F ds () : Option (Fl Unit M)) = some (.nx ())
  | [], _ => rfl
  | d :: r, h => by
    show ((F d ()).bind _) = _
    rw [h d (.head _)]
    exact forF_all fun x hx => h x (.tail _ hx)

/-! comprehensions -/
section
variable {α β γ : Type}
theorem compM_fm {h : α → Option (Option β)} {e : γ → α} {g : γ → Option β} : ∀ {xs : List γ}, (∀ x ∈ xs, h (e x) = some (g x)) → compM h (xs.map e) = some (xs.filterMap g)
  | [], _ => rfl
  | x :: r, hs => by
    show ((h (e x)).bind fun o => (compM h (r.map e)).bind fun ys => some (o.toList ++ ys)) = _
    rw [hs x (.head _), compM_fm fun y hy => hs y (.tail _ hy)]
    cases q : g x <;> simp [List.filterMap_cons, q]
theorem compM_mp {h : α → Option (Option β)} {e : γ → α} {g : γ → β} {xs : List γ} (hs : ∀ x ∈ xs, h (e x) = some (some (g x))) : compM h (xs.map e) = some (xs.map g) := by
  rw [compM_fm (g := fun x => some (g x)) hs]
  simp
theorem compM_fl {h : α → Option (Option β)} {e : γ → α} {p : γ → Bool} {g : γ → β} {xs : List γ} (hs : ∀ x ∈ xs, h (e x) = some (if p x then some (g x) else none)) : compM h (xs.map e) = some ((xs.filter p).map g) := by
  rw [compM_fm hs]
  congr 1
  induction xs with
  | nil => rfl
  | cons x r ih =>
    have := ih fun y hy => hs y (.tail _ hy)
    cases q : p x <;> simp [List.filterMap_cons, List.filter_cons, q, this]
end

/-! data with a type -/
section
variable {α β : Type} [DecidableEq α] [Datum α] [DecidableEq β] [Datum β]
abbrev tD {α : Type} [DecidableEq α] [Datum α] (x : α) : D := Datum.toD x
def LD (xs : List α) : List D := xs.map Datum.toD
theorem tD_int (i : Int) : Datum.toD i = PyData.int i := rfl
theorem tD_bool (i : Bool) : Datum.toD i = PyData.bool i := rfl
theorem tD_str (i : Str) : Datum.toD i = PyData.str i := rfl
theorem tD_list (xs : List α) : Datum.toD xs = PyData.list (LD xs) := rfl
theorem tD_pair (x : α) (y : β) : Datum.toD (x, y) = PyData.tuple [Datum.toD x, Datum.toD y] := rfl
@[simp] theorem LD_nil : LD ([] : List α) = [] := rfl
theorem LD_cons (x : α) (xs : List α) : LD (x :: xs) = Datum.toD x :: LD xs := rfl
@[simp] theorem LD_len (xs : List α) : (LD xs).length = xs.length := List.length_map ..
@[simp] theorem LD_app (xs ys : List α) : LD xs ++ LD ys = LD (xs ++ ys) := (List.map_append ..).symm
theorem LD_at (xs : List α) (i : Nat) : (LD xs)[i]? = xs[i]?.map Datum.toD := List.getElem?_map ..
theorem LD_dep (xs : List α) : PyData.depthAll (LD xs) ≤ Datum.depth α := depthAll_map xs
theorem toD_dep (x : α) : (Datum.toD x).depth ≤ Datum.depth α := Datum.depth_le x
theorem toD_inj {x y : α} (h : Datum.toD x = Datum.toD y) : x = y := by
  have := Datum.eqv x y
  rw [h, Datum.eqv y y] at this
  simpa using this.symm
@[simp] theorem lenL_L (xs : List D) : lenL [.list xs] = some (.int xs.length) := rfl
@[simp] theorem lenL_T (xs : List D) : lenL [.tuple xs] = some (.int xs.length) := rfl
@[simp] theorem itemsD_L (xs : List D) : itemsD (.list xs) = some xs := rfl
@[simp] theorem itemsD_T (xs : List D) : itemsD (.tuple xs) = some xs := rfl
@[simp] theorem listF_L (xs : List D) : listF [.list xs] = some xs := rfl
theorem eqD_t (x y : α) (h : Datum.depth α ≤ 64) : eqD (Datum.toD x) (Datum.toD y) = some (.bool (decide (x = y))) := by
  unfold eqD
  rw [if_pos (.inl (Nat.le_trans (toD_dep x) h)), Datum.eqv]
theorem neD_t (x y : α) (h : Datum.depth α ≤ 64) : neD (Datum.toD x) (Datum.toD y) = some (.bool (decide (x ≠ y))) := by
  unfold neD
  rw [if_pos (.inl (Nat.le_trans (toD_dep x) h)), Datum.eqv]
  simp
@[simp] theorem eqD_int (x y : Int) : eqD (.int x) (.int y) = some (.bool (decide (x = y))) := eqD_t x y (Nat.zero_le _)
@[simp] theorem eqD_str (x y : Str) : eqD (.str x) (.str y) = some (.bool (decide (x = y))) := eqD_t x y (Nat.zero_le _)
@[simp] theorem eqD_bool (x y : Bool) : eqD (.bool x) (.bool y) = some (.bool (decide (x = y))) := eqD_t x y (Nat.zero_le _)
@[simp] theorem neD_int (x y : Int) : neD (.int x) (.int y) = some (.bool (decide (x ≠ y))) := neD_t x y (Nat.zero_le _)
@[simp] theorem neD_str (x y : Str) : neD (.str x) (.str y) = some (.bool (decide (x ≠ y))) := neD_t x y (Nat.zero_le _)
@[simp] theorem neD_bool (x y : Bool) : neD (.bool x) (.bool y) = some (.bool (decide (x ≠ y))) := neD_t x y (Nat.zero_le _)
theorem eqD_self (x : Str) : eqD (.str x) (.str x) = some (.bool true) := by
  rw [eqD_str, decide_eq_true rfl]
theorem neD_self (x : Str) : neD (.str x) (.str x) = some (.bool false) := by
  rw [neD_str, decide_eq_false (fun h => h rfl)]
theorem eqD_apart {x y : Str} (h : x ≠ y) : eqD (.str x) (.str y) = some (.bool false) := by
  rw [eqD_str, decide_eq_false h]
theorem neD_apart {x y : Str} (h : x ≠ y) : neD (.str x) (.str y) = some (.bool true) := by
  rw [neD_str, decide_eq_true h]
theorem eqD_L (xs ys : List α) (h : Datum.depth α ≤ 63) : eqD (.list (LD xs)) (.list (LD ys)) = some (.bool (decide (xs = ys))) := eqD_t xs ys (by show Datum.depth α + 1 ≤ 64; omega)
theorem neD_L (xs ys : List α) (h : Datum.depth α ≤ 63) : neD (.list (LD xs)) (.list (LD ys)) = some (.bool (decide (xs ≠ ys))) := neD_t xs ys (by show Datum.depth α + 1 ≤ 64; omega)
@[simp] theorem eqD_Li (xs ys : List Int) : eqD (.list (LD xs)) (.list (LD ys)) = some (.bool (decide (xs = ys))) := eqD_L xs ys (Nat.zero_le _)
@[simp] theorem neD_Li (xs ys : List Int) : neD (.list (LD xs)) (.list (LD ys)) = some (.bool (decide (xs ≠ ys))) := neD_L xs ys (Nat.zero_le _)
@[simp] theorem eqD_Ls (xs ys : List Str) : eqD (.list (LD xs)) (.list (LD ys)) = some (.bool (decide (xs = ys))) := eqD_L xs ys (Nat.zero_le _)
@[simp] theorem neD_Ls (xs ys : List Str) : neD (.list (LD xs)) (.list (LD ys)) = some (.bool (decide (xs ≠ ys))) := neD_L xs ys (Nat.zero_le _)
theorem hasD_t (xs : List α) (x : α) : hasD (LD xs) (Datum.toD x) = decide (x ∈ xs) := any_datum xs x
theorem inD_t (x : α) (xs : List α) (h : Datum.depth α ≤ 64) : inD (Datum.toD x) (.list (LD xs)) = some (.bool (decide (x ∈ xs))) := by
  have e : shalAll (LD xs) (Datum.toD x) := .inl (Nat.le_trans (LD_dep xs) h)
  unfold inD
  cases hd : Datum.toD x <;> simp only [] <;> (rw [hd] at e; rw [if_pos e, ← hd, hasD_t])
theorem notInD_t (x : α) (xs : List α) (h : Datum.depth α ≤ 64) : notInD (Datum.toD x) (.list (LD xs)) = some (.bool (decide (x ∉ xs))) := by
  have e : shalAll (LD xs) (Datum.toD x) := .inl (Nat.le_trans (LD_dep xs) h)
  unfold notInD
  cases hd : Datum.toD x <;> simp only [] <;> (rw [hd] at e; rw [if_pos e, ← hd, hasD_t]; simp)
@[simp] theorem inD_int (x : Int) (xs : List Int) : inD (.int x) (.list (LD xs)) = some (.bool (decide (x ∈ xs))) := inD_t x xs (Nat.zero_le _)
@[simp] theorem notInD_int (x : Int) (xs : List Int) : notInD (.int x) (.list (LD xs)) = some (.bool (decide (x ∉ xs))) := notInD_t x xs (Nat.zero_le _)
@[simp] theorem inD_str (x : Str) (xs : List Str) : inD (.str x) (.list (LD xs)) = some (.bool (decide (x ∈ xs))) := inD_t x xs (Nat.zero_le _)
@[simp] theorem notInD_str (x : Str) (xs : List Str) : notInD (.str x) (.list (LD xs)) = some (.bool (decide (x ∉ xs))) := notInD_t x xs (Nat.zero_le _)
theorem countD_t (x : α) (xs : List α) (h : Datum.depth α ≤ 64) : countD (.list (LD xs)) (Datum.toD x) = some (.int (xs.count x)) := by
  have e : shalAll (LD xs) (Datum.toD x) := .inl (Nat.le_trans (LD_dep xs) h)
  unfold countD
  simp only []
  rw [if_pos e]
  have := count_datum xs x
  unfold LD
  rw [this, List.count_eq_countP]
  congr 4
@[simp] theorem countD_int (x : Int) (xs : List Int) : countD (.list (LD xs)) (.int x) = some (.int (xs.count x)) := countD_t x xs (Nat.zero_le _)
@[simp] theorem countD_str (x : Str) (xs : List Str) : countD (.list (LD xs)) (.str x) = some (.int (xs.count x)) := countD_t x xs (Nat.zero_le _)
theorem atI_nat' {γ : Type} {xs : List γ} {i : Int} (h0 : 0 ≤ i) (h1 : i < xs.length) : atI xs i = xs[i.toNat]? := by
  unfold atI ixN
  rw [if_pos h0, if_pos h1]; rfl
theorem atI_neg {γ : Type} {xs : List γ} {i : Int} (h0 : i < 0) (h1 : -(xs.length : Int) ≤ i) : atI xs i = xs[(i + xs.length).toNat]? := by
  unfold atI ixN
  rw [if_neg (by omega), if_pos h1]; rfl
theorem idxD_n {xs : List D} {i : Nat} {d : D} (h : xs[i]? = some d) : idxD (.list xs) (.int (i : Int)) = some d := by
  have := (List.getElem?_eq_some_iff.mp h).1
  show atI xs _ = _
  rw [atI_nat' (by omega) (by omega)]
  simpa using h
theorem idxD_L {xs : List α} {i : Int} {x : α} (h0 : 0 ≤ i) (h : xs[i.toNat]? = some x) : idxD (.list (LD xs)) (.int i) = some (Datum.toD x) := by
  have h1 := (List.getElem?_eq_some_iff.mp h).1
  show atI (LD xs) i = _
  rw [atI_nat' h0 (by rw [LD_len]; omega), LD_at, h]; rfl
@[simp] theorem idxD_T (xs : List D) (i : Int) : idxD (.tuple xs) (.int i) = atI xs i := rfl
/-- whole numbers from lo on -/
def ri (lo : Int) (n : Nat) : List Int := (List.range n).map fun (k : Nat) => lo + (k : Int)
theorem rangeI_ri (lo : Int) (n : Nat) : rangeI lo n = LD (ri lo n) := by
  unfold rangeI LD ri
  rw [List.map_map]; rfl
@[simp] theorem ri_len (lo : Int) (n : Nat) : (ri lo n).length = n := by simp [ri]
theorem ri_at {lo : Int} {n i : Nat} (h : i < n) : (ri lo n)[i]? = some (lo + i) := by
  unfold ri
  rw [List.getElem?_map, List.getElem?_range h]; rfl
theorem mem_ri {lo : Int} {n : Nat} {x : Int} : x ∈ ri lo n ↔ lo ≤ x ∧ x < lo + n := by
  unfold ri
  simp only [List.mem_map, List.mem_range]
  constructor
  · rintro ⟨k, h, rfl⟩; omega
  · intro h
    exact ⟨(x - lo).toNat, by omega, by omega⟩
theorem rng1D_n (n : Nat) (h : n ≤ 16777216) : rng1D [.int (n : Int)] = some (LD (ri 0 n)) := by
  simp only [rng1D]
  rw [if_pos (by omega), Int.toNat_natCast, fit_ok h, rangeI_ri]
theorem rng1D_i (j : Int) (h : j ≤ 16777216) (h' : -4611686018427387904 ≤ j) : rng1D [.int j] = some (LD (ri 0 j.toNat)) := by
  simp only [rng1D]
  rw [if_pos h', fit_ok (by omega), rangeI_ri]
theorem rng2D_i (i j : Int) (h : j - i ≤ 16777216) (h1 : -4611686018427387904 ≤ i) (h2 : i < 4611686018427387904) (h3 : -4611686018427387904 ≤ j) (h4 : j < 4611686018427387904) : rng2D [.int i, .int j] = some (LD (ri i (j - i).toNat)) := by
  simp only [rng2D]
  rw [if_pos ⟨⟨h1, h2⟩, h3, h4⟩, fit_ok (by omega), rangeI_ri]
theorem rngF_i (i j : Int) (h : j - i ≤ 16777216) (h1 : -4611686018427387904 ≤ i) (h2 : i < 4611686018427387904) (h3 : -4611686018427387904 ≤ j) (h4 : j < 4611686018427387904) : rngF (i, j) = some (LD (ri i (j - i).toNat)) := by
  simp only [rngF]
  rw [if_pos ⟨⟨h1, h2⟩, h3, h4⟩, fit_ok (by omega), rangeI_ri]
theorem compM_LD {γ : Type} {h : D → Option (Option γ)} {g : α → γ} {xs : List α} (hs : ∀ x ∈ xs, h (Datum.toD x) = some (some (g x))) : compM h (LD xs) = some (xs.map g) := compM_mp hs
theorem compM_LDt {h : D → Option (Option D)} {g : α → β} {xs : List α} (hs : ∀ x ∈ xs, h (Datum.toD x) = some (some (Datum.toD (g x)))) : compM h (LD xs) = some (LD (xs.map g)) := by
  rw [compM_LD hs]; unfold LD; rw [List.map_map]; rfl
theorem compM_LDf {h : D → Option (Option D)} {p : α → Bool} {g : α → β} {xs : List α} (hs : ∀ x ∈ xs, h (Datum.toD x) = some (if p x then some (Datum.toD (g x)) else none)) : compM h (LD xs) = some (LD ((xs.filter p).map g)) := by
  unfold LD; rw [compM_fl hs, List.map_map]; rfl
theorem forF_LD {L M : Type} {F : D → L → Option (Fl L L)} {xs : List α} (I : Nat → L → Prop) {l : L} (h : I 0 l) (hs : ∀ (i : Nat) (x : α) (l : L), xs[i]? = some x → I i l → ∃ l', F (Datum.toD x) l = some (.nx l') ∧ I (i + 1) l') :
    ∃ l', (forF F (LD xs) l : Option (Fl L M)) = some (.nx l') ∧ I xs.length l' := by
  have := forF_at (F := F) (M := M) (ds := LD xs) I h (fun i d l hd hi => by
    rw [LD_at] at hd
    cases q : xs[i]? with
    | none => rw [q] at hd; cases hd
    | some x => rw [q] at hd; cases hd; exact hs i x l q hi)
  rwa [LD_len] at this
theorem forF_LDf {L M σ : Type} {F : D → L → Option (Fl L L)} {xs : List α} (en : σ → L) (g : σ → α → σ) (P : σ → Prop) {s : σ} (h : P s) (hs : ∀ x ∈ xs, ∀ s, P s → F (Datum.toD x) (en s) = some (.nx (en (g s x))) ∧ P (g s x)) :
    (forF F (LD xs) (en s) : Option (Fl L M)) = some (.nx (en (xs.foldl g s))) ∧ P (xs.foldl g s) := forF_fold Datum.toD en g P xs s h hs
/-- the block goes on, with a state that is Q -/
abbrev Gv {S L : Type} (m : Option (Fl S L)) (Q : S → Prop) : Prop := ∃ s, m = some (.nx s) ∧ Q s
theorem gv_nx {S L : Type} {Q : S → Prop} {s : S} (h : Q s) : Gv (some (.nx s) : Option (Fl S L)) Q := ⟨s, rfl, h⟩
theorem gv_nxt {S L : Type} {Q : S → Prop} {m : Option S} {s : S} (e : m = some s) (h : Q s) : Gv (nxt m : Option (Fl S L)) Q := ⟨s, by rw [e]; rfl, h⟩
theorem gv_go {S T L : Type} {Q : T → Prop} {m : Option S} {n : S → Option (Fl T L)} {v : S} (h : m = some v) (k : Gv (n v) Q) : Gv (seqF (nxt m) n) Q := by
  rw [h]; simpa using k
theorem gv_do {S T L : Type} {Q : T → Prop} {m : Option (Fl S L)} {n : S → Option (Fl T L)} {v : S} (h : m = some (.nx v)) (k : Gv (n v) Q) : Gv (seqF m n) Q := by
  rw [h]; simpa using k
theorem gv_gv {S T L : Type} {Q : T → Prop} {R : S → Prop} {m : Option (Fl S L)} {n : S → Option (Fl T L)} (h : Gv m R) (k : ∀ s, R s → Gv (n s) Q) : Gv (seqF m n) Q := by
  obtain ⟨s, e, hs⟩ := h
  rw [e]; simpa using k s hs
theorem seqF_gv {S T L : Type} {R : S → Prop} {m : Option (Fl S L)} {n : S → Option (Fl T L)} {r : Option (Fl T L)} (h : Gv m R) (k : ∀ s, R s → n s = r) : seqF m n = r := by
  obtain ⟨s, e, hs⟩ := h
  rw [e]; simpa using k s hs
theorem gv_for {L M : Type} {F : D → L → Option (Fl L L)} {xs : List α} {l : L} (I : Nat → L → Prop) (h : I 0 l) (hs : ∀ (i : Nat) (x : α) (l : L), xs[i]? = some x → I i l → Gv (F (Datum.toD x) l) (I (i + 1))) :
    Gv (forF F (LD xs) l : Option (Fl L M)) (I xs.length) := forF_LD I h hs
theorem enumL_LD (xs : List α) : enumL (LD xs) = LD (xs.zipIdx.map fun p => ((p.2 : Int), p.1)) := by
  unfold enumL LD
  rw [List.zipIdx_map, List.map_map, List.map_map]; rfl
theorem intsOf_LD : ∀ xs : List Int, intsOf (LD xs) = some xs
  | [] => rfl
  | x :: r => by
    show (intsOf (LD r)).map _ = _
    rw [intsOf_LD r]; rfl
theorem boolsOf_LD : ∀ xs : List Bool, boolsOf (LD xs) = some xs
  | [] => rfl
  | x :: r => by
    show (boolsOf (LD r)).map _ = _
    rw [boolsOf_LD r]; rfl
@[simp] theorem allL_LD (xs : List Bool) : allL [.list (LD xs)] = some (.bool (xs.all id)) := by simp [allL, boolsOf_LD]
@[simp] theorem anyL_LD (xs : List Bool) : anyL [.list (LD xs)] = some (.bool (xs.any id)) := by simp [anyL, boolsOf_LD]
@[simp] theorem sumL_LD (xs : List Int) : sumL [.list (LD xs)] = some (.int xs.sum) := by simp [sumL, intsOf_LD]
@[simp] theorem minL_LD (xs : List Int) : minL [.list (LD xs)] = xs.min?.map .int := by simp [minL, intsOf_LD]
@[simp] theorem maxL_LD (xs : List Int) : maxL [.list (LD xs)] = xs.max?.map .int := by simp [maxL, intsOf_LD]
theorem cutL_LD (xs : List α) (lo hi : Option Int) : cutL (LD xs) lo hi = LD (cutL xs lo hi) := by
  unfold cutL LD
  rw [List.length_map, List.map_take, List.map_drop]
end

/-! whole numbers -/
@[simp] theorem addD_int (i j : Int) : addD (.int i) (.int j) = some (.int (i + j)) := rfl
@[simp] theorem subD_int (i j : Int) : subD (.int i) (.int j) = some (.int (i - j)) := rfl
theorem mulD_int (i j : Int) (h : small64 i ∨ small64 j) : mulD (.int i) (.int j) = some (.int (i * j)) := by simp only [mulD, if_pos h]
@[simp] theorem negD_int (i : Int) : negD (.int i) = some (.int (-i)) := rfl
theorem modD_int (i j : Int) (h : 0 < j) : modD (.int i) (.int j) = some (.int (i % j)) := by
  simp only [modD]
  rw [if_pos (by omega), Int.fmod_eq_emod_of_nonneg _ (by omega)]
theorem fdivD_int (i j : Int) (h : 0 < j) (h' : j < 1073741824) : fdivD (.int i) (.int j) = some (.int (i / j)) := by
  simp only [fdivD]
  rw [if_pos (by omega), Int.fdiv_eq_ediv_of_nonneg _ (by omega)]
@[simp] theorem ltD_int (i j : Int) : ltD (.int i) (.int j) = some (.bool (decide (i < j))) := by simp [ltD]
@[simp] theorem gtD_int (i j : Int) : gtD (.int i) (.int j) = some (.bool (decide (j < i))) := by simp [gtD]
@[simp] theorem leD_int (i j : Int) : leD (.int i) (.int j) = some (.bool (decide (i ≤ j))) := by simp [leD]
@[simp] theorem geD_int (i j : Int) : geD (.int i) (.int j) = some (.bool (decide (j ≤ i))) := by simp [geD]
@[simp] theorem intL_int (i : Int) : intL [.int i] = some (.int i) := rfl
@[simp] theorem intL_bool (b : Bool) : intL [.bool b] = some (.int (if b then 1 else 0)) := rfl
@[simp] theorem int1_int (i : Int) : int1 [.int i] = some (0, i) := rfl
@[simp] theorem int2_int (i j : Int) : int2 [.int i, .int j] = some (i, j) := rfl
@[simp] theorem oI_int (i : Int) : oI (some (.int i)) = some (some i) := rfl
@[simp] theorem isB_b (b : Bool) : isB (.bool b) = some b := rfl
@[simp] theorem truth_b (b : Bool) : truth (.bool b) = some b := rfl
@[simp] theorem un2_t (x y : D) : un2 (.tuple [x, y]) = some (x, y) := rfl
@[simp] theorem un3_t (x y z : D) : un3 (.tuple [x, y, z]) = some (x, y, z) := rfl
@[simp] theorem un4_t (x y z w : D) : un4 (.tuple [x, y, z, w]) = some (x, y, z, w) := rfl
@[simp] theorem un2L_t (x y : D) : un2L [x, y] = some (x, y) := rfl
@[simp] theorem fit_zero {α : Type} (x : α) : fit 0 x = some x := fit_ok (by omega)
@[simp] theorem isD_none (d : D) : isD d .none = some (.bool (isNoneB d)) := rfl
theorem ints18 : powD (.int 10) (.int 18) = some (.int 1000000000000000000) := by simp [powD]
@[simp] theorem revD_L (xs : List D) : revD (.list xs) = some (.list xs.reverse) := rfl
@[simp] theorem LD_rev {α : Type} [DecidableEq α] [Datum α] (xs : List α) : (LD xs).reverse = LD xs.reverse := (List.map_reverse ..).symm

/-! tuples of three -/
structure T3 (α β γ : Type) where
  a : α
  b : β
  c : γ
  deriving DecidableEq
instance {α β γ : Type} [DecidableEq α] [Datum α] [DecidableEq β] [Datum β] [DecidableEq γ] [Datum γ] : Datum (T3 α β γ) where
  toD t := .tuple [Datum.toD t.a, Datum.toD t.b, Datum.toD t.c]
  plain t := by simp [PyData.plain, PyData.plainAll, Datum.plain]
  eqv x y := by
    cases x; cases y
    simp [PyData.eqv, PyData.eqvAll, Datum.eqv]
  depth := max (Datum.depth α) (max (Datum.depth β) (Datum.depth γ)) + 1
  depth_le t := by
    have h1 := Datum.depth_le t.a
    have h2 := Datum.depth_le t.b
    have h3 := Datum.depth_le t.c
    simp only [PyData.depth, PyData.depthAll]
    omega
theorem tD_t3 {α β γ : Type} [DecidableEq α] [Datum α] [DecidableEq β] [Datum β] [DecidableEq γ] [Datum γ] (t : T3 α β γ) : Datum.toD t = PyData.tuple [Datum.toD t.a, Datum.toD t.b, Datum.toD t.c] := rfl
/-! sorting -/
section
variable {α : Type} [DecidableEq α] [Datum α]
class DatOrd (α : Type) [DecidableEq α] [Datum α] where
  al : ∀ x y : α, alike (Datum.toD x) (Datum.toD y) = true
/-- sorted as Python sorts -/
noncomputable def srt (xs : List α) : List α := xs.mergeSort (dataLe false Datum.toD)
theorem srt_perm (xs : List α) : (srt xs).Perm xs := List.mergeSort_perm _ _
theorem srt_sorted (xs : List α) : (srt xs).Pairwise fun x y => dataLt (Datum.toD y) (Datum.toD x) = false := by
  have t := sortLe_total (listOrd itemOrd) false fun b : α => keyToks (Datum.toD b)
  refine (List.pairwise_mergeSort (le := dataLe false Datum.toD) t.trans (fun a b => ?_) xs).imp fun {x y} h => ?_
  · rw [Bool.or_eq_true]; exact t.total a b
  · have : (!dataLt (Datum.toD y) (Datum.toD x)) = true := h
    simpa using this
theorem sortF_LD [DatOrd α] (xs : List α) (hs : Sortable (LD xs)) (hd : Datum.depth α ≤ 64) : sortF [.list (LD xs)] = some (LD (srt xs)) := by
  have h1 : AllAlike (LD xs) := AllAlike.of DatOrd.al
  simp only [sortF]
  rw [if_pos ⟨h1, hs, Nat.le_trans (LD_dep xs) hd⟩]
  unfold LD srt
  rw [List.map_mergeSort]
  intro a _ b _; rfl
instance : DatOrd Int := ⟨fun _ _ => by simp [tD_int, alike]⟩
instance : DatOrd Bool := ⟨fun _ _ => by simp [tD_bool, alike]⟩
instance : DatOrd Str := ⟨fun _ _ => by simp [tD_str, alike]⟩
theorem sortF_int (xs : List Int) : sortF [.list (LD xs)] = some (LD (srt xs)) := sortF_LD xs (Sortable.others fun b => ⟨by simp [tD_int], by simp [tD_int]⟩) (Nat.zero_le _)
theorem sortF_str (xs : List Str) : sortF [.list (LD xs)] = some (LD (srt xs)) := sortF_LD xs (Sortable.others fun b => ⟨by simp [tD_str], by simp [tD_str]⟩) (Nat.zero_le _)
theorem srt_int (xs : List Int) : (srt xs).Pairwise (· ≤ ·) := (srt_sorted xs).imp fun {x y} h => by
  rw [tD_int, tD_int, dataLt_int] at h
  simpa using h
theorem srt_eq {xs ys : List Int} (h : ys.Pairwise (· ≤ ·)) : srt xs = ys ↔ xs.Perm ys := by
  constructor
  · rintro rfl; exact (srt_perm xs).symm
  · intro p
    exact ((srt_perm xs).trans p).eq_of_pairwise (fun a b _ _ h1 h2 => Int.le_antisymm h1 h2) (srt_int xs) h
theorem ri_sorted (lo : Int) (n : Nat) : (ri lo n).Pairwise (· ≤ ·) := by
  unfold ri
  rw [List.pairwise_map]
  exact List.pairwise_lt_range.imp fun {a b} h => by omega
theorem ri_nodup (lo : Int) (n : Nat) : (ri lo n).Nodup := by
  unfold ri
  rw [List.Nodup, List.pairwise_map]
  exact List.pairwise_lt_range.imp fun {a b} h => by omega
instance {α β : Type} [DecidableEq α] [Datum α] [DecidableEq β] [Datum β] [DatOrd α] [DatOrd β] : DatOrd (α × β) := ⟨fun x y => by
  show alike (.tuple [Datum.toD x.1, Datum.toD x.2]) (.tuple [Datum.toD y.1, Datum.toD y.2]) = true
  simp [alike, alikeAll, DatOrd.al]⟩
instance {α β γ : Type} [DecidableEq α] [Datum α] [DecidableEq β] [Datum β] [DecidableEq γ] [Datum γ] [DatOrd α] [DatOrd β] [DatOrd γ] : DatOrd (T3 α β γ) := ⟨fun x y => by
  rw [tD_t3, tD_t3]
  simp [alike, alikeAll, DatOrd.al]⟩
theorem alikeAll_LD [DatOrd α] : ∀ xs ys : List α, alikeAll (LD xs) (LD ys) = true
  | [], _ => rfl
  | _ :: _, [] => rfl
  | x :: xs, y :: ys => by
    rw [LD_cons, LD_cons, alikeAll, DatOrd.al, alikeAll_LD xs ys]; rfl
instance [DatOrd α] : DatOrd (List α) := ⟨fun x y => by
  rw [tD_list, tD_list, alike]; exact alikeAll_LD x y⟩
theorem dataLt_t3 {α β γ : Type} [DecidableEq α] [Datum α] [DecidableEq β] [Datum β] [DecidableEq γ] [Datum γ] [DatOrd α] [DatOrd β] [DatOrd γ] (x y : T3 α β γ) :
    dataLt (Datum.toD x) (Datum.toD y) = if x.a = y.a then (if x.b = y.b then (if x.c = y.c then false else dataLt (Datum.toD x.c) (Datum.toD y.c)) else dataLt (Datum.toD x.b) (Datum.toD y.b)) else dataLt (Datum.toD x.a) (Datum.toD y.a) := by
  rw [tD_t3, tD_t3, dataLt_tuple, dataLt_cons (DatOrd.al _ _), dataLt_cons (DatOrd.al _ _), dataLt_cons (DatOrd.al _ _)]
  have e : PyProof.Rows.lexLt itemOrd (keyToksAll []) (keyToksAll []) = false := lex_irrefl _
  rw [e, Datum.eqv, Datum.eqv, Datum.eqv]
  simp only [decide_eq_true_eq]
theorem dataLt_str_tri (x y : Str) (h1 : dataLt (.str x) (.str y) = false) (h2 : dataLt (.str y) (.str x) = false) : x = y := by
  rw [dataLt_str] at h1 h2
  have h1 := of_decide_eq_false h1
  have h2 := of_decide_eq_false h2
  exact str_of_cps (List.le_antisymm (List.not_lt.mp h2) (List.not_lt.mp h1))
end
end Dl

/-! The drawn numbers and the sameness of data: one text for each law. -/
namespace Wk0
open PySem L2 PySem.Spec PyProof.Rows PySem.W PySem.SeqAt Dl
theorem small_i {i : Int} (h : -18446744073709551616 < i) (h' : i < 18446744073709551616) : small64 i := ⟨h, h'⟩
theorem numbers_ok (c : Int) (n : Nat) (lim : Int) (hn : n ≤ 1000) (hl : 0 < lim) (hl' : lim < 1073741824) :
    ∃ zs : List Int, d__law_numbers (.int c) (.int (n : Int)) (.int lim) = some (LD zs) ∧ zs.length = n ∧ ∀ z ∈ zs, 0 ≤ z ∧ z < lim := by
  unfold d__law_numbers b__law_numbers
  have hr : rng1D [.int (n : Int)] = some (LD (ri 0 n)) := rng1D_n n (by omega)
  simp only [b2, c2, iteM, nxt, Option.bind_some, Option.map_some, seqF_nx, List.length_nil, fit_zero, ints18, geD_int, isB_b, hr, id]
  by_cases hc : (1000000000000000000 : Int) ≤ c
  · rw [if_pos (decide_eq_true hc)]
    obtain ⟨l', e, i⟩ := forF_LD (M := Unit) (F := fun d (l2 : D × List D) => (((some d) : Option D).bind fun v3 => (seqF (nxt ((b2 ((c2 (some l2.1) (some [])).bind intL) (some (.int lim)) modD).bind fun d => fit (l2.2.length + 1) d)) fun a4 => (seqF (nxt (b2 ((c2 (some l2.1) (some [])).bind intL) (some (.int lim)) fdivD)) fun cell5 => (some (.nx (cell5, (l2.2 ++ [a4]))) : Option (Fl (D × List D) (D × List D)))))))
      (xs := ri 0 n) (fun i l => ∃ (c : Int) (zs : List Int), l = (.int c, LD zs) ∧ zs.length = i ∧ i ≤ n ∧ ∀ z ∈ zs, 0 ≤ z ∧ z < lim) (l := (.int c, [])) ⟨c, [], rfl, rfl, by omega, by simp⟩
      (fun i x l hx ⟨c, zs, e, hz, hi, hb⟩ => by
        subst e
        have hi' : i < n := by have := (List.getElem?_eq_some_iff.mp hx).1; simpa using this
        simp only [b2, c2, nxt, Option.bind_some, intL_int, modD_int _ _ hl, fdivD_int _ _ hl hl', fit_ok (show (LD zs).length + 1 ≤ 16777216 by simp; omega), Option.map_some, seqF_nx]
        refine ⟨_, rfl, c / lim, zs ++ [c % lim], by rw [← LD_app]; rfl, by simp [hz], by omega, ?_⟩
        intro z h
        rcases List.mem_append.mp h with h | h
        · exact hb z h
        · rw [List.mem_singleton.mp h]; exact ⟨Int.emod_nonneg _ (by omega), Int.emod_lt_of_pos _ hl⟩)
    simp only [b2, c2, nxt, Option.bind_some] at e
    rw [e]
    obtain ⟨c', zs, rfl, h1, h2, h3⟩ := i
    exact ⟨zs, by simp only [seqF_nx, seqF_rt, outF_rt], by simpa using h1, h3⟩
  · rw [if_neg (by simpa using hc)]
    simp only [seqF_nx]
    obtain ⟨l', e, i⟩ := forF_LD (M := Unit) (F := fun d (l6 : List D) => (((some d) : Option D).bind fun v7 => (seqF (nxt (b2 ((c2 (b2 (b2 (b2 (some (.int c)) (some (.int 48271)) mulD) (b2 (some v7) (some (.int 69621)) mulD) addD) (some (.int 7)) addD) (some [])).bind intL) (some (.int 2147483647)) modD)) fun mixed8 => (seqF (nxt (b2 ((c2 (b2 (b2 (b2 (b2 (some mixed8) (some mixed8) mulD) (b2 (some mixed8) (some (.int 40692)) mulD) addD) (b2 (some v7) (some (.int 16807)) mulD) addD) (some (.int 11)) addD) (some [])).bind intL) (some (.int 2147483399)) modD)) fun mixed9 => (seqF (nxt ((b2 ((c2 (b2 (some mixed9) (some (.int 32)) fdivD) (some [])).bind intL) (some (.int lim)) modD).bind fun d => fit (l6.length + 1) d)) fun a10 => (some (.nx (l6 ++ [a10])) : Option (Fl (List D) (List D))))))))
      (xs := ri 0 n) (fun i l => ∃ (zs : List Int), l = LD zs ∧ zs.length = i ∧ i ≤ n ∧ ∀ z ∈ zs, 0 ≤ z ∧ z < lim) (l := []) ⟨[], rfl, rfl, by omega, by simp⟩
      (fun i x l hx ⟨zs, e, hz, hi, hb⟩ => by
        subst e
        have hi' : i < n := by have := (List.getElem?_eq_some_iff.mp hx).1; simpa using this
        have hq : ∀ a b : Int, 0 < b → b < 1000000000000 → small64 (a % b) := fun a b h h' => by
          have h1 := Int.emod_nonneg a (b := b) (by omega)
          have h2 := Int.emod_lt_of_pos a h
          exact ⟨by omega, by omega⟩
        have hk : ∀ a b : Int, -1000000000 < b → b < 1000000000 → mulD (.int a) (.int b) = some (.int (a * b)) := fun a b h h' => mulD_int a b (.inr ⟨by omega, by omega⟩)
        have hm : ∀ a b c : Int, 0 < b → b < 1000000000000 → mulD (.int (a % b)) (.int c) = some (.int (a % b * c)) := fun a b c h h' => mulD_int _ _ (.inl (hq a b h h'))
        simp only [b2, c2, nxt, Option.bind_some, intL_int, addD_int, hk _ 48271 (by omega) (by omega), hk _ 69621 (by omega) (by omega), hk _ 16807 (by omega) (by omega), hm _ 2147483647 _ (by omega) (by omega), tD_int,
          modD_int _ 2147483647 (by omega), modD_int _ 2147483399 (by omega), modD_int _ _ hl, fdivD_int _ 32 (by omega) (by omega), fit_ok (show (LD zs).length + 1 ≤ 16777216 by simp; omega), Option.map_some, seqF_nx]
        refine ⟨_, rfl, zs ++ [_], by rw [← LD_app]; rfl, by simp [hz], by omega, ?_⟩
        intro z h
        rcases List.mem_append.mp h with h | h
        · exact hb z h
        · rw [List.mem_singleton.mp h]; exact ⟨Int.emod_nonneg _ (by omega), Int.emod_lt_of_pos _ hl⟩)
    simp only [b2, c2, nxt, Option.bind_some] at e
    rw [e]
    obtain ⟨zs, rfl, h1, h2, h3⟩ := i
    exact ⟨zs, by simp only [seqF_nx, seqF_rt, outF_rt], by simpa using h1, h3⟩

/-- data without a dict, not deep, no list long: the same as itself -/
inductive Tame : Nat → D → Prop
  | non {n : Nat} : Tame n .none
  | bool {n : Nat} (b : Bool) : Tame n (.bool b)
  | int {n : Nat} (i : Int) : Tame n (.int i)
  | str {n : Nat} (x : Str) : Tame n (.str x)
  | list {n : Nat} {ds : List D} (h : ds.length ≤ 16777216) (a : ∀ d ∈ ds, Tame n d) : Tame (n + 1) (.list ds)
  | tuple {n : Nat} {ds : List D} (h : ds.length ≤ 16777216) (a : ∀ d ∈ ds, Tame n d) : Tame (n + 1) (.tuple ds)
theorem same_self : ∀ (n m : Nat) (d : D), Tame n d → n < m → d__law_same m d d = some (.bool true)
  | n, 0, d, _, hm => by omega
  | n, m + 1, d, ht, hm => by
    have k1 : ∀ x : D, (∃ i, x = .int i) → d.depth = 0 → True := fun _ _ _ => trivial
    have e : d__law_same (m + 1) d d = outD (b__law_same (d__law_same m) d d) := by rw [d__law_same]
    rw [e]
    unfold b__law_same
    have q1 : kitB "int" "int" = some true := by decide +kernel
    have q2 : kitB "int" "list" = some false := by decide +kernel
    have q3 : kitB "int" "tuple" = some false := by decide +kernel
    have q4 : kitB "int" "bool" = some false := by decide +kernel
    have q5 : kitB "bool" "bool" = some true := by decide +kernel
    have q6 : kitB "bool" "list" = some false := by decide +kernel
    have q7 : kitB "bool" "tuple" = some false := by decide +kernel
    have q8 : kitB "str" "str" = some true := by decide +kernel
    have q9 : kitB "str" "list" = some false := by decide +kernel
    have q10 : kitB "str" "tuple" = some false := by decide +kernel
    have q11 : kitB "str" "bool" = some false := by decide +kernel
    have q12 : kitB "str" "int" = some false := by decide +kernel
    have q13 : kitB "list" "list" = some true := by decide +kernel
    have q14 : kitB "tuple" "list" = some false := by decide +kernel
    have q15 : kitB "tuple" "tuple" = some true := by decide +kernel
    have q16 : kitB "NoneType" "list" = some false := by decide +kernel
    have q17 : kitB "NoneType" "tuple" = some false := by decide +kernel
    cases ht with
    | non => simp [b2, c2, iteM, nxt, insD, tyName, q16, q17, isNoneB]
    | bool b => simp [b2, c2, iteM, nxt, insD, tyName, q5, q6, q7, isNoneB, andV]
    | int b => simp [b2, c2, iteM, nxt, insD, tyName, q1, q2, q3, q4, isNoneB, andV]
    | str b => simp [b2, c2, iteM, nxt, insD, tyName, q8, q9, q10, q11, q12, isNoneB, andV]
    | @list n ds h a =>
      have hr : rng1D [.int (ds.length : Int)] = some (LD (ri 0 ds.length)) := rng1D_n _ h
      simp only [b2, c2, iteM, orB, nxt, insD, tyName, q13, Option.bind_some, Option.map_some, truth_b, if_true, lenL_L, neD_int, isB_b, ne_eq, not_true_eq_false, decide_false, Bool.not_true, Bool.false_eq_true, if_false, seqF_nx, hr]
      rw [forF_all]
      · simp
      · intro x hx
        obtain ⟨i, hi, rfl⟩ := List.mem_map.mp hx
        obtain ⟨i1, i2⟩ := mem_ri.mp hi
        have hl : i.toNat < ds.length := by omega
        have ei : idxD (.list ds) (.int i) = some ds[i.toNat] := by
          show atI ds i = _
          rw [atI_nat' i1 (by omega), List.getElem?_eq_getElem hl]
        simp only [tD_int, Option.bind_some, ei, f2_two, same_self n m _ (a _ (List.getElem_mem hl)) (by omega), truth_b, Option.map_some, Bool.not_true, Bool.false_eq_true, if_false]
    | @tuple n ds h a =>
      have hr : rng1D [.int (ds.length : Int)] = some (LD (ri 0 ds.length)) := rng1D_n _ h
      simp only [b2, c2, iteM, orB, nxt, insD, tyName, q14, q15, Option.bind_some, Option.map_some, truth_b, if_true, lenL_T, neD_int, isB_b, ne_eq, not_true_eq_false, decide_false, Bool.not_true, Bool.false_eq_true, if_false, seqF_nx, hr]
      rw [forF_all]
      · simp
      · intro x hx
        obtain ⟨i, hi, rfl⟩ := List.mem_map.mp hx
        obtain ⟨i1, i2⟩ := mem_ri.mp hi
        have hl : i.toNat < ds.length := by omega
        have ei : idxD (.tuple ds) (.int i) = some ds[i.toNat] := by
          show atI ds i = _
          rw [atI_nat' i1 (by omega), List.getElem?_eq_getElem hl]
        simp only [tD_int, Option.bind_some, ei, f2_two, same_self n m _ (a _ (List.getElem_mem hl)) (by omega), truth_b, Option.map_some, Bool.not_true, Bool.false_eq_true, if_false]
theorem same_bool (m : Nat) (b : Bool) : d__law_same (m + 1) (.bool b) (.bool b) = some (.bool true) := same_self 0 (m + 1) _ (.bool b) (by omega)
theorem Tame.up {n : Nat} {d : D} (h : Tame n d) : Tame (n + 1) d := by
  induction h with
  | non => exact .non
  | bool b => exact .bool b
  | int i => exact .int i
  | str x => exact .str x
  | list h _ ih => exact .list h ih
  | tuple h _ ih => exact .tuple h ih
end Wk0

/-! plain lemmas on lists, for several laws -/
namespace Wk0
open PySem L2 PySem.Spec PyProof.Rows PySem.W PySem.SeqAt Dl
theorem perm_sub {α : Type} [DecidableEq α] : ∀ {xs ys : List α}, xs.Nodup → (∀ x ∈ xs, x ∈ ys) → ys.length ≤ xs.length → xs.Perm ys
  | [], ys, _, _, h => by
    have : ys = [] := List.eq_nil_of_length_eq_zero (by simpa using h)
    rw [this]
  | x :: r, ys, hn, hs, hl => by
    have h1 := hs x (.head _)
    have h2 := List.perm_cons_erase h1
    have hx := (List.nodup_cons.mp hn).1
    refine (List.Perm.cons x (perm_sub (List.nodup_cons.mp hn).2 (fun y hy => ?_) ?_)).trans h2.symm
    · exact (List.mem_erase_of_ne (fun e : y = x => hx (by rw [← e]; exact hy))).mpr (hs y (.tail _ hy))
    · rw [List.length_erase_of_mem h1]
      simp only [List.length_cons] at hl
      omega
theorem nodup_len {α : Type} [DecidableEq α] : ∀ {xs ys : List α}, xs.Nodup → (∀ x ∈ xs, x ∈ ys) → xs.length ≤ ys.length
  | [], ys, _, _ => by simp
  | x :: r, ys, hn, hs => by
    have h1 := hs x (.head _)
    have hx := (List.nodup_cons.mp hn).1
    have h2 := nodup_len (xs := r) (ys := ys.erase x) (List.nodup_cons.mp hn).2 fun y hy => (List.mem_erase_of_ne (fun e : y = x => hx (by rw [← e]; exact hy))).mpr (hs y (.tail _ hy))
    rw [List.length_erase_of_mem h1] at h2
    have := List.length_pos_of_mem h1
    simp only [List.length_cons]
    omega
theorem sum_perm {xs ys : List Int} (h : xs.Perm ys) : xs.sum = ys.sum := by
  induction h with
  | nil => rfl
  | cons x _ ih => simp [ih]
  | swap x y l => simp only [List.sum_cons]; omega
  | trans _ _ ih1 ih2 => exact ih1.trans ih2
/-- as many that weigh least -/
theorem least {α : Type} [DecidableEq α] (W : α → Int) : ∀ (A C : List α), A.Nodup → C.Nodup → A.length = C.length → (∀ a ∈ A, ∀ x ∈ C, x ∉ A → W a ≤ W x) → (A.map W).sum ≤ (C.map W).sum
  | [], C, _, _, hl, _ => by
    have : C = [] := List.eq_nil_of_length_eq_zero (by simpa using hl.symm)
    rw [this]; exact Int.le_refl _
  | a :: A, C, hA, hC, hl, h => by
    have ha := (List.nodup_cons.mp hA)
    simp only [List.length_cons] at hl
    have step : ∀ x ∈ C, W a ≤ W x → (∀ y ∈ C.erase x, y ≠ a) → ((a :: A).map W).sum ≤ (C.map W).sum := fun x hx hw hy => by
      have p := List.perm_cons_erase hx
      have e1 := sum_perm (p.map W)
      have lx := List.length_erase_of_mem hx
      have := List.length_pos_of_mem hx
      have ih := least W A (C.erase x) ha.2 (hC.erase x) (by omega) fun b hb y hy' hyA => by
        refine h b (.tail _ hb) y (List.mem_of_mem_erase hy') ?_
        intro hm
        rcases List.mem_cons.mp hm with e | hm
        · exact hy y hy' e
        · exact hyA hm
      rw [e1, List.map_cons, List.map_cons, List.sum_cons, List.sum_cons]
      omega
    by_cases hac : a ∈ C
    · exact step a hac (Int.le_refl _) fun y hy e => by
        rw [e] at hy
        exact ((List.Nodup.mem_erase_iff hC).mp hy).1 rfl
    · obtain ⟨x, hx, hxA⟩ : ∃ x ∈ C, x ∉ a :: A := by
        apply Classical.byContradiction
        intro hn
        have : ∀ x ∈ C, x ∈ A := fun x hx => by
          apply Classical.byContradiction
          intro hxa
          refine hn ⟨x, hx, fun hm => ?_⟩
          rcases List.mem_cons.mp hm with e | hm
          · exact hac (e ▸ hx)
          · exact hxa hm
        have := nodup_len hC this
        omega
      exact step x hx (h a (.head _) x hx hxA) fun y hy e => hac (e ▸ List.mem_of_mem_erase hy)
theorem getD_at {α : Type} {xs : List α} {i : Nat} {d : α} (h : i < xs.length) : xs[i]? = some (xs.getD i d) := by
  rw [List.getD_eq_getElem?_getD, List.getElem?_eq_getElem h]; rfl
/-- a row whose neighbours grow, grows -/
theorem grow_iff {c : List Int} : c.Pairwise (· < ·) ↔ ∀ k, k + 1 < c.length → c.getD k 0 < c.getD (k + 1) 0 := by
  constructor
  · intro h k hk
    have := List.pairwise_iff_getElem.mp h k (k + 1) (by omega) hk (by omega)
    rw [List.getD_eq_getElem?_getD, List.getD_eq_getElem?_getD, List.getElem?_eq_getElem (by omega), List.getElem?_eq_getElem hk]
    exact this
  · intro h
    have key : ∀ (j i : Nat), i < j → j < c.length → c.getD i 0 < c.getD j 0 := by
      intro j
      induction j with
      | zero => intro i hi; omega
      | succ j ih =>
        intro i hi hj
        have h1 := h j hj
        by_cases e : i = j
        · rw [e]; exact h1
        · have := ih i (by omega) (by omega)
          omega
    rw [List.pairwise_iff_getElem]
    intro i j hi hj hij
    have := key j i hij hj
    rw [List.getD_eq_getElem?_getD, List.getD_eq_getElem?_getD, List.getElem?_eq_getElem hi, List.getElem?_eq_getElem hj] at this
    exact this
theorem ri_lt (lo : Int) (n : Nat) : (ri lo n).Pairwise (· < ·) := by
  unfold ri
  rw [List.pairwise_map]
  exact List.pairwise_lt_range.imp fun {a b} h => by omega
theorem lt_nodup {c : List Int} (h : c.Pairwise (· < ·)) : c.Nodup := h.imp fun {a b} h => by omega
theorem lt_eq {c e : List Int} (h : c.Pairwise (· < ·)) (h' : e.Pairwise (· < ·)) (hm : ∀ x, x ∈ c ↔ x ∈ e) : c = e := by
  have p : c.Perm e := perm_sub (lt_nodup h) (fun x hx => (hm x).mp hx) (nodup_len (lt_nodup h') fun x hx => (hm x).mpr hx)
  exact p.eq_of_pairwise (fun a b _ _ h1 h2 => Int.le_antisymm h1 h2) (h.imp fun {a b} h => Int.le_of_lt h) (h'.imp fun {a b} h => Int.le_of_lt h)
theorem srt_lt {c : List Int} (h : c.Nodup) : (srt c).Pairwise (· < ·) := by
  have h1 := srt_int c
  have h2 : (srt c).Nodup := (srt_perm c).nodup_iff.mpr h
  exact (h1.and h2).imp fun {a b} ⟨x, y⟩ => by omega
theorem whileF_nat {L M : Type} {c : L → Option Bool} {F : L → Option (Fl L L)} (en : Nat → L) (m : Nat) (h1 : ∀ j, j < m → c (en j) = some true ∧ F (en j) = some (.nx (en (j + 1)))) (h2 : c (en m) = some false) :
    ∀ (k j fuel : Nat), j + k = m → k < fuel → (whileF c F fuel (en j) : Option (Fl L M)) = some (.nx (en m))
  | 0, j, fuel + 1, e, _ => by
    have : j = m := by omega
    subst this
    show ((c (en j)).bind _) = _
    rw [h2]; rfl
  | k + 1, j, fuel + 1, e, hf => by
    obtain ⟨a, b⟩ := h1 j (by omega)
    show ((c (en j)).bind _) = _
    rw [a]
    show ((F (en j)).bind _) = _
    rw [b]
    exact whileF_nat en m h1 h2 k (j + 1) fuel (by omega) (by omega)
theorem cell_ok (ns : List Int) (k : Nat) (hk : k < 64) : cellD ns (.int (k : Int)) = some (.int (ns.getD k 0)) := by
  simp only [cellD]
  rw [if_pos (by omega), Int.toNat_natCast]
theorem take_cut {α : Type} (xs : List α) (k : Nat) : cutL xs none (some (k : Int)) = xs.take k := by
  unfold cutL
  rw [HT.sIx_none, HT.sIx_nat, List.drop_zero, Nat.sub_zero]
  exact (List.take_eq_take_min ..).symm
theorem take_cut0 {α : Type} (xs : List α) (k : Nat) : cutL xs (some 0) (some (k : Int)) = xs.take k := by
  have := take_cut xs k
  unfold cutL at this ⊢
  have e : HT.sIx xs.length 0 (some 0) = HT.sIx xs.length 0 none := by
    simp [HT.sIx]
  rw [e]
  exact this
theorem drop_cut {α : Type} (xs : List α) (k : Nat) : cutL xs (some (k : Int)) none = xs.drop k := by
  unfold cutL
  rw [HT.sIx_none, HT.sIx_nat]
  rcases Nat.le_total k xs.length with h | h
  · rw [Nat.min_eq_left h]
    exact List.take_of_length_le (by rw [List.length_drop]; omega)
  · rw [Nat.min_eq_right h, List.drop_of_length_le (Nat.le_refl _), List.drop_of_length_le h]; simp
end Wk0

namespace Wk0
open PySem L2 PySem.Spec PyProof.Rows PySem.W PySem.SeqAt Dl
abbrev Ln := Int × Int
def act (l : Ln) (d : Int) : Bool := decide (l.1 ≤ d) && decide (d < l.2)
def out (L : List Ln) (d : Int) : Nat := (L.filter fun l => act l d).length
def busy (T : List (Ln × Int)) (d : Int) : List Int := (T.filter fun t => act t.1 d).map Prod.snd
/-- the least number that is not in b -/
def mx (b : List Int) : Int := ((ri 0 (b.length + 1)).filter fun c => decide (c ∉ b)).headD 0
theorem mx_spec (b : List Int) : mx b ∉ b ∧ 0 ≤ mx b ∧ mx b ≤ b.length ∧ ∀ c, 0 ≤ c → c < mx b → c ∈ b := by
  unfold mx
  cases h : (ri 0 (b.length + 1)).filter fun c => decide (c ∉ b) with
  | nil =>
    have hs : ∀ x ∈ ri 0 (b.length + 1), x ∈ b := fun x hx => by
      have := (List.filter_eq_nil_iff.mp h) x hx
      simpa using this
    have := nodup_len (ri_nodup 0 (b.length + 1)) hs
    rw [ri_len] at this
    omega
  | cons m t =>
    have hm : m ∈ (ri 0 (b.length + 1)).filter fun c => decide (c ∉ b) := by rw [h]; exact .head _
    obtain ⟨h1, h2⟩ := List.mem_filter.mp hm
    have h3 := mem_ri.mp h1
    refine ⟨of_decide_eq_true h2, by show 0 ≤ m; omega, by show m ≤ _; omega, fun c c0 cm => ?_⟩
    have cm : c < m := cm
    apply Classical.byContradiction
    intro hc
    have hcm : c ∈ (ri 0 (b.length + 1)).filter fun c => decide (c ∉ b) := List.mem_filter.mpr ⟨mem_ri.mpr (by omega), decide_eq_true hc⟩
    have hp : ((ri 0 (b.length + 1)).filter fun c => decide (c ∉ b)).Pairwise (· < ·) := (ri_lt _ _).sublist List.filter_sublist
    rw [h] at hcm hp
    rcases List.mem_cons.mp hcm with e | hcm
    · omega
    · have := (List.pairwise_cons.mp hp).1 c hcm
      omega
/-- the first of a range that is not in b' is the same -/
theorem mx_first {b b' : List Int} {N : Nat} (hb : ∀ x, x ∈ b ↔ x ∈ b') (hN : mx b < N) : ((ri 0 N).filter fun c => decide (c ∉ b'))[0]? = some (mx b) := by
  obtain ⟨h1, h2, h3, h4⟩ := mx_spec b
  cases h : (ri 0 N).filter fun c => decide (c ∉ b') with
  | nil =>
    have := (List.filter_eq_nil_iff.mp h) (mx b) (mem_ri.mpr (by omega))
    rw [decide_eq_true_eq, Classical.not_not] at this
    exact absurd ((hb _).mpr this) h1
  | cons m t =>
    have hm : m ∈ (ri 0 N).filter fun c => decide (c ∉ b') := by rw [h]; exact .head _
    obtain ⟨g1, g2⟩ := List.mem_filter.mp hm
    have g3 := mem_ri.mp g1
    have g4 := of_decide_eq_true g2
    have hp : ((ri 0 N).filter fun c => decide (c ∉ b')).Pairwise (· < ·) := (ri_lt _ _).sublist List.filter_sublist
    have hmx : mx b ∈ (ri 0 N).filter fun c => decide (c ∉ b') := List.mem_filter.mpr ⟨mem_ri.mpr (by omega), decide_eq_true fun h => h1 ((hb _).mpr h)⟩
    rw [h] at hmx hp
    have : m = mx b := by
      rcases List.mem_cons.mp hmx with e | hmx
      · exact e.symm
      · have a := (List.pairwise_cons.mp hp).1 _ hmx
        exact absurd ((hb m).mp (h4 m (by omega) a)) g4
    rw [this]; rfl
/-- the loans in their order, each with the least free copy -/
def gT (ls : List Ln) : List (Ln × Int) := ls.foldl (fun T l => T ++ [(l, mx (busy T l.1))]) []
theorem gT_snoc (ls : List Ln) (l : Ln) : gT (ls ++ [l]) = gT ls ++ [(l, mx (busy (gT ls) l.1))] := by
  unfold gT; rw [List.foldl_append]; rfl
theorem snoc_ind {α : Type} {P : List α → Prop} (h0 : P []) (hs : ∀ l x, P l → P (l ++ [x])) : ∀ l, P l := fun l => by
  have : ∀ r : List α, P r.reverse := fun r => by
    induction r with
    | nil => exact h0
    | cons x r ih => rw [List.reverse_cons]; exact hs _ _ ih
  simpa using this l.reverse
theorem gT_fst : ∀ (ls : List Ln), (gT ls).map Prod.fst = ls := snoc_ind rfl fun ls l ih => by
  rw [gT_snoc, List.map_append, ih]; rfl
theorem gT_len (ls : List Ln) : (gT ls).length = ls.length := by
  have := congrArg List.length (gT_fst ls)
  rwa [List.length_map] at this
theorem gT_take (i : Nat) : ∀ (ls : List Ln), (gT ls).take i = gT (ls.take i) := snoc_ind (by simp [gT]) fun ls l ih => by
  by_cases h : i ≤ ls.length
  · rw [gT_snoc, List.take_append_of_le_length (by rw [gT_len]; exact h), List.take_append_of_le_length h, ih]
  · rw [List.take_of_length_le (by rw [gT_len, List.length_append, List.length_singleton]; omega), List.take_of_length_le (by rw [List.length_append, List.length_singleton]; omega)]
theorem gT_at (i : Nat) : ∀ (ls : List Ln), (gT ls)[i]? = ls[i]?.map fun l => (l, mx (busy (gT (ls.take i)) l.1)) := snoc_ind (by simp [gT]) fun ls l ih => by
  rw [gT_snoc]
  rcases Nat.lt_trichotomy i ls.length with h | h | h
  · rw [List.getElem?_append_left (by rw [gT_len]; exact h), List.getElem?_append_left h, List.take_append_of_le_length (by omega), ih]
  · rw [List.getElem?_append_right (by rw [gT_len]; omega), List.getElem?_append_right (by omega), gT_len, h, Nat.sub_self, List.take_append_of_le_length (Nat.le_refl _), List.take_length]; rfl
  · rw [List.getElem?_eq_none (by rw [List.length_append, gT_len, List.length_singleton]; omega), List.getElem?_eq_none (by rw [List.length_append, List.length_singleton]; omega)]; rfl
theorem act_iff {l : Ln} {d : Int} : act l d = true ↔ l.1 ≤ d ∧ d < l.2 := by
  unfold act; rw [Bool.and_eq_true, decide_eq_true_eq, decide_eq_true_eq]
section
variable {ls : List Ln} (hs : ls.Pairwise fun a b => a.1 ≤ b.1) (hp : ∀ l ∈ ls, l.1 < l.2)
include hs
/-- loans out on one day have copies of their own -/
theorem gT_apart : (gT ls).Pairwise fun s t => ∀ d, act s.1 d = true → act t.1 d = true → s.2 ≠ t.2 := by
  rw [List.pairwise_iff_getElem]
  intro i j hi hj hij d ha hb
  have ei := gT_at i ls
  have ej := gT_at j ls
  rw [List.getElem?_eq_getElem hi] at ei
  rw [List.getElem?_eq_getElem hj] at ej
  obtain ⟨li, hli, qi⟩ := Option.map_eq_some_iff.mp ei.symm
  obtain ⟨lj, hlj, qj⟩ := Option.map_eq_some_iff.mp ej.symm
  rw [← qi] at ha
  rw [← qj] at hb
  have h1 := List.pairwise_iff_getElem.mp hs i j (by rw [gT_len] at hi; exact hi) (by rw [gT_len] at hj; exact hj) hij
  rw [(List.getElem?_eq_some_iff.mp hli).2, (List.getElem?_eq_some_iff.mp hlj).2] at h1
  have ha := act_iff.mp ha
  have hb := act_iff.mp hb
  intro e
  have hin : (gT ls)[i].2 ∈ busy (gT (ls.take j)) lj.1 := by
    unfold busy
    refine List.mem_map_of_mem (f := Prod.snd) (List.mem_filter.mpr ⟨?_, ?_⟩)
    · rw [← gT_take]
      refine List.mem_iff_getElem?.mpr ⟨i, ?_⟩
      rw [List.getElem?_take, if_pos hij, List.getElem?_eq_getElem hi]
    · rw [← qi]
      show act li lj.1 = true
      rw [act_iff]
      exact ⟨h1, by simp only [] at ha hb; omega⟩
  rw [e, ← qj] at hin
  exact (mx_spec _).1 hin
theorem out_T (d : Int) : out ls d = ((gT ls).filter fun t => act t.1 d).length := by
  unfold out
  conv => lhs; rw [← gT_fst ls]
  rw [List.filter_map, List.length_map]; rfl
/-- no more are out than there are copies -/
theorem out_le {M : Int} (hM : ∀ t ∈ gT ls, 0 ≤ t.2 ∧ t.2 ≤ M) (hM0 : 0 ≤ M) (d : Int) : (out ls d : Int) ≤ M + 1 := by
  rw [out_T hs]
  have nd : (((gT ls).filter fun t => act t.1 d).map Prod.snd).Nodup := by
    rw [List.Nodup, List.pairwise_map]
    refine (List.Pairwise.and_mem.mp ((gT_apart hs).sublist List.filter_sublist)).imp fun {s t} ⟨h1, h2, h⟩ => ?_
    exact h d (List.mem_filter.mp h1).2 (List.mem_filter.mp h2).2
  have := nodup_len nd (ys := ri 0 (M + 1).toNat) fun x hx => by
    obtain ⟨t, ht, rfl⟩ := List.mem_map.mp hx
    have := hM t (List.mem_filter.mp ht).1
    exact mem_ri.mpr (by omega)
  rw [List.length_map, ri_len] at this
  omega
omit hs in
theorem cp_ge {t : Ln × Int} (ht : t ∈ gT ls) : 0 ≤ t.2 := by
  obtain ⟨i, hi⟩ := List.mem_iff_getElem?.mp ht
  rw [gT_at] at hi
  obtain ⟨l, _, rfl⟩ := Option.map_eq_some_iff.mp hi
  exact (mx_spec _).2.1
include hp in
/-- on its first day as many are out as its copy says -/
theorem cp_out {t : Ln × Int} (ht : t ∈ gT ls) : t.2 + 1 ≤ (out ls t.1.1 : Int) := by
  obtain ⟨i, hi⟩ := List.mem_iff_getElem?.mp ht
  have hlt := (List.getElem?_eq_some_iff.mp hi).1
  have hi0 := hi
  rw [gT_at] at hi
  obtain ⟨l, hl, rfl⟩ := Option.map_eq_some_iff.mp hi
  have h1 := (mx_spec (busy (gT (ls.take i)) l.1)).2.2.1
  rw [out_T hs]
  have e : gT ls = (gT ls).take i ++ (gT ls).drop i := (List.take_append_drop _ _).symm
  have e2 : (gT ls).drop i = (l, mx (busy (gT (ls.take i)) l.1)) :: (gT ls).drop (i + 1) := by
    rw [List.drop_eq_getElem_cons hlt]
    congr 1
    exact (List.getElem?_eq_some_iff.mp hi0).2
  have ha : act l l.1 = true := act_iff.mpr ⟨Int.le_refl _, hp l (List.mem_of_getElem? hl)⟩
  show mx _ + 1 ≤ ((((gT ls).filter fun t => act t.1 l.1).length : Nat) : Int)
  rw [e, List.filter_append, List.length_append, e2, List.filter_cons, if_pos (by simpa using ha), List.length_cons, gT_take]
  unfold busy at h1
  rw [List.length_map] at h1
  unfold busy
  omega
end
end Wk0

namespace Wk0
open PySem L2 PySem.Spec PyProof.Rows PySem.W PySem.SeqAt Dl
abbrev LL (L : List Ln) : D := .list (LD L)
abbrev LI (L : List Int) : D := .list (LD L)
def its (L : List Ln) : List (Ln × Int) := (ri 0 L.length).map fun k => (L.getD k.toNat (0, 0), k)
noncomputable def ord (L : List Ln) : List (Ln × Int) := srt (its L)
noncomputable def lso (L : List Ln) : List Ln := (ord L).map Prod.fst
section
variable (L : List Ln)
theorem its_zip : (L.zipIdx.map fun p => ((p.2 : Int), p.1)).map (fun q : Int × Ln => (q.2, q.1)) = its L := by
  apply List.ext_getElem?
  intro i
  unfold its
  rw [List.map_map, List.getElem?_map, List.getElem?_map, List.getElem?_zipIdx]
  by_cases h : i < L.length
  · rw [List.getElem?_eq_getElem h, ri_at h]
    simp [List.getD_eq_getElem?_getD, h]
  · rw [List.getElem?_eq_none (by omega), List.getElem?_eq_none (by rw [ri_len]; omega)]; rfl
theorem its_fst : (its L).map Prod.fst = L := by
  apply List.ext_getElem?
  intro i
  unfold its
  rw [List.map_map, List.getElem?_map]
  by_cases h : i < L.length
  · rw [List.getElem?_eq_getElem h, ri_at h]
    simp [List.getD_eq_getElem?_getD, h]
  · rw [List.getElem?_eq_none (l := ri 0 L.length) (by rw [ri_len]; omega), List.getElem?_eq_none (by omega)]; rfl
theorem its_snd : (its L).map Prod.snd = ri 0 L.length := by
  unfold its
  rw [List.map_map]
  exact List.map_id' _
theorem ord_len : (ord L).length = L.length := by
  unfold ord its
  rw [(srt_perm _).length_eq, List.length_map, ri_len]
theorem lso_len : (lso L).length = L.length := by unfold lso; rw [List.length_map, ord_len]
theorem lso_perm : (lso L).Perm L := ((srt_perm (its L)).map Prod.fst).trans (.of_eq (its_fst L))
theorem ord_snd : ((ord L).map Prod.snd).Perm (ri 0 L.length) := ((srt_perm (its L)).map Prod.snd).trans (.of_eq (its_snd L))
theorem ord_mem {x : Ln × Int} (h : x ∈ ord L) : 0 ≤ x.2 ∧ x.2 < L.length ∧ L[x.2.toNat]? = some x.1 := by
  obtain ⟨k, hk, rfl⟩ := List.mem_map.mp ((srt_perm (its L)).mem_iff.mp h)
  have := mem_ri.mp hk
  exact ⟨by simp only []; omega, by simp only []; omega, getD_at (by simp only []; omega)⟩
theorem lso_up : (lso L).Pairwise fun a b => a.1 ≤ b.1 := by
  unfold lso ord
  rw [List.pairwise_map]
  refine (srt_sorted (its L)).imp fun {x y} h => ?_
  apply Classical.byContradiction
  intro hlt
  obtain ⟨⟨a, b⟩, c⟩ := x
  obtain ⟨⟨a', b'⟩, c'⟩ := y
  have hlt : ¬ a ≤ a' := hlt
  rw [show Datum.toD ((a', b'), c') = .tuple [Datum.toD (a', b'), Datum.toD c'] from rfl, show Datum.toD ((a, b), c) = .tuple [Datum.toD (a, b), Datum.toD c] from rfl, dataLt_pair (DatOrd.al _ _) (DatOrd.al _ _), Datum.eqv] at h
  rw [if_neg (by rw [decide_eq_true_eq, Prod.mk.injEq]; rintro ⟨e, _⟩; omega)] at h
  rw [show Datum.toD (a', b') = .tuple [.int a', .int b'] from rfl, show Datum.toD (a, b) = .tuple [.int a, .int b] from rfl, dataLt_ii] at h
  have := of_decide_eq_false h
  omega
theorem out_perm (d : Int) : out (lso L) d = out L d := by
  unfold out
  exact ((lso_perm L).filter _).length_eq
end
/-- the copies by loan -/
structure Cps (L : List Ln) (F : List Int) : Prop where
  len : F.length = L.length
  at' : ∀ s, s < L.length → ∀ x, (ord L)[s]? = some x → F[x.2.toNat]? = (gT (lso L))[s]?.map Prod.snd
theorem Cps.same {L : List Ln} {F G : List Int} (h : Cps L F) (g : Cps L G) : F = G := by
  apply List.ext_getElem?
  intro i
  by_cases hi : i < L.length
  · have : ((i : Nat) : Int) ∈ (ord L).map Prod.snd := (ord_snd L).mem_iff.mpr (mem_ri.mpr (by omega))
    obtain ⟨x, hx, e⟩ := List.mem_map.mp this
    obtain ⟨s, hs⟩ := List.mem_iff_getElem?.mp hx
    have hsl := (List.getElem?_eq_some_iff.mp hs).1
    rw [ord_len] at hsl
    have a := h.at' s hsl x hs
    have b := g.at' s hsl x hs
    rw [e, Int.toNat_natCast] at a b
    rw [a, b]
  · rw [List.getElem?_eq_none (by rw [h.len]; omega), List.getElem?_eq_none (by rw [g.len]; omega)]
theorem Cps.mem {L : List Ln} {F : List Int} (h : Cps L F) (c : Int) : c ∈ F ↔ ∃ t ∈ gT (lso L), t.2 = c := by
  constructor
  · intro hc
    obtain ⟨i, hi⟩ := List.mem_iff_getElem?.mp hc
    have hil := (List.getElem?_eq_some_iff.mp hi).1
    rw [h.len] at hil
    have : ((i : Nat) : Int) ∈ (ord L).map Prod.snd := (ord_snd L).mem_iff.mpr (mem_ri.mpr (by omega))
    obtain ⟨x, hx, e⟩ := List.mem_map.mp this
    obtain ⟨s, hs⟩ := List.mem_iff_getElem?.mp hx
    have hsl := (List.getElem?_eq_some_iff.mp hs).1
    rw [ord_len] at hsl
    have a := h.at' s hsl x hs
    rw [e, Int.toNat_natCast, hi] at a
    obtain ⟨t, ht, rfl⟩ := Option.map_eq_some_iff.mp a.symm
    exact ⟨t, List.mem_of_getElem? ht, rfl⟩
  · rintro ⟨t, ht, rfl⟩
    obtain ⟨s, hs⟩ := List.mem_iff_getElem?.mp ht
    have hsl := (List.getElem?_eq_some_iff.mp hs).1
    rw [gT_len, lso_len] at hsl
    obtain ⟨x, hx⟩ : ∃ x, (ord L)[s]? = some x := ⟨_, List.getElem?_eq_getElem (by rw [ord_len]; exact hsl)⟩
    have a := h.at' s hsl x hx
    rw [hs] at a
    exact List.mem_of_getElem? a
theorem is_out_ok (l : Ln) (d : Int) : d_is_out (Datum.toD l) (.int d) = some (.bool (act l d)) := by
  obtain ⟨a, b⟩ := l
  unfold d_is_out b_is_out
  have h0 : idxD (.tuple [Datum.toD a, Datum.toD b]) (.int 0) = some (.int a) := rfl
  have h1 : idxD (.tuple [Datum.toD a, Datum.toD b]) (.int 1) = some (.int b) := rfl
  simp -implicitDefEqProofs only [b2, ch3, tD_pair, h0, h1, Option.bind_some, leD_int, ltD_int, isB_b]
  unfold act
  by_cases h : a ≤ d
  · rw [if_pos (decide_eq_true h), decide_eq_true h, Bool.true_and]; rfl
  · rw [if_neg (by rw [decide_eq_true_eq]; exact h), decide_eq_false h, Bool.false_and]; rfl
theorem out_on_ok (L : List Ln) (d : Int) : d_out_on (LL L) (.int d) = some (.int (out L d)) := by
  unfold d_out_on b_out_on
  have e : compM (turnC (fun d => some d) (fun loan1 => Option.bind (f2 d_is_out [loan1, .int d]) truth) fun loan1 => some loan1) (LD L) = some (LD ((L.filter fun l => act l d).map fun l => l)) := compM_LDf fun l hl => by
    simp -implicitDefEqProofs only [turnC, Option.bind_some, f2_two, is_out_ok, truth_b, Option.map_some]
    split <;> rfl
  simp -implicitDefEqProofs only [c2, itemsD_L, Option.bind_some, e, Option.map_some, lenL_L, LD_len, List.length_map, outD_rt]
  rfl
theorem lout_on_ok (L : List Ln) (d : Int) : d__law_out_on (LL L) (.int d) = some (.int (out L d)) := by
  unfold d__law_out_on b__law_out_on
  have e : compM (turnC (fun d => some d) (fun loan1 => Option.bind (Option.bind (Option.bind (idxD loan1 (.int 0)) fun x => leD x (.int d)) isB) fun k => if k = true then Option.bind (Option.bind (idxD loan1 (.int 1)) fun y => ltD (.int d) y) isB else some false) fun loan1 => some loan1) (LD L) = some (LD ((L.filter fun l => act l d).map fun l => l)) := compM_LDf fun l hl => by
    obtain ⟨a, b⟩ := l
    have h0 : idxD (.tuple [Datum.toD a, Datum.toD b]) (.int 0) = some (.int a) := rfl
    have h1 : idxD (.tuple [Datum.toD a, Datum.toD b]) (.int 1) = some (.int b) := rfl
    simp -implicitDefEqProofs only [turnC, tD_pair, Option.bind_some, h0, h1, leD_int, ltD_int, isB_b, Option.map_some]
    unfold act
    by_cases h : a ≤ d <;> by_cases h' : d < b <;> simp [h, h']
  simp -implicitDefEqProofs only [b2, c2, andB, itemsD_L, Option.bind_some, e, Option.map_some, lenL_L, LD_len, List.length_map, outD_rt]
  rfl
theorem free_ok (T : List (Ln × Int)) (d : Int) (hT : T.length ≤ 1000) : d_free_copy (.list (LD T)) (.int d) = some (.int (mx (busy T d))) := by
  unfold d_free_copy b_free_copy
  have e : compM (turnC un2 (fun loan2 => Option.bind (f2 d_is_out [loan2.1, .int d]) truth) fun loan2 => some loan2.2) (LD T) = some (LD (busy T d)) := by
    unfold busy
    refine compM_LDf (p := fun t : Ln × Int => act t.1 d) (g := Prod.snd) ?_
    rintro ⟨l, c⟩ hl
    simp -implicitDefEqProofs only [turnC, tD_pair (x := l) (y := c), un2_t, Option.bind_some, f2_two, is_out_ok, truth_b, Option.map_some]
    split <;> rfl
  have hb : (busy T d).length ≤ 1000 := by
    unfold busy
    rw [List.length_map]
    exact Nat.le_trans (List.length_filter_le _ _) hT
  have e1 : (((busy T d).length : Int) + 1) = (((busy T d).length + 1 : Nat) : Int) := by omega
  have e2 : compM (turnC (fun d => some d) (fun copy3 => Option.bind (notInD copy3 (LI (busy T d))) isB) fun copy3 => some copy3) (LD (ri 0 ((busy T d).length + 1))) = some (LD (((ri 0 ((busy T d).length + 1)).filter fun c => decide (c ∉ busy T d)).map fun c => c)) := compM_LDf fun c hc => by
    simp -implicitDefEqProofs only [turnC, Option.bind_some, tD_int, notInD_int, isB_b, Option.map_some]
    split <;> rfl
  have e3 := mx_first (b := busy T d) (b' := busy T d) (N := (busy T d).length + 1) (fun _ => Iff.rfl) (by have := (mx_spec (busy T d)).2.2.1; omega)
  have e4 : idxD (.list (LD (((ri 0 ((busy T d).length + 1)).filter fun c => decide (c ∉ busy T d)).map fun c => c))) (.int 0) = some (.int (mx (busy T d))) := idxD_L (by omega) (by rw [List.map_id']; exact e3)
  simp -implicitDefEqProofs only [b2, c2, nxt, itemsD_L, Option.bind_some, e, Option.map_some, seqF_nx, lenL_L, LD_len, addD_int, e1, rng1D_n _ (show (busy T d).length + 1 ≤ 16777216 by omega), e2, e4, outD_rt]
theorem set_LD {α : Type} [DecidableEq α] [Datum α] (xs : List α) (i : Nat) (x : α) : (LD xs).set i (Datum.toD x) = LD (xs.set i x) := by
  unfold LD; rw [List.map_set]
theorem sort_its (L : List Ln) : sortF [.list (LD (its L))] = some (LD (ord L)) := sortF_LD _ (Sortable.tuples fun b => ⟨_, _, rfl⟩) (by decide)
theorem given_ok (L : List Ln) (hl : L.length ≤ 100) : ∃ F, d_given_copies (LL L) = some (LD F) ∧ Cps L F := by
  unfold d_given_copies b_given_copies
  have e0 : compM (turnC (fun d => some d) (fun x2 => some true) fun x2 => some (PyData.int 0)) (LD L) = some (LD (L.map fun _ => (0 : Int))) := compM_LDt fun _ _ => rfl
  have e1 : enumD [LL L] = some (LD (L.zipIdx.map fun p => ((p.2 : Int), p.1))) := by
    show fit _ (enumL (LD L)) = _
    rw [enumL_LD, fit_ok (by rw [LD_len]; omega)]
  have e2 : compM (turnC un2 (fun k4 => some true) fun k4 => some (PyData.tuple [k4.2, k4.1])) (LD (L.zipIdx.map fun p => ((p.2 : Int), p.1))) = some (LD (its L)) := by
    rw [← its_zip]
    refine compM_LDt (g := fun q : Int × Ln => (q.2, q.1)) ?_
    rintro ⟨i, x⟩ hx
    simp -implicitDefEqProofs only [turnC, tD_pair (x := i) (y := x), tD_pair (x := x) (y := i), un2_t, Option.bind_some, if_true, Option.map_some]
  simp -implicitDefEqProofs only [b2, c2, nxt, itemsD_L, Option.bind_some, e0, Option.map_some, seqF_nx, fit_ok, List.length_cons, List.length_nil, Nat.zero_le, Nat.reduceAdd, Nat.reduceLeDiff, e1, e2, sort_its]
  have key := gv_for (M := Unit) (L := List D × List D) (F := fun d (l5 : List D × List D) => (un2 d).bind fun v6 => (seqF (nxt (setM l5.1 (((c2 (some (.list l5.2)) (c2 (b2 (b2 (some (LL L)) (some v6.2) idxD) (some (.int 0)) idxD) (some []))).bind (f2 d_free_copy)).bind flatD) (some v6.2))) fun found7 => (seqF (nxt (((c2 (b2 (some (LL L)) (some v6.2) idxD) (c2 ((some v6.2).bind fun k => idxD (.list found7) k) (some []))).bind fun xs => fit xs.length (.tuple xs)).bind fun d => fit (l5.2.length + 1) d)) fun a8 => (some (.nx (found7, (l5.2 ++ [a8]))) : Option (Fl (List D × List D) (List D × List D))))))
    (xs := ord L) (l := (LD (L.map fun _ => (0 : Int)), [])) (fun i l => ∃ F : List Int, l = (LD F, LD (gT ((lso L).take i))) ∧ F.length = L.length ∧ ∀ s, s < i → ∀ x, (ord L)[s]? = some x → F[x.2.toNat]? = (gT (lso L))[s]?.map Prod.snd) ⟨_, rfl, by simp, fun s h => by omega⟩ (by
      rintro i ⟨ln, k⟩ l hx ⟨F, rfl, hF, hp⟩
      obtain ⟨k0, k1, k2⟩ := ord_mem L (List.mem_of_getElem? hx)
      have hil := (List.getElem?_eq_some_iff.mp hx).1
      rw [ord_len] at hil
      have hlso : (lso L)[i]? = some ln := by unfold lso; rw [List.getElem?_map, hx]; rfl
      have hT := gT_at i (lso L)
      rw [hlso, Option.map_some] at hT
      have hlk : idxD (LL L) (.int k) = some (Datum.toD ln) := idxD_L k0 k2
      have h0 : idxD (Datum.toD ln) (.int 0) = some (.int ln.1) := rfl
      have hTl : (gT ((lso L).take i)).length = i := by rw [gT_len, List.length_take, lso_len]; omega
      have hfl : flatD (.int (mx (busy (gT ((lso L).take i)) ln.1))) = some (.int (mx (busy (gT ((lso L).take i)) ln.1))) := rfl
      have hset : setM (LD F) (some (.int (mx (busy (gT ((lso L).take i)) ln.1)))) (some (.int k)) = some (LD (F.set k.toNat (mx (busy (gT ((lso L).take i)) ln.1)))) := by
        simp only [setM, Option.bind_some, ixN, LD_len, hF]
        rw [if_pos k0, if_pos k1, Option.map_some]
        exact congrArg some (set_LD F _ _)
      have hget : idxD (.list (LD (F.set k.toNat (mx (busy (gT ((lso L).take i)) ln.1))))) (.int k) = some (.int (mx (busy (gT ((lso L).take i)) ln.1))) := idxD_L k0 (by
        rw [List.getElem?_set_self (by rw [hF]; simp only [] at k1; omega)])
      simp -implicitDefEqProofs only [tD_pair (x := ln) (y := k), un2_t, tD_int, b2, c2, Option.bind_some, hlk, h0, f2_two, free_ok _ ln.1 (show (gT ((lso L).take i)).length ≤ 1000 by omega), hfl, hset]
      refine gv_go rfl ?_
      simp -implicitDefEqProofs only [Option.bind_some, hget, fit_ok, List.length_cons, List.length_nil, Nat.reduceAdd, Nat.reduceLeDiff]
      refine gv_go (fit_ok (by rw [LD_len]; omega)) (gv_nx ⟨F.set k.toNat (mx (busy (gT ((lso L).take i)) ln.1)), ?_, by rw [List.length_set]; exact hF, fun s hs x hxs => ?_⟩)
      · rw [List.take_add_one, hlso]
        show (_, LD (gT ((lso L).take i)) ++ [_]) = (_, LD (gT ((lso L).take i ++ [ln])))
        rw [gT_snoc, ← LD_app]; rfl
      · by_cases e : s = i
        · subst e
          rw [hx] at hxs; cases hxs
          rw [List.getElem?_set_self (by rw [hF]; simp only [] at k1; omega), hT]; rfl
        · have hne : x.2.toNat ≠ k.toNat := by
            intro e2
            obtain ⟨x0, x1, _⟩ := ord_mem L (List.mem_of_getElem? hxs)
            have e3 : x.2 = k := by simp only [] at k0; omega
            have nd : ((ord L).map Prod.snd).Nodup := (ord_snd L).nodup_iff.mpr (ri_nodup _ _)
            have a1 : ((ord L).map Prod.snd)[s]? = some k := by rw [List.getElem?_map, hxs, Option.map_some, e3]
            have a2 : ((ord L).map Prod.snd)[i]? = some k := by rw [List.getElem?_map, hx]; rfl
            have := (List.getElem?_inj (by have := (List.getElem?_eq_some_iff.mp a1).1; exact this) nd).mp (a1.trans a2.symm)
            exact e this
          rw [List.getElem?_set_ne (fun h => hne h.symm)]
          exact hp s (by omega) x hxs)
  obtain ⟨l, e, F, rfl, h1, h2⟩ := key
  simp -implicitDefEqProofs only [b2, c2, nxt, Option.bind_some] at e
  refine ⟨F, ?_, h1, fun s hs x hx => h2 s (by rw [ord_len]; exact hs) x hx⟩
  rw [seqF_do e rfl]; rfl
end Wk0

namespace Wk0
open PySem L2 PySem.Spec PyProof.Rows PySem.W PySem.SeqAt Dl
abbrev oC : Option Int → D
  | none => .none
  | some c => .int c
theorem lgiven_ok (L : List Ln) (hl : L.length ≤ 100) : ∃ F, d__law_given (LL L) = some (LD F) ∧ Cps L F := by
  unfold d__law_given b__law_given
  have e0 : compM (turnC (fun d => some d) (fun loan2 => some true) fun loan2 => some PyData.none) (LD L) = some ((L.map fun _ => (none : Option Int)).map oC) := by
    rw [compM_LD (g := fun _ => PyData.none) (fun _ _ => rfl), List.map_map]; rfl
  have hrn : rng1D [.int (L.length : Int)] = some (LD (ri 0 L.length)) := rng1D_n _ (by omega)
  have e2 : compM (turnC (fun d => some d) (fun k3 => some true) fun k3 => (Option.bind (Option.bind (idxD (LL L) k3) fun x => some [x, k3]) fun xs => fit xs.length (.tuple xs))) (LD (ri 0 L.length)) = some (LD (its L)) := by
    unfold its
    refine compM_LDt (g := fun k : Int => (L.getD k.toNat (0, 0), k)) fun k hk => ?_
    have := mem_ri.mp hk
    have hlk : idxD (LL L) (.int k) = some (Datum.toD (L.getD k.toNat (0, 0))) := idxD_L (by omega) (getD_at (by omega))
    simp -implicitDefEqProofs only [turnC, Option.bind_some, if_true, tD_int, hlk, fit_ok, List.length_cons, List.length_nil, Nat.reduceAdd, Nat.reduceLeDiff, Option.map_some]
    rfl
  simp -implicitDefEqProofs only [b2, c2, nxt, itemsD_L, Option.bind_some, e0, Option.map_some, seqF_nx, lenL_L, LD_len, hrn, e2, sort_its]
  have nd : ((ord L).map Prod.snd).Nodup := (ord_snd L).nodup_iff.mpr (ri_nodup _ _)
  have inj : ∀ {s t : Nat} {x y : Ln × Int}, (ord L)[s]? = some x → (ord L)[t]? = some y → x.2.toNat = y.2.toNat → s = t := fun {s t x y} hx hy e => by
    obtain ⟨x0, _, _⟩ := ord_mem L (List.mem_of_getElem? hx)
    obtain ⟨y0, _, _⟩ := ord_mem L (List.mem_of_getElem? hy)
    have e3 : x.2 = y.2 := by omega
    have a1 : ((ord L).map Prod.snd)[s]? = some y.2 := by rw [List.getElem?_map, hx, Option.map_some, e3]
    have a2 : ((ord L).map Prod.snd)[t]? = some y.2 := by rw [List.getElem?_map, hy]; rfl
    exact (List.getElem?_inj (List.getElem?_eq_some_iff.mp a1).1 nd).mp (a1.trans a2.symm)
  have cov : ∀ j : Nat, j < L.length → ∃ s x, s < L.length ∧ (ord L)[s]? = some x ∧ x.2 = (j : Int) := fun j hj => by
    have : ((j : Nat) : Int) ∈ (ord L).map Prod.snd := (ord_snd L).mem_iff.mpr (mem_ri.mpr (by omega))
    obtain ⟨x, hx, e⟩ := List.mem_map.mp this
    obtain ⟨s, hs⟩ := List.mem_iff_getElem?.mp hx
    have hsl := (List.getElem?_eq_some_iff.mp hs).1
    rw [ord_len] at hsl
    exact ⟨s, x, hsl, hs, e⟩
  obtain ⟨F, _, hF⟩ := given_ok L hl
  refine ⟨F, (congrArg outF (a₂ := some (.rt (.list (LD F)))) ?_).trans rfl, hF⟩
  · refine seqF_gv (gv_for (fun i l => ∃ E : List (Option Int), l = E.map oC ∧ E.length = L.length ∧ (∀ s, s < i → ∀ x, (ord L)[s]? = some x → E[x.2.toNat]? = some ((gT (lso L))[s]?.map Prod.snd)) ∧ ∀ s, i ≤ s → ∀ x, (ord L)[s]? = some x → E[x.2.toNat]? = some none) ⟨_, rfl, by simp, fun s h => by omega, fun s _ x hx => ?_⟩ ?_) ?_
    · obtain ⟨x0, x1, _⟩ := ord_mem L (List.mem_of_getElem? hx)
      rw [List.getElem?_map, List.getElem?_eq_getElem (by omega)]; rfl
    · rintro i ⟨ln, k⟩ l hx ⟨E, rfl, hE, hp, hq⟩
      obtain ⟨k0, k1, k2⟩ := ord_mem L (List.mem_of_getElem? hx)
      have hil := (List.getElem?_eq_some_iff.mp hx).1
      rw [ord_len] at hil
      have hlso : (lso L)[i]? = some ln := by unfold lso; rw [List.getElem?_map, hx]; rfl
      have hT := gT_at i (lso L)
      rw [hlso, Option.map_some] at hT
      have hgetE : ∀ j : Int, 0 ≤ j → j < L.length → idxD (.list (E.map oC)) (.int j) = some (oC (E.getD j.toNat none)) := fun j h h' => by
        have h1 : E[j.toNat]? = some (E.getD j.toNat none) := getD_at (by omega)
        show atI (E.map oC) j = _
        rw [atI_nat' h (by rw [List.length_map]; omega), List.getElem?_map, h1]; rfl
      have hgetL : ∀ j : Int, 0 ≤ j → j < L.length → idxD (LL L) (.int j) = some (Datum.toD (L.getD j.toNat (0, 0))) := fun j h h' => idxD_L h (getD_at (by omega))
      have h0 : ∀ l : Ln, idxD (Datum.toD l) (.int 0) = some (.int l.1) := fun _ => rfl
      have h1 : ∀ l : Ln, idxD (Datum.toD l) (.int 1) = some (.int l.2) := fun _ => rfl
      have hbz : ∀ c, c ∈ busy (gT ((lso L).take i)) ln.1 ↔ c ∈ ((ri 0 L.length).filter fun j => (E.getD j.toNat none).isSome && act (L.getD j.toNat (0, 0)) ln.1).map fun j => (E.getD j.toNat none).getD 0 := by
        intro c
        unfold busy
        rw [List.mem_map, List.mem_map]
        constructor
        · rintro ⟨t, ht, rfl⟩
          obtain ⟨ht1, ht2⟩ := List.mem_filter.mp ht
          rw [← gT_take] at ht1
          obtain ⟨s, hs⟩ := List.mem_iff_getElem?.mp ht1
          have hsi := (List.getElem?_eq_some_iff.mp hs).1
          rw [List.length_take] at hsi
          rw [List.getElem?_take, if_pos (by omega)] at hs
          obtain ⟨x, hxs⟩ : ∃ x, (ord L)[s]? = some x := ⟨_, List.getElem?_eq_getElem (by rw [ord_len]; omega)⟩
          obtain ⟨x0, x1, x2⟩ := ord_mem L (List.mem_of_getElem? hxs)
          have hEx := hp s (by omega) x hxs
          rw [hs] at hEx
          have eE : E.getD x.2.toNat none = some t.2 := by rw [List.getD_eq_getElem?_getD, hEx]; rfl
          have eL : L.getD x.2.toNat (0, 0) = t.1 := by
            rw [List.getD_eq_getElem?_getD, x2]
            have : (lso L)[s]? = some x.1 := by unfold lso; rw [List.getElem?_map, hxs]; rfl
            have a := gT_at s (lso L)
            rw [hs, this] at a
            cases a; rfl
          exact ⟨x.2, List.mem_filter.mpr ⟨mem_ri.mpr (by omega), by rw [eE, eL, ht2]; rfl⟩, by rw [eE]; rfl⟩
        · rintro ⟨j, hj, rfl⟩
          obtain ⟨j1, j2⟩ := List.mem_filter.mp hj
          have j3 := mem_ri.mp j1
          rw [Bool.and_eq_true] at j2
          obtain ⟨s, x, hsl, hxs, hxj⟩ := cov j.toNat (by omega)
          have exj : x.2.toNat = j.toNat := by omega
          obtain ⟨x0, x1, x2⟩ := ord_mem L (List.mem_of_getElem? hxs)
          by_cases hsi : s < i
          · have hEx := hp s hsi x hxs
            have hTs := gT_at s (lso L)
            have hls : (lso L)[s]? = some x.1 := by unfold lso; rw [List.getElem?_map, hxs]; rfl
            rw [hls, Option.map_some] at hTs
            rw [hTs, exj] at hEx
            have eE : E.getD j.toNat none = some (mx (busy (gT ((lso L).take s)) x.1.1)) := by rw [List.getD_eq_getElem?_getD, hEx]; rfl
            have eL : L.getD j.toNat (0, 0) = x.1 := by rw [List.getD_eq_getElem?_getD, ← exj, x2]; rfl
            rw [eL] at j2
            refine ⟨(x.1, mx (busy (gT ((lso L).take s)) x.1.1)), List.mem_filter.mpr ⟨?_, ?_⟩, by rw [eE]; rfl⟩
            · rw [← gT_take]
              refine List.mem_iff_getElem?.mpr ⟨s, ?_⟩
              rw [List.getElem?_take, if_pos hsi]; exact hTs
            · exact j2.2
          · have hEx := hq s (by omega) x hxs
            rw [exj] at hEx
            rw [List.getD_eq_getElem?_getD, hEx] at j2
            simp at j2
      have hbl : mx (busy (gT ((lso L).take i)) ln.1) < L.length := by
        have a := (mx_spec (busy (gT ((lso L).take i)) ln.1)).2.2.1
        have b : (busy (gT ((lso L).take i)) ln.1).length ≤ i := by
          unfold busy
          rw [List.length_map]
          refine Nat.le_trans (List.length_filter_le _ _) ?_
          rw [gT_len, List.length_take]; omega
        omega
      have hmx := mx_first hbz hbl
      simp -implicitDefEqProofs only [tD_pair (x := ln) (y := k), un2_t, tD_int, b2, c2, andB, Option.bind_some, h0]
      rw [compM_LDf (p := fun j : Int => (E.getD j.toNat none).isSome && act (L.getD j.toNat (0, 0)) ln.1) (g := fun j : Int => (E.getD j.toNat none).getD 0)]
      · refine gv_go rfl ?_
        have e3 : compM (turnC (fun d => some d) (fun copy8 => Option.bind (notInD copy8 (LI (((ri 0 L.length).filter fun j => (E.getD j.toNat none).isSome && act (L.getD j.toNat (0, 0)) ln.1).map fun j => (E.getD j.toNat none).getD 0))) isB) fun copy8 => some copy8) (LD (ri 0 L.length)) = some (LD (((ri 0 L.length).filter fun c => decide (c ∉ ((ri 0 L.length).filter fun j => (E.getD j.toNat none).isSome && act (L.getD j.toNat (0, 0)) ln.1).map fun j => (E.getD j.toNat none).getD 0)).map fun c => c)) := compM_LDf fun c hc => by
          simp -implicitDefEqProofs only [turnC, Option.bind_some, tD_int, notInD_int, isB_b, Option.map_some]
          split <;> rfl
        have e4 : idxD (.list (LD (((ri 0 L.length).filter fun c => decide (c ∉ ((ri 0 L.length).filter fun j => (E.getD j.toNat none).isSome && act (L.getD j.toNat (0, 0)) ln.1).map fun j => (E.getD j.toNat none).getD 0)).map fun c => c))) (.int 0) = some (.int (mx (busy (gT ((lso L).take i)) ln.1))) := idxD_L (by omega) (by rw [List.map_id']; exact hmx)
        have hset : setM (E.map oC) (some (.int (mx (busy (gT ((lso L).take i)) ln.1)))) (some (.int k)) = some ((E.set k.toNat (some (mx (busy (gT ((lso L).take i)) ln.1)))).map oC) := by
          simp only [setM, Option.bind_some, ixN, List.length_map, hE]
          rw [if_pos k0, if_pos k1, Option.map_some, List.map_set]
        simp -implicitDefEqProofs only [e3, Option.map_some, Option.bind_some, e4, hset]
        refine gv_go rfl (gv_nx ⟨E.set k.toNat (some (mx (busy (gT ((lso L).take i)) ln.1))), rfl, by rw [List.length_set]; exact hE, fun s hs x hxs => ?_, fun s hs x hxs => ?_⟩)
        · by_cases e : s = i
          · subst e
            rw [hx] at hxs; cases hxs
            rw [List.getElem?_set_self (by rw [hE]; simp only [] at k1; omega), hT]; rfl
          · rw [List.getElem?_set_ne (fun h => e (inj hxs hx h.symm))]
            exact hp s (by omega) x hxs
        · have e : s ≠ i := by omega
          rw [List.getElem?_set_ne (fun h => e (inj hxs hx h.symm))]
          exact hq s (by omega) x hxs
      · intro j hj
        have hj := mem_ri.mp hj
        simp -implicitDefEqProofs only [turnC, tD_int, Option.bind_some, hgetE j (by omega) (by omega), hgetL j (by omega) (by omega), h0, h1]
        cases hEj : E.getD j.toNat none with
        | none => simp [isNotD, isNoneB]
        | some c =>
          simp -implicitDefEqProofs only [isNotD, isNoneB, Option.bind_some, isB_b, Bool.not_false, if_true, leD_int, ltD_int, Option.isSome_some, Bool.true_and, Option.getD_some]
          generalize L.getD j.toNat (0, 0) = lj
          unfold act
          by_cases h : lj.1 ≤ ln.1 <;> by_cases h' : ln.1 < lj.2 <;> simp [h, h', tD_int]
    · rintro l ⟨E, rfl, hE, hp, _⟩
      rw [ord_len] at hp
      have : E.map oC = LD F := by
        apply List.ext_getElem?
        intro j
        rw [List.getElem?_map, LD_at]
        by_cases hj : j < L.length
        · obtain ⟨s, x, hsl, hxs, hxj⟩ := cov j hj
          have a := hp s hsl x hxs
          have b := hF.at' s hsl x hxs
          have ej : x.2.toNat = j := by omega
          rw [ej] at a b
          rw [a, b]
          obtain ⟨t, ht⟩ : ∃ t, (gT (lso L))[s]? = some t := ⟨_, List.getElem?_eq_getElem (by rw [gT_len, lso_len]; exact hsl)⟩
          rw [ht]; rfl
        · rw [List.getElem?_eq_none (by omega), List.getElem?_eq_none (by rw [hF.len]; omega)]; rfl
      rw [this]
end Wk0

namespace Wk0
open PySem L2 PySem.Spec PyProof.Rows PySem.W PySem.SeqAt Dl
structure Res (L : List Ln) (K : Int) (F : List Int) (dy : Option Int) : Prop where
  find : d_find_copies (LL L) = some (.tuple [.int K, LI F, oC dy])
  due : d__law_copies_due (LL L) = some (.tuple [.int K, LI F, oC dy])
  len : F.length = L.length
  fK : ∀ c ∈ F, 0 ≤ c ∧ c < K
  ub : ∀ d, (out L d : Int) ≤ K
  k0 : 0 ≤ K
  hit : L ≠ [] → ∃ d, (out L d : Int) = K
  nil : L = [] → K = 0
theorem res_ex (L : List Ln) (hl : L.length ≤ 100) (hp : ∀ l ∈ L, l.1 < l.2) : ∃ K F dy, Res L K F dy := by
  by_cases hL : L = []
  · subst hL
    refine ⟨0, [], none, ?_, ?_, rfl, by simp, fun d => by simp [out], by omega, fun h => absurd rfl h, fun _ => rfl⟩
    · unfold d_find_copies b_find_copies
      simp -implicitDefEqProofs only [c2, iteM, Option.bind_some, truth, LD_nil, List.isEmpty_nil, Bool.not_true, Bool.not_false, Option.map_some, if_true, fit_ok, List.length_cons, List.length_nil, Nat.zero_le, Nat.reduceAdd, Nat.reduceLeDiff, seqF_rt]
      rfl
    · unfold d__law_copies_due b__law_copies_due
      simp -implicitDefEqProofs only [b2, c2, iteM, Option.bind_some, lenL_L, LD_nil, List.length_nil, eqD_int, isB_b, Option.map_some, if_true, fit_ok, List.length_cons, Nat.zero_le, Nat.reduceAdd, Nat.reduceLeDiff, show decide (((0 : Nat) : Int) = 0) = true from rfl, seqF_rt]
      rfl
  · obtain ⟨F, hg, hF⟩ := given_ok L hl
    obtain ⟨F', hg', hF'⟩ := lgiven_ok L hl
    have := hF'.same hF
    subst this
    have hln : 1 ≤ L.length := List.length_pos_iff.mpr hL
    obtain ⟨M, hM⟩ : ∃ M, F'.max? = some M := by
      cases h : F'.max? with
      | none => rw [List.max?_eq_none_iff] at h; have := hF.len; rw [h] at this; simp at this; omega
      | some M => exact ⟨M, rfl⟩
    have aM := List.max?_eq_some_iff.mp hM
    obtain ⟨t, ht, htM⟩ := (hF.mem M).mp aM.1
    have up := lso_up L
    have pos : ∀ l ∈ lso L, l.1 < l.2 := fun l h => hp l ((lso_perm L).mem_iff.mp h)
    have hM0 : 0 ≤ M := by have := cp_ge ht; omega
    have hall : ∀ t ∈ gT (lso L), 0 ≤ t.2 ∧ t.2 ≤ M := fun t h => ⟨cp_ge h, aM.2 _ ((hF.mem _).mpr ⟨t, h, rfl⟩)⟩
    have ub : ∀ d, (out L d : Int) ≤ M + 1 := fun d => by
      have := out_le up hall hM0 d
      rwa [out_perm] at this
    have hd0 : (out L t.1.1 : Int) = M + 1 := by
      have a := cp_out up pos ht
      rw [out_perm, htM] at a
      have := ub t.1.1
      omega
    have ht1 : t.1 ∈ L := by
      refine (lso_perm L).mem_iff.mp ?_
      have : t.1 ∈ (gT (lso L)).map Prod.fst := List.mem_map_of_mem (f := Prod.fst) ht
      rwa [gT_fst] at this
    have hdays : t.1.1 ∈ srt (L.map Prod.fst) := (srt_perm _).mem_iff.mpr (List.mem_map_of_mem (f := Prod.fst) ht1)
    obtain ⟨dy, hdy⟩ : ∃ dy, ((srt (L.map Prod.fst)).filter fun d => decide ((out L d : Int) = M + 1))[0]? = some dy := by
      have : t.1.1 ∈ (srt (L.map Prod.fst)).filter fun d => decide ((out L d : Int) = M + 1) := List.mem_filter.mpr ⟨hdays, decide_eq_true hd0⟩
      cases h : (srt (L.map Prod.fst)).filter fun d => decide ((out L d : Int) = M + 1) with
      | nil => rw [h] at this; cases this
      | cons a r => exact ⟨a, rfl⟩
    have hne : (LD L).isEmpty = false := by
      cases L with
      | nil => exact absurd rfl hL
      | cons a r => rfl
    have ed : idxD (.list (LD (((srt (L.map Prod.fst)).filter fun d => decide ((out L d : Int) = M + 1)).map fun d => d))) (.int 0) = some (.int dy) := idxD_L (by omega) (by rw [List.map_id']; exact hdy)
    refine ⟨M + 1, F', some dy, ?_, ?_, hF.len, fun c hc => ?_, ub, by omega, fun _ => ⟨_, hd0⟩, fun h => absurd h hL⟩
    · unfold d_find_copies b_find_copies
      have ef : compM (turnC un2 (fun first4 => some true) fun first4 => some first4.1) (LD L) = some (LD (L.map Prod.fst)) := by
        refine compM_LDt (g := Prod.fst) ?_
        rintro ⟨a, b⟩ _
        simp -implicitDefEqProofs only [turnC, tD_pair, un2_t, Option.bind_some, if_true, Option.map_some]
      have eq : compM (turnC (fun d => some d) (fun day5 => Option.bind (Option.bind (f2 d_out_on [LL L, day5]) fun x => eqD x (.int (M + 1))) isB) fun day5 => some day5) (LD (srt (L.map Prod.fst))) = some (LD (((srt (L.map Prod.fst)).filter fun d => decide ((out L d : Int) = M + 1)).map fun d => d)) := compM_LDf fun d hd => by
        simp -implicitDefEqProofs only [turnC, Option.bind_some, tD_int, f2_two, out_on_ok, eqD_int, isB_b, Option.map_some]
        split <;> rfl
      have hfl : flatD (.int M) = some (.int M) := rfl
      simp -implicitDefEqProofs only [b2, c2, iteM, nxt, Option.bind_some, truth, hne, Bool.not_false, Bool.not_true, Option.map_some, Bool.false_eq_true, if_false, seqF_nx, f1_one, hg, maxL_LD, hM, hfl, addD_int, itemsD_L, ef, sortF_int, eq, ed, fit_ok, List.length_cons, List.length_nil, Nat.reduceAdd, Nat.reduceLeDiff]
      rfl
    · unfold d__law_copies_due b__law_copies_due
      have ef : compM (turnC (fun d => some d) (fun loan2 => some true) fun loan2 => idxD loan2 (.int 0)) (LD L) = some (LD (L.map Prod.fst)) := by
        refine compM_LDt (g := Prod.fst) ?_
        rintro ⟨a, b⟩ _
        rfl
      have eo : compM (turnC (fun d => some d) (fun day4 => some true) fun day4 => f2 d__law_out_on [LL L, day4]) (LD (srt (L.map Prod.fst))) = some (LD ((srt (L.map Prod.fst)).map fun d => (out L d : Int))) := compM_LDt fun d hd => by
        simp -implicitDefEqProofs only [turnC, Option.bind_some, if_true, tD_int, f2_two, lout_on_ok, Option.map_some]
      have em : ((srt (L.map Prod.fst)).map fun d => (out L d : Int)).max? = some (M + 1) := by
        rw [List.max?_eq_some_iff]
        refine ⟨List.mem_map.mpr ⟨_, hdays, hd0⟩, fun b hb => ?_⟩
        obtain ⟨d, _, rfl⟩ := List.mem_map.mp hb
        exact ub d
      have eq : compM (turnC (fun d => some d) (fun day5 => Option.bind (Option.bind (f2 d__law_out_on [LL L, day5]) fun x => eqD x (.int (M + 1))) isB) fun day5 => some day5) (LD (srt (L.map Prod.fst))) = some (LD (((srt (L.map Prod.fst)).filter fun d => decide ((out L d : Int) = M + 1)).map fun d => d)) := compM_LDf fun d hd => by
        simp -implicitDefEqProofs only [turnC, Option.bind_some, tD_int, f2_two, lout_on_ok, eqD_int, isB_b, Option.map_some]
        split <;> rfl
      have hn0 : ¬ ((L.length : Int) = 0) := by omega
      simp -implicitDefEqProofs only [b2, c2, iteM, nxt, Option.bind_some, lenL_L, LD_len, eqD_int, decide_eq_false hn0, isB_b, Option.map_some, Bool.false_eq_true, if_false, seqF_nx, f1_one, hg', itemsD_L, ef, sortF_int, eo, maxL_LD, em, eq, ed, fit_ok, List.length_cons, List.length_nil, Nat.reduceAdd, Nat.reduceLeDiff]
      rfl
    · obtain ⟨t', ht', e⟩ := (hF.mem c).mp hc
      have := hall t' ht'
      omega
theorem forF_any {α M : Type} [DecidableEq α] [Datum α] {F : D → Unit → Option (Fl Unit Unit)} {bad : α → Bool} {r : D} : ∀ {xs : List α}, (∀ x ∈ xs, F (Datum.toD x) () = some (if bad x then .rt r else .nx ())) → (forF F (LD xs) () : Option (Fl Unit M)) = some (if xs.any bad then .rt r else .nx ())
  | [], _ => rfl
  | x :: t, h => by
    show ((F (Datum.toD x) ()).bind _) = _
    rw [h x (.head _)]
    cases hb : bad x with
    | true => simp [hb]
    | false =>
      have := forF_any (M := M) (F := F) (xs := t) (bad := bad) (r := r) fun y hy => h y (.tail _ hy)
      simp only [Bool.false_eq_true, if_false, Option.bind_some, List.any_cons, hb, Bool.false_or]
      exact this
def lap (a b : Ln) : Bool := decide (a.1 < b.2) && decide (b.1 < a.2)
def clash (L : List Ln) (c : List Int) (k j : Int) : Bool := decide (c.getD j.toNat 0 = c.getD k.toNat 0) && lap (L.getD j.toNat (0, 0)) (L.getD k.toNat (0, 0))
def anyC (L : List Ln) (c : List Int) : Bool := (ri 0 L.length).any fun k => (ri 0 k.toNat).any fun j => clash L c k j
def apart (L : List Ln) (K : Int) (c : List Int) : Bool := decide (c.length = L.length) && (c.all (fun x => decide (0 ≤ x) && decide (x < K)) && !anyC L c)
def jF (L : List Ln) (K : Int) (c : List Int) (dy : Option Int) : Bool := apart L K c && (match dy with
  | none => decide (K = 0)
  | some d => decide (K ≠ 0) && decide ((out L d : Int) = K))
theorem isNone_c (o : Option Int) : isNoneB (oC o) = o.isNone := by cases o <;> rfl
theorem ends_ok (l : Ln) : idxD (Datum.toD l) (.int 0) = some (.int l.1) ∧ idxD (Datum.toD l) (.int 1) = some (.int l.2) := ⟨rfl, rfl⟩
section
variable (L : List Ln) (hl : L.length ≤ 100)
include hl
theorem apart_ok (K : Int) (c : List Int) : d_are_apart (LL L) (.int K) (LI c) = some (.bool (apart L K c)) := by
  unfold d_are_apart b_are_apart
  have ea : compM (turnC (fun d => some d) (fun copy1 => some true) fun copy1 => Option.bind (leD (.int 0) copy1) fun r => Option.bind (isB r) fun k => if k = true then ltD copy1 (.int K) else some (.bool false)) (LD c) = some (LD (c.map fun x => decide (0 ≤ x) && decide (x < K))) := compM_LDt fun x hx => by
    simp -implicitDefEqProofs only [turnC, Option.bind_some, if_true, tD_int, leD_int, isB_b]
    by_cases h : 0 ≤ x
    · rw [if_pos (decide_eq_true h), decide_eq_true h, Bool.true_and, ltD_int]; rfl
    · rw [if_neg (by rw [decide_eq_true_eq]; exact h), decide_eq_false h, Bool.false_and]; rfl
  simp -implicitDefEqProofs only [b2, c2, iteM, orB, Option.bind_some, lenL_L, LD_len, neD_int, isB_b, itemsD_L, ea, Option.map_some, allL_LD, truth_b, List.all_map, Function.id_comp]
  unfold apart
  by_cases hn : c.length = L.length
  · have hn' : ¬ ((c.length : Int) ≠ L.length) := by omega
    rw [decide_eq_false hn', decide_eq_true hn, Bool.true_and]
    simp -implicitDefEqProofs only [Bool.false_eq_true, if_false, Option.bind_some]
    cases c.all (fun x => decide (0 ≤ x) && decide (x < K)) with
    | false => simp
    | true =>
      simp -implicitDefEqProofs only [Bool.not_true, Bool.false_eq_true, if_false, seqF_nx, rng1D_n L.length (show L.length ≤ 16777216 by omega), Option.bind_some, Bool.true_and]
      rw [forF_any (α := Int) (bad := fun k => (ri 0 k.toNat).any fun j => clash L c k j) (r := .bool false)]
      · unfold anyC
        cases (ri 0 L.length).any fun k => (ri 0 k.toNat).any fun j => clash L c k j <;> simp
      · intro k hk
        have hk := mem_ri.mp hk
        have ek : rng1D [PyData.int k] = some (LD (ri 0 k.toNat)) := rng1D_i k (by omega) (by omega)
        simp -implicitDefEqProofs only [tD_int, Option.bind_some, ek]
        rw [forF_any (α := Int) (bad := fun j => clash L c k j) (r := .bool false)]
        · cases (ri 0 k.toNat).any fun j => clash L c k j <;> simp
        · intro j hj
          have hj := mem_ri.mp hj
          have cj : idxD (LI c) (.int j) = some (.int (c.getD j.toNat 0)) := idxD_L (by omega) (getD_at (by omega))
          have ck : idxD (LI c) (.int k) = some (.int (c.getD k.toNat 0)) := idxD_L (by omega) (getD_at (by omega))
          have lj : idxD (LL L) (.int j) = some (Datum.toD (L.getD j.toNat (0, 0))) := idxD_L (by omega) (getD_at (by omega))
          have lk : idxD (LL L) (.int k) = some (Datum.toD (L.getD k.toNat (0, 0))) := idxD_L (by omega) (getD_at (by omega))
          unfold clash
          generalize L.getD j.toNat (0, 0) = a at *
          generalize L.getD k.toNat (0, 0) = b at *
          have eb : d_both_out (Datum.toD a) (Datum.toD b) = some (.bool (lap a b)) := by
            unfold d_both_out b_both_out
            simp -implicitDefEqProofs only [b2, andV, Option.bind_some, (ends_ok a).1, (ends_ok a).2, (ends_ok b).1, (ends_ok b).2, ltD_int, truth_b]
            unfold lap
            by_cases h : a.1 < b.2
            · rw [if_pos (decide_eq_true h), decide_eq_true h, Bool.true_and]; rfl
            · rw [if_neg (by rw [decide_eq_true_eq]; exact h), decide_eq_false h, Bool.false_and]; rfl
          simp -implicitDefEqProofs only [tD_int, andB, Option.bind_some, cj, ck, eqD_int, isB_b, lj, lk, f2_two, eb, truth_b]
          by_cases h : c.getD j.toNat 0 = c.getD k.toNat 0
          · rw [if_pos (decide_eq_true h), decide_eq_true h, Bool.true_and]; cases lap a b <;> simp
          · rw [if_neg (by rw [decide_eq_true_eq]; exact h), decide_eq_false h, Bool.false_and]; simp
  · have hn' : ((c.length : Int) ≠ L.length) := by omega
    rw [decide_eq_true hn', decide_eq_false hn]
    simp
theorem judge_ok (K : Int) (c : List Int) (dy : Option Int) : d_judge_copies (LL L) (.tuple [.int K, LI c, oC dy]) = some (.bool (jF L K c dy)) := by
  unfold d_judge_copies b_judge_copies
  simp -implicitDefEqProofs only [b2, c2, iteM, orB, andV, nxt, Option.bind_some, lenL_T, List.length_cons, List.length_nil, neD_int, isB_b, show ¬ ((0 + 1 + 1 + 1 : Nat) : Int) ≠ 3 from by omega, decide_false, Bool.false_eq_true, if_false, seqF_nx, un3_t, Option.map_some, f3_three, apart_ok L hl K c, truth_b, eqD_int, isD_none, isNone_c]
  unfold jF
  cases apart L K c with
  | false => simp
  | true =>
    cases dy with
    | none => by_cases h : K = 0 <;> simp [h]
    | some d =>
      by_cases h : K = 0
      · simp [h]
      · simp -implicitDefEqProofs only [Bool.not_true, Bool.false_eq_true, if_false, seqF_nx, decide_eq_false h, Option.isNone_some, Option.bind_some, oC, f2_two, out_on_ok, eqD_int, Option.map_some, outD_rt, Bool.true_and, decide_eq_true (show K ≠ 0 from h)]
end
end Wk0

namespace Wk0
open PySem L2 PySem.Spec PyProof.Rows PySem.W PySem.SeqAt Dl
section
variable (L : List Ln) (hl : L.length ≤ 100) (hp : ∀ l ∈ L, l.1 < l.2)
include hl hp
theorem fit_law (K : Int) (c : List Int) (dy : Option Int) : d__law_copies_fit (LL L) (.tuple [.int K, LI c, oC dy]) = some (.bool (jF L K c dy)) := by
  unfold d__law_copies_fit b__law_copies_fit
  have eb : compM (turnC (fun d => some d) (fun copy2 => Option.bind (Option.bind (ltD copy2 (.int 0)) isB) fun k => if k = true then some true else Option.bind (geD copy2 (.int K)) isB) fun copy2 => some copy2) (LD c) = some (LD ((c.filter fun x => !(decide (0 ≤ x) && decide (x < K))).map fun x => x)) := compM_LDf fun x hx => by
    simp -implicitDefEqProofs only [turnC, Option.bind_some, tD_int, ltD_int, geD_int, isB_b, Option.map_some]
    by_cases h : 0 ≤ x
    · have h' : ¬ x < 0 := by omega
      by_cases h2 : x < K
      · have h2' : ¬ K ≤ x := by omega
        simp [h, h', h2, h2']
      · have h2' : K ≤ x := by omega
        simp [h, h', h2, h2']
    · have h' : x < 0 := by omega
      simp [h, h']
  simp -implicitDefEqProofs only [b2, c2, iteM, orB, andV, nxt, Option.bind_some, lenL_T, List.length_cons, List.length_nil, neD_int, isB_b, show ¬ ((0 + 1 + 1 + 1 : Nat) : Int) ≠ 3 from by omega, decide_false, Bool.false_eq_true, if_false, seqF_nx, un3_t, Option.map_some, lenL_L, LD_len, itemsD_L, eb, gtD_int]
  unfold jF apart
  by_cases hn : c.length = L.length
  · have hn' : ¬ ((c.length : Int) ≠ L.length) := by omega
    rw [decide_eq_false hn', decide_eq_true hn, Bool.true_and]
    simp -implicitDefEqProofs only [Bool.false_eq_true, if_false, Option.bind_some]
    cases ha : c.all (fun x => decide (0 ≤ x) && decide (x < K)) with
    | false =>
      have : (0 : Int) < (((c.filter fun x => !(decide (0 ≤ x) && decide (x < K))).map fun x => x).length : Int) := by
        rw [List.length_map]
        have : (c.filter fun x => !(decide (0 ≤ x) && decide (x < K))) ≠ [] := fun h => by
          have h2 := List.filter_eq_nil_iff.mp h
          have : c.all (fun x => decide (0 ≤ x) && decide (x < K)) = true := List.all_eq_true.mpr fun x hx => by
            have := h2 x hx
            simpa using this
          rw [ha] at this; cases this
        have := List.length_pos_iff.mpr this
        omega
      rw [decide_eq_true this]
      simp
    | true =>
      have : ¬ ((0 : Int) < (((c.filter fun x => !(decide (0 ≤ x) && decide (x < K))).map fun x => x).length : Int)) := by
        have : (c.filter fun x => !(decide (0 ≤ x) && decide (x < K))) = [] := List.filter_eq_nil_iff.mpr fun x hx => by
          have := List.all_eq_true.mp ha x hx
          simpa using this
        rw [this]; simp
      rw [decide_eq_false this]
      simp -implicitDefEqProofs only [Bool.false_eq_true, if_false, seqF_nx, rng1D_n L.length (show L.length ≤ 16777216 by omega), Option.bind_some, Bool.true_and]
      rw [forF_any (α := Int) (bad := fun k => (ri 0 k.toNat).any fun j => clash L c k j) (r := .bool false)]
      · unfold anyC
        cases (ri 0 L.length).any fun k => (ri 0 k.toNat).any fun j => clash L c k j with
        | true => simp
        | false =>
          simp -implicitDefEqProofs only [Bool.false_eq_true, if_false, seqF_nx, eqD_int, isB_b, Option.bind_some, isD_none, isNone_c, Bool.not_false, Bool.true_and]
          cases dy with
          | none => by_cases h : K = 0 <;> simp [h]
          | some d =>
            by_cases h : K = 0
            · simp [h]
            · simp -implicitDefEqProofs only [Bool.false_eq_true, if_false, seqF_nx, decide_eq_false h, Option.isNone_some, Option.bind_some, oC, f2_two, lout_on_ok, eqD_int, Option.map_some, outD_rt, Bool.true_and, decide_eq_true (show K ≠ 0 from h)]
      · intro k hk
        have hk := mem_ri.mp hk
        have ek : rng1D [PyData.int k] = some (LD (ri 0 k.toNat)) := rng1D_i k (by omega) (by omega)
        simp -implicitDefEqProofs only [tD_int, Option.bind_some, ek]
        rw [forF_any (α := Int) (bad := fun j => clash L c k j) (r := .bool false)]
        · cases (ri 0 k.toNat).any fun j => clash L c k j <;> simp
        · intro j hj
          have hj := mem_ri.mp hj
          have cj : idxD (LI c) (.int j) = some (.int (c.getD j.toNat 0)) := idxD_L (by omega) (getD_at (by omega))
          have ck : idxD (LI c) (.int k) = some (.int (c.getD k.toNat 0)) := idxD_L (by omega) (getD_at (by omega))
          have gj := getD_at (xs := L) (i := j.toNat) (d := (0, 0)) (by omega)
          have gk := getD_at (xs := L) (i := k.toNat) (d := (0, 0)) (by omega)
          have lj : idxD (LL L) (.int j) = some (Datum.toD (L.getD j.toNat (0, 0))) := idxD_L (by omega) gj
          have lk : idxD (LL L) (.int k) = some (Datum.toD (L.getD k.toNat (0, 0))) := idxD_L (by omega) gk
          have pj := hp _ (List.mem_of_getElem? gj)
          have pk := hp _ (List.mem_of_getElem? gk)
          unfold clash
          generalize L.getD j.toNat (0, 0) = a at *
          generalize L.getD k.toNat (0, 0) = b at *
          have el : decide ((if b.1 > a.1 then b.1 else a.1) < (if b.2 < a.2 then b.2 else a.2)) = lap a b := by
            unfold lap
            rw [Bool.eq_iff_iff, Bool.and_eq_true, decide_eq_true_eq, decide_eq_true_eq, decide_eq_true_eq]
            split <;> split <;> omega
          simp -implicitDefEqProofs only [tD_int, andB, Option.bind_some, cj, ck, eqD_int, isB_b, lj, lk, (ends_ok a).1, (ends_ok a).2, (ends_ok b).1, (ends_ok b).2, maxL, minL, ltD_int, el]
          by_cases h : c.getD j.toNat 0 = c.getD k.toNat 0
          · rw [if_pos (decide_eq_true h), decide_eq_true h, Bool.true_and]; cases lap a b <;> simp
          · rw [if_neg (by rw [decide_eq_true_eq]; exact h), decide_eq_false h, Bool.false_and]; simp
  · have hn' : ((c.length : Int) ≠ L.length) := by omega
    rw [decide_eq_true hn', decide_eq_false hn]
    simp
omit hl hp in
theorem tup_short (ds : List D) (h : ds.length ≠ 3) : d_judge_copies (LL L) (.tuple ds) = some (.bool false) ∧ d__law_copies_fit (LL L) (.tuple ds) = some (.bool false) := by
  have : (ds.length : Int) ≠ 3 := by omega
  constructor
  · unfold d_judge_copies b_judge_copies
    simp -implicitDefEqProofs only [b2, c2, iteM, Option.bind_some, lenL_T, neD_int, isB_b, decide_eq_true this, if_true, Option.map_some, seqF_rt, outD_rt]
  · unfold d__law_copies_fit b__law_copies_fit
    simp -implicitDefEqProofs only [b2, c2, iteM, Option.bind_some, lenL_T, neD_int, isB_b, decide_eq_true this, if_true, Option.map_some, seqF_rt, outD_rt]
omit hl hp in
theorem out_ri (d : Int) : out L d = ((ri 0 L.length).filter fun j => act (L.getD j.toNat (0, 0)) d).length := by
  have e : (ri 0 L.length).map (fun j => L.getD j.toNat (0, 0)) = L := by
    have := its_fst L
    unfold its at this
    rwa [List.map_map] at this
  unfold out
  conv => lhs; rw [← e]
  rw [List.filter_map, List.length_map]; rfl
omit hl hp in
/-- a right paper tells the due count -/
theorem jF_count {K K' : Int} {F c : List Int} {dy dy' : Option Int} (R : Res L K F dy) (h : jF L K' c dy' = true) : K' = K := by
  unfold jF apart at h
  simp only [Bool.and_eq_true, decide_eq_true_eq, Bool.not_eq_true'] at h
  obtain ⟨⟨h1, h2, h3⟩, h4⟩ := h
  have hc : ∀ x ∈ c, 0 ≤ x ∧ x < K' := fun x hx => by
    have := List.all_eq_true.mp h2 x hx
    simpa using this
  cases dy' with
  | none =>
    have hK : K' = 0 := of_decide_eq_true h4
    have : L = [] := by
      cases L with
      | nil => rfl
      | cons a r =>
        cases c with
        | nil => simp at h1
        | cons x t => have := hc x (.head _); omega
    rw [R.nil this, hK]
  | some d =>
    simp only [Bool.and_eq_true, decide_eq_true_eq] at h4
    have hle : K' ≤ K := by have := R.ub d; omega
    have hne : L ≠ [] := fun e => by
      have := h4.2
      rw [e] at this
      simp [out] at this
      omega
    obtain ⟨d0, hd0⟩ := R.hit hne
    have hge : (out L d0 : Int) ≤ K' := by
      rw [out_ri]
      have hin : ∀ j ∈ (ri 0 L.length).filter (fun j => act (L.getD j.toNat (0, 0)) d0), 0 ≤ j ∧ j < L.length ∧ act (L.getD j.toNat (0, 0)) d0 = true := fun j hj => by
        obtain ⟨a, b⟩ := List.mem_filter.mp hj
        have := mem_ri.mp a
        exact ⟨by omega, by omega, b⟩
      have nd : (((ri 0 L.length).filter fun j => act (L.getD j.toNat (0, 0)) d0).map fun j => c.getD j.toNat 0).Nodup := by
        rw [List.Nodup, List.pairwise_map]
        refine (List.Pairwise.and_mem.mp ((ri_lt 0 L.length).sublist List.filter_sublist)).imp fun {j k} ⟨hj, hk, hjk⟩ e => ?_
        obtain ⟨j0, j1, j2⟩ := hin j hj
        obtain ⟨k0, k1, k2⟩ := hin k hk
        have a := act_iff.mp j2
        have b := act_iff.mp k2
        have : anyC L c = true := by
          unfold anyC
          rw [List.any_eq_true]
          refine ⟨k, mem_ri.mpr (by omega), ?_⟩
          rw [List.any_eq_true]
          refine ⟨j, mem_ri.mpr (by omega), ?_⟩
          unfold clash lap
          rw [decide_eq_true e, Bool.true_and, Bool.and_eq_true, decide_eq_true_eq, decide_eq_true_eq]
          omega
        rw [this] at h3; cases h3
      have := nodup_len nd (ys := ri 0 K'.toNat) fun x hx => by
        obtain ⟨j, hj, rfl⟩ := List.mem_map.mp hx
        obtain ⟨j0, j1, _⟩ := hin j hj
        have := hc (c.getD j.toNat 0) (List.mem_of_getElem? (getD_at (by omega)))
        exact mem_ri.mpr (by omega)
      rw [List.length_map, ri_len] at this
      have k0 : 0 ≤ K' := by have := h4.2; omega
      omega
    omega
end
/-- the same days out: the same count -/
theorem res_same {L L' : List Ln} {K K' : Int} {F F' : List Int} {dy dy' : Option Int} (R : Res L K F dy) (R' : Res L' K' F' dy') (h : ∀ d, out L d = out L' d) : K = K' := by
  have one : ∀ {L L' : List Ln} {K K' : Int} {F F' : List Int} {dy dy' : Option Int}, Res L K F dy → Res L' K' F' dy' → (∀ d, out L d ≤ out L' d) → K ≤ K' := fun {L L' K K' F F' dy dy'} R R' h => by
    by_cases e : L = []
    · rw [R.nil e]; exact R'.k0
    · obtain ⟨d, hd⟩ := R.hit e
      have := R'.ub d
      have := h d
      omega
  exact Int.le_antisymm (one R R' fun d => by rw [h d]; exact Nat.le_refl _) (one R' R fun d => by rw [h d]; exact Nat.le_refl _)
theorem res_less {L L' : List Ln} {K K' : Int} {F F' : List Int} {dy dy' : Option Int} (R : Res L K F dy) (R' : Res L' K' F' dy') (h : ∀ d, out L d ≤ out L' d) : K ≤ K' := by
  by_cases e : L = []
  · rw [R.nil e]; exact R'.k0
  · obtain ⟨d, hd⟩ := R.hit e
    have := R'.ub d
    have := h d
    omega
end Wk0

namespace Wk0
open PySem L2 PySem.Spec PyProof.Rows PySem.W PySem.SeqAt Dl
theorem rng3_ok (n c : Int) (hn : 0 ≤ n) (hn' : n ≤ 1000) (hc : 1 ≤ c) (hc' : c ≤ 1000) : ∃ ks : List Int, rng3D [.int 0, .int n, .int c] = some (LD ks) ∧ ∀ k ∈ ks, 0 ≤ k ∧ k < n := by
  have hs := rangeSize_pos hc hn
  have h0 : 0 ≤ (n + c - 1) / c := Int.ediv_nonneg (by omega) (by omega)
  have h1 : (n + c - 1) / c ≤ n + c - 1 := Int.ediv_le_self _ (by omega)
  have hsm : Builtin.Range.small 0 n c = true := by
    unfold Builtin.Range.small
    rw [hs]
    simp only [Builtin.Range.rangeFitsLong, Bool.and_eq_true, Bool.or_eq_true, decide_eq_true_eq, beq_iff_eq]
    have hcp : c > 0 := by omega
    simp only [if_pos hcp]
    refine ⟨⟨⟨⟨?_, ?_⟩, ?_⟩, ?_⟩, .inr ?_⟩ <;> (first | omega | (constructor <;> omega) | (rw [Bool.and_eq_true, decide_eq_true_eq, decide_eq_true_eq]; omega))
  refine ⟨(List.range (Builtin.Range.rangeSize 0 n c).toNat).map fun (i : Nat) => 0 + (i : Int) * c, ?_, fun k hk => ?_⟩
  · simp only [rng3D]
    rw [if_pos ⟨⟨by omega, by omega⟩, hsm, by rw [hs]; exact h0⟩, fit_ok (by rw [hs]; omega)]
    unfold Dl.stepI LD
    rw [List.map_map]; rfl
  · obtain ⟨i, hi, rfl⟩ := List.mem_map.mp hk
    have hi := List.mem_range.mp hi
    have := start_inside hc hn (v := (i : Int)) (by omega) (by omega)
    omega
def Gd (L : List Ln) (K : Int) (d : D) : Prop := ∃ b : Bool, d_judge_copies (LL L) d = some (.bool b) ∧ d__law_copies_fit (LL L) d = some (.bool b) ∧ (b = true → idxD d (.int 0) = some (.int K))
theorem law_loans (L : List Ln) (hl : L.length ≤ 40) (hp : ∀ l ∈ L, l.1 < l.2) {K : Int} {F : List Int} {dy : Option Int} (R : Res L K F dy) :
    (∀ K' c dy', Gd L K (.tuple [.int K', LI c, oC dy'])) ∧ (∀ ds : List D, ds.length ≠ 3 → Gd L K (.tuple ds)) := by
  refine ⟨fun K' c dy' => ⟨_, judge_ok L (by omega) K' c dy', fit_law L (by omega) hp K' c dy', fun h => ?_⟩, fun ds h => ⟨false, (tup_short L ds h).1, (tup_short L ds h).2, fun h => by cases h⟩⟩
  rw [jF_count L R h]; rfl
theorem bent_ok (L : List Ln) (hl : L.length ≤ 40) (hp : ∀ l ∈ L, l.1 < l.2) {K : Int} {F : List Int} {dy : Option Int} (R : Res L K F dy) (qs : List Int) (hq : qs.length = 10) :
    ∃ ds : List D, d__law_bent_copies (.tuple [.int K, LI F, oC dy]) (.list (LD qs)) = some ds ∧ ∀ d ∈ ds, Gd L K d := by
  obtain ⟨g3, gs⟩ := law_loans L hl hp R
  have hF := R.len
  have Q : ∀ k : Int, 0 ≤ k → k < 10 → idxD (.list (LD qs)) (.int k) = some (.int (qs.getD k.toNat 0)) := fun k h h' => idxD_L h (getD_at (by omega))
  have hcut : cutL [PyData.int K, LI F, oC dy] (some 0) (some 2) = [PyData.int K, LI F] := rfl
  have hadt : addD (.tuple [.int K, LI F, oC dy]) (.tuple [.int 0]) = some (.tuple [.int K, LI F, oC dy, .int 0]) := rfl
  have hadd : ∀ a b : List Int, a.length ≤ 100 → b.length ≤ 100 → addD (.list (LD a)) (.list (LD b)) = some (.list (LD (a ++ b))) := fun a b h h' => by
    show fit _ (PyData.list (LD _ ++ LD _)) = _
    rw [fit_ok (by rw [LD_len, LD_len]; omega), LD_app]
  have one : ∀ x : Int, (PyData.list [PyData.int x]) = .list (LD [x]) := fun _ => rfl
  have hrg : rngF (0, (F.length : Int)) = some (LD (ri 0 F.length)) := by
    have := rngF_i 0 (F.length : Int) (by omega) (by omega) (by omega) (by omega) (by omega)
    rw [show ((F.length : Int) - 0).toNat = F.length by omega] at this; exact this
  have hcat : ∀ xs ys : List D, xs.length ≤ 1000 → ys.length ≤ 1000 → catF (.list xs) (.list ys) = some (xs ++ ys) := fun xs ys h h' => by
    show fit _ _ = _
    rw [fit_ok (by omega)]
  have cl : ∀ lo hi, (cutL F lo hi).length ≤ 100 := fun lo hi => by
    unfold cutL; rw [List.length_take, List.length_drop]; omega
  unfold d__law_bent_copies b__law_bent_copies
  refine Exists.imp (fun ds h => ⟨(congrArg outF h.1).trans (b := outF (some (.rt (.list ds)))) rfl, h.2⟩) (?_ : ∃ ds : List D, _ = some (Fl.rt (PyData.list ds)) ∧ ∀ d ∈ ds, Gd L K d)
  have main : ∀ (X : Option (Fl Unit Unit)), (∃ ds : List D, X = some (.rt (.list ds)) ∧ ∀ d ∈ ds, Gd L K d) → ∃ ds : List D, X = some (.rt (.list ds)) ∧ ∀ d ∈ ds, Gd L K d := fun _ h => h
  have go : ∀ {S : Type} {m : Option (Fl S Unit)} {n : S → Option (Fl Unit Unit)} {P : S → Prop}, Gv m P → (∀ s, P s → ∃ ds : List D, n s = some (.rt (.list ds)) ∧ ∀ d ∈ ds, Gd L K d) → ∃ ds : List D, seqF m n = some (.rt (.list ds)) ∧ ∀ d ∈ ds, Gd L K d := fun {S m n P} ⟨s, e, hs⟩ k => by
    rw [e, seqF_nx]; exact k s hs
  refine go (P := fun t => t = (PyData.int K, LI F, oC dy)) ⟨_, rfl, rfl⟩ ?_
  rintro _ rfl
  refine go (P := fun ds : List D => (∀ d ∈ ds, Gd L K d) ∧ ds.length ≤ 20) ?_ ?_
  · simp -implicitDefEqProofs only [b2, b3, c2, Option.bind_some, oI_int, sliceD, hcut, hadt, addD_int, subD_int, negD_int, Q 0 (by omega) (by omega), modD_int _ 12 (by omega), cutL_LD, fit_ok, List.length_cons, List.length_nil, Nat.reduceAdd, Nat.reduceLeDiff, Option.map_some]
    refine gv_nx ⟨fun d hd => ?_, by simp⟩
    simp only [List.mem_cons, List.not_mem_nil, or_false] at hd
    rcases hd with rfl | rfl | rfl | rfl | rfl | rfl | rfl | rfl | rfl
    · exact g3 _ _ _
    · exact gs _ (by simp)
    · exact gs _ (by simp)
    · exact g3 _ _ _
    · exact g3 _ _ _
    · exact g3 _ _ none
    · exact g3 _ _ (some (-1))
    · exact g3 _ _ (some _)
    · exact g3 _ _ _
  rintro ds ⟨hds, hdl⟩
  refine go (P := fun ds : List D => (∀ d ∈ ds, Gd L K d) ∧ ds.length ≤ 30) ?_ ?_
  · simp -implicitDefEqProofs only [b2, b2F, c2, Option.bind_some, one, hadd F [0] (by omega) (by simp), revD_L, LD_rev, fit_ok, List.length_cons, List.length_nil, Nat.zero_le, Nat.reduceAdd, Nat.reduceLeDiff, Option.map_some, lenL_L, LD_len, int1_int, hrg]
    refine gv_nxt (hcat _ _ (by omega) (by simp)) ⟨fun d hd => ?_, by rw [List.length_append]; simp; omega⟩
    rcases List.mem_append.mp hd with hd | hd
    · exact hds d hd
    · simp only [List.mem_cons, List.not_mem_nil, or_false] at hd
      rcases hd with rfl | rfl | rfl | rfl | rfl
      · exact g3 _ _ _
      · exact g3 _ _ _
      · exact g3 0 [] none
      · exact g3 _ _ _
      · exact g3 _ [] _
  rintro ds ⟨hds, hdl⟩
  refine go (P := fun ds : List D => ∀ d ∈ ds, Gd L K d) ?_ (fun ds h => ⟨ds, rfl, h⟩)
  simp -implicitDefEqProofs only [b2, c2, iteM, Option.bind_some, lenL_L, LD_len, gtD_int, isB_b]
  by_cases h0 : (0 : Int) < F.length
  · rw [if_pos (decide_eq_true h0)]
    have hK : 0 < K + 1 := by have := R.k0; omega
    simp -implicitDefEqProofs only [Q 1 (by omega) (by omega), Q 2 (by omega) (by omega), Option.bind_some, modD_int _ _ h0, addD_int, modD_int _ _ hK, negD_int, Option.map_some, seqF_nx, fit_ok, List.length_cons, List.length_nil, Nat.reduceAdd, Nat.reduceLeDiff, itemsD_L]
    refine gv_gv (R := fun ds : List D => ∀ d ∈ ds, Gd L K d) ?_ (fun ds h => gv_nx h)
    have hg := gv_for (M := Unit) (α := Int) (xs := [-1, K, qs.getD (Int.toNat 2) 0 % (K + 1), 0]) (L := List D) (F := fun d (l7 : List D) => ((fun d => some d) d).bind fun v8 => (seqF (nxt (((c2 (some (PyData.int K)) (c2 (b2 (b2 (b3 (some (LI F)) (oI (some (.int 0))) (oI (some (.int (qs.getD (Int.toNat 1) 0 % (F.length : Int)))))) (((c2 (some v8) (some [])).bind fun xs => fit xs.length xs).map .list) addD) (b3 (some (LI F)) (oI (b2 (some (.int (qs.getD (Int.toNat 1) 0 % (F.length : Int)))) (some (.int 1)) addD)) (some none)) addD) (c2 (some (oC dy)) (some [])))).bind fun xs => fit xs.length (.tuple xs)).bind fun d => fit (l7.length + 1) d)) fun a9 => (some (.nx (l7 ++ [a9])) : Option (Fl (List D) (List D)))))
      (l := ds) (fun i ds => (∀ d ∈ ds, Gd L K d) ∧ ds.length ≤ 30 + i) ⟨hds, by omega⟩ (by
        rintro i x ds hx ⟨hds, hdl⟩
        have hi := (List.getElem?_eq_some_iff.mp hx).1
        simp only [List.length_cons, List.length_nil] at hi
        have e1 : addD (.list (LD (cutL F (some 0) (some (qs.getD (Int.toNat 1) 0 % (F.length : Int)))))) (.list (LD [x])) = some (.list (LD (cutL F (some 0) (some (qs.getD (Int.toNat 1) 0 % (F.length : Int))) ++ [x]))) := hadd _ _ (cl _ _) (by simp)
        have e2 : ∀ b, addD (.list (LD (cutL F (some 0) (some (qs.getD (Int.toNat 1) 0 % (F.length : Int))) ++ [x]))) (.list (LD (cutL F (some b) none))) = some (.list (LD ((cutL F (some 0) (some (qs.getD (Int.toNat 1) 0 % (F.length : Int))) ++ [x]) ++ cutL F (some b) none))) := fun b => by
          show fit _ (PyData.list (LD _ ++ LD _)) = _
          have a1 := cl (some 0) (some (qs.getD (Int.toNat 1) 0 % (F.length : Int)))
          have a2 := cl (some b) none
          rw [fit_ok (by rw [LD_len, LD_len, List.length_append, List.length_singleton]; omega), LD_app]
        simp -implicitDefEqProofs only [b2, b3, c2, tD_int, Option.bind_some, oI_int, sliceD, cutL_LD, fit_ok, List.length_cons, List.length_nil, Nat.reduceAdd, Nat.reduceLeDiff, Option.map_some, one, e1, e2, addD_int]
        refine gv_go (fit_ok (by omega)) (gv_nx ⟨fun d hd => ?_, by rw [List.length_append, List.length_singleton]; omega⟩)
        rcases List.mem_append.mp hd with hd | hd
        · exact hds d hd
        · rw [List.mem_singleton.mp hd]; exact g3 _ _ _)
    obtain ⟨ds', e, h1, _⟩ := hg
    refine ⟨ds', ?_, h1⟩
    simp -implicitDefEqProofs only [b2, b3, c2, Option.bind_some, oI_int, fit_ok, List.length_cons, List.length_nil, Nat.reduceAdd, Nat.reduceLeDiff, Option.map_some] at e
    exact e
  · rw [if_neg (by rw [decide_eq_true_eq]; exact h0)]
    exact gv_nx hds
end Wk0

namespace Wk0
open PySem L2 PySem.Spec PyProof.Rows PySem.W PySem.SeqAt Dl
theorem out_app (A B : List Ln) (d : Int) : out (A ++ B) d = out A d + out B d := by
  unfold out; rw [List.filter_append, List.length_append]
theorem out_of_perm {A B : List Ln} (h : A.Perm B) (d : Int) : out A d = out B d := (h.filter _).length_eq
theorem out_sub {A B : List Ln} (h : A.Sublist B) (d : Int) : out A d ≤ out B d := (h.filter _).length_le
/-- two loans that meet: the same as one -/
theorem out_two (A : List Ln) {a b c : Int} (h : a < b) (h' : b < c) (d : Int) : out (A ++ [(a, c)]) d = out (A ++ [(a, b), (b, c)]) d := by
  rw [out_app, out_app]
  congr 1
  unfold out act
  simp only [List.filter_cons, List.filter_nil, Bool.and_eq_true, decide_eq_true_eq]
  by_cases h1 : a ≤ d <;> by_cases h2 : d < b <;> by_cases h3 : b ≤ d <;> by_cases h4 : d < c <;> simp [h1, h2, h3, h4] <;> omega
theorem split_two (L : List Ln) {k j : Int} (hk : 0 ≤ k ∧ k < L.length) (hj : 0 ≤ j ∧ j < L.length) (hne : k ≠ j) :
    L.Perm ((((ri 0 L.length).filter fun i => decide (i ≠ k) && decide (i ≠ j)).map fun i => L.getD i.toNat (0, 0)) ++ [L.getD k.toNat (0, 0), L.getD j.toNat (0, 0)]) := by
  have e : (ri 0 L.length).map (fun j => L.getD j.toNat (0, 0)) = L := by
    have := its_fst L
    unfold its at this
    rwa [List.map_map] at this
  have p : (ri 0 L.length).Perm (((ri 0 L.length).filter fun i => decide (i ≠ k) && decide (i ≠ j)) ++ [k, j]) := by
    refine (perm_sub ?_ (fun x hx => ?_) ?_).symm
    · rw [List.nodup_append]
      refine ⟨(ri_nodup _ _).sublist List.filter_sublist, by simp [hne], fun a ha b hb e => ?_⟩
      have := (List.mem_filter.mp ha).2
      rw [Bool.and_eq_true, decide_eq_true_eq, decide_eq_true_eq] at this
      simp only [List.mem_cons, List.not_mem_nil, or_false] at hb
      rcases hb with rfl | rfl
      · exact this.1 e
      · exact this.2 e
    · rcases List.mem_append.mp hx with hx | hx
      · exact (List.mem_filter.mp hx).1
      · simp only [List.mem_cons, List.not_mem_nil, or_false] at hx
        rcases hx with rfl | rfl
        · exact mem_ri.mpr (by omega)
        · exact mem_ri.mpr (by omega)
    · refine nodup_len (ri_nodup _ _) fun x hx => ?_
      rw [List.mem_append]
      by_cases e1 : x = k
      · exact .inr (by simp [e1])
      · by_cases e2 : x = j
        · exact .inr (by simp [e2])
        · exact .inl (List.mem_filter.mpr ⟨hx, by simp [e1, e2]⟩)
  have := p.map fun j => L.getD j.toNat (0, 0)
  rw [e, List.map_append] at this
  exact this
theorem law_true (ns : List Int) (hns : ns.length ≤ 63) : d_law ns = some (.bool true) := by
  obtain ⟨zs, hz, hzl, hzb⟩ := numbers_ok (ns.getD 0 0) 90 27720 (by omega) (by omega) (by omega)
  obtain ⟨qs, hm, hml, hmb⟩ := numbers_ok (ns.getD 1 0) 10 5040 (by omega) (by omega) (by omega)
  have hc0 : cellD ns (.int 0) = some (.int (ns.getD 0 0)) := cell_ok ns 0 (by omega)
  have hc1 : cellD ns (.int 1) = some (.int (ns.getD 1 0)) := cell_ok ns 1 (by omega)
  have hz : d__law_numbers (.int (ns.getD 0 0)) (.int 90) (.int 27720) = some (LD zs) := hz
  have hm : d__law_numbers (.int (ns.getD 1 0)) (.int 10) (.int 5040) = some (LD qs) := hm
  have Z : ∀ k : Int, 0 ≤ k → k < 90 → idxD (.list (LD zs)) (.int k) = some (.int (zs.getD k.toNat 0)) := fun k h h' => idxD_L h (getD_at (by omega))
  have small : ∀ i : Int, small64 2 ∨ small64 i := fun i => .inl ⟨by omega, by omega⟩
  unfold d_law b_law
  refine (congrArg outD (a₂ := some (.rt (.bool true))) ?_).trans rfl
  refine seqF_go (v := .list (LD zs)) (by simp -implicitDefEqProofs only [c2, Option.bind_some, hc0, f3_three, hz, Option.map_some]) ?_
  refine seqF_go (v := LD ([] : List Ln)) (by simp -implicitDefEqProofs only [Option.bind_some, fit_ok, List.length_nil, Nat.zero_le]; rfl) ?_
  have h13 : 0 ≤ zs.getD 0 0 % 13 ∧ zs.getD 0 0 % 13 < 13 := by omega
  have Z0 : idxD (.list (LD zs)) (.int 0) = some (.int (zs.getD 0 0)) := Z 0 (by omega) (by omega)
  have Z88 : idxD (.list (LD zs)) (.int 88) = some (.int (zs.getD 88 0)) := Z 88 (by omega) (by omega)
  have er : rng1D [.int (zs.getD 0 0 % 13)] = some (LD (ri 0 (zs.getD 0 0 % 13).toNat)) := rng1D_i _ (by omega) (by omega)
  refine seqF_gv (R := fun l : List D => ∃ L : List Ln, l = LD L ∧ L.length ≤ 40 ∧ ∀ l ∈ L, l.1 < l.2) ?_ ?_
  · simp -implicitDefEqProofs only [b2, c2, Option.bind_some, Z0, modD_int _ 13 (by omega), er]
    obtain ⟨l, e, L, rfl, h1, h2⟩ := gv_for (M := Unit) (α := Int) (xs := ri 0 (zs.getD 0 0 % 13).toNat) (L := List D) (F := fun d (l3 : List D) => ((fun d => some d) d).bind fun v4 => (seqF (nxt (b2 (b2 (some (.list (LD zs))) (b2 (some (.int 1)) (b2 (some (.int 2)) (some v4) mulD) addD) idxD) (some (.int 9)) modD)) fun first5 => (seqF (nxt (((c2 (some first5) (c2 (b2 (b2 (some first5) (some (.int 1)) addD) (b2 (b2 (some (.list (LD zs))) (b2 (some (.int 2)) (b2 (some (.int 2)) (some v4) mulD) addD) idxD) (some (.int 6)) modD) addD) (some []))).bind fun xs => fit xs.length (.tuple xs)).bind fun d => fit (l3.length + 1) d)) fun a6 => (some (.nx (l3 ++ [a6])) : Option (Fl (List D) (List D))))))
      (l := LD ([] : List Ln)) (fun i l => ∃ L : List Ln, l = LD L ∧ L.length = i ∧ ∀ l ∈ L, l.1 < l.2) ⟨[], rfl, rfl, by simp⟩ (by
        rintro i x l hx ⟨L, rfl, hL, hp⟩
        have hi := (List.getElem?_eq_some_iff.mp hx).1
        rw [ri_len] at hi
        have hxm := mem_ri.mp (List.mem_of_getElem? hx)
        simp -implicitDefEqProofs only [b2, tD_int, Option.bind_some, mulD_int 2 _ (small _), addD_int, Z (1 + 2 * x) (by omega) (by omega), Z (2 + 2 * x) (by omega) (by omega), modD_int _ 9 (by omega), modD_int _ 6 (by omega)]
        refine gv_go rfl ?_
        simp -implicitDefEqProofs only [c2, Option.bind_some, addD_int, fit_ok, List.length_cons, List.length_nil, Nat.reduceAdd, Nat.reduceLeDiff]
        refine gv_go (fit_ok (by rw [LD_len]; omega)) (gv_nx ⟨L ++ [(zs.getD (1 + 2 * x).toNat 0 % 9, zs.getD (1 + 2 * x).toNat 0 % 9 + 1 + zs.getD (2 + 2 * x).toNat 0 % 6)], by rw [← LD_app]; rfl, by rw [List.length_append, hL]; rfl, fun l hl => ?_⟩)
        rcases List.mem_append.mp hl with hl | hl
        · exact hp l hl
        · rw [List.mem_singleton.mp hl]
          show _ % 9 < _ % 9 + 1 + _ % 6
          omega)
    refine ⟨LD L, ?_, L, rfl, by rw [ri_len] at h1; omega, h2⟩
    simp -implicitDefEqProofs only [b2, c2, Option.bind_some] at e
    exact e
  rintro _ ⟨L0, rfl, hL0, hp0⟩
  refine seqF_gv (R := fun l : List D => ∃ L : List Ln, l = LD L ∧ L.length ≤ 40 ∧ ∀ l ∈ L, l.1 < l.2) ?_ ?_
  · simp -implicitDefEqProofs only [b2, iteM, Option.bind_some, Z88, modD_int _ 6 (by omega), eqD_int, isB_b]
    by_cases h6 : zs.getD 88 0 % 6 = 0
    · rw [if_pos (decide_eq_true h6)]
      have er : rng1D [.int 40] = some (LD (ri 0 40)) := rng1D_n 40 (by omega)
      have pick : ∀ x : Int, ∃ v : Int, 0 < v ∧ idxD (.list [PyData.int 9, .int 99]) (.int (x % 2)) = some (.int v) := fun x => by
        obtain h | h : x % 2 = 0 ∨ x % 2 = 1 := by omega
        · rw [h]; exact ⟨9, by omega, rfl⟩
        · rw [h]; exact ⟨99, by omega, rfl⟩
      obtain ⟨w, hw⟩ : ∃ w : Int → Int, ∀ x, 0 < w x ∧ idxD (.list [PyData.int 9, .int 99]) (.int (x % 2)) = some (.int (w x)) := ⟨fun x => (pick x).choose, fun x => (pick x).choose_spec⟩
      obtain ⟨L, hL, hL2, hL3⟩ : ∃ L : List Ln, (((c2 (some (.int 40)) (some [])).bind rng1D).bind (compM (turnC (fun d => some d) (fun k9 => (some true)) (fun k9 => ((c2 (b2 (b2 (some (.list (LD zs))) (b2 (some (.int 2)) (some k9) mulD) idxD) (some (.int 9900)) modD) (c2 (b2 (b2 (b2 (b2 (some (.list (LD zs))) (b2 (some (.int 2)) (some k9) mulD) idxD) (some (.int 9900)) modD) (some (.int 1)) addD) (b2 (b2 (some (.list (LD zs))) (b2 (b2 (some (.int 2)) (some k9) mulD) (some (.int 1)) addD) idxD) (b2 (((c2 (some (.int 9)) (c2 (some (.int 99)) (some []))).bind fun xs => fit xs.length xs).map .list) (b2 ((c2 (some k9) (some [])).bind intL) (some (.int 2)) modD) idxD) modD) addD) (some []))).bind fun xs => fit xs.length (.tuple xs)))))) = some (LD L) ∧ L.length ≤ 40 ∧ ∀ l ∈ L, l.1 < l.2 := by
        refine ⟨(ri 0 40).map fun x => (zs.getD (2 * x).toNat 0 % 9900, zs.getD (2 * x).toNat 0 % 9900 + 1 + zs.getD (2 * x + 1).toNat 0 % w x), ?_, Nat.le_of_eq (by rw [List.length_map, ri_len]), fun l hl => ?_⟩
        · simp -implicitDefEqProofs only [c2, Option.bind_some, er]
          refine compM_LDt fun x hx => ?_
          have hxm := mem_ri.mp hx
          obtain ⟨hv0, hv⟩ := hw x
          simp -implicitDefEqProofs only [turnC, b2, tD_int, Option.bind_some, if_true, mulD_int 2 _ (small _), addD_int, Z (2 * x) (by omega) (by omega), Z (2 * x + 1) (by omega) (by omega), modD_int _ 9900 (by omega), fit_ok, List.length_cons, List.length_nil, Nat.reduceAdd, Nat.reduceLeDiff, Option.map_some, intL_int, modD_int _ 2 (by omega), hv, modD_int _ _ hv0]
          rfl
        · obtain ⟨x, _, rfl⟩ := List.mem_map.mp hl
          have := Int.emod_nonneg (zs.getD (2 * x + 1).toNat 0) (b := w x) (by have := (hw x).1; omega)
          show _ % 9900 < _ % 9900 + 1 + _
          omega
      exact gv_go hL (gv_nx ⟨L, rfl, hL2, hL3⟩)
    · rw [if_neg (by rw [decide_eq_true_eq]; exact h6)]
      exact gv_nx ⟨L0, rfl, hL0, hp0⟩
  rintro _ ⟨L, rfl, hL, hp⟩
  obtain ⟨K, F, dy, R⟩ := res_ex L (by omega) hp
  refine seqF_go (v := LL L) (by simp -implicitDefEqProofs only [c2, Option.bind_some, listF_L, Option.map_some]) ?_
  refine seqF_go (v := .tuple [.int K, LI F, oC dy]) (by simp -implicitDefEqProofs only [c2, Option.bind_some, f1_one, R.due]) ?_
  have hr2 : rng1D [.int 2] = some (LD (ri 0 2)) := rng1D_n 2 (by omega)
  have hF := R.len
  have tame : Tame 3 (.tuple [.int K, LI F, oC dy]) := by
    refine .tuple (by simp) fun d hd => ?_
    simp only [List.mem_cons, List.not_mem_nil, or_false] at hd
    rcases hd with rfl | rfl | rfl
    · exact .int _
    · exact .list (by rw [LD_len]; omega) fun d hd => by
        obtain ⟨i, _, rfl⟩ := List.mem_map.mp hd
        exact .int i
    · cases dy with
      | none => exact .non
      | some e => exact .int _
  have hsame := same_self 3 12 _ tame (by omega)
  have hi0 : idxD (.tuple [.int K, LI F, oC dy]) (.int 0) = some (.int K) := rfl
  have hi1 : idxD (.tuple [.int K, LI F, oC dy]) (.int 1) = some (LI F) := rfl
  have hne : neD (LL L) (LL L) = some (.bool false) := by
    have := neD_L L L (by decide)
    rw [this]; simp
  rw [show ((c2 (some (PyData.int 2)) (some [])).bind rng1D) = some (LD (ri 0 2)) from hr2, Option.bind_some]
  refine seqF_gv (gv_for (fun _ _ => True) trivial ?_) ?_
  · intro i x l hx _
    have ec : compM (turnC (fun d => some d) (fun copy16 => Option.bind (geD copy16 (.int K)) isB) fun copy16 => some copy16) (LD F) = some (LD ((F.filter fun c => decide (K ≤ c)).map fun c => c)) := compM_LDf fun c hc => by
      simp -implicitDefEqProofs only [turnC, Option.bind_some, tD_int, geD_int, isB_b, Option.map_some]
      split <;> rfl
    have en : (F.filter fun c => decide (K ≤ c)) = [] := List.filter_eq_nil_iff.mpr fun c hc => by
      have := R.fK c hc
      rw [decide_eq_true_eq]; omega
    simp -implicitDefEqProofs only [b2, c2, iteM, orB, Option.bind_some, f1_one, R.find, Option.map_some, seqF_nx, f2_two, hsame, truth_b, Bool.not_true, Bool.false_eq_true, if_false, hne, isB_b, hi0, hi1, itemsD_L, ec, en, List.map_nil, LD_nil, lenL_L, List.length_nil, gtD_int, show decide ((0 : Int) < ((0 : Nat) : Int)) = false from rfl, appN, List.getElem?_cons_succ, List.getElem?_cons_zero, LD_len]
    rw [fit_ok (by omega)]
    exact gv_go rfl (gv_nx trivial)
  intro _ _
  refine seqF_go (v := .list (LD qs)) (by simp -implicitDefEqProofs only [c2, Option.bind_some, hc1, f3_three, hm, Option.map_some]) ?_
  obtain ⟨ds, hds, hgd⟩ := bent_ok L hL hp R qs hml
  simp -implicitDefEqProofs only [c2, Option.bind_some, f2_two, hds, Option.map_some, itemsD_L]
  refine seqF_do (v := ()) (forF_all fun d hd => ?_) ?_
  · obtain ⟨b, g1, g2, g3⟩ := hgd d hd
    simp -implicitDefEqProofs only [b2, iteM, orB, andB, Option.bind_some, f2_two, g1, g2, same_bool, truth_b, Option.map_some, seqF_nx, Bool.not_true, Bool.false_eq_true, if_false]
    cases b with
    | false => rfl
    | true => simp -implicitDefEqProofs only [if_true, g3 rfl, hi0, Option.bind_some, neD_int, ne_eq, not_true_eq_false, decide_false, isB_b, Bool.false_eq_true, if_false]
  obtain ⟨ks, hks, hkb⟩ := rng3_ok (L.length : Int) (1 + (L.length : Int) / 12) (by omega) (by omega) (by omega) (by omega)
  simp -implicitDefEqProofs only [b2, lenL_L, LD_len, Option.bind_some, fdivD_int _ 12 (by omega) (by omega), addD_int, hks]
  refine seqF_do (v := ()) (forF_all fun d hd => ?_) rfl
  obtain ⟨k, hk, rfl⟩ := List.mem_map.mp hd
  obtain ⟨k0, k1⟩ := hkb k hk
  -- without the k-th
  have hcutA : cutL L (some 0) (some k) = L.take k.toNat := by
    have := take_cut0 L k.toNat
    rwa [Int.toNat_of_nonneg k0] at this
  have hcutB : cutL L (some (k + 1)) none = L.drop (k + 1).toNat := by
    have := drop_cut L (k + 1).toNat
    rwa [Int.toNat_of_nonneg (by omega)] at this
  have hsub : (L.take k.toNat ++ L.drop (k + 1).toNat).Sublist L := by
    have e : L = L.take k.toNat ++ L.drop k.toNat := (List.take_append_drop _ _).symm
    conv => rhs; rw [e]
    refine List.Sublist.append_left ?_ _
    exact List.drop_sublist_drop_left _ (by omega)
  have hap : ∀ A B : List Ln, A.length ≤ 100 → B.length ≤ 100 → addD (LL A) (LL B) = some (LL (A ++ B)) := fun A B h h' => by
    show fit _ (PyData.list (LD _ ++ LD _)) = _
    rw [fit_ok (by rw [LD_len, LD_len]; omega), LD_app]
  have l1 : (L.take k.toNat).length ≤ 100 := by rw [List.length_take]; omega
  have l2 : (L.drop (k + 1).toNat).length ≤ 100 := by rw [List.length_drop]; omega
  obtain ⟨K1, F1, dy1, R1⟩ := res_ex (L.take k.toNat ++ L.drop (k + 1).toNat) (Nat.le_trans hsub.length_le (by omega)) (fun l hl => hp l (hsub.subset hl))
  have hK1 : K1 ≤ K := res_less R1 R fun d => out_sub hsub d
  have hi01 : ∀ (K : Int) (F : List Int) (dy : Option Int), idxD (.tuple [.int K, LI F, oC dy]) (.int 0) = some (.int K) := fun _ _ _ => rfl
  have hrn : rng1D [.int (L.length : Int)] = some (LD (ri 0 L.length)) := rng1D_n _ (by omega)
  have gl : ∀ j : Int, 0 ≤ j → j < L.length → idxD (LL L) (.int j) = some (Datum.toD (L.getD j.toNat (0, 0))) := fun j h h' => idxD_L h (getD_at (by omega))
  simp -implicitDefEqProofs only [b3, iteM, tD_int, Option.bind_some, oI_int, sliceD, cutL_LD, hcutA, addD_int, hcutB, hap _ _ l1 l2, f1_one, R1.find, hi01, gtD_int, isB_b, decide_eq_false (show ¬ K < K1 by omega), Bool.false_eq_true, if_false, seqF_nx, hrn]
  rw [compM_LDf (p := fun j : Int => decide (j ≠ k) && decide ((L.getD j.toNat (0, 0)).1 = (L.getD k.toNat (0, 0)).2)) (g := fun j : Int => j)]
  · rw [List.map_id']
    generalize hlt : ((ri 0 L.length).filter fun j => decide (j ≠ k) && decide ((L.getD j.toNat (0, 0)).1 = (L.getD k.toNat (0, 0)).2)) = later
    simp -implicitDefEqProofs only [Option.map_some, seqF_nx, Option.bind_some, lenL_L, LD_len, gtD_int, isB_b]
    cases later with
    | nil => rfl
    | cons j t =>
      have hjm : j ∈ (ri 0 L.length).filter fun j => decide (j ≠ k) && decide ((L.getD j.toNat (0, 0)).1 = (L.getD k.toNat (0, 0)).2) := by rw [hlt]; exact .head _
      obtain ⟨hj1, hj2⟩ := List.mem_filter.mp hjm
      have hj1 := mem_ri.mp hj1
      rw [Bool.and_eq_true, decide_eq_true_eq, decide_eq_true_eq] at hj2
      have hlen : decide ((0 : Int) < ((j :: t).length : Int)) = true := decide_eq_true (by simp only [List.length_cons]; omega)
      have hj0 : idxD (.list (LD (j :: t))) (.int 0) = some (.int j) := idxD_L (x := j) (by omega) rfl
      rw [if_pos hlen]
      have er : compM (turnC (fun d => some d) (fun j26 => (Option.bind (Option.bind (neD j26 (.int k)) isB) fun b => if b = true then Option.bind (neD j26 (.int j)) isB else some false)) fun j26 => idxD (LL L) j26) (LD (ri 0 L.length)) = some (LD (((ri 0 L.length).filter fun i => decide (i ≠ k) && decide (i ≠ j)).map fun i => L.getD i.toNat (0, 0))) := compM_LDf fun i hi => by
        have hi := mem_ri.mp hi
        simp -implicitDefEqProofs only [turnC, Option.bind_some, tD_int, neD_int, isB_b, gl i (by omega) (by omega), Option.map_some]
        by_cases h1 : i = k <;> by_cases h2 : i = j <;> simp [h1, h2]
      simp -implicitDefEqProofs only [andB, hj0, Option.bind_some, er, Option.map_some, seqF_nx, gl k (by omega) (by omega), gl j (by omega) (by omega), (ends_ok _).1, (ends_ok _).2, fit_ok, List.length_cons, List.length_nil, Nat.reduceAdd, Nat.reduceLeDiff]
      have hpm := split_two L (k := k) (j := j) ⟨k0, k1⟩ ⟨by omega, by omega⟩ (fun e => hj2.1 e.symm)
      generalize hA : (((ri 0 L.length).filter fun i => decide (i ≠ k) && decide (i ≠ j)).map fun i => L.getD i.toNat (0, 0)) = A at *
      have hAl : A.length ≤ 100 := by
        have := hpm.length_eq
        rw [List.length_append] at this
        simp only [List.length_cons, List.length_nil] at this
        omega
      have pk := hp _ (List.mem_of_getElem? (getD_at (xs := L) (i := k.toNat) (d := (0, 0)) (by omega)))
      have pj := hp _ (List.mem_of_getElem? (getD_at (xs := L) (i := j.toNat) (d := (0, 0)) (by omega)))
      have hsing : (PyData.list [PyData.tuple [PyData.int (L.getD k.toNat (0, 0)).1, PyData.int (L.getD j.toNat (0, 0)).2]]) = LL [((L.getD k.toNat (0, 0)).1, (L.getD j.toNat (0, 0)).2)] := rfl
      rw [hsing, hap A _ hAl (by simp)]
      have hpos : ∀ l ∈ A ++ [((L.getD k.toNat (0, 0)).1, (L.getD j.toNat (0, 0)).2)], l.1 < l.2 := fun l hl => by
        rcases List.mem_append.mp hl with hl | hl
        · exact hp l (hpm.mem_iff.mpr (List.mem_append_left _ hl))
        · rw [List.mem_singleton.mp hl]
          show (L.getD k.toNat (0, 0)).1 < (L.getD j.toNat (0, 0)).2
          omega
      obtain ⟨K2, F2, dy2, R2⟩ := res_ex (A ++ [((L.getD k.toNat (0, 0)).1, (L.getD j.toNat (0, 0)).2)]) (by
        have := hpm.length_eq
        rw [List.length_append] at this ⊢
        simp only [List.length_cons, List.length_nil] at this ⊢
        omega) hpos
      have hK2 : K2 = K := res_same R2 R fun d => by
        have e1 := out_two A pk (show (L.getD k.toNat (0, 0)).2 < (L.getD j.toNat (0, 0)).2 by omega) d
        rw [e1, out_of_perm hpm d]
        congr 3
        rw [← hj2.2]
      simp -implicitDefEqProofs only [Option.bind_some, f1_one, R2.find, hi01, neD_int, isB_b, hK2, ne_eq, not_true_eq_false, decide_false, Bool.false_eq_true, if_false]
  · intro j hj
    have hj := mem_ri.mp hj
    simp -implicitDefEqProofs only [turnC, andB, Option.bind_some, tD_int, neD_int, isB_b, gl j (by omega) (by omega), gl k (by omega) (by omega), (ends_ok _).1, (ends_ok _).2, eqD_int, Option.map_some]
    generalize L.getD j.toNat (0, 0) = a
    generalize L.getD k.toNat (0, 0) = b
    by_cases h1 : j = k <;> by_cases h2 : a.1 = b.2 <;> simp [h1, h2]
end Wk0

namespace Wk0
open PySem L2 PySem.Spec PyProof.Rows PySem.W PySem.SeqAt Dl
theorem ok__law_cell {P : Program} {w : World} {K : PySem.W.Frag} {mg : Str → Option Value} {base : Heap} (z_len : mg "len" = none) (z_int : mg "int" = none) {f : Addr} {fd : FuncData} (F : Fun K "_law_cell" "_law_cell" s__law_cell f fd) : FnOk P w K mg base CX0 1 f fd ["script", "k"] (spCell K) := by
  refine F.ok sc__law_cell (fun vs H Q E ⟨a, k, ns, B, e, _⟩ => by rw [e]; rfl) (fun cdv A outer s H vs Q E hr ⟨a, k, ns, B, e, ex, hs, hl, h0, h1, q⟩ => ?_)
  subst e
  refine ⟨_, pss_cons (ps_if (pt_cmpR op_lt (pv 1) (pe_callB call_len_seq (by rfl) z_len PySem.boot_len (pa_cons (pv 0) pa_nil)) (nomark _)) (pss_one (ps_ret (pe_callTy call_int1 (by rfl) z_int (by decide +kernel) (pa_cons (pe_ix ix_list (pv 0) (pv 1) (fun _ _ => rfl)) pa_nil)))) pss_nil) (pss_one (ps_ret pe_int)), ?_⟩
  have hS := Evl.ex_l ex hs
  refine ⟨_, rfl, _, rfl, a, _, rfl, .inl hS, _, _, rfl, rfl, _, rfl, ite2 (fun e => ?_) (fun e => ?_)⟩
  · have hk : k.toNat < ns.length := by
      have := of_decide_eq_true e
      rw [List.length_map] at this
      omega
    have e1 : (ns.map V.int)[k.toNat]? = some (.int (ns.getD k.toNat 0)) := by
      rw [List.getElem?_map, List.getElem?_eq_getElem hk, List.getD_eq_getElem?_getD, List.getElem?_eq_getElem hk]; rfl
    have e2 : atI (ns.map V.int) k = some (.int (ns.getD k.toNat 0)) := by
      have := atI_nat e1
      rwa [Int.toNat_of_nonneg h0] at this
    exact ⟨_, rfl, _, rfl, a, _, k, _, rfl, rfl, hS, e2, .inl ⟨_, rfl, q B H (Nx.refl ex)⟩⟩
  · have hk : ns.length ≤ k.toNat := by
      have : ¬ (k < ((ns.map V.int).length : Int)) := fun h => e (decide_eq_true h)
      rw [List.length_map] at this
      omega
    have e1 : ns.getD k.toNat 0 = 0 := by rw [List.getD_eq_getElem?_getD, List.getElem?_eq_none hk]; rfl
    have := q B H (Nx.refl ex)
    rw [e1] at this
    exact this
theorem all_mk {P : Program} {w : World} {K : PySem.W.Frag} {h : Heap} {mg : Str → Option Value} {fa : Addr} (X : K.In h) (G : h.Ns mainGlobals mg) (hfa : mg "law" = some (.ref fa))
    {od0 an0 : Option Addr} {sl0 : Array (Option Value)} {oc0 kV0 dc0 pm0 cd0 ct0 : Value} {ad0 : Addr} (a0 : PySem.W.nsIn K mainGlobals "_law_numbers" = some (some (.ref ad0))) (l0 : K.lookup ad0 = some ⟨oc0, od0, .func (PySem.W.fnOf "_law_numbers" "_law_numbers" (defArgs s__law_numbers) (defBody s__law_numbers) (defScope s__law_numbers) .none kV0 dc0 pm0 an0 cd0 ct0), sl0⟩) (c0 : PySem.W.codeIn K cd0 "_law_numbers" = true) (k0 : PySem.W.keepIn K (.ref ad0) = true)
    {od1 an1 : Option Addr} {sl1 : Array (Option Value)} {oc1 kV1 dc1 pm1 cd1 ct1 : Value} {ad1 : Addr} (a1 : PySem.W.nsIn K mainGlobals "_law_given" = some (some (.ref ad1))) (l1 : K.lookup ad1 = some ⟨oc1, od1, .func (PySem.W.fnOf "_law_given" "_law_given" (defArgs s__law_given) (defBody s__law_given) (defScope s__law_given) .none kV1 dc1 pm1 an1 cd1 ct1), sl1⟩) (c1 : PySem.W.codeIn K cd1 "_law_given" = true) (k1 : PySem.W.keepIn K (.ref ad1) = true)
    {od2 an2 : Option Addr} {sl2 : Array (Option Value)} {oc2 kV2 dc2 pm2 cd2 ct2 : Value} {ad2 : Addr} (a2 : PySem.W.nsIn K mainGlobals "_law_out_on" = some (some (.ref ad2))) (l2 : K.lookup ad2 = some ⟨oc2, od2, .func (PySem.W.fnOf "_law_out_on" "_law_out_on" (defArgs s__law_out_on) (defBody s__law_out_on) (defScope s__law_out_on) .none kV2 dc2 pm2 an2 cd2 ct2), sl2⟩) (c2 : PySem.W.codeIn K cd2 "_law_out_on" = true) (k2 : PySem.W.keepIn K (.ref ad2) = true)
    {od3 an3 : Option Addr} {sl3 : Array (Option Value)} {oc3 kV3 dc3 pm3 cd3 ct3 : Value} {ad3 : Addr} (a3 : PySem.W.nsIn K mainGlobals "_law_copies_due" = some (some (.ref ad3))) (l3 : K.lookup ad3 = some ⟨oc3, od3, .func (PySem.W.fnOf "_law_copies_due" "_law_copies_due" (defArgs s__law_copies_due) (defBody s__law_copies_due) (defScope s__law_copies_due) .none kV3 dc3 pm3 an3 cd3 ct3), sl3⟩) (c3 : PySem.W.codeIn K cd3 "_law_copies_due" = true) (k3 : PySem.W.keepIn K (.ref ad3) = true)
    {od4 an4 : Option Addr} {sl4 : Array (Option Value)} {oc4 kV4 dc4 pm4 cd4 ct4 : Value} {ad4 : Addr} (a4 : PySem.W.nsIn K mainGlobals "_law_bent_copies" = some (some (.ref ad4))) (l4 : K.lookup ad4 = some ⟨oc4, od4, .func (PySem.W.fnOf "_law_bent_copies" "_law_bent_copies" (defArgs s__law_bent_copies) (defBody s__law_bent_copies) (defScope s__law_bent_copies) .none kV4 dc4 pm4 an4 cd4 ct4), sl4⟩) (c4 : PySem.W.codeIn K cd4 "_law_bent_copies" = true) (k4 : PySem.W.keepIn K (.ref ad4) = true)
    {od5 an5 : Option Addr} {sl5 : Array (Option Value)} {oc5 kV5 dc5 pm5 cd5 ct5 : Value} {ad5 : Addr} (a5 : PySem.W.nsIn K mainGlobals "_law_cell" = some (some (.ref ad5))) (l5 : K.lookup ad5 = some ⟨oc5, od5, .func (PySem.W.fnOf "_law_cell" "_law_cell" (defArgs s__law_cell) (defBody s__law_cell) (defScope s__law_cell) .none kV5 dc5 pm5 an5 cd5 ct5), sl5⟩) (c5 : PySem.W.codeIn K cd5 "_law_cell" = true) (k5 : PySem.W.keepIn K (.ref ad5) = true)
    {od6 an6 : Option Addr} {sl6 : Array (Option Value)} {oc6 kV6 dc6 pm6 cd6 ct6 : Value} {ad6 : Addr} (a6 : PySem.W.nsIn K mainGlobals "is_out" = some (some (.ref ad6))) (l6 : K.lookup ad6 = some ⟨oc6, od6, .func (PySem.W.fnOf "is_out" "is_out" (defArgs s_is_out) (defBody s_is_out) (defScope s_is_out) .none kV6 dc6 pm6 an6 cd6 ct6), sl6⟩) (c6 : PySem.W.codeIn K cd6 "is_out" = true) (k6 : PySem.W.keepIn K (.ref ad6) = true)
    {od7 an7 : Option Addr} {sl7 : Array (Option Value)} {oc7 kV7 dc7 pm7 cd7 ct7 : Value} {ad7 : Addr} (a7 : PySem.W.nsIn K mainGlobals "free_copy" = some (some (.ref ad7))) (l7 : K.lookup ad7 = some ⟨oc7, od7, .func (PySem.W.fnOf "free_copy" "free_copy" (defArgs s_free_copy) (defBody s_free_copy) (defScope s_free_copy) .none kV7 dc7 pm7 an7 cd7 ct7), sl7⟩) (c7 : PySem.W.codeIn K cd7 "free_copy" = true) (k7 : PySem.W.keepIn K (.ref ad7) = true)
    {od8 an8 : Option Addr} {sl8 : Array (Option Value)} {oc8 kV8 dc8 pm8 cd8 ct8 : Value} {ad8 : Addr} (a8 : PySem.W.nsIn K mainGlobals "given_copies" = some (some (.ref ad8))) (l8 : K.lookup ad8 = some ⟨oc8, od8, .func (PySem.W.fnOf "given_copies" "given_copies" (defArgs s_given_copies) (defBody s_given_copies) (defScope s_given_copies) .none kV8 dc8 pm8 an8 cd8 ct8), sl8⟩) (c8 : PySem.W.codeIn K cd8 "given_copies" = true) (k8 : PySem.W.keepIn K (.ref ad8) = true)
    {od9 an9 : Option Addr} {sl9 : Array (Option Value)} {oc9 kV9 dc9 pm9 cd9 ct9 : Value} {ad9 : Addr} (a9 : PySem.W.nsIn K mainGlobals "out_on" = some (some (.ref ad9))) (l9 : K.lookup ad9 = some ⟨oc9, od9, .func (PySem.W.fnOf "out_on" "out_on" (defArgs s_out_on) (defBody s_out_on) (defScope s_out_on) .none kV9 dc9 pm9 an9 cd9 ct9), sl9⟩) (c9 : PySem.W.codeIn K cd9 "out_on" = true) (k9 : PySem.W.keepIn K (.ref ad9) = true)
    {od10 an10 : Option Addr} {sl10 : Array (Option Value)} {oc10 kV10 dc10 pm10 cd10 ct10 : Value} {ad10 : Addr} (a10 : PySem.W.nsIn K mainGlobals "find_copies" = some (some (.ref ad10))) (l10 : K.lookup ad10 = some ⟨oc10, od10, .func (PySem.W.fnOf "find_copies" "find_copies" (defArgs s_find_copies) (defBody s_find_copies) (defScope s_find_copies) .none kV10 dc10 pm10 an10 cd10 ct10), sl10⟩) (c10 : PySem.W.codeIn K cd10 "find_copies" = true) (k10 : PySem.W.keepIn K (.ref ad10) = true)
    {od11 an11 : Option Addr} {sl11 : Array (Option Value)} {oc11 kV11 dc11 pm11 cd11 ct11 : Value} {ad11 : Addr} (a11 : PySem.W.nsIn K mainGlobals "both_out" = some (some (.ref ad11))) (l11 : K.lookup ad11 = some ⟨oc11, od11, .func (PySem.W.fnOf "both_out" "both_out" (defArgs s_both_out) (defBody s_both_out) (defScope s_both_out) .none kV11 dc11 pm11 an11 cd11 ct11), sl11⟩) (c11 : PySem.W.codeIn K cd11 "both_out" = true) (k11 : PySem.W.keepIn K (.ref ad11) = true)
    {od12 an12 : Option Addr} {sl12 : Array (Option Value)} {oc12 kV12 dc12 pm12 cd12 ct12 : Value} {ad12 : Addr} (a12 : PySem.W.nsIn K mainGlobals "are_apart" = some (some (.ref ad12))) (l12 : K.lookup ad12 = some ⟨oc12, od12, .func (PySem.W.fnOf "are_apart" "are_apart" (defArgs s_are_apart) (defBody s_are_apart) (defScope s_are_apart) .none kV12 dc12 pm12 an12 cd12 ct12), sl12⟩) (c12 : PySem.W.codeIn K cd12 "are_apart" = true) (k12 : PySem.W.keepIn K (.ref ad12) = true)
    {od13 an13 : Option Addr} {sl13 : Array (Option Value)} {oc13 kV13 dc13 pm13 cd13 ct13 : Value} {ad13 : Addr} (a13 : PySem.W.nsIn K mainGlobals "judge_copies" = some (some (.ref ad13))) (l13 : K.lookup ad13 = some ⟨oc13, od13, .func (PySem.W.fnOf "judge_copies" "judge_copies" (defArgs s_judge_copies) (defBody s_judge_copies) (defScope s_judge_copies) .none kV13 dc13 pm13 an13 cd13 ct13), sl13⟩) (c13 : PySem.W.codeIn K cd13 "judge_copies" = true) (k13 : PySem.W.keepIn K (.ref ad13) = true)
    {od14 an14 : Option Addr} {sl14 : Array (Option Value)} {oc14 kV14 dc14 pm14 cd14 ct14 : Value} {ad14 : Addr} (a14 : PySem.W.nsIn K mainGlobals "_law_same" = some (some (.ref ad14))) (l14 : K.lookup ad14 = some ⟨oc14, od14, .func (PySem.W.fnOf "_law_same" "_law_same" (defArgs s__law_same) (defBody s__law_same) (defScope s__law_same) .none kV14 dc14 pm14 an14 cd14 ct14), sl14⟩) (c14 : PySem.W.codeIn K cd14 "_law_same" = true) (k14 : PySem.W.keepIn K (.ref ad14) = true)
    {od15 an15 : Option Addr} {sl15 : Array (Option Value)} {oc15 kV15 dc15 pm15 cd15 ct15 : Value} {ad15 : Addr} (a15 : PySem.W.nsIn K mainGlobals "_law_copies_fit" = some (some (.ref ad15))) (l15 : K.lookup ad15 = some ⟨oc15, od15, .func (PySem.W.fnOf "_law_copies_fit" "_law_copies_fit" (defArgs s__law_copies_fit) (defBody s__law_copies_fit) (defScope s__law_copies_fit) .none kV15 dc15 pm15 an15 cd15 ct15), sl15⟩) (c15 : PySem.W.codeIn K cd15 "_law_copies_fit" = true) (k15 : PySem.W.keepIn K (.ref ad15) = true)
    {od16 an16 : Option Addr} {sl16 : Array (Option Value)} {oc16 kV16 dc16 pm16 cd16 ct16 : Value} {ad16 : Addr} (a16 : PySem.W.nsIn K mainGlobals "law" = some (some (.ref ad16))) (l16 : K.lookup ad16 = some ⟨oc16, od16, .func (PySem.W.fnOf "law" "law" (defArgs s_law) (defBody s_law) (defScope s_law) .none kV16 dc16 pm16 an16 cd16 ct16), sl16⟩) (c16 : PySem.W.codeIn K cd16 "law" = true) (k16 : PySem.W.keepIn K (.ref ad16) = true)
    (y_all : PySem.W.nsIn K mainGlobals "all" = some none)
    (y_bool : PySem.W.nsIn K mainGlobals "bool" = some none)
    (y_enumerate : PySem.W.nsIn K mainGlobals "enumerate" = some none)
    (y_int : PySem.W.nsIn K mainGlobals "int" = some none)
    (y_isinstance : PySem.W.nsIn K mainGlobals "isinstance" = some none)
    (y_len : PySem.W.nsIn K mainGlobals "len" = some none)
    (y_list : PySem.W.nsIn K mainGlobals "list" = some none)
    (y_max : PySem.W.nsIn K mainGlobals "max" = some none)
    (y_min : PySem.W.nsIn K mainGlobals "min" = some none)
    (y_range : PySem.W.nsIn K mainGlobals "range" = some none)
    (y_sorted : PySem.W.nsIn K mainGlobals "sorted" = some none)
    (y_str : PySem.W.nsIn K mainGlobals "str" = some none)
    (y_tuple : PySem.W.nsIn K mainGlobals "tuple" = some none)
    : ∃ fd : FuncData, (∀ (s : Shared) (v : Value), BindsTo s fd ⟨[v], []⟩ [("script", v)]) ∧ ∀ base : Heap, K.In base → base.Ns mainGlobals mg → FnOk P w K mg base CX0 13 fa fd ["script"] (spLaw K d_law) := by
  have e := hfa.symm.trans (PySem.W.mg_of X G a16)
  cases e
  have z_all := PySem.W.mg_none_of X G y_all
  have z_bool := PySem.W.mg_none_of X G y_bool
  have z_enumerate := PySem.W.mg_none_of X G y_enumerate
  have z_int := PySem.W.mg_none_of X G y_int
  have z_isinstance := PySem.W.mg_none_of X G y_isinstance
  have z_len := PySem.W.mg_none_of X G y_len
  have z_list := PySem.W.mg_none_of X G y_list
  have z_max := PySem.W.mg_none_of X G y_max
  have z_min := PySem.W.mg_none_of X G y_min
  have z_range := PySem.W.mg_none_of X G y_range
  have z_sorted := PySem.W.mg_none_of X G y_sorted
  have z_str := PySem.W.mg_none_of X G y_str
  have z_tuple := PySem.W.mg_none_of X G y_tuple
  have F0 := fun_mk (st := s__law_numbers) l0 c0 k0
  have b0 := F0.binds (ps := ["cell", "count", "limit"]) fun _ _ _ _ _ _ us hl => match us, hl with | [_, _, _], _ => rfl
  have g0 := PySem.W.mg_of X G a0
  have F1 := fun_mk (st := s__law_given) l1 c1 k1
  have b1 := F1.binds (ps := ["loans"]) fun _ _ _ _ _ _ us hl => match us, hl with | [_], _ => rfl
  have g1 := PySem.W.mg_of X G a1
  have F2 := fun_mk (st := s__law_out_on) l2 c2 k2
  have b2 := F2.binds (ps := ["loans", "day"]) fun _ _ _ _ _ _ us hl => match us, hl with | [_, _], _ => rfl
  have g2 := PySem.W.mg_of X G a2
  have F3 := fun_mk (st := s__law_copies_due) l3 c3 k3
  have b3 := F3.binds (ps := ["loans"]) fun _ _ _ _ _ _ us hl => match us, hl with | [_], _ => rfl
  have g3 := PySem.W.mg_of X G a3
  have F4 := fun_mk (st := s__law_bent_copies) l4 c4 k4
  have b4 := F4.binds (ps := ["told", "draws"]) fun _ _ _ _ _ _ us hl => match us, hl with | [_, _], _ => rfl
  have g4 := PySem.W.mg_of X G a4
  have F5 := fun_mk (st := s__law_cell) l5 c5 k5
  have b5 := F5.binds (ps := ["script", "k"]) fun _ _ _ _ _ _ us hl => match us, hl with | [_, _], _ => rfl
  have g5 := PySem.W.mg_of X G a5
  have F6 := fun_mk (st := s_is_out) l6 c6 k6
  have b6 := F6.binds (ps := ["loan", "day"]) fun _ _ _ _ _ _ us hl => match us, hl with | [_, _], _ => rfl
  have g6 := PySem.W.mg_of X G a6
  have F7 := fun_mk (st := s_free_copy) l7 c7 k7
  have b7 := F7.binds (ps := ["taken", "day"]) fun _ _ _ _ _ _ us hl => match us, hl with | [_, _], _ => rfl
  have g7 := PySem.W.mg_of X G a7
  have F8 := fun_mk (st := s_given_copies) l8 c8 k8
  have b8 := F8.binds (ps := ["loans"]) fun _ _ _ _ _ _ us hl => match us, hl with | [_], _ => rfl
  have g8 := PySem.W.mg_of X G a8
  have F9 := fun_mk (st := s_out_on) l9 c9 k9
  have b9 := F9.binds (ps := ["loans", "day"]) fun _ _ _ _ _ _ us hl => match us, hl with | [_, _], _ => rfl
  have g9 := PySem.W.mg_of X G a9
  have F10 := fun_mk (st := s_find_copies) l10 c10 k10
  have b10 := F10.binds (ps := ["loans"]) fun _ _ _ _ _ _ us hl => match us, hl with | [_], _ => rfl
  have g10 := PySem.W.mg_of X G a10
  have F11 := fun_mk (st := s_both_out) l11 c11 k11
  have b11 := F11.binds (ps := ["one", "other"]) fun _ _ _ _ _ _ us hl => match us, hl with | [_, _], _ => rfl
  have g11 := PySem.W.mg_of X G a11
  have F12 := fun_mk (st := s_are_apart) l12 c12 k12
  have b12 := F12.binds (ps := ["loans", "count", "copies"]) fun _ _ _ _ _ _ us hl => match us, hl with | [_, _, _], _ => rfl
  have g12 := PySem.W.mg_of X G a12
  have F13 := fun_mk (st := s_judge_copies) l13 c13 k13
  have b13 := F13.binds (ps := ["loans", "verdict"]) fun _ _ _ _ _ _ us hl => match us, hl with | [_, _], _ => rfl
  have g13 := PySem.W.mg_of X G a13
  have F14 := fun_mk (st := s__law_same) l14 c14 k14
  have b14 := F14.binds (ps := ["told", "due"]) fun _ _ _ _ _ _ us hl => match us, hl with | [_, _], _ => rfl
  have g14 := PySem.W.mg_of X G a14
  have F15 := fun_mk (st := s__law_copies_fit) l15 c15 k15
  have b15 := F15.binds (ps := ["loans", "paper"]) fun _ _ _ _ _ _ us hl => match us, hl with | [_, _], _ => rfl
  have g15 := PySem.W.mg_of X G a15
  have F16 := fun_mk (st := s_law) l16 c16 k16
  refine ⟨PySem.W.fnOf "law" "law" (defArgs s_law) (defBody s_law) (defScope s_law) .none kV16 dc16 pm16 an16 cd16 ct16, fun s v => .of_eq rfl, fun base _ _ => ?_⟩
  have C__law_numbers : Dl.Callee P w K mg base "_law_numbers" ["cell", "count", "limit"] 1 (spF K (f3 d__law_numbers)) := ⟨_, _, ok__law_numbers z_all z_bool z_enumerate z_int z_isinstance z_len z_list z_max z_min z_range z_sorted z_str z_tuple F0 , g0, F0.kp, b0⟩
  have C__law_given : Dl.Callee P w K mg base "_law_given" ["loans"] 1 (spF K (f1 d__law_given)) := ⟨_, _, ok__law_given z_all z_bool z_enumerate z_int z_isinstance z_len z_list z_max z_min z_range z_sorted z_str z_tuple F1 , g1, F1.kp, b1⟩
  have C__law_out_on : Dl.Callee P w K mg base "_law_out_on" ["loans", "day"] 1 (spD K (f2 d__law_out_on)) := ⟨_, _, ok__law_out_on z_all z_bool z_enumerate z_int z_isinstance z_len z_list z_max z_min z_range z_sorted z_str z_tuple F2 , g2, F2.kp, b2⟩
  have C__law_copies_due : Dl.Callee P w K mg base "_law_copies_due" ["loans"] 2 (spD K (f1 d__law_copies_due)) := ⟨_, _, ok__law_copies_due z_all z_bool z_enumerate z_int z_isinstance z_len z_list z_max z_min z_range z_sorted z_str z_tuple F3 C__law_given C__law_out_on, g3, F3.kp, b3⟩
  have C__law_bent_copies : Dl.Callee P w K mg base "_law_bent_copies" ["told", "draws"] 1 (spF K (f2 d__law_bent_copies)) := ⟨_, _, ok__law_bent_copies z_all z_bool z_enumerate z_int z_isinstance z_len z_list z_max z_min z_range z_sorted z_str z_tuple F4 , g4, F4.kp, b4⟩
  have C__law_cell : Dl.Callee P w K mg base "_law_cell" ["script", "k"] 1 (spCell K) := ⟨_, _, ok__law_cell z_len z_int F5, g5, F5.kp, b5⟩
  have C_is_out : Dl.Callee P w K mg base "is_out" ["loan", "day"] 1 (spD K (f2 d_is_out)) := ⟨_, _, ok_is_out z_all z_bool z_enumerate z_int z_isinstance z_len z_list z_max z_min z_range z_sorted z_str z_tuple F6 , g6, F6.kp, b6⟩
  have C_free_copy : Dl.Callee P w K mg base "free_copy" ["taken", "day"] 2 (spD K (f2 d_free_copy)) := ⟨_, _, ok_free_copy z_all z_bool z_enumerate z_int z_isinstance z_len z_list z_max z_min z_range z_sorted z_str z_tuple F7 C_is_out, g7, F7.kp, b7⟩
  have C_given_copies : Dl.Callee P w K mg base "given_copies" ["loans"] 3 (spF K (f1 d_given_copies)) := ⟨_, _, ok_given_copies z_all z_bool z_enumerate z_int z_isinstance z_len z_list z_max z_min z_range z_sorted z_str z_tuple F8 C_free_copy, g8, F8.kp, b8⟩
  have C_out_on : Dl.Callee P w K mg base "out_on" ["loans", "day"] 2 (spD K (f2 d_out_on)) := ⟨_, _, ok_out_on z_all z_bool z_enumerate z_int z_isinstance z_len z_list z_max z_min z_range z_sorted z_str z_tuple F9 C_is_out, g9, F9.kp, b9⟩
  have C_find_copies : Dl.Callee P w K mg base "find_copies" ["loans"] 4 (spN K 1 (f1 d_find_copies)) := ⟨_, _, ok_find_copies z_all z_bool z_enumerate z_int z_isinstance z_len z_list z_max z_min z_range z_sorted z_str z_tuple F10 C_given_copies C_out_on, g10, F10.kp, b10⟩
  have C_both_out : Dl.Callee P w K mg base "both_out" ["one", "other"] 1 (spD K (f2 d_both_out)) := ⟨_, _, ok_both_out z_all z_bool z_enumerate z_int z_isinstance z_len z_list z_max z_min z_range z_sorted z_str z_tuple F11 , g11, F11.kp, b11⟩
  have C_are_apart : Dl.Callee P w K mg base "are_apart" ["loans", "count", "copies"] 2 (spD K (f3 d_are_apart)) := ⟨_, _, ok_are_apart z_all z_bool z_enumerate z_int z_isinstance z_len z_list z_max z_min z_range z_sorted z_str z_tuple F12 C_both_out, g12, F12.kp, b12⟩
  have C_judge_copies : Dl.Callee P w K mg base "judge_copies" ["loans", "verdict"] 3 (spD K (f2 d_judge_copies)) := ⟨_, _, ok_judge_copies z_all z_bool z_enumerate z_int z_isinstance z_len z_list z_max z_min z_range z_sorted z_str z_tuple F13 C_are_apart C_out_on, g13, F13.kp, b13⟩
  have C__law_same : Dl.Callee P w K mg base "_law_same" ["told", "due"] 12 (spD K (f2 (d__law_same 12))) := ⟨_, _, ok__law_same z_all z_bool z_enumerate z_int z_isinstance z_len z_list z_max z_min z_range z_sorted z_str z_tuple F14 g14 b14  12, g14, F14.kp, b14⟩
  have C__law_copies_fit : Dl.Callee P w K mg base "_law_copies_fit" ["loans", "paper"] 2 (spD K (f2 d__law_copies_fit)) := ⟨_, _, ok__law_copies_fit z_all z_bool z_enumerate z_int z_isinstance z_len z_list z_max z_min z_range z_sorted z_str z_tuple F15 C__law_out_on, g15, F15.kp, b15⟩
  exact ok_law z_all z_bool z_enumerate z_int z_isinstance z_len z_list z_max z_min z_range z_sorted z_str z_tuple F16 C__law_bent_copies C__law_cell C__law_copies_due C__law_copies_fit C__law_numbers C__law_same C_find_copies C_judge_copies
end Wk0
open PySem PySem.W PyProof.Rows
set_option maxHeartbeats 0 in
theorem PySem.Challenge.cw_nobodywaits_k34_whole_copies_as_many_as_holds : PySem.Challenge.rw_nobodywaits_k34_whole_copies_as_many_as.Holds := by
  w_on; o_law; k_head; (case hw => w_witness2)
  k_fill
  refine L2.walk_of (l := PySem.Challenge.rw_nobodywaits_k34_whole_copies_as_many_as) (n := 63) (k := 13) (x := "script") (CX := fun _ => L2.CX0) (sp := fun w => Dl.spLaw _ Wk0.d_law) rfl (by decide) rfl ⟨rfl, by decide, by decide⟩ (fun w h Y => PySem.W.kIn_of Y) ?F (fun _ _ a ns hl _ hS => ⟨a, ns, rfl, hS, hl, Wk0.law_true ns hl, fun _ => rfl⟩) (fun _ _ _ _ _ h => h)
  case F =>
    intro w mg fa h KX G hmg
    refine' Wk0.all_mk KX G hmg ?a0 ?l0 ?c0 ?k0 ?a1 ?l1 ?c1 ?k1 ?a2 ?l2 ?c2 ?k2 ?a3 ?l3 ?c3 ?k3 ?a4 ?l4 ?c4 ?k4 ?a5 ?l5 ?c5 ?k5 ?a6 ?l6 ?c6 ?k6 ?a7 ?l7 ?c7 ?k7 ?a8 ?l8 ?c8 ?k8 ?a9 ?l9 ?c9 ?k9 ?a10 ?l10 ?c10 ?k10 ?a11 ?l11 ?c11 ?k11 ?a12 ?l12 ?c12 ?k12 ?a13 ?l13 ?c13 ?k13 ?a14 ?l14 ?c14 ?k14 ?a15 ?l15 ?c15 ?k15 ?a16 ?l16 ?c16 ?k16 ?y_all ?y_bool ?y_enumerate ?y_int ?y_isinstance ?y_len ?y_list ?y_max ?y_min ?y_range ?y_sorted ?y_str ?y_tuple
    (case a0 => k_is)
    (case l0 => k_is)
    (case c0 => k_is)
    (case k0 => k_is)
    (case a1 => k_is)
    (case l1 => k_is)
    (case c1 => k_is)
    (case k1 => k_is)
    (case a2 => k_is)
    (case l2 => k_is)
    (case c2 => k_is)
    (case k2 => k_is)
    (case a3 => k_is)
    (case l3 => k_is)
    (case c3 => k_is)
    (case k3 => k_is)
    (case a4 => k_is)
    (case l4 => k_is)
    (case c4 => k_is)
    (case k4 => k_is)
    (case a5 => k_is)
    (case l5 => k_is)
    (case c5 => k_is)
    (case k5 => k_is)
    (case a6 => k_is)
    (case l6 => k_is)
    (case c6 => k_is)
    (case k6 => k_is)
    (case a7 => k_is)
    (case l7 => k_is)
    (case c7 => k_is)
    (case k7 => k_is)
    (case a8 => k_is)
    (case l8 => k_is)
    (case c8 => k_is)
    (case k8 => k_is)
    (case a9 => k_is)
    (case l9 => k_is)
    (case c9 => k_is)
    (case k9 => k_is)
    (case a10 => k_is)
    (case l10 => k_is)
    (case c10 => k_is)
    (case k10 => k_is)
    (case a11 => k_is)
    (case l11 => k_is)
    (case c11 => k_is)
    (case k11 => k_is)
    (case a12 => k_is)
    (case l12 => k_is)
    (case c12 => k_is)
    (case k12 => k_is)
    (case a13 => k_is)
    (case l13 => k_is)
    (case c13 => k_is)
    (case k13 => k_is)
    (case a14 => k_is)
    (case l14 => k_is)
    (case c14 => k_is)
    (case k14 => k_is)
    (case a15 => k_is)
    (case l15 => k_is)
    (case c15 => k_is)
    (case k15 => k_is)
    (case a16 => k_is)
    (case l16 => k_is)
    (case c16 => k_is)
    (case k16 => k_is)
    (case y_all => k_is)
    (case y_bool => k_is)
    (case y_enumerate => k_is)
    (case y_int => k_is)
    (case y_isinstance => k_is)
    (case y_len => k_is)
    (case y_list => k_is)
    (case y_max => k_is)
    (case y_min => k_is)
    (case y_range => k_is)
    (case y_sorted => k_is)
    (case y_str => k_is)
    (case y_tuple => k_is)

