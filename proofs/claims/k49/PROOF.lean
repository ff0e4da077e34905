import PyProof.Rows.All
import HandS.ForMost
import HandS.Evl
import HandS.Flow
import HandS.Deep
import HandS.TupAny
import HandS.Rev
import HandS.Zip
import KE.Datum
import KE.SortData
import HandS.Style
import HandS.Conv
import HandS.IsInst
import HandS.Text
import KE.DataCmp
import KE.DataEq
import KE.DataFind
import KE.DataMinMax
import KE.DataAny
import HandS.Walk
import HandS.Iter
import PySem.Challenge.RW_nobodywaits_k49_whole_orders_of_mixed_co
set_option Elab.async false
set_option linter.all false
set_option maxRecDepth 100000
set_option maxHeartbeats 4000000
/-! Data layer, part 1: plain data over the heap; two worlds (what stays, what is); expressions by what data they give. -/
namespace Dl
open PySem L2 PySem.Spec PyProof.Rows
open Evl (Ex)

abbrev D := PyData

/-! ### a value that stands for data, in a heap where what it leans on never changes -/
mutual
inductive Rep (K : PySem.W.Frag) (B : Hp) : V → D → Prop
  | non : Rep K B .non .none
  | bl (b : Bool) : Rep K B (.bl b) (.bool b)
  | int (i : Int) : Rep K B (.int i) (.int i)
  | str (x : Str) : Rep K B (.str x) (.str x)
  | lst {a : Addr} {xs : List V} {ds : List D} : B a = some (.lst xs) → Reps K B xs ds → Rep K B (.ref a) (.list ds)
  | tup {a : Addr} {xs : List V} {ds : List D} : SqT K B a xs → Reps K B xs ds → Rep K B (.ref a) (.tuple ds)
inductive Reps (K : PySem.W.Frag) (B : Hp) : List V → List D → Prop
  | nil : Reps K B [] []
  | cons {v : V} {vs : List V} {d : D} {ds : List D} : Rep K B v d → Reps K B vs ds → Reps K B (v :: vs) (d :: ds)
end

section
variable {K : PySem.W.Frag} {B H B' H' B2 H2 : Hp}
mutual
theorem Rep.up (e : Ex B H) : ∀ {v : V} {d : D}, Rep K B v d → Rep K H v d
  | _, _, .non => .non
  | _, _, .bl b => .bl b
  | _, _, .int i => .int i
  | _, _, .str x => .str x
  | _, _, .lst h r => .lst (e _ _ h) (Reps.up e r)
  | _, _, .tup h r => .tup (Evl.ex_t e h) (Reps.up e r)
theorem Reps.up (e : Ex B H) : ∀ {vs : List V} {ds : List D}, Reps K B vs ds → Reps K H vs ds
  | _, _, .nil => .nil
  | _, _, .cons h r => .cons (Rep.up e h) (Reps.up e r)
end
mutual
theorem Rep.dp : ∀ {v : V} {d : D}, Rep K B v d → Dp K B v d
  | _, _, .non => .non
  | _, _, .bl b => .bl b
  | _, _, .int i => .int i
  | _, _, .str x => .str x
  | _, _, .lst h r => .lst (.inl (.inl h)) (Reps.dp r)
  | _, _, .tup h r => .tup h (Reps.dp r)
theorem Reps.dp : ∀ {vs : List V} {ds : List D}, Reps K B vs ds → DpAll K B vs ds
  | _, _, .nil => .nil
  | _, _, .cons h r => .cons (Rep.dp h) (Reps.dp r)
end
theorem Reps.len : ∀ {vs : List V} {ds : List D}, Reps K B vs ds → vs.length = ds.length
  | _, _, .nil => rfl
  | _, _, .cons _ r => by simp [Reps.len r]
theorem Reps.app : ∀ {vs us : List V} {ds es : List D}, Reps K B vs ds → Reps K B us es → Reps K B (vs ++ us) (ds ++ es)
  | _, _, _, _, .nil, r => r
  | _, _, _, _, .cons h t, r => .cons h (Reps.app t r)
theorem Reps.at : ∀ {vs : List V} {ds : List D} {i : Nat} {d : D}, Reps K B vs ds → ds[i]? = some d → ∃ v, vs[i]? = some v ∧ Rep K B v d
  | _, _, _, _, .nil, h => by simp at h
  | _, _, 0, _, .cons h _, e => by simp at e; subst e; exact ⟨_, rfl, h⟩
  | _, _, i + 1, d, .cons _ r, e => by
    obtain ⟨v, h1, h2⟩ := Reps.at (i := i) (d := d) r (by simpa using e)
    exact ⟨v, by simpa using h1, h2⟩
theorem Reps.atV : ∀ {vs : List V} {ds : List D} {i : Nat} {v : V}, Reps K B vs ds → vs[i]? = some v → ∃ d, ds[i]? = some d ∧ Rep K B v d
  | _, _, _, _, .nil, h => by simp at h
  | _, _, 0, _, .cons h _, e => by simp at e; subst e; exact ⟨_, rfl, h⟩
  | _, _, i + 1, v, .cons _ r, e => by
    obtain ⟨d, h1, h2⟩ := Reps.atV (i := i) (v := v) r (by simpa using e)
    exact ⟨d, by simpa using h1, h2⟩
theorem Reps.take : ∀ {vs : List V} {ds : List D} (n : Nat), Reps K B vs ds → Reps K B (vs.take n) (ds.take n)
  | _, _, 0, _ => .nil
  | _, _, _ + 1, .nil => .nil
  | _, _, n + 1, .cons h r => .cons h (Reps.take n r)
theorem Reps.drop : ∀ {vs : List V} {ds : List D} (n : Nat), Reps K B vs ds → Reps K B (vs.drop n) (ds.drop n)
  | _, _, 0, r => r
  | _, _, _ + 1, .nil => .nil
  | _, _, n + 1, .cons _ r => Reps.drop n r
theorem Reps.set {x : V} {d : D} (q : Rep K B x d) : ∀ {vs : List V} {ds : List D} (i : Nat), Reps K B vs ds → Reps K B (vs.set i x) (ds.set i d)
  | _, _, _, .nil => .nil
  | _, _, 0, .cons _ r => .cons q r
  | _, _, i + 1, .cons h r => .cons h (Reps.set q i r)
theorem Reps.rev : ∀ {vs : List V} {ds : List D}, Reps K B vs ds → Reps K B vs.reverse ds.reverse
  | _, _, .nil => .nil
  | _, _, .cons h r => by
    rw [List.reverse_cons, List.reverse_cons]
    exact (Reps.rev r).app (.cons h .nil)
theorem Reps.ints : ∀ {ns : List Int} {vs : List V}, Reps K B vs (ns.map PyData.int) → vs = ns.map V.int
  | [], _, .nil => rfl
  | n :: r, _, .cons h t => by cases h; rw [Reps.ints t]; rfl
theorem Reps.of_ints : ∀ (ns : List Int), Reps K B (ns.map V.int) (ns.map PyData.int)
  | [] => .nil
  | n :: r => .cons (.int n) (Reps.of_ints r)
theorem Reps.bools : ∀ {bs : List Bool} {vs : List V}, Reps K B vs (bs.map PyData.bool) → vs = bs.map V.bl
  | [], _, .nil => rfl
  | n :: r, _, .cons h t => by cases h; rw [Reps.bools t]; rfl
theorem Reps.of_bools : ∀ (ns : List Bool), Reps K B (ns.map V.bl) (ns.map PyData.bool)
  | [] => .nil
  | n :: r => .cons (.bl n) (Reps.of_bools r)
theorem Reps.strs : ∀ {bs : List Str} {vs : List V}, Reps K B vs (bs.map PyData.str) → vs = bs.map V.str
  | [], _, .nil => rfl
  | n :: r, _, .cons h t => by cases h; rw [Reps.strs t]; rfl
theorem Reps.of_strs : ∀ (ns : List Str), Reps K B (ns.map V.str) (ns.map PyData.str)
  | [] => .nil
  | n :: r => .cons (.str n) (Reps.of_strs r)

/-! ### two worlds: B stays for ever, H is the heap; B' and H' behind -/
def Nx (B H B' H' : Hp) : Prop := Ex B B' ∧ Ex H H' ∧ Ex B' H' ∧ ∀ a, H a ≠ none → B a = none → B' a = none
theorem Nx.refl (h : Ex B H) : Nx B H B H := ⟨Ex.refl B, Ex.refl H, h, fun _ _ e => e⟩
theorem Nx.trans (x : Nx B H B' H') (y : Nx B' H' B2 H2) : Nx B H B2 H2 := ⟨x.1.trans y.1, x.2.1.trans y.2.1, y.2.2.1, fun a h b => by
  have h' : H' a ≠ none := fun z => by
    cases q : H a with
    | none => exact h q
    | some o => rw [x.2.1 a o q] at z; cases z
  exact y.2.2.2 a h' (x.2.2.2 a h b)⟩
theorem Ex.none {p : Addr} (e : Ex B H) (h : H p = none) : B p = none := Evl.fresh_back e h
/-- a new object that will never change -/
theorem Nx.new {p : Addr} {o : HO} (e : Ex B H) (hp : H p = none) : Nx B H (upd B p o) (upd H p o) := by
  refine ⟨Ex.new (Ex.none e hp), Ex.new hp, fun a u z => ?_, fun a h b => ?_⟩
  · by_cases ha : a = p
    · subst ha; rw [upd_same] at z ⊢; exact z
    · rw [upd_ne ha] at z ⊢; exact e a u z
  · have ha : a ≠ p := fun z => h (by rw [z]; exact hp)
    rw [upd_ne ha]; exact b
/-- a new object that may still change -/
theorem Nx.own {p : Addr} {o : HO} (e : Ex B H) (hp : H p = none) : Nx B H B (upd H p o) := by
  refine ⟨Ex.refl B, Ex.new hp, fun a u z => ?_, fun a h b => b⟩
  have ha : a ≠ p := fun y => by rw [y, Ex.none e hp] at z; cases z
  rw [upd_ne ha]; exact e a u z
theorem Nx.lst {p : Addr} {vs : List V} {ds : List D} (r : Reps K B vs ds) (e : Ex B H) (hp : H p = none) : Rep K (upd B p (.lst vs)) (.ref p) (.list ds) :=
  .lst upd_same (Reps.up (Ex.new (Ex.none e hp)) r)
theorem Nx.tup {p : Addr} {vs : List V} {ds : List D} (r : Reps K B vs ds) (e : Ex B H) (hp : H p = none) : Rep K (upd B p (.tup vs)) (.ref p) (.tuple ds) :=
  .tup (.inl (.inl upd_same)) (Reps.up (Ex.new (Ex.none e hp)) r)
/-- a list just made is frozen -/
theorem Nx.freeze {p : Addr} {vs : List V} (n : Nx B H B' H') (hp : H p = none) (hb : B' p = none) (hh : H' p = some (.lst vs)) : Nx B H (upd B' p (.lst vs)) H' := by
  refine ⟨n.1.trans (Ex.new hb), n.2.1, fun a u z => ?_, fun a h b => ?_⟩
  · by_cases ha : a = p
    · subst ha; rw [upd_same] at z; rw [hh]; exact z
    · rw [upd_ne ha] at z; exact n.2.2.1 a u z
  · have ha : a ≠ p := fun z => h (by rw [z]; exact hp)
    rw [upd_ne ha]; exact n.2.2.2 a h b
end

/-! ### slots -/
inductive Sl where
  | no
  | val (d : D)
  | own (ds : List D)
  | scr (ns : List Int)
abbrev Env := List Sl

structure Holds (K : PySem.W.Frag) (B0 H0 : Hp) (ρ : Env) (σ : L2.St) (B H : Hp) : Prop where
  nx : Nx B0 H0 B H
  len : σ.length = ρ.length
  val : ∀ (i : Nat) (d : D), ρ[i]? = some (.val d) → ∃ v, σ[i]? = some (some v) ∧ Rep K B v d
  own : ∀ (i : Nat) (ds : List D), ρ[i]? = some (.own ds) → ∃ p vs, σ[i]? = some (some (.ref p)) ∧ H0 p = none ∧ B p = none ∧ H p = some (.lst vs) ∧ Reps K B vs ds
  scr : ∀ (i : Nat) (ns : List Int), ρ[i]? = some (.scr ns) → ∃ a, σ[i]? = some (some (.ref a)) ∧ SqL K B a (ns.map V.int)
  apart : ∀ (i j : Nat) (ds es : List D) (p : Addr), ρ[i]? = some (.own ds) → ρ[j]? = some (.own es) → σ[i]? = some (some (.ref p)) → σ[j]? = some (some (.ref p)) → i = j

section
variable {K : PySem.W.Frag} {B0 H0 B H B' H' : Hp} {ρ ρ' : Env} {σ : L2.St} {i : Nat} {v : V} {d : D}
theorem Holds.ex (h : Holds K B0 H0 ρ σ B H) : Ex B H := h.nx.2.2.1
theorem Holds.step (h : Holds K B0 H0 ρ σ B H) (n : Nx B H B' H') : Holds K B0 H0 ρ σ B' H' where
  nx := h.nx.trans n
  len := h.len
  val := fun i d e => by
    obtain ⟨v, h1, h2⟩ := h.val i d e
    exact ⟨v, h1, h2.up n.1⟩
  own := fun i ds e => by
    obtain ⟨p, vs, h1, h2, h3, h4, h5⟩ := h.own i ds e
    exact ⟨p, vs, h1, h2, n.2.2.2 p (by rw [h4]; simp) h3, n.2.1 p _ h4, h5.up n.1⟩
  scr := fun i ns e => by
    obtain ⟨a, h1, h2⟩ := h.scr i ns e
    exact ⟨a, h1, Evl.ex_l n.1 h2⟩
  apart := h.apart
theorem getset {α : Type} {l : List α} {i j : Nat} {x y : α} (h : (l.set i x)[j]? = some y) : (j = i ∧ x = y) ∨ (j ≠ i ∧ l[j]? = some y) := by
  by_cases e : i = j
  · subst e
    by_cases hl : i < l.length
    · rw [List.getElem?_set_self hl] at h
      exact .inl ⟨rfl, Option.some.inj h⟩
    · rw [List.getElem?_eq_none (by simpa using hl)] at h; cases h
  · rw [List.getElem?_set_ne e] at h
    exact .inr ⟨fun z => e z.symm, h⟩
/-- a slot is stored -/
theorem Holds.setv (h : Holds K B0 H0 ρ σ B H) (r : Rep K B v d) : Holds K B0 H0 (ρ.set i (.val d)) (σ.set i (some v)) B H where
  nx := h.nx
  len := by rw [List.length_set, List.length_set]; exact h.len
  val := fun j e q => by
    rcases getset q with ⟨rfl, z⟩ | ⟨ne, z⟩
    · cases z
      have hl : j < σ.length := by
        have := (List.getElem?_eq_some_iff.mp q).1
        rw [List.length_set] at this
        rw [h.len]; exact this
      exact ⟨v, List.getElem?_set_self hl, r⟩
    · rw [List.getElem?_set_ne (fun z => ne z.symm)]
      exact h.val j e z
  own := fun j ds q => by
    rcases getset q with ⟨_, z⟩ | ⟨ne, z⟩
    · cases z
    · rw [List.getElem?_set_ne (fun z => ne z.symm)]
      exact h.own j ds z
  scr := fun j ns q => by
    rcases getset q with ⟨_, z⟩ | ⟨ne, z⟩
    · cases z
    · rw [List.getElem?_set_ne (fun z => ne z.symm)]
      exact h.scr j ns z
  apart := fun j k ds es p q1 q2 q3 q4 => by
    rcases getset q1 with ⟨_, z⟩ | ⟨n1, z1⟩
    · cases z
    rcases getset q2 with ⟨_, z⟩ | ⟨n2, z2⟩
    · cases z
    rw [List.getElem?_set_ne (fun z => n1 z.symm)] at q3
    rw [List.getElem?_set_ne (fun z => n2 z.symm)] at q4
    exact h.apart j k ds es p z1 z2 q3 q4
/-- a slot that holds a list of its own -/
theorem Holds.seto {p : Addr} {vs : List V} {ds : List D} (h : Holds K B0 H0 ρ σ B H) (r : Reps K B vs ds) (h0 : H0 p = none) (hb : B p = none) (hh : H p = some (.lst vs))
    (ap : ∀ (j : Nat) (es : List D), j ≠ i → ρ[j]? = some (.own es) → σ[j]? ≠ some (some (.ref p))) : Holds K B0 H0 (ρ.set i (.own ds)) (σ.set i (some (.ref p))) B H where
  nx := h.nx
  len := by rw [List.length_set, List.length_set]; exact h.len
  val := fun j e q => by
    rcases getset q with ⟨_, z⟩ | ⟨ne, z⟩
    · cases z
    · rw [List.getElem?_set_ne (fun z => ne z.symm)]
      exact h.val j e z
  own := fun j es q => by
    rcases getset q with ⟨rfl, z⟩ | ⟨ne, z⟩
    · cases z
      have hl : j < σ.length := by
        have := (List.getElem?_eq_some_iff.mp q).1
        rw [List.length_set] at this
        rw [h.len]; exact this
      exact ⟨p, vs, List.getElem?_set_self hl, h0, hb, hh, r⟩
    · rw [List.getElem?_set_ne (fun z => ne z.symm)]
      exact h.own j es z
  scr := fun j ns q => by
    rcases getset q with ⟨_, z⟩ | ⟨ne, z⟩
    · cases z
    · rw [List.getElem?_set_ne (fun z => ne z.symm)]
      exact h.scr j ns z
  apart := fun j k es fs q q1 q2 q3 q4 => by
    rcases getset q1 with ⟨e1, z1⟩ | ⟨n1, z1⟩
    · rcases getset q2 with ⟨e2, z2⟩ | ⟨n2, z2⟩
      · rw [e1, e2]
      · exfalso
        rw [List.getElem?_set_ne (fun z => n2 z.symm)] at q4
        rcases getset q3 with ⟨_, z3⟩ | ⟨n3, z3⟩
        · cases z3
          exact ap k fs n2 z2 q4
        · exact n3 e1
    · rw [List.getElem?_set_ne (fun z => n1 z.symm)] at q3
      rcases getset q2 with ⟨e2, z2⟩ | ⟨n2, z2⟩
      · exfalso
        rcases getset q4 with ⟨_, z4⟩ | ⟨n4, z4⟩
        · cases z4
          exact ap j es n1 z1 q3
        · exact n4 e2
      · rw [List.getElem?_set_ne (fun z => n2 z.symm)] at q4
        exact h.apart j k es fs q z1 z2 q3 q4
/-- some slots forgotten -/
inductive Wk : Env → Env → Prop
  | nil : Wk [] []
  | k {x : Sl} {r s : Env} : Wk r s → Wk (x :: r) (x :: s)
  | n {x : Sl} {r s : Env} : Wk r s → Wk (x :: r) (.no :: s)
theorem Wk.at : ∀ {r s : Env}, Wk r s → r.length = s.length ∧ ∀ (i : Nat) (x : Sl), s[i]? = some x → x = .no ∨ r[i]? = some x
  | _, _, .nil => ⟨rfl, fun i x h => by simp at h⟩
  | _, _, .k w => ⟨by simp [w.at.1], fun i x h => by
      cases i with
      | zero => exact .inr h
      | succ i => exact w.at.2 i x (by simpa using h)⟩
  | _, _, .n w => ⟨by simp [w.at.1], fun i x h => by
      cases i with
      | zero => simp at h; exact .inl h.symm
      | succ i => exact w.at.2 i x (by simpa using h)⟩
theorem Wk.refl : ∀ (r : Env), Wk r r
  | [] => .nil
  | _ :: r => .k (Wk.refl r)
theorem Holds.wk (h : Holds K B0 H0 ρ σ B H) (w : Wk ρ ρ') : Holds K B0 H0 ρ' σ B H where
  nx := h.nx
  len := h.len.trans w.at.1
  val := fun i d e => (w.at.2 i _ e).elim (fun z => by cases z) fun z => h.val i d z
  own := fun i d e => (w.at.2 i _ e).elim (fun z => by cases z) fun z => h.own i d z
  scr := fun i d e => (w.at.2 i _ e).elim (fun z => by cases z) fun z => h.scr i d z
  apart := fun i j ds es p e1 e2 => (w.at.2 i _ e1).elim (fun z => by cases z) fun z1 => (w.at.2 j _ e2).elim (fun z => by cases z) fun z2 => h.apart i j ds es p z1 z2
def wipeE (ρ : Env) : List Nat → Env
  | [] => ρ
  | v :: vs => (wipeE ρ vs).set v .no
theorem Holds.wipe1 (h : Holds K B0 H0 ρ σ B H) (j : Nat) : Holds K B0 H0 (ρ.set j .no) (σ.set j none) B H where
  nx := h.nx
  len := by rw [List.length_set, List.length_set]; exact h.len
  val := fun i d e => by
    rcases getset e with ⟨_, z⟩ | ⟨ne, z⟩
    · cases z
    · rw [List.getElem?_set_ne (fun z => ne z.symm)]; exact h.val i d z
  own := fun i d e => by
    rcases getset e with ⟨_, z⟩ | ⟨ne, z⟩
    · cases z
    · rw [List.getElem?_set_ne (fun z => ne z.symm)]; exact h.own i d z
  scr := fun i d e => by
    rcases getset e with ⟨_, z⟩ | ⟨ne, z⟩
    · cases z
    · rw [List.getElem?_set_ne (fun z => ne z.symm)]; exact h.scr i d z
  apart := fun i k ds es p q1 q2 q3 q4 => by
    rcases getset q1 with ⟨_, z⟩ | ⟨n1, z1⟩
    · cases z
    rcases getset q2 with ⟨_, z⟩ | ⟨n2, z2⟩
    · cases z
    rw [List.getElem?_set_ne (fun z => n1 z.symm)] at q3
    rw [List.getElem?_set_ne (fun z => n2 z.symm)] at q4
    exact h.apart i k ds es p z1 z2 q3 q4
theorem Holds.wipe (h : Holds K B0 H0 ρ σ B H) : ∀ (vs : List Nat), Holds K B0 H0 (wipeE ρ vs) (L2.wipe σ vs) B H
  | [] => h
  | v :: vs => (Holds.wipe h vs).wipe1 v
end
end Dl

/-! Data layer, part 2: judgements of expressions, operators on data. -/
namespace Dl
open PySem L2 PySem.Spec PyProof.Rows
open Evl (Ex)

/-! ### what an expression gives, as data (none: nothing is said) -/
def cT (K : PySem.W.Frag) (ρ : Env) (m : Option D) : TE := fun σ H Q => ∃ B0 H0 B, Holds K B0 H0 ρ σ B H ∧ ∃ d, m = some d ∧ ∀ v B' H', Nx B H B' H' → Rep K B' v d → Q v H'
def cB (K : PySem.W.Frag) (ρ : Env) (m : Option Bool) : TT := fun σ H Q => ∃ B0 H0 B, Holds K B0 H0 ρ σ B H ∧ ∃ b, m = some b ∧ ∀ B' H', Nx B H B' H' → Q b H'
def cA (K : PySem.W.Frag) (ρ : Env) (m : Option (List D)) : TA := fun σ H Q => ∃ B0 H0 B, Holds K B0 H0 ρ σ B H ∧ ∃ ds, m = some ds ∧ ∀ vs B' H', Nx B H B' H' → Reps K B' vs ds → Q vs H'
/-- a list that was just made -/
def cF (K : PySem.W.Frag) (ρ : Env) (m : Option (List D)) : TE := fun σ H Q => ∃ B0 H0 B, Holds K B0 H0 ρ σ B H ∧ ∃ ds, m = some ds ∧
  ∀ p vs B' H', Nx B H B' H' → H p = none → B' p = none → H' p = some (.lst vs) → Reps K B' vs ds → Q (.ref p) H'
structure DE (X : Cx) (e : Expr) (ρ : Env) (m : Option D) : Prop where
  pe : PE X e (cT X.K ρ m)
structure DT (X : Cx) (e : Expr) (ρ : Env) (m : Option Bool) : Prop where
  pt : PT X e (cB X.K ρ m)
structure DW (X : Cx) (e : Expr) (ρ : Env) (m : Option Bool) : Prop where
  pw : PW X e (cB X.K ρ m)
structure DA (X : Cx) (es : List Expr) (ρ : Env) (m : Option (List D)) : Prop where
  pa : PA X es (cA X.K ρ m)
structure DF (X : Cx) (e : Expr) (ρ : Env) (m : Option (List D)) : Prop where
  pe : PE X e (cF X.K ρ m)

section
variable {X : Cx} {e a b c : Expr} {es : List Expr} {ρ : Env} {pos : Pos}
theorem peI {t t' : TE} (h : PE X e t) (f : ∀ σ H Q, t' σ H Q → t σ H Q) : PE X e t' := ⟨fun pins s σ H Q I w => h.run pins s σ H Q I (f σ H Q w)⟩
theorem ptI {t t' : TT} (h : PT X e t) (f : ∀ σ H Q, t' σ H Q → t σ H Q) : PT X e t' := ⟨fun pins s σ H Q I w => h.run pins s σ H Q I (f σ H Q w)⟩
theorem pwI {t t' : TT} (h : PW X e t) (f : ∀ σ H Q, t' σ H Q → t σ H Q) : PW X e t' := ⟨fun whole pins s σ H Q I w => h.run whole pins s σ H Q I (f σ H Q w)⟩
theorem paI {t t' : TA} (h : PA X es t) (f : ∀ σ H Q, t' σ H Q → t σ H Q) : PA X es t' := ⟨fun pos pins s σ H Q I w => h.run pos pins s σ H Q I (f σ H Q w)⟩
theorem bind_some {α β : Type} {m : Option α} {f : α → Option β} {b : β} (h : m.bind f = some b) : ∃ a, m = some a ∧ f a = some b := by
  cases m with
  | none => cases h
  | some a => exact ⟨a, rfl, h⟩
theorem DE.of {m n : Option D} (h : DE X e ρ m) (q : m = n) : DE X e ρ n := q ▸ h
theorem DT.of {m n : Option Bool} (h : DT X e ρ m) (q : m = n) : DT X e ρ n := q ▸ h

/-! ### operators, by data -/
abbrev b2 (m n : Option D) (f : D → D → Option D) : Option D := m.bind fun x => n.bind fun y => f x y
def rD (K : PySem.W.Frag) (f : D → D → Option D) : R2 := fun x y H Q => ∃ B d e r, Ex B H ∧ Rep K B x d ∧ Rep K B y e ∧ f d e = some r ∧ ∀ v B' H', Nx B H B' H' → Rep K B' v r → Q v H'
def rD1 (K : PySem.W.Frag) (f : D → Option D) : V → Hp → VK → Prop := fun x H Q => ∃ B d r, Ex B H ∧ Rep K B x d ∧ f d = some r ∧ ∀ v B' H', Nx B H B' H' → Rep K B' v r → Q v H'
def rDL (K : PySem.W.Frag) (f : List D → Option D) : List V → Hp → VK → Prop := fun xs H Q => ∃ B ds r, Ex B H ∧ Reps K B xs ds ∧ f ds = some r ∧ ∀ v B' H', Nx B H B' H' → Rep K B' v r → Q v H'
/-- .. a new list -/
def rDF (K : PySem.W.Frag) (f : List D → Option (List D)) : List V → Hp → VK → Prop := fun xs H Q => ∃ B ds r, Ex B H ∧ Reps K B xs ds ∧ f ds = some r ∧
  ∀ p vs B' H', Nx B H B' H' → H p = none → B' p = none → H' p = some (.lst vs) → Reps K B' vs r → Q (.ref p) H'

theorem tOpD {f : D → D → Option D} {m n : Option D} : ∀ (σ : L2.St) (H : Hp) (Q : VK), cT X.K ρ (b2 m n f) σ H Q → tOp (rD X.K f) (cT X.K ρ m) (cT X.K ρ n) σ H Q := by
  intro σ H Q ⟨B0, H0, B, hh, d, hm, q⟩
  obtain ⟨x, hx, hm⟩ := bind_some hm
  obtain ⟨y, hy, hf⟩ := bind_some hm
  exact ⟨B0, H0, B, hh, x, hx, fun v B1 H1 n1 r1 => ⟨B0, H0, B1, hh.step n1, y, hy, fun u B2 H2 n2 r2 => ⟨B2, x, y, d, n2.2.2.1, r1.up n2.1, r2, hf, fun w B3 H3 n3 r3 => q w B3 H3 ((n1.trans n2).trans n3) r3⟩⟩⟩
theorem de_op {op : Operator} {f : D → D → Option D} {m n : Option D} (ho : OpR X (binaryOp op) (rD X.K f)) (ha : DE X a ρ m) (hb : DE X b ρ n) : DE X (.BinOp a op b pos) ρ (b2 m n f) := ⟨peI (pe_op ho ha.pe hb.pe) tOpD⟩
theorem de_cmp {op : CmpOp} {f : D → D → Option D} {m n : Option D} (ho : OpR X (compareOp op) (rD X.K f)) (ha : DE X a ρ m) (hb : DE X b ρ n) (hm : behindInMarks op b = false) : DE X (.Compare a [op] [b] pos) ρ (b2 m n f) := ⟨peI (pe_cmpR ho ha.pe hb.pe hm) tOpD⟩
theorem de_ix {f : D → D → Option D} {m n : Option D} (hr : IxR X (rD X.K f)) (ha : DE X a ρ m) (hb : DE X b ρ n) (hs : PlainIx b) : DE X (.Subscript a b pos) ρ (b2 m n f) := ⟨peI (pe_ix hr ha.pe hb.pe hs) tOpD⟩
theorem de_un {op : UnaryOp} {f : D → Option D} {m : Option D} (ho : UnR X (unaryOp op) (rD1 X.K f)) (ha : DE X a ρ m) : DE X (.UnaryOp op a pos) ρ (m.bind f) := ⟨peI (pe_un ho ha.pe) (by
  intro σ H Q ⟨B0, H0, B, hh, d, hm, q⟩
  obtain ⟨x, hx, hf⟩ := bind_some hm
  exact ⟨B0, H0, B, hh, x, hx, fun v B1 H1 n1 r1 => ⟨B1, x, d, n1.2.2.1, r1, hf, fun w B3 H3 n3 r3 => q w B3 H3 (n1.trans n3) r3⟩⟩)⟩

/-! ### names, constants -/
def look (ρ : Env) (i : Nat) : Option D := match ρ[i]? with
  | some (.val d) => some d
  | _ => none
theorem look_some {i : Nat} {d : D} (h : look ρ i = some d) : ρ[i]? = some (.val d) := by
  unfold look at h
  split at h
  · rename_i z; cases h; exact z
  · cases h
theorem de_var {i : Nat} {x : Str} {d : D} (hl : look ρ i = some d) (hN : X.N[i]? = some x) (hv : Vis X.env.scope x) (hd : (x == ("__debug__" : Str)) = false) (hcd : (x == ("__classdict__" : Str)) = false) : DE X (.Name x pos) ρ (some d) :=
  ⟨peI (pe_var hN hv hd hcd) (by
    intro σ H Q ⟨B0, H0, B, hh, d', hm, q⟩
    cases hm
    obtain ⟨v, h1, h2⟩ := hh.val i d (look_some hl)
    exact ⟨v, h1, q v B H (Nx.refl hh.ex) h2⟩)⟩
theorem de_c {v : V} {d : D} (h : PE X e (tC v)) (r : ∀ K B, Rep K B v d) : DE X e ρ (some d) := ⟨peI h (by
  intro σ H Q ⟨B0, H0, B, hh, d', hm, q⟩
  cases hm
  exact q v B H (Nx.refl hh.ex) (r _ _))⟩
theorem de_int {i : Int} {j : Nat} : DE X (.Constant (.int i) j pos) ρ (some (.int i)) := de_c pe_int fun _ _ => .int i
theorem de_bl {i : Bool} {j : Nat} : DE X (.Constant (.bool i) j pos) ρ (some (.bool i)) := de_c pe_bl fun _ _ => .bl i
theorem de_non {j : Nat} : DE X (.Constant .none j pos) ρ (some .none) := de_c pe_non fun _ _ => .non
theorem de_str {i : Str} {j : Nat} : DE X (.Constant (.str i) j pos) ρ (some (.str i)) := de_c pe_str fun _ _ => .str i
theorem de_glob {x : Str} {v : V} {d : D} {u : Value} (hg : Gl X x) (hm : X.mg x = some u) (r : RelV v u) (rd : ∀ K B, Rep K B v d) (hd : (x == ("__debug__" : Str)) = false) : DE X (.Name x pos) ρ (some d) := de_c (pe_glob hg hm r hd) rd

/-! ### arguments, displays -/
abbrev c2 (m : Option D) (n : Option (List D)) : Option (List D) := m.bind fun x => n.bind fun xs => some (x :: xs)
theorem da_nil : DA X [] ρ (some []) := ⟨paI pa_nil (by
  intro σ H Q ⟨B0, H0, B, hh, d', hm, q⟩
  cases hm
  exact q [] B H (Nx.refl hh.ex) .nil)⟩
theorem da_cons {m : Option D} {n : Option (List D)} (ha : DE X e ρ m) (hr : DA X es ρ n) (hs : starEach (e :: es) X.env = (false, eval e X.env) :: starEach es X.env) : DA X (e :: es) ρ (c2 m n) := ⟨paI (pa_cons ha.pe hr.pa hs) (by
  intro σ H Q ⟨B0, H0, B, hh, d', hm, q⟩
  obtain ⟨x, hx, hm⟩ := bind_some hm
  obtain ⟨xs, hy, hf⟩ := bind_some hm
  cases hf
  exact ⟨B0, H0, B, hh, x, hx, fun v B1 H1 n1 r1 => ⟨B0, H0, B1, hh.step n1, xs, hy, fun vs B2 H2 n2 r2 => q (v :: vs) B2 H2 (n1.trans n2) (.cons (r1.up n2.1) r2)⟩⟩)⟩
def fit {α : Type} (n : Nat) (x : α) : Option α := if n ≤ 16777216 then some x else none
theorem fit_some {α : Type} {n : Nat} {x y : α} (h : fit n x = some y) : n ≤ sizeLine ∧ x = y := by
  unfold fit at h
  split at h
  · cases h; rw [sizeLine_eq]; exact ⟨by assumption, rfl⟩
  · cases h
theorem fit_ok {α : Type} {n : Nat} {x : α} (h : n ≤ 16777216) : fit n x = some x := if_pos h
theorem de_tup {x1} {m : Option (List D)} (h : DA X es ρ m) : DE X (.Tuple es x1 pos) ρ (m.bind fun xs => fit xs.length (.tuple xs)) := ⟨peI (pe_tup h.pa) (by
  intro σ H Q ⟨B0, H0, B, hh, d', hm, q⟩
  obtain ⟨xs, hx, hf⟩ := bind_some hm
  obtain ⟨hz, rfl⟩ := fit_some hf
  exact ⟨B0, H0, B, hh, xs, hx, fun vs B1 H1 n1 r1 => ⟨by rw [r1.len]; exact hz, fun p hp => q _ _ _ (n1.trans (Nx.new n1.2.2.1 hp)) (Nx.tup r1 n1.2.2.1 hp)⟩⟩)⟩
theorem df_lst {m : Option (List D)} (h : DA X es ρ m) : DF X (.List es pos) ρ (m.bind fun xs => fit xs.length xs) := ⟨peI (pe_lst h.pa) (by
  intro σ H Q ⟨B0, H0, B, hh, d', hm, q⟩
  obtain ⟨xs, hx, hf⟩ := bind_some hm
  obtain ⟨hz, rfl⟩ := fit_some hf
  refine ⟨B0, H0, B, hh, xs, hx, fun vs B1 H1 n1 r1 => ⟨by rw [r1.len]; exact hz, fun p hp => ?_⟩⟩
  exact q p vs B1 _ (n1.trans (Nx.own n1.2.2.1 hp)) (Ex.none n1.2.1 hp) (Ex.none n1.2.2.1 hp) upd_same r1)⟩
theorem DF.de {m : Option (List D)} (h : DF X e ρ m) : DE X e ρ (m.map .list) := ⟨peI h.pe (by
  intro σ H Q ⟨B0, H0, B, hh, d', hm, q⟩
  cases m with
  | none => cases hm
  | some ds =>
    cases hm
    refine ⟨B0, H0, B, hh, ds, rfl, fun p vs B1 H1 n1 hp hb he r1 => ?_⟩
    exact q _ _ _ (n1.freeze hp hb he) (.lst upd_same (r1.up (Ex.new hb))))⟩

/-! ### tests -/
def truth : D → Option Bool
  | .none => some false
  | .bool b => some b
  | .int i => some (i != 0)
  | .str x => if x.length ≤ 16777216 then some ((x.length : Int) != 0) else none
  | .list xs => some (!xs.isEmpty)
  | .tuple xs => some (!xs.isEmpty)
  | .dict _ => none
theorem truth_ok {K : PySem.W.Frag} {B H : Hp} {v : V} {d : D} {k : Bool} (r : Rep K B v d) (e : Ex B H) (h : truth d = some k) : TruV K v H k := by
  cases r with
  | non => cases h; exact (rfl : false = false)
  | bl b => cases h; exact (rfl : k = k)
  | int i => exact (Option.some.inj h).symm
  | str x =>
    simp only [truth] at h
    split at h
    · cases h; exact ⟨by rw [sizeLine_eq]; assumption, rfl⟩
    · cases h
  | lst hl rr =>
    cases h
    refine .inl ⟨_, .inl (.inl (e _ _ hl)), ?_⟩
    have := rr.len
    revert this
    cases rr <;> simp
  | tup hl rr =>
    cases h
    refine .inr (.inl ⟨_, Evl.ex_t e hl, ?_⟩)
    have := rr.len
    revert this
    cases rr <;> simp
theorem dt_truth {m : Option D} (h : DE X e ρ m) (he : ∀ whole, isTrue e X.env whole = (do let v ← whole; standAt e.pos; holding [v] (truthy v))) : DT X e ρ (m.bind truth) := ⟨ptI (pt_truth h.pe he) (by
  intro σ H Q ⟨B0, H0, B, hh, d', hm, q⟩
  obtain ⟨x, hx, hf⟩ := bind_some hm
  exact ⟨B0, H0, B, hh, x, hx, fun v B1 H1 n1 r1 => ⟨d', truth_ok r1 n1.2.2.1 hf, q B1 H1 n1⟩⟩)⟩
def isB : D → Option Bool
  | .bool b => some b
  | _ => none
theorem isB_some {K : PySem.W.Frag} {B : Hp} {v : V} {d : D} {k : Bool} (r : Rep K B v d) (h : isB d = some k) : v = .bl k := by
  cases r <;> simp [isB] at h
  · subst h; rfl
theorem dt_cmp {op : CmpOp} {f : D → D → Option D} {m n : Option D} (ho : OpR X (compareOp op) (rD X.K f)) (ha : DE X a ρ m) (hb : DE X b ρ n) (hm : behindInMarks op b = false) : DT X (.Compare a [op] [b] pos) ρ ((b2 m n f).bind isB) := ⟨ptI (pt_cmpR ho ha.pe hb.pe hm) (by
  intro σ H Q ⟨B0, H0, B, hh, d', hm, q⟩
  obtain ⟨x, hx, hf⟩ := bind_some hm
  refine tOpD σ H _ ⟨B0, H0, B, hh, x, hx, fun v B1 H1 n1 r1 => ?_⟩
  exact ⟨d', isB_some r1 hf, q B1 H1 n1⟩)⟩
theorem dt_not {m : Option Bool} (h : DT X a ρ m) : DT X (.UnaryOp .Not a pos) ρ (m.map (!·)) := ⟨ptI (pt_not h.pt) (by
  intro σ H Q ⟨B0, H0, B, hh, d', hm, q⟩
  cases m with
  | none => cases hm
  | some k => cases hm; exact ⟨B0, H0, B, hh, k, rfl, fun B1 H1 n1 => q B1 H1 n1⟩)⟩
theorem DW.dt {m : Option Bool} (h : DW X e ρ m) : DT X e ρ m := ⟨h.pw.pt⟩
theorem dw_and1 {m : Option Bool} (h : DT X a ρ m) : DW X (.BoolOp .And [a] pos) ρ m := ⟨pw_and1 h.pt⟩
theorem dw_or1 {m : Option Bool} (h : DT X a ρ m) : DW X (.BoolOp .Or [a] pos) ρ m := ⟨pw_or1 h.pt⟩
abbrev andB (m n : Option Bool) : Option Bool := m.bind fun k => if k then n else some false
abbrev orB (m n : Option Bool) : Option Bool := m.bind fun k => if k then some true else n
theorem dw_and {rest : List Expr} {m n : Option Bool} (ha : DT X a ρ m) (hb : DW X (.BoolOp .And (b :: rest) pos) ρ n) : DW X (.BoolOp .And (a :: b :: rest) pos) ρ (andB m n) := ⟨pwI (pw_and ha.pt hb.pw) (by
  intro σ H Q ⟨B0, H0, B, hh, d', hm, q⟩
  obtain ⟨k, hx, hf⟩ := bind_some hm
  refine ⟨B0, H0, B, hh, k, hx, fun B1 H1 n1 => ?_⟩
  cases k with
  | true => exact ⟨B0, H0, B1, hh.step n1, d', hf, fun B2 H2 n2 => q B2 H2 (n1.trans n2)⟩
  | false => cases hf; exact q B1 H1 n1)⟩
theorem dw_or {rest : List Expr} {m n : Option Bool} (ha : DT X a ρ m) (hb : DW X (.BoolOp .Or (b :: rest) pos) ρ n) : DW X (.BoolOp .Or (a :: b :: rest) pos) ρ (orB m n) := ⟨pwI (pw_or ha.pt hb.pw) (by
  intro σ H Q ⟨B0, H0, B, hh, d', hm, q⟩
  obtain ⟨k, hx, hf⟩ := bind_some hm
  refine ⟨B0, H0, B, hh, k, hx, fun B1 H1 n1 => ?_⟩
  cases k with
  | false => exact ⟨B0, H0, B1, hh.step n1, d', hf, fun B2 H2 n2 => q B2 H2 (n1.trans n2)⟩
  | true => cases hf; exact q B1 H1 n1)⟩

/-! ### and, or, not, if as values -/
abbrev andV (m n : Option D) : Option D := m.bind fun x => (truth x).bind fun k => if k then n else some x
abbrev orV (m n : Option D) : Option D := m.bind fun x => (truth x).bind fun k => if k then some x else n
theorem de_one {op} {m : Option D} (h : DE X a ρ m) : DE X (.BoolOp op [a] pos) ρ m := ⟨pe_one h.pe⟩
theorem de_and {rest : List Expr} {m n : Option D} (ha : DE X a ρ m) (hb : DE X (.BoolOp .And (b :: rest) pos) ρ n) : DE X (.BoolOp .And (a :: b :: rest) pos) ρ (andV m n) := ⟨peI (pe_andT ha.pe hb.pe) (by
  intro σ H Q ⟨B0, H0, B, hh, d', hm, q⟩
  obtain ⟨x, hx, hm⟩ := bind_some hm
  obtain ⟨k, hk, hf⟩ := bind_some hm
  refine ⟨B0, H0, B, hh, x, hx, fun v B1 H1 n1 r1 => ⟨k, truth_ok r1 n1.2.2.1 hk, ?_⟩⟩
  cases k with
  | true => exact ⟨B0, H0, B1, hh.step n1, d', hf, fun w B2 H2 n2 r2 => q w B2 H2 (n1.trans n2) r2⟩
  | false => cases hf; exact q v B1 H1 n1 r1)⟩
theorem de_or {rest : List Expr} {m n : Option D} (ha : DE X a ρ m) (hb : DE X (.BoolOp .Or (b :: rest) pos) ρ n) : DE X (.BoolOp .Or (a :: b :: rest) pos) ρ (orV m n) := ⟨peI (pe_orT ha.pe hb.pe) (by
  intro σ H Q ⟨B0, H0, B, hh, d', hm, q⟩
  obtain ⟨x, hx, hm⟩ := bind_some hm
  obtain ⟨k, hk, hf⟩ := bind_some hm
  refine ⟨B0, H0, B, hh, x, hx, fun v B1 H1 n1 r1 => ⟨k, truth_ok r1 n1.2.2.1 hk, ?_⟩⟩
  cases k with
  | false => exact ⟨B0, H0, B1, hh.step n1, d', hf, fun w B2 H2 n2 r2 => q w B2 H2 (n1.trans n2) r2⟩
  | true => cases hf; exact q v B1 H1 n1 r1)⟩
theorem de_not {m : Option D} (h : DE X a ρ m) : DE X (.UnaryOp .Not a pos) ρ (m.bind fun x => (truth x).map fun k => .bool (!k)) := ⟨peI (pe_notT h.pe) (by
  intro σ H Q ⟨B0, H0, B, hh, d', hm, q⟩
  obtain ⟨x, hx, hf⟩ := bind_some hm
  cases hk : truth x with
  | none => rw [hk] at hf; cases hf
  | some k =>
    rw [hk] at hf
    cases hf
    exact ⟨B0, H0, B, hh, x, hx, fun v B1 H1 n1 r1 => ⟨k, truth_ok r1 n1.2.2.1 hk, q _ B1 H1 n1 (.bl _)⟩⟩)⟩
abbrev iteM {α : Type} (c : Option Bool) (m n : Option α) : Option α := c.bind fun k => if k then m else n
theorem de_if {k : Option Bool} {m n : Option D} (hc : DT X c ρ k) (ha : DE X a ρ m) (hb : DE X b ρ n) : DE X (.IfExp c a b pos) ρ (iteM k m n) := ⟨peI (pe_ifExp hc.pt ha.pe hb.pe) (by
  intro σ H Q ⟨B0, H0, B, hh, d', hm, q⟩
  obtain ⟨k, hx, hf⟩ := bind_some hm
  refine ⟨B0, H0, B, hh, k, hx, fun B1 H1 n1 => ?_⟩
  cases k with
  | true => exact ⟨B0, H0, B1, hh.step n1, d', hf, fun w B2 H2 n2 r2 => q w B2 H2 (n1.trans n2) r2⟩
  | false => exact ⟨B0, H0, B1, hh.step n1, d', hf, fun w B2 H2 n2 r2 => q w B2 H2 (n1.trans n2) r2⟩)⟩
end
end Dl

/-! Data layer, part 3: the operators' rules. -/
namespace Dl
open PySem L2 PySem.Spec PyProof.Rows PySem.W PySem.SeqAt
open Evl (Ex)

section
variable {X : Cx} {pins : List (Addr × Obj)} {σ : L2.St} {H B : Hp} {s : Shared}
theorem Rep.reads {v : V} {u : Value} {d : D} {K : PySem.W.Frag} (r : Rep K B v d) (hK : K = X.K) (I : Inv X pins σ H s) (e : Ex B H) (rv : RelV v u) : ∃ as, Reads s.heap u d as := by
  subst hK
  exact (r.up e).dp.reads I d v u rv
mutual
theorem Rep.plain {K : PySem.W.Frag} : ∀ {v : V} {d : D}, Rep K B v d → d.plain = true
  | _, _, .non => rfl
  | _, _, .bl b => rfl
  | _, _, .int i => rfl
  | _, _, .str x => rfl
  | _, _, .lst h r => by rw [PyData.plain]; exact Reps.plain r
  | _, _, .tup h r => by rw [PyData.plain]; exact Reps.plain r
theorem Reps.plain {K : PySem.W.Frag} : ∀ {vs : List V} {ds : List D}, Reps K B vs ds → PyData.plainAll ds = true
  | _, _, .nil => rfl
  | _, _, .cons h r => by rw [PyData.plainAll, Rep.plain h, Reps.plain r]; rfl
end

/-! ### arithmetic -/
def addD : D → D → Option D
  | .int i, .int j => some (.int (i + j))
  | .str a, .str b => fit (a.length + b.length) (.str (a ++ b))
  | .list a, .list b => fit (a.length + b.length) (.list (a ++ b))
  | .tuple a, .tuple b => fit (a.length + b.length) (.tuple (a ++ b))
  | _, _ => none
theorem op_addD : OpR X (binaryOp .Add) (rD X.K addD) := by
  intro pins s σ H x y v u Q I rx ry ⟨B, d, e, r, ex, hd, he, hf, q⟩
  cases hd with
  | int i =>
    cases he with
    | int j => cases hf; exact op_add pins s σ H _ _ v u Q I rx ry ⟨i, j, rfl, rfl, q _ B H (Nx.refl ex) (.int _)⟩
    | _ => simp [addD] at hf
  | str a =>
    cases he with
    | str b =>
      obtain ⟨hz, rfl⟩ := fit_some hf
      exact op_add_str pins s σ H _ _ v u Q I rx ry ⟨a, b, rfl, rfl, hz, q _ B H (Nx.refl ex) (.str _)⟩
    | _ => simp [addD] at hf
  | @lst l xs ds h1 r1 =>
    cases he with
    | @lst b zs es h2 r2 =>
      obtain ⟨hz, rfl⟩ := fit_some hf
      refine op_cat pins s σ H _ _ v u Q I rx ry ⟨l, b, xs, zs, rfl, rfl, ex _ _ h1, ex _ _ h2, by rw [r1.len, r2.len]; exact hz, fun p hp => ?_⟩
      exact q _ _ _ (Nx.new ex hp) (Nx.lst (r1.app r2) ex hp)
    | _ => simp [addD] at hf
  | @tup l xs ds h1 r1 =>
    cases he with
    | @tup b zs es h2 r2 =>
      obtain ⟨hz, rfl⟩ := fit_some hf
      have k1 := r1.len
      have k2 := r2.len
      refine op_catA pins s σ H _ _ v u Q I rx ry ⟨l, b, xs, zs, rfl, rfl, Evl.ex_t ex h1, Evl.ex_t ex h2, by rw [k1, k2]; exact hz, fun e => ?_, fun _ e => ?_, fun _ _ p hp => ?_⟩
      · subst e
        cases r1
        exact q _ B H (Nx.refl ex) (.tup h2 r2)
      · subst e
        cases r2
        rw [List.append_nil] at q
        exact q _ B H (Nx.refl ex) (.tup h1 r1)
      · exact q _ _ _ (Nx.new ex hp) (Nx.tup (r1.app r2) ex hp)
    | _ => simp [addD] at hf
  | _ => cases he <;> simp [addD] at hf
def subD : D → D → Option D
  | .int i, .int j => some (.int (i - j))
  | _, _ => none
theorem op_subD : OpR X (binaryOp .Sub) (rD X.K subD) := by
  intro pins s σ H x y v u Q I rx ry ⟨B, d, e, r, ex, hd, he, hf, q⟩
  cases hd with
  | int i =>
    cases he with
    | int j => cases hf; exact op_sub pins s σ H _ _ v u Q I rx ry ⟨i, j, rfl, rfl, q _ B H (Nx.refl ex) (.int _)⟩
    | _ => simp [subD] at hf
  | _ => cases he <;> simp [subD] at hf
def small64 (i : Int) : Prop := -18446744073709551616 < i ∧ i < 18446744073709551616
instance (i : Int) : Decidable (small64 i) := inferInstanceAs (Decidable (_ ∧ _))
def mulD : D → D → Option D
  | .int i, .int j => if small64 i ∨ small64 j then some (.int (i * j)) else none
  | .list a, .int k => if -9223372036854775808 ≤ k ∧ k < 9223372036854775808 ∧ a.length * k.toNat ≤ 16777216 then some (.list (List.replicate k.toNat a).flatten) else none
  | _, _ => none
theorem Reps.rep {K : PySem.W.Frag} {vs : List V} {ds : List D} (r : Reps K B vs ds) : ∀ k : Nat, Reps K B (List.replicate k vs).flatten (List.replicate k ds).flatten
  | 0 => .nil
  | k + 1 => by
    rw [List.replicate_succ, List.replicate_succ, List.flatten_cons, List.flatten_cons]
    exact r.app (Reps.rep r k)
theorem op_mulD : OpR X (binaryOp .Mult) (rD X.K mulD) := by
  intro pins s σ H x y v u Q I rx ry ⟨B, d, e, r, ex, hd, he, hf, q⟩
  cases hd with
  | int i =>
    cases he with
    | int j =>
      simp only [mulD] at hf
      split at hf
      · rename_i hc
        cases hf
        refine op_mul pins s σ H _ _ v u Q I rx ry ⟨i, j, rfl, rfl, ?_, q _ B H (Nx.refl ex) (.int _)⟩
        rcases hc with ⟨h1, h2⟩ | ⟨h1, h2⟩
        · exact .inl ⟨by omega, by omega⟩
        · exact .inr ⟨by omega, by omega⟩
      · cases hf
    | _ => simp [mulD] at hf
  | @lst l xs ds h1 r1 =>
    cases he with
    | int k =>
      simp only [mulD] at hf
      split at hf
      · rename_i hc
        cases hf
        refine op_rep pins s σ H _ _ v u Q I rx ry ⟨l, k, xs, rfl, rfl, ex _ _ h1, by omega, by omega, by rw [r1.len, sizeLine_eq]; exact hc.2.2, fun p hp => ?_⟩
        exact q _ _ _ (Nx.new ex hp) (Nx.lst (r1.rep _) ex hp)
      · cases hf
    | _ => simp [mulD] at hf
  | _ => cases he <;> simp [mulD] at hf

def fdivD : D → D → Option D
  | .int i, .int j => if j ≠ 0 ∧ j.natAbs < 1073741824 then some (.int (i.fdiv j)) else none
  | _, _ => none
theorem op_fdivD : OpR X (binaryOp .FloorDiv) (rD X.K fdivD) := by
  intro pins s σ H x y v u Q I rx ry ⟨B, d, e, r, ex, hd, he, hf, q⟩
  cases hd with
  | int i =>
    cases he with
    | int j =>
      simp only [fdivD] at hf
      split at hf
      · rename_i hc
        cases hf
        exact op_fdivN pins s σ H _ _ v u Q I rx ry ⟨i, j, rfl, rfl, hc, q _ B H (Nx.refl ex) (.int _)⟩
      · cases hf
    | _ => simp [fdivD] at hf
  | _ => cases he <;> simp [fdivD] at hf
def modD : D → D → Option D
  | .int i, .int j => if j ≠ 0 then some (.int (i.fmod j)) else none
  | _, _ => none
theorem op_modD : OpR X (binaryOp .Mod) (rD X.K modD) := by
  intro pins s σ H x y v u Q I rx ry ⟨B, d, e, r, ex, hd, he, hf, q⟩
  cases hd with
  | int i =>
    cases he with
    | int j =>
      simp only [modD] at hf
      split at hf
      · rename_i hc
        cases hf
        exact op_modN pins s σ H _ _ v u Q I rx ry ⟨i, j, rfl, rfl, hc, q _ B H (Nx.refl ex) (.int _)⟩
      · cases hf
    | _ => simp [modD] at hf
  | _ => cases he <;> simp [modD] at hf
def powD : D → D → Option D
  | .int i, .int j => if 0 ≤ j ∧ j ≤ 1000000 ∧ i.natAbs < 18446744073709551616 then some (.int (i ^ j.toNat)) else none
  | _, _ => none
theorem op_powD : OpR X (binaryOp .Pow) (rD X.K powD) := by
  intro pins s σ H x y v u Q I rx ry ⟨B, d, e, r, ex, hd, he, hf, q⟩
  cases hd with
  | int i =>
    cases he with
    | int j =>
      simp only [powD] at hf
      split at hf
      · rename_i hc
        cases hf
        exact op_pow pins s σ H _ _ v u Q I rx ry ⟨i, j, rfl, rfl, ⟨hc.1, hc.2.1, by have := hc.2.2; omega⟩, q _ B H (Nx.refl ex) (.int _)⟩
      · cases hf
    | _ => simp [powD] at hf
  | _ => cases he <;> simp [powD] at hf
def negD : D → Option D
  | .int i => some (.int (-i))
  | _ => none
theorem un_negD : UnR X (unaryOp .USub) (rD1 X.K negD) := by
  intro pins s σ H x v Q I rx ⟨B, d, r, ex, hd, hf, q⟩
  cases hd with
  | int i => cases hf; exact un_neg pins s σ H _ v Q I rx ⟨i, rfl, q _ B H (Nx.refl ex) (.int _)⟩
  | _ => simp [negD] at hf

/-! ### comparisons -/
def shal (d e : D) : Prop := d.depth ≤ 64 ∨ e.depth ≤ 64
instance (d e : D) : Decidable (shal d e) := inferInstanceAs (Decidable (_ ∨ _))
theorem shal_room {A : Around} {d e : D} {k : Nat} (h : shal d e) (hu : A.units + 200 < cLine) (hk : k ≤ 100) : A.units + k + min d.depth e.depth < cLine := by
  rcases h with h | h <;> omega
noncomputable def eqD (d e : D) : Option D := @ite _ (shal d e) (Classical.propDecidable _) (some (.bool (PyData.eqv d e))) none
noncomputable def neD (d e : D) : Option D := @ite _ (shal d e) (Classical.propDecidable _) (some (.bool (!PyData.eqv d e))) none
theorem op_eqD' (hu : X.A.units + 200 < cLine) : OpR X (compareOp .Eq) (rD X.K eqD) := by
  intro pins s σ H x y v u Q I rx ry ⟨B, d, e, r, ex, hd, he, hf, q⟩
  simp only [eqD] at hf
  split at hf
  · rename_i hc
    cases hf
    obtain ⟨as, r1⟩ := hd.reads rfl I ex rx
    obtain ⟨bs, r2⟩ := he.reads rfl I ex ry
    exact eq_plain r1 r2 hd.plain he.plain (shal_room (k := 0) hc hu (by decide)) ⟨.bl _, H, I, rfl, q _ B H (Nx.refl ex) (.bl _)⟩
  · cases hf
theorem op_neD' (hu : X.A.units + 200 < cLine) : OpR X (compareOp .NotEq) (rD X.K neD) := by
  intro pins s σ H x y v u Q I rx ry ⟨B, d, e, r, ex, hd, he, hf, q⟩
  simp only [neD] at hf
  split at hf
  · rename_i hc
    cases hf
    obtain ⟨as, r1⟩ := hd.reads rfl I ex rx
    obtain ⟨bs, r2⟩ := he.reads rfl I ex ry
    exact ne_plain r1 r2 hd.plain he.plain (shal_room (k := 0) hc hu (by decide)) ⟨.bl _, H, I, rfl, q _ B H (Nx.refl ex) (.bl _)⟩
  · cases hf
def ordOk (d e : D) : Prop := alike d e = true ∧ d ≠ .none ∧ shal d e
open Classical in
noncomputable def ltD : D → D → Option D
  | .int i, .int j => some (.bool (decide (i < j)))
  | d, e => if ordOk d e then some (.bool (dataLt d e)) else none
open Classical in
noncomputable def leD : D → D → Option D
  | .int i, .int j => some (.bool (decide (i ≤ j)))
  | d, e => if ordOk d e then some (.bool (!dataLt e d)) else none
open Classical in
noncomputable def gtD : D → D → Option D
  | .int i, .int j => some (.bool (decide (j < i)))
  | d, e => if ordOk d e then some (.bool (dataLt e d)) else none
open Classical in
noncomputable def geD : D → D → Option D
  | .int i, .int j => some (.bool (decide (j ≤ i)))
  | d, e => if ordOk d e then some (.bool (!dataLt d e)) else none
theorem ord_cases {f : D → D → Option D} {p : Int → Int → Bool} {g : D → D → Bool} (hI : ∀ i j, f (.int i) (.int j) = some (.bool (p i j))) (hg : ∀ i j, g (.int i) (.int j) = p i j)
    (ho : ∀ d e r, f d e = some r → (∃ i j, d = .int i ∧ e = .int j) ∨ (ordOk d e ∧ r = .bool (g d e))) {d e r : D} (h : f d e = some r) : ordOk d e ∧ r = .bool (g d e) := by
  rcases ho d e r h with ⟨i, j, rfl, rfl⟩ | z
  · rw [hI] at h
    cases h
    exact ⟨⟨by simp [alike], by simp, .inl (by simp [PyData.depth])⟩, by rw [hg]⟩
  · exact z
theorem not_lt' (i j : Int) : (!decide (i < j)) = decide (j ≤ i) := by
  by_cases h : i < j <;> simp [h] <;> omega
theorem ltD_ok {d e r : D} (h : ltD d e = some r) : ordOk d e ∧ r = .bool (dataLt d e) := by
  refine ord_cases (f := ltD) (p := fun i j => decide (i < j)) (fun _ _ => rfl) (fun i j => dataLt_int i j) (fun d e r h => ?_) h
  unfold ltD at h
  split at h
  · exact .inl ⟨_, _, rfl, rfl⟩
  · split at h
    · rename_i z; cases h; exact .inr ⟨z, rfl⟩
    · cases h
theorem leD_ok {d e r : D} (h : leD d e = some r) : ordOk d e ∧ r = .bool (!dataLt e d) := by
  refine ord_cases (f := leD) (p := fun i j => decide (i ≤ j)) (g := fun d e => !dataLt e d) (fun _ _ => rfl) (fun i j => by rw [dataLt_int, not_lt']) (fun d e r h => ?_) h
  unfold leD at h
  split at h
  · exact .inl ⟨_, _, rfl, rfl⟩
  · split at h
    · rename_i z; cases h; exact .inr ⟨z, rfl⟩
    · cases h
theorem gtD_ok {d e r : D} (h : gtD d e = some r) : ordOk d e ∧ r = .bool (dataLt e d) := by
  refine ord_cases (f := gtD) (p := fun i j => decide (j < i)) (g := fun d e => dataLt e d) (fun _ _ => rfl) (fun i j => dataLt_int j i) (fun d e r h => ?_) h
  unfold gtD at h
  split at h
  · exact .inl ⟨_, _, rfl, rfl⟩
  · split at h
    · rename_i z; cases h; exact .inr ⟨z, rfl⟩
    · cases h
theorem geD_ok {d e r : D} (h : geD d e = some r) : ordOk d e ∧ r = .bool (!dataLt d e) := by
  refine ord_cases (f := geD) (p := fun i j => decide (j ≤ i)) (g := fun d e => !dataLt d e) (fun _ _ => rfl) (fun i j => by rw [dataLt_int, not_lt']) (fun d e r h => ?_) h
  unfold geD at h
  split at h
  · exact .inl ⟨_, _, rfl, rfl⟩
  · split at h
    · rename_i z; cases h; exact .inr ⟨z, rfl⟩
    · cases h
theorem op_ltD' (hu : X.A.units + 200 < cLine) : OpR X (compareOp .Lt) (rD X.K ltD) := by
  intro pins s σ H x y v u Q I rx ry ⟨B, d, e, r, ex, hd, he, hf, q⟩
  obtain ⟨⟨h1, h2, h3⟩, rfl⟩ := ltD_ok hf
  obtain ⟨as, r1⟩ := hd.reads rfl I ex rx
  obtain ⟨bs, r2⟩ := he.reads rfl I ex ry
  exact lt_data r1 r2 h1 h2 (shal_room (k := 0) h3 hu (by decide)) ⟨.bl _, H, I, rfl, q _ B H (Nx.refl ex) (.bl _)⟩
theorem op_leD' (hu : X.A.units + 200 < cLine) : OpR X (compareOp .LtE) (rD X.K leD) := by
  intro pins s σ H x y v u Q I rx ry ⟨B, d, e, r, ex, hd, he, hf, q⟩
  obtain ⟨⟨h1, h2, h3⟩, rfl⟩ := leD_ok hf
  obtain ⟨as, r1⟩ := hd.reads rfl I ex rx
  obtain ⟨bs, r2⟩ := he.reads rfl I ex ry
  exact le_data r1 r2 h1 h2 (shal_room (k := 0) h3 hu (by decide)) ⟨.bl _, H, I, rfl, q _ B H (Nx.refl ex) (.bl _)⟩
theorem op_gtD' (hu : X.A.units + 200 < cLine) : OpR X (compareOp .Gt) (rD X.K gtD) := by
  intro pins s σ H x y v u Q I rx ry ⟨B, d, e, r, ex, hd, he, hf, q⟩
  obtain ⟨⟨h1, h2, h3⟩, rfl⟩ := gtD_ok hf
  obtain ⟨as, r1⟩ := hd.reads rfl I ex rx
  obtain ⟨bs, r2⟩ := he.reads rfl I ex ry
  exact gt_data r1 r2 h1 h2 (shal_room (k := 0) h3 hu (by decide)) ⟨.bl _, H, I, rfl, q _ B H (Nx.refl ex) (.bl _)⟩
theorem op_geD' (hu : X.A.units + 200 < cLine) : OpR X (compareOp .GtE) (rD X.K geD) := by
  intro pins s σ H x y v u Q I rx ry ⟨B, d, e, r, ex, hd, he, hf, q⟩
  obtain ⟨⟨h1, h2, h3⟩, rfl⟩ := geD_ok hf
  obtain ⟨as, r1⟩ := hd.reads rfl I ex rx
  obtain ⟨bs, r2⟩ := he.reads rfl I ex ry
  exact ge_data r1 r2 h1 h2 (shal_room (k := 0) h3 hu (by decide)) ⟨.bl _, H, I, rfl, q _ B H (Nx.refl ex) (.bl _)⟩
def isNoneB : D → Bool
  | .none => true
  | _ => false
theorem isNone_rep {K : PySem.W.Frag} {v : V} {d : D} (r : Rep K B v d) : decide (v = .non) = isNoneB d := by
  cases r <;> simp [isNoneB]
def isD : D → D → Option D
  | d, .none => some (.bool (isNoneB d))
  | _, _ => none
def isNotD : D → D → Option D
  | d, .none => some (.bool (!isNoneB d))
  | _, _ => none
theorem op_isD : OpR X (compareOp .Is) (rD X.K isD) := by
  intro pins s σ H x y v u Q I rx ry ⟨B, d, e, r, ex, hd, he, hf, q⟩
  cases he with
  | non =>
    simp only [isD] at hf
    cases hf
    refine op_isN pins s σ H _ _ v u Q I rx ry ⟨rfl, ?_⟩
    rw [isNone_rep hd]
    exact q _ B H (Nx.refl ex) (.bl _)
  | _ => simp [isD] at hf
theorem op_isNotD : OpR X (compareOp .IsNot) (rD X.K isNotD) := by
  intro pins s σ H x y v u Q I rx ry ⟨B, d, e, r, ex, hd, he, hf, q⟩
  cases he with
  | non =>
    simp only [isNotD] at hf
    cases hf
    refine op_notN pins s σ H _ _ v u Q I rx ry ⟨rfl, ?_⟩
    rw [isNone_rep hd]
    exact q _ B H (Nx.refl ex) (.bl _)
  | _ => simp [isNotD] at hf
def hasD (ds : List D) (d : D) : Bool := ds.any fun y => PyData.eqv y d
def shalAll (ds : List D) (d : D) : Prop := PyData.depthAll ds ≤ 64 ∨ d.depth ≤ 64
instance (ds : List D) (d : D) : Decidable (shalAll ds d) := inferInstanceAs (Decidable (_ ∨ _))
theorem shalAll_room {A : Around} {ds : List D} {d : D} (h : shalAll ds d) (hu : A.units + 200 < cLine) : A.units + 1 + min (PyData.depthAll ds) d.depth < cLine := by
  rcases h with h | h <;> omega
noncomputable def inD : D → D → Option D
  | d, .list ds => @ite _ (shalAll ds d) (Classical.propDecidable _) (some (.bool (hasD ds d))) none
  | d, .tuple ds => @ite _ (shalAll ds d) (Classical.propDecidable _) (some (.bool (hasD ds d))) none
  | .str a, .str b => some (.bool (!(Builtin.Str.occurrences b a 0 b.length 1).isEmpty))
  | _, _ => none
noncomputable def notInD : D → D → Option D
  | d, .list ds => @ite _ (shalAll ds d) (Classical.propDecidable _) (some (.bool (!hasD ds d))) none
  | d, .tuple ds => @ite _ (shalAll ds d) (Classical.propDecidable _) (some (.bool (!hasD ds d))) none
  | .str a, .str b => some (.bool (!(!(Builtin.Str.occurrences b a 0 b.length 1).isEmpty)))
  | _, _ => none
theorem op_inD' (hu : X.A.units + 200 < cLine) : OpR X (compareOp .In) (rD X.K inD) := by
  intro pins s σ H x y v u Q I rx ry ⟨B, d, e, r, ex, hd, he, hf, q⟩
  obtain ⟨as, r1⟩ := hd.reads rfl I ex rx
  obtain ⟨bs, r2⟩ := he.reads rfl I ex ry
  have pl := he.plain
  cases he with
  | lst h1 rr =>
    simp only [inD] at hf
    split at hf
    · rename_i hc
      cases hf
      exact in_list_data r2 r1 (by rw [PyData.plain] at pl; exact pl) hd.plain (shalAll_room hc hu) ⟨.bl _, H, I, rfl, q _ B H (Nx.refl ex) (.bl _)⟩
    · cases hf
  | tup h1 rr =>
    simp only [inD] at hf
    split at hf
    · rename_i hc
      cases hf
      exact in_tuple_data r2 r1 (by rw [PyData.plain] at pl; exact pl) hd.plain (shalAll_room hc hu) ⟨.bl _, H, I, rfl, q _ B H (Nx.refl ex) (.bl _)⟩
    · cases hf
  | str b =>
    cases hd with
    | str a =>
      cases hf
      exact op_in_str pins s σ H _ _ v u Q I rx ry ⟨a, b, rfl, rfl, q _ B H (Nx.refl ex) (.bl _)⟩
    | _ => simp [inD] at hf
  | _ => cases hd <;> simp [inD] at hf
theorem op_notInD' (hu : X.A.units + 200 < cLine) : OpR X (compareOp .NotIn) (rD X.K notInD) := by
  intro pins s σ H x y v u Q I rx ry ⟨B, d, e, r, ex, hd, he, hf, q⟩
  obtain ⟨as, r1⟩ := hd.reads rfl I ex rx
  obtain ⟨bs, r2⟩ := he.reads rfl I ex ry
  have pl := he.plain
  cases he with
  | lst h1 rr =>
    simp only [notInD] at hf
    split at hf
    · rename_i hc
      cases hf
      exact notIn_list_data r2 r1 (by rw [PyData.plain] at pl; exact pl) hd.plain (shalAll_room hc hu) ⟨.bl _, H, I, rfl, q _ B H (Nx.refl ex) (.bl _)⟩
    · cases hf
  | tup h1 rr =>
    simp only [notInD] at hf
    split at hf
    · rename_i hc
      cases hf
      exact notIn_tuple_data r2 r1 (by rw [PyData.plain] at pl; exact pl) hd.plain (shalAll_room hc hu) ⟨.bl _, H, I, rfl, q _ B H (Nx.refl ex) (.bl _)⟩
    · cases hf
  | str b =>
    cases hd with
    | str a =>
      cases hf
      exact op_notin_str pins s σ H _ _ v u Q I rx ry ⟨a, b, rfl, rfl, q _ B H (Nx.refl ex) (.bl _)⟩
    | _ => simp [notInD] at hf
  | _ => cases hd <;> simp [notInD] at hf

/-! ### items, cuts -/
def idxD : D → D → Option D
  | .list ds, .int i => atI ds i
  | .tuple ds, .int i => atI ds i
  | .str z, .int i => if z.length ≤ 16777216 then (atI z.cps.toList i).map fun c => .str ⟨#[c]⟩ else none
  | _, _ => none
theorem Reps.atI {K : PySem.W.Frag} {vs : List V} {ds : List D} {i : Int} {d : D} (r : Reps K B vs ds) (h : L2.atI ds i = some d) : ∃ v, L2.atI vs i = some v ∧ Rep K B v d := by
  unfold L2.atI at h ⊢
  rw [r.len]
  obtain ⟨j, hj, e⟩ := bind_some h
  obtain ⟨v, e1, e2⟩ := r.at e
  exact ⟨v, by rw [hj]; exact e1, e2⟩
theorem ix_D : IxR X (rD X.K idxD) := by
  intro value slice pins s σ H x y v u Q I rx ry ⟨B, d, e, r, ex, hd, he, hf, q⟩ hs
  cases hd with
  | @lst l xs ds h1 r1 =>
    cases he with
    | int i =>
      obtain ⟨w, e1, e2⟩ := r1.atI hf
      exact ix_list value slice pins s σ H _ _ v u Q I rx ry ⟨l, xs, i, w, rfl, rfl, .inl (.inl (ex _ _ h1)), e1, q _ B H (Nx.refl ex) e2⟩ hs
    | _ => simp [idxD] at hf
  | @tup l xs ds h1 r1 =>
    cases he with
    | int i =>
      obtain ⟨w, e1, e2⟩ := r1.atI hf
      exact ix_tup value slice pins s σ H _ _ v u Q I rx ry ⟨l, xs, i, w, rfl, rfl, Evl.ex_t ex h1, e1, q _ B H (Nx.refl ex) e2⟩ hs
    | _ => simp [idxD] at hf
  | str z =>
    cases he with
    | int i =>
      simp only [idxD] at hf
      split at hf
      · rename_i hz
        cases hc : atI z.cps.toList i with
        | none => rw [hc] at hf; cases hf
        | some c =>
          rw [hc] at hf
          cases hf
          exact ix_str value slice pins s σ H _ _ v u Q I rx ry ⟨z, i, c, rfl, rfl, by rw [sizeLine_eq]; exact hz, hc, q _ B H (Nx.refl ex) (.str _)⟩ hs
      · cases hf
    | _ => simp [idxD] at hf
  | _ => cases he <;> simp [idxD] at hf
def cutL {α : Type} (xs : List α) (lo hi : Option Int) : List α := (xs.drop (HT.sIx xs.length 0 lo)).take (HT.sIx xs.length xs.length hi - HT.sIx xs.length 0 lo)
theorem Reps.cut {K : PySem.W.Frag} {vs : List V} {ds : List D} (r : Reps K B vs ds) (lo hi : Option Int) : Reps K B (cutV vs lo hi) (cutL ds lo hi) := by
  unfold cutV cutL
  rw [r.len]
  exact (r.drop _).take _
theorem cut_whole {K : PySem.W.Frag} {vs : List V} {ds : List D} {lo hi : Option Int} (r : Reps K B vs ds) (h : HT.sIx vs.length 0 lo = 0 ∧ HT.sIx vs.length vs.length hi = vs.length) : cutL ds lo hi = ds := by
  have e := r.len
  unfold cutL
  rw [← e, h.1, h.2, List.drop_zero, Nat.sub_zero, e, List.take_length]
def sliceD (d : D) (lo hi : Option Int) : Option D := match d with
  | .list ds => some (.list (cutL ds lo hi))
  | .tuple ds => some (.tuple (cutL ds lo hi))
  | .str z => if z.length ≤ 16777216 then some (.str (cutS z lo hi)) else none
  | _ => none
def rSlD (K : PySem.W.Frag) : V → Option Int → Option Int → Hp → VK → Prop := fun x lo hi H Q => ∃ B d r, Ex B H ∧ Rep K B x d ∧ sliceD d lo hi = some r ∧ ∀ v B' H', Nx B H B' H' → Rep K B' v r → Q v H'
theorem sl_D : SlR X (rSlD X.K) := by
  intro pins s σ H x v vl vu lo hi sl Q I rx hs pl pu ⟨B, d, r, ex, hd, hf, q⟩
  cases hd with
  | @lst l xs ds h1 r1 =>
    cases hf
    refine sl_list pins s σ H _ v vl vu lo hi sl Q I rx hs pl pu ⟨l, xs, rfl, .inl (.inl (ex _ _ h1)), fun p hp => ?_⟩
    exact q _ _ _ (Nx.new ex hp) (Nx.lst (r1.cut lo hi) ex hp)
  | @tup l xs ds h1 r1 =>
    cases hf
    refine sl_tupA pins s σ H _ v vl vu lo hi sl Q I rx hs pl pu ⟨l, xs, rfl, Evl.ex_t ex h1, fun hw => ?_, fun _ p hp => ?_⟩
    · rw [cut_whole r1 hw] at q
      exact q _ B H (Nx.refl ex) (.tup h1 r1)
    · exact q _ _ _ (Nx.new ex hp) (Nx.tup (r1.cut lo hi) ex hp)
  | str z =>
    simp only [sliceD] at hf
    split at hf
    · rename_i hz
      cases hf
      exact sl_str pins s σ H _ v vl vu lo hi sl Q I rx hs pl pu ⟨z, rfl, by rw [sizeLine_eq]; exact hz, q _ B H (Nx.refl ex) (.str _)⟩
    · cases hf
  | _ => simp [sliceD] at hf
end
end Dl

/-! Data layer, part 4: calls, what is walked, targets, comprehensions. -/
namespace Dl
open PySem L2 PySem.Spec PyProof.Rows PySem.W PySem.SeqAt
open Evl (Ex)

section
variable {X : Cx} {e a b : Expr} {es : List Expr} {ρ : Env} {pos : Pos}
/-! ### slices -/
def oI (m : Option D) : Option (Option Int) := m.bind fun d => match d with
  | .int i => some (some i)
  | _ => none
def cO (K : PySem.W.Frag) (ρ : Env) (m : Option (Option Int)) : TO := fun σ H Q => ∃ B0 H0 B, Holds K B0 H0 ρ σ B H ∧ ∃ o, m = some o ∧ ∀ B' H', Nx B H B' H' → Q o H'
structure DO (X : Cx) (e : Option Expr) (ρ : Env) (m : Option (Option Int)) : Prop where
  po : PO X e (cO X.K ρ m)
theorem do_none : DO X none ρ (some none) := ⟨⟨by
  intro s pins σ H Q I h
  have := po_none (X := X)
  refine this.run s pins σ H Q I ?_
  obtain ⟨B0, H0, B, hh, o, hm, q⟩ := h
  cases hm
  exact q B H (Nx.refl hh.ex)⟩⟩
theorem do_some {m : Option D} (h : DE X e ρ m) : DO X (some e) ρ (oI m) := ⟨⟨by
  intro s pins σ H Q I w
  refine (po_some h.pe).run s pins σ H Q I ?_
  obtain ⟨B0, H0, B, hh, o, hm, q⟩ := w
  obtain ⟨x, hx, hf⟩ := bind_some hm
  refine ⟨B0, H0, B, hh, x, hx, fun v B1 H1 n1 r1 => ?_⟩
  cases r1 <;> simp at hf
  · cases hf
    exact ⟨_, rfl, q B1 H1 n1⟩⟩⟩
abbrev b3 (m : Option D) (l h : Option (Option Int)) : Option D := m.bind fun d => l.bind fun lo => h.bind fun hi => sliceD d lo hi
theorem de_slice {lo hi : Option Expr} {p2 : Pos} {m : Option D} {l h : Option (Option Int)} (he : DE X e ρ m) (hl : DO X lo ρ l) (hh : DO X hi ρ h) : DE X (.Subscript e (.Slice lo hi none p2) pos) ρ (b3 m l h) := ⟨peI (pe_slice sl_D he.pe hl.po hh.po) (by
  intro σ H Q ⟨B0, H0, B, hh, d', hm, q⟩
  obtain ⟨x, hx, hm⟩ := bind_some hm
  obtain ⟨i, hi, hm⟩ := bind_some hm
  obtain ⟨j, hj, hf⟩ := bind_some hm
  exact ⟨B0, H0, B, hh, x, hx, fun v B1 H1 n1 r1 => ⟨B0, H0, B1, hh.step n1, i, hi, fun B2 H2 n2 => ⟨B0, H0, B2, (hh.step n1).step n2, j, hj, fun B3 H3 n3 =>
    ⟨B3, x, d', n3.2.2.1, r1.up (n2.1.trans n3.1), hf, fun w B4 H4 n4 r4 => q w B4 H4 (((n1.trans n2).trans n3).trans n4) r4⟩⟩⟩⟩)⟩
def revD : D → Option D
  | .list ds => some (.list ds.reverse)
  | _ => none
theorem de_rev {k : Nat} {p1 p2 p3 : Pos} {m : Option D} (he : DE X e ρ m) : DE X (.Subscript e (.Slice none none (some (.UnaryOp .USub (.Constant (.int 1) k p1) p2)) p3) pos) ρ (m.bind revD) := ⟨peI (pe_revL he.pe) (by
  intro σ H Q ⟨B0, H0, B, hh, d', hm, q⟩
  obtain ⟨x, hx, hf⟩ := bind_some hm
  refine ⟨B0, H0, B, hh, x, hx, fun v B1 H1 n1 r1 => ?_⟩
  cases r1 with
  | @lst l xs ds h1 rr =>
    cases hf
    exact ⟨l, xs, rfl, .inl (.inl (n1.2.2.1 _ _ h1)), fun p hp => q _ _ _ (n1.trans (Nx.new n1.2.2.1 hp)) (Nx.lst rr.rev n1.2.2.1 hp)⟩
  | _ => simp [revD] at hf)⟩

/-! ### calls of built-ins -/
section
variable {x id : Str} {n T : String} {p : Pos} {f : List D → Option D} {g : List D → Option (List D)} {m : Option (List D)}
theorem de_callB (hc : CallR X (.builtin n) (rDL X.K f)) (hg : Gl X x) (hm : X.mg x = none) (hv : bootBuiltins x = some (.builtin n)) (ha : DA X (e :: es) ρ m) (hn : x ≠ "__name__") (hdb : (x == ("__debug__" : Str)) = false)
    (he : starEach (e :: es) X.env = (false, eval e X.env) :: starEach es X.env) (hpl : (backTo pos (starEach es X.env)).any (·.1) = false) : DE X (.Call (.Name x p) (e :: es) [] pos) ρ (m.bind f) := ⟨peI (pe_callB hc hg hm hv ha.pa hn hdb he hpl) (by
  intro σ H Q ⟨B0, H0, B, hh, d', hm, q⟩
  obtain ⟨ds, hx, hf⟩ := bind_some hm
  exact ⟨B0, H0, B, hh, ds, hx, fun vs B1 H1 n1 r1 => ⟨B1, ds, d', n1.2.2.1, r1, hf, fun w B2 H2 n2 r2 => q w B2 H2 (n1.trans n2) r2⟩⟩)⟩
theorem de_callT (hc : CallR X (.type T) (rDL X.K f)) (hg : Gl X x) (hm : X.mg x = none) (hv : bootBuiltins x = some (.type T)) (ha : DA X (e :: es) ρ m) (hn : x ≠ "__name__") (hdb : (x == ("__debug__" : Str)) = false)
    (he : starEach (e :: es) X.env = (false, eval e X.env) :: starEach es X.env) (hpl : (backTo pos (starEach es X.env)).any (·.1) = false) : DE X (.Call (.Name x p) (e :: es) [] pos) ρ (m.bind f) := ⟨peI (pe_callTy hc hg hm hv ha.pa hn hdb he hpl) (by
  intro σ H Q ⟨B0, H0, B, hh, d', hm, q⟩
  obtain ⟨ds, hx, hf⟩ := bind_some hm
  exact ⟨B0, H0, B, hh, ds, hx, fun vs B1 H1 n1 r1 => ⟨B1, ds, d', n1.2.2.1, r1, hf, fun w B2 H2 n2 r2 => q w B2 H2 (n1.trans n2) r2⟩⟩)⟩
theorem tcF {K : PySem.W.Frag} : ∀ (σ : L2.St) (H : Hp) (Q : VK), cF K ρ (m.bind g) σ H Q → tCB (rDF K g) (cA K ρ m) σ H Q := by
  intro σ H Q ⟨B0, H0, B, hh, d', hm, q⟩
  obtain ⟨ds, hx, hf⟩ := bind_some hm
  refine ⟨B0, H0, B, hh, ds, hx, fun vs B1 H1 n1 r1 => ⟨B1, ds, d', n1.2.2.1, r1, hf, fun p ws B2 H2 n2 hp hb he r2 => ?_⟩⟩
  exact q p ws B2 H2 (n1.trans n2) (Ex.none n1.2.1 hp) hb he r2
theorem df_callB (hc : CallR X (.builtin n) (rDF X.K g)) (hg : Gl X x) (hm : X.mg x = none) (hv : bootBuiltins x = some (.builtin n)) (ha : DA X (e :: es) ρ m) (hn : x ≠ "__name__") (hdb : (x == ("__debug__" : Str)) = false)
    (he : starEach (e :: es) X.env = (false, eval e X.env) :: starEach es X.env) (hpl : (backTo pos (starEach es X.env)).any (·.1) = false) : DF X (.Call (.Name x p) (e :: es) [] pos) ρ (m.bind g) := ⟨peI (pe_callB hc hg hm hv ha.pa hn hdb he hpl) tcF⟩
theorem df_callT (hc : CallR X (.type T) (rDF X.K g)) (hg : Gl X x) (hm : X.mg x = none) (hv : bootBuiltins x = some (.type T)) (ha : DA X (e :: es) ρ m) (hn : x ≠ "__name__") (hdb : (x == ("__debug__" : Str)) = false)
    (he : starEach (e :: es) X.env = (false, eval e X.env) :: starEach es X.env) (hpl : (backTo pos (starEach es X.env)).any (·.1) = false) : DF X (.Call (.Name x p) (e :: es) [] pos) ρ (m.bind g) := ⟨peI (pe_callTy hc hg hm hv ha.pa hn hdb he hpl) tcF⟩
end

/-! ### built-ins, by data -/
def intsOf : List D → Option (List Int)
  | [] => some []
  | .int i :: r => (intsOf r).map (i :: ·)
  | _ => none
theorem intsOf_some : ∀ {ds : List D} {ns : List Int}, intsOf ds = some ns → ds = ns.map .int
  | [], ns, h => by cases h; rfl
  | .int i :: r, ns, h => by
    simp only [intsOf] at h
    cases q : intsOf r with
    | none => rw [q] at h; cases h
    | some l => rw [q] at h; cases h; rw [intsOf_some q]; rfl
  | .none :: _, _, h | .bool _ :: _, _, h | .str _ :: _, _, h | .list _ :: _, _, h | .tuple _ :: _, _, h | .dict _ :: _, _, h => by simp [intsOf] at h
theorem intsOf_map : ∀ ns : List Int, intsOf (ns.map .int) = some ns
  | [] => rfl
  | i :: r => by
    show (intsOf (r.map .int)).map (i :: ·) = _
    rw [intsOf_map r]; rfl
def boolsOf : List D → Option (List Bool)
  | [] => some []
  | .bool i :: r => (boolsOf r).map (i :: ·)
  | _ => none
theorem boolsOf_some : ∀ {ds : List D} {ns : List Bool}, boolsOf ds = some ns → ds = ns.map .bool
  | [], ns, h => by cases h; rfl
  | .bool i :: r, ns, h => by
    simp only [boolsOf] at h
    cases q : boolsOf r with
    | none => rw [q] at h; cases h
    | some l => rw [q] at h; cases h; rw [boolsOf_some q]; rfl
  | .none :: _, _, h | .int _ :: _, _, h | .str _ :: _, _, h | .list _ :: _, _, h | .tuple _ :: _, _, h | .dict _ :: _, _, h => by simp [boolsOf] at h
theorem boolsOf_map : ∀ ns : List Bool, boolsOf (ns.map .bool) = some ns
  | [] => rfl
  | i :: r => by
    show (boolsOf (r.map .bool)).map (i :: ·) = _
    rw [boolsOf_map r]; rfl
def lenL : List D → Option D
  | [.list ds] => some (.int ds.length)
  | [.tuple ds] => some (.int ds.length)
  | [.str z] => fit z.length (.int z.length)
  | _ => none
theorem one_rep {K : PySem.W.Frag} {B : Hp} {xs : List V} {d : D} (r : Reps K B xs [d]) : ∃ v, xs = [v] ∧ Rep K B v d := by
  cases r with
  | cons h t => cases t; exact ⟨_, rfl, h⟩
theorem two_rep {K : PySem.W.Frag} {B : Hp} {xs : List V} {d d' : D} (r : Reps K B xs [d, d']) : ∃ v v', xs = [v, v'] ∧ Rep K B v d ∧ Rep K B v' d' := by
  cases r with
  | cons h t =>
    obtain ⟨v, rfl, h2⟩ := one_rep t
    exact ⟨_, _, rfl, h, h2⟩
theorem cb_len : CallR X (.builtin "len") (rDL X.K lenL) := by
  intro pins s σ H xs us Q I rv ⟨B, ds, r, ex, hr, hf, q⟩
  unfold lenL at hf
  split at hf
  · cases hf
    obtain ⟨v, rfl, h1⟩ := one_rep hr
    cases h1 with
    | lst h2 rr => exact call_len pins s σ H _ us Q I rv ⟨_, _, rfl, .inl ⟨_, .inl (.inl (ex _ _ h2)), rfl⟩, by rw [rr.len]; exact q _ B H (Nx.refl ex) (.int _)⟩
  · cases hf
    obtain ⟨v, rfl, h1⟩ := one_rep hr
    cases h1 with
    | tup h2 rr => exact call_len pins s σ H _ us Q I rv ⟨_, _, rfl, .inr ⟨_, Evl.ex_t ex h2, rfl⟩, by rw [rr.len]; exact q _ B H (Nx.refl ex) (.int _)⟩
  · obtain ⟨v, rfl, h1⟩ := one_rep hr
    obtain ⟨hz, rfl⟩ := fit_some hf
    cases h1 with
    | str z => exact call_len pins s σ H _ us Q I rv ⟨_, _, rfl, ⟨hz, rfl⟩, q _ B H (Nx.refl ex) (.int _)⟩
  · cases hf
def minL : List D → Option D
  | [.int i, .int j] => some (.int (if j < i then j else i))
  | [.list ds] => (intsOf ds).bind fun ns => ns.min?.map .int
  | [.tuple ds] => (intsOf ds).bind fun ns => ns.min?.map .int
  | _ => none
def maxL : List D → Option D
  | [.int i, .int j] => some (.int (if j > i then j else i))
  | [.list ds] => (intsOf ds).bind fun ns => ns.max?.map .int
  | [.tuple ds] => (intsOf ds).bind fun ns => ns.max?.map .int
  | _ => none
theorem int_le_min {l : List Int} {m k : Int} (h : l.min? = some m) (hk : k ∈ l) (hl : ∀ y ∈ l, k ≤ y) : k = m := by
  have h1 := List.min?_eq_some_iff.mp h
  have a := hl m h1.1
  have b := h1.2 k hk
  omega
theorem int_le_max {l : List Int} {m k : Int} (h : l.max? = some m) (hk : k ∈ l) (hl : ∀ y ∈ l, y ≤ k) : k = m := by
  have h1 := List.max?_eq_some_iff.mp h
  have a := hl m h1.1
  have b := h1.2 k hk
  omega
theorem map_some {α β : Type} {m : Option α} {f : α → β} {b : β} (h : m.map f = some b) : ∃ a, m = some a ∧ f a = b := by
  cases m with
  | none => cases h
  | some a => exact ⟨a, rfl, Option.some.inj h⟩
theorem foldl_min : ∀ (ns : List Int) (n : Int), ns.foldl min n = (n :: ns).min?.getD 0 := by
  intro ns n
  rfl
theorem alike_intsAll (n : Int) (ns : List Int) : AlikeAll ((.int n : D) :: ns.map .int) := by
  have h : ∀ x ∈ ((.int n : D) :: ns.map .int), ∃ k, x = .int k := fun x hx => by
    rcases List.mem_cons.mp hx with rfl | hx
    · exact ⟨_, rfl⟩
    · obtain ⟨k, _, rfl⟩ := List.mem_map.mp hx; exact ⟨k, rfl⟩
  exact ⟨fun x hx y hy => by
    obtain ⟨i, rfl⟩ := h x hx
    obtain ⟨j, rfl⟩ := h y hy
    simp [alike], fun x hx => by obtain ⟨i, rfl⟩ := h x hx; simp⟩
theorem depth_int1 (n : Int) (ns : List Int) : PyData.depthAll ((.int n : D) :: ns.map .int) = 0 := depth_ints (n :: ns)
theorem cb_min (hc : X.calm = true) (hu : X.A.units + 200 < cLine) : CallR X (.builtin "min") (rDL X.K minL) := by
  intro pins s σ H xs us Q I rv ⟨B, ds, r, ex, hr, hf, q⟩
  unfold minL at hf
  split at hf
  · cases hf
    obtain ⟨v, v', rfl, h1, h2⟩ := two_rep hr
    cases h1 with
    | int i => cases h2 with
      | int j => exact call_min2 hc pins s σ H _ us Q I rv ⟨_, _, rfl, q _ B H (Nx.refl ex) (.int _)⟩
  · obtain ⟨ns, hn, hf⟩ := bind_some hf
    obtain ⟨m, hm, rfl⟩ := map_some hf
    obtain rfl := intsOf_some hn
    obtain ⟨v, rfl, h1⟩ := one_rep hr
    cases h1 with
    | lst h2 rr =>
      obtain rfl := rr.ints
      refine cr_min hc pins s σ H _ us Q I rv ⟨_, ns, rfl, .inl (.inl (ex _ _ h2)), ?_, fun k hk hl => ?_⟩
      · cases ns with
        | nil => cases hm
        | cons => simp
      · rw [int_le_min hm hk hl]; exact q _ B H (Nx.refl ex) (.int _)
  · obtain ⟨ns, hn, hf⟩ := bind_some hf
    obtain ⟨m, hm, rfl⟩ := map_some hf
    obtain rfl := intsOf_some hn
    obtain ⟨v, rfl, h1⟩ := one_rep hr
    cases h1 with
    | @tup a vs _ h2 rr =>
      obtain rfl := rr.ints
      obtain ⟨its, rvv, pl, hz⟩ := I.tuple (Evl.ex_t ex h2)
      rw [Vals.ref1 rv]
      cases ns with
      | nil => cases hm
      | cons n ns =>
        have rrr : ∃ as, ReadsAll s.heap its ((n :: ns).map PyData.int) as := Dp.readsAll I _ _ _ (Reps.dp (Reps.up ex (Reps.of_ints (K := X.K) (n :: ns)))) rvv
        obtain ⟨as, ra⟩ := rrr
        refine min_tuple_data (I.ok.hd hc) pl (by simpa using ra) (alike_intsAll n ns) (by rw [depth_int1]; omega) fun i w h' tk bs hw hR hk => ?_
        rw [minD_ints] at hR
        cases hR with
        | int k t =>
          have e : m = ns.foldl min n := by
            have : (n :: ns).min? = some (ns.foldl min n) := rfl
            rw [this] at hm; exact (Option.some.inj hm).symm
          subst e
          exact ⟨.int _, H, I.kept hk, ⟨_, rfl⟩, q _ B H (Nx.refl ex) (.int _)⟩
  · cases hf
theorem cb_max (hc : X.calm = true) (hu : X.A.units + 200 < cLine) : CallR X (.builtin "max") (rDL X.K maxL) := by
  intro pins s σ H xs us Q I rv ⟨B, ds, r, ex, hr, hf, q⟩
  unfold maxL at hf
  split at hf
  · cases hf
    obtain ⟨v, v', rfl, h1, h2⟩ := two_rep hr
    cases h1 with
    | int i => cases h2 with
      | int j => exact call_max2 hc pins s σ H _ us Q I rv ⟨_, _, rfl, q _ B H (Nx.refl ex) (.int _)⟩
  · obtain ⟨ns, hn, hf⟩ := bind_some hf
    obtain ⟨m, hm, rfl⟩ := map_some hf
    obtain rfl := intsOf_some hn
    obtain ⟨v, rfl, h1⟩ := one_rep hr
    cases h1 with
    | lst h2 rr =>
      obtain rfl := rr.ints
      refine cr_max hc pins s σ H _ us Q I rv ⟨_, ns, rfl, .inl (.inl (ex _ _ h2)), ?_, fun k hk hl => ?_⟩
      · cases ns with
        | nil => cases hm
        | cons => simp
      · rw [int_le_max hm hk hl]; exact q _ B H (Nx.refl ex) (.int _)
  · obtain ⟨ns, hn, hf⟩ := bind_some hf
    obtain ⟨m, hm, rfl⟩ := map_some hf
    obtain rfl := intsOf_some hn
    obtain ⟨v, rfl, h1⟩ := one_rep hr
    cases h1 with
    | @tup a vs _ h2 rr =>
      obtain rfl := rr.ints
      obtain ⟨its, rvv, pl, hz⟩ := I.tuple (Evl.ex_t ex h2)
      rw [Vals.ref1 rv]
      cases ns with
      | nil => cases hm
      | cons n ns =>
        have rrr : ∃ as, ReadsAll s.heap its ((n :: ns).map PyData.int) as := Dp.readsAll I _ _ _ (Reps.dp (Reps.up ex (Reps.of_ints (K := X.K) (n :: ns)))) rvv
        obtain ⟨as, ra⟩ := rrr
        refine max_tuple_data (I.ok.hd hc) pl (by simpa using ra) (alike_intsAll n ns) (by rw [depth_int1]; omega) fun i w h' tk bs hw hR hk => ?_
        rw [maxD_ints] at hR
        cases hR with
        | int k t =>
          have e : m = ns.foldl max n := by
            have : (n :: ns).max? = some (ns.foldl max n) := rfl
            rw [this] at hm; exact (Option.some.inj hm).symm
          subst e
          exact ⟨.int _, H, I.kept hk, ⟨_, rfl⟩, q _ B H (Nx.refl ex) (.int _)⟩
  · cases hf
def sumL : List D → Option D
  | [.list ds] => (intsOf ds).map fun ns => .int ns.sum
  | _ => none
theorem cb_sum (hc : X.calm = true) : CallR X (.builtin "sum") (rDL X.K sumL) := by
  intro pins s σ H xs us Q I rv ⟨B, ds, r, ex, hr, hf, q⟩
  unfold sumL at hf
  split at hf
  · obtain ⟨ns, hn, rfl⟩ := map_some hf
    obtain rfl := intsOf_some hn
    obtain ⟨v, rfl, h1⟩ := one_rep hr
    cases h1 with
    | lst h2 rr =>
      obtain rfl := rr.ints
      exact cr_sum hc pins s σ H _ us Q I rv ⟨_, ns, rfl, .inl (.inl (ex _ _ h2)), q _ B H (Nx.refl ex) (.int _)⟩
  · cases hf
def anyL : List D → Option D
  | [.list ds] => (boolsOf ds).map fun ns => .bool (ns.any id)
  | _ => none
def allL : List D → Option D
  | [.list ds] => (boolsOf ds).map fun ns => .bool (ns.all id)
  | _ => none
theorem cb_any (hc : X.calm = true) : CallR X (.builtin "any") (rDL X.K anyL) := by
  intro pins s σ H xs us Q I rv ⟨B, ds, r, ex, hr, hf, q⟩
  unfold anyL at hf
  split at hf
  · obtain ⟨ns, hn, rfl⟩ := map_some hf
    obtain rfl := boolsOf_some hn
    obtain ⟨v, rfl, h1⟩ := one_rep hr
    cases h1 with
    | lst h2 rr =>
      obtain rfl := rr.bools
      exact cr_any hc pins s σ H _ us Q I rv ⟨_, ns, rfl, .inl (.inl (ex _ _ h2)), q _ B H (Nx.refl ex) (.bl _)⟩
  · cases hf
theorem cb_all (hc : X.calm = true) : CallR X (.builtin "all") (rDL X.K allL) := by
  intro pins s σ H xs us Q I rv ⟨B, ds, r, ex, hr, hf, q⟩
  unfold allL at hf
  split at hf
  · obtain ⟨ns, hn, rfl⟩ := map_some hf
    obtain rfl := boolsOf_some hn
    obtain ⟨v, rfl, h1⟩ := one_rep hr
    cases h1 with
    | lst h2 rr =>
      obtain rfl := rr.bools
      exact cr_all hc pins s σ H _ us Q I rv ⟨_, ns, rfl, .inl (.inl (ex _ _ h2)), q _ B H (Nx.refl ex) (.bl _)⟩
  · cases hf
def absL : List D → Option D
  | [.int i] => some (.int (if i < 0 then -i else i))
  | _ => none
theorem cb_abs : CallR X (.builtin "abs") (rDL X.K absL) := by
  intro pins s σ H xs us Q I rv ⟨B, ds, r, ex, hr, hf, q⟩
  unfold absL at hf
  split at hf
  · cases hf
    obtain ⟨v, rfl, h1⟩ := one_rep hr
    cases h1 with
    | int i => exact call_abs pins s σ H _ us Q I rv ⟨_, rfl, q _ B H (Nx.refl ex) (.int _)⟩
  · cases hf
def intL : List D → Option D
  | [.int i] => some (.int i)
  | [.bool b] => some (.int (if b then 1 else 0))
  | _ => none
theorem ct_int : CallR X (.type "int") (rDL X.K intL) := by
  intro pins s σ H xs us Q I rv ⟨B, ds, r, ex, hr, hf, q⟩
  unfold intL at hf
  split at hf
  · cases hf
    obtain ⟨v, rfl, h1⟩ := one_rep hr
    cases h1 with
    | int i => exact call_int1 pins s σ H _ us Q I rv (.inl ⟨_, rfl, q _ B H (Nx.refl ex) (.int _)⟩)
  · cases hf
    obtain ⟨v, rfl, h1⟩ := one_rep hr
    cases h1 with
    | bl i => exact call_int1 pins s σ H _ us Q I rv (.inr ⟨_, rfl, q _ B H (Nx.refl ex) (.int _)⟩)
  · cases hf
def strL : List D → Option D
  | [.int i] => if i.natAbs.log2 < 1920 then some (.str (toString i)) else none
  | _ => none
theorem ct_str : CallR X (.type "str") (rDL X.K strL) := by
  intro pins s σ H xs us Q I rv ⟨B, ds, r, ex, hr, hf, q⟩
  unfold strL at hf
  split at hf
  · split at hf
    · rename_i hc
      cases hf
      obtain ⟨v, rfl, h1⟩ := one_rep hr
      cases h1 with
      | int i => exact call_str_int pins s σ H _ us Q I rv ⟨_, rfl, hc, q _ B H (Nx.refl ex) (.str _)⟩
    · cases hf
  · cases hf
def listF : List D → Option (List D)
  | [.list ds] => some ds
  | [.tuple ds] => some ds
  | _ => none
theorem ct_list : CallR X (.type "list") (rDF X.K listF) := by
  intro pins s σ H xs us Q I rv ⟨B, ds, r, ex, hr, hf, q⟩
  unfold listF at hf
  split at hf
  · cases hf
    obtain ⟨v, rfl, h1⟩ := one_rep hr
    cases h1 with
    | lst h2 rr => exact call_list_of pins s σ H _ us Q I rv ⟨_, _, rfl, .inl (.inl (.inl (ex _ _ h2))), fun p hp => q p _ B _ (Nx.own ex hp) hp (Ex.none ex hp) upd_same rr⟩
  · cases hf
    obtain ⟨v, rfl, h1⟩ := one_rep hr
    cases h1 with
    | tup h2 rr => exact call_list_of pins s σ H _ us Q I rv ⟨_, _, rfl, .inr (Evl.ex_t ex h2), fun p hp => q p _ B _ (Nx.own ex hp) hp (Ex.none ex hp) upd_same rr⟩
  · cases hf
def tupL : List D → Option D
  | [.list ds] => some (.tuple ds)
  | [.tuple ds] => some (.tuple ds)
  | _ => none
theorem ct_tuple : CallR X (.type "tuple") (rDL X.K tupL) := by
  intro pins s σ H xs us Q I rv ⟨B, ds, r, ex, hr, hf, q⟩
  unfold tupL at hf
  split at hf
  · cases hf
    obtain ⟨v, rfl, h1⟩ := one_rep hr
    cases h1 with
    | lst h2 rr => exact call_tuple_of pins s σ H _ us Q I rv ⟨_, _, rfl, .inl ⟨.inl (.inl (ex _ _ h2)), fun p hp => q _ _ _ (Nx.new ex hp) (Nx.tup rr ex hp)⟩⟩
  · cases hf
    obtain ⟨v, rfl, h1⟩ := one_rep hr
    cases h1 with
    | tup h2 rr => exact call_tuple_of pins s σ H _ us Q I rv ⟨_, _, rfl, .inr ⟨Evl.ex_t ex h2, q _ B H (Nx.refl ex) (.tup h2 rr)⟩⟩
  · cases hf
open Classical in
noncomputable def sortF : List D → Option (List D)
  | [.list ds] => if AllAlike ds ∧ Sortable ds ∧ PyData.depthAll ds ≤ 64 then some (ds.mergeSort (dataLe false id)) else none
  | _ => none
theorem each_of {K : PySem.W.Frag} {R : Value → D → Prop} : ∀ {vs : List V} {ds : List D} {us : List Value}, Reps K B vs ds → Vals vs us → (∀ v d u, Rep K B v d → RelV v u → R u d) → EachIs R us ds
  | _, _, _, .nil, .nil, _ => .nil
  | _, _, _, .cons h t, .cons r rr, f => .cons (f _ _ _ h r) (each_of t rr f)
theorem of_each {K : PySem.W.Frag} : ∀ {us : List Value} {ds : List D}, EachIs (fun u d => ∃ v, RelV v u ∧ Rep K B v d) us ds → ∃ vs, Vals vs us ∧ Reps K B vs ds
  | _, _, .nil => ⟨[], .nil, .nil⟩
  | _, _, .cons ⟨v, h1, h2⟩ t => by
    obtain ⟨vs, h3, h4⟩ := of_each t
    exact ⟨v :: vs, .cons h1 h3, .cons h2 h4⟩
theorem depth_mem : ∀ {ds : List D} {d : D}, d ∈ ds → d.depth ≤ PyData.depthAll ds
  | x :: xs, d, h => by
    rw [PyData.depthAll]
    rcases List.mem_cons.mp h with rfl | h
    · omega
    · have := depth_mem h; omega
theorem cb_sorted (hu : X.A.units + 200 < cLine) : CallR X (.builtin "sorted") (rDF X.K sortF) := by
  intro pins s σ H xs us Q I rv ⟨B, ds, r, ex, hr, hf, q⟩
  unfold sortF at hf
  split at hf
  · rename_i l
    split at hf
    · rename_i hc
      obtain ⟨h1, h2, h3⟩ := hc
      cases hf
      obtain ⟨v, rfl, hv⟩ := one_rep hr
      cases hv with
      | @lst a vs _ ha rr =>
        obtain ⟨its, rvv, pl, hz⟩ := I.list (.inl (.inl (ex _ _ ha)))
        rw [Vals.ref1 rv]
        have e1 : EachIs (fun u d => ∃ v, RelV v u ∧ Rep X.K B v d) its l := each_of rr rvv fun v d u h w => ⟨v, w, h⟩
        have e2 : EachIs (fun u (d : D) => ∃ as, Reads s.heap u (id d) as) its l := each_of rr rvv fun v d u h w => h.reads rfl I ex w
        refine sorted_data (enc := id) pl.isList e1 e2 (by rw [List.map_id]; exact h1) (by rw [List.map_id]; exact h2) (by rw [← rr.len]; exact hz) (fun d hd => ?_) fun out hl ho => ?_
        · have := depth_mem hd
          show X.A.units + 2 + d.depth < cLine
          omega
        · obtain ⟨ws, w1, w2⟩ := of_each ho
          obtain ⟨ep, he'⟩ := PyProof.Rows.sortedAll_at s.heap its out.toArray
          have hp := I.hok.fresh (Nat.le_succ s.heap.objs.size)
          have hlen : ws.length ≤ sizeLine := by
            rw [w1.length, hl, ← rr.len]; exact hz
          refine ⟨.ref (s.heap.objs.size + 1), upd H (s.heap.objs.size + 1) (.lst ws), I.laid (t' := s.toks) (fun _ _ => PyProof.Rows.sortedAll_old) (Nat.le_succ _) ⟨hlen, out, ep, w1, he'⟩, rfl, ?_⟩
          exact q _ ws B _ (Nx.own ex hp) hp (Ex.none ex hp) upd_same w2
    · cases hf
  · cases hf
end
end Dl

/-! Data layer, part 5: what is walked, targets, comprehensions. -/
namespace Dl
open PySem L2 PySem.Spec PyProof.Rows PySem.W PySem.SeqAt
open Evl (Ex)

/-! ### what is walked, by data -/
structure WkD (K : PySem.W.Frag) (B : Hp) (J : It) (ds : List D) : Prop where
  len : ds.length ≤ sizeLine
  go : ∀ (i : Nat) (H : Hp), i < ds.length → Ex B H → J.go i H
  st : ∀ (H : Hp), Ex B H → J.stop ds.length H
  yl : ∀ (i : Nat) (H : Hp) (x : V) (H' Bc : Hp) (d : D), ds[i]? = some d → Ex B Bc → Ex Bc H → J.yld i H x H' → ∃ B2, Nx Bc H B2 H' ∧ Rep K B2 x d
theorem WkD.up {K : PySem.W.Frag} {B B' : Hp} {J : It} {ds : List D} (w : WkD K B J ds) (e : Ex B B') : WkD K B' J ds :=
  ⟨w.len, fun i H hi h => w.go i H hi (e.trans h), fun H h => w.st H (e.trans h), fun i H x H' Bc d hd h1 h2 y => w.yl i H x H' Bc d hd (e.trans h1) h2 y⟩
def iT (K : PySem.W.Frag) (ρ : Env) (m : Option (List D)) : TI := fun σ H R => ∃ B0 H0 B, Holds K B0 H0 ρ σ B H ∧ ∃ ds, m = some ds ∧ ∀ J B' H', Nx B H B' H' → WkD K B' J ds → R J H'
structure DI (X : Cx) (tg e : Expr) (ρ : Env) (m : Option (List D)) : Prop where
  pi : PI X tg e (iT X.K ρ m)

section
variable {X : Cx} {tg e a b c : Expr} {es : List Expr} {ρ : Env} {pos : Pos}
theorem piI {t t' : TI} (h : PI X tg e t) (f : ∀ σ H Q, t' σ H Q → t σ H Q) : PI X tg e t' := ⟨fun pins s σ H Q I w => h.run pins s σ H Q I (f σ H Q w)⟩
theorem atV {K : PySem.W.Frag} {B : Hp} {vs : List V} {ds : List D} (r : Reps K B vs ds) {i : Nat} {x : V} {d : D} (h1 : vs[i]? = some x) (h2 : ds[i]? = some d) : Rep K B x d := by
  obtain ⟨d', h3, h4⟩ := r.atV h1
  rw [h2] at h3; cases h3; exact h4
theorem wk_list {K : PySem.W.Frag} {B : Hp} {a : Addr} {xs : List V} {ds : List D} (h : SqL K B a xs) (r : Reps K B xs ds) (hz : xs.length ≤ sizeLine) : WkD K B (Itl K a) ds where
  len := by rw [← r.len]; exact hz
  go := fun i H hi e => walk_list.goes i H (by rw [r.len]; exact hi) (Evl.ex_l e h)
  st := fun H e => by rw [← r.len]; exact walk_list.stops H (Evl.ex_l e h)
  yl := fun i H x H' Bc d hd e1 e2 y => by
    have hi := (List.getElem?_eq_some_iff.mp hd).1
    obtain ⟨rfl, hx⟩ := walk_list.yields i H x H' (by rw [r.len]; exact hi) (Evl.ex_l (e1.trans e2) h) y
    exact ⟨Bc, Nx.refl e2, (atV r hx hd).up e1⟩
theorem wk_tup {K : PySem.W.Frag} {B : Hp} {a : Addr} {xs : List V} {ds : List D} (h : SqT K B a xs) (r : Reps K B xs ds) (hz : xs.length ≤ sizeLine) : WkD K B (Itt K a) ds where
  len := by rw [← r.len]; exact hz
  go := fun i H hi e => walk_tup.goes i H (by rw [r.len]; exact hi) (Evl.ex_t e h)
  st := fun H e => by rw [← r.len]; exact walk_tup.stops H (Evl.ex_t e h)
  yl := fun i H x H' Bc d hd e1 e2 y => by
    have hi := (List.getElem?_eq_some_iff.mp hd).1
    obtain ⟨rfl, hx⟩ := walk_tup.yields i H x H' (by rw [r.len]; exact hi) (Evl.ex_t (e1.trans e2) h) y
    exact ⟨Bc, Nx.refl e2, (atV r hx hd).up e1⟩
def chars (z : Str) : List D := z.cps.toList.map fun c => .str ⟨#[c]⟩
/-- what a for walks: a list, a tuple, a text -/
def itemsD : D → Option (List D)
  | .list ds => some ds
  | .tuple ds => some ds
  | .str z => fit z.cps.size (chars z)
  | _ => none
theorem di_seq {m : Option D} (he : DE X e ρ m) : DI X tg e ρ (m.bind itemsD) := ⟨⟨fun pins s σ H R I h => by
  obtain ⟨B0, H0, B, hh, ds, hm, q⟩ := h
  obtain ⟨d, hx, hf⟩ := bind_some hm
  refine thn (he.pe.run pins s σ H (fun v H1 => ∃ B1, Nx B H B1 H1 ∧ Rep X.K B1 v d) I ⟨B0, H0, B, hh, d, hx, fun v B1 H1 n1 r1 => ⟨B1, n1, r1⟩⟩) fun v s1 ⟨x, H1, I1, rx, B1, n1, r1⟩ => ?_
  cases r1 with
  | @lst l xs es h1 rr =>
    cases hf
    cases rx
    obtain ⟨its, rv, p, hz⟩ := I1.list (.inl (.inl (n1.2.2.1 _ _ h1)))
    refine wpAny_pyIter_list p.isList (pi_one (tk := s1.toks) I1 _ (turn_list l _) ⟨_, Heap.get?_push_size _ rfl, rfl, rfl⟩ ?_)
    exact q _ B1 H1 n1 (wk_list (.inl (.inl h1)) rr hz)
  | @tup l xs es h1 rr =>
    cases hf
    cases rx
    obtain ⟨its, rv, p, hz⟩ := I1.tuple (Evl.ex_t n1.2.2.1 h1)
    refine wpAny_pyIter_tuple (show s1.heap.IsTuple l its.toArray from p) (pi_one (tk := s1.toks) I1 _ (turn_tuple l _) ⟨_, Heap.get?_push_size _ rfl, rfl, rfl⟩ ?_)
    exact q _ B1 H1 n1 (wk_tup h1 rr hz)
  | str z =>
    obtain ⟨hz, rfl⟩ := fit_some hf
    obtain ⟨t, rfl⟩ := rx
    have W : WkD X.K B1 (Its z) (chars z) := by
      refine ⟨by unfold chars; simpa using hz, fun i H hi e => ?_, fun H e => ?_, fun i H x H' Bc d hd e1 e2 y => ?_⟩
      · unfold chars at hi; simp at hi; exact hi
      · show z.cps.size ≤ _
        unfold chars; simp
      · obtain ⟨rfl, c, hc, rfl⟩ := y
        have e : d = .str ⟨#[c]⟩ := by
          unfold chars at hd
          simp [hc] at hd
          exact hd.symm
        subst e
        exact ⟨Bc, Nx.refl e2, .str _⟩
    cases ha : z.cps.all (· < 128)
    · exact wpAny_pyIter_wide ha (pi_one (tk := s1.toks) I1 _ (turn_str _ z t "str_iterator" (.inr rfl)) ⟨_, Heap.get?_push_size _ rfl, rfl, rfl⟩ (q _ B1 H1 n1 W))
    · exact wpAny_pyIter_ascii ha (pi_one (tk := s1.toks) I1 _ (turn_str _ z t "str_ascii_iterator" (.inl rfl)) ⟨_, Heap.get?_push_size _ rfl, rfl, rfl⟩ (q _ B1 H1 n1 W))
  | _ => simp [itemsD] at hf⟩⟩
def rangeI (lo : Int) (n : Nat) : List D := (List.range n).map fun (i : Nat) => .int (lo + (i : Int))
/-- range's turns -/
def rng1D : List D → Option (List D)
  | [.int j] => if -4611686018427387904 ≤ j then fit j.toNat (rangeI 0 j.toNat) else none
  | _ => none
def rng2D : List D → Option (List D)
  | [.int i, .int j] => if (-4611686018427387904 ≤ i ∧ i < 4611686018427387904) ∧ -4611686018427387904 ≤ j ∧ j < 4611686018427387904 then fit (j - i).toNat (rangeI i (j - i).toNat) else none
  | _ => none
theorem wk_rng {K : PySem.W.Frag} {B : Hp} (lo : Int) {n : Nat} (h : n ≤ sizeLine) : WkD K B (Itr lo n) (rangeI lo n) := by
  refine ⟨by unfold rangeI; simpa using h, fun i H hi e => ?_, fun H e => ?_, fun i H x H' Bc d hd e1 e2 y => ?_⟩
  · unfold rangeI at hi; simp at hi; exact hi
  · show n ≤ _
    unfold rangeI; simp
  · obtain ⟨rfl, rfl⟩ := y
    have e : d = .int (lo + i) := by
      unfold rangeI at hd
      rw [List.getElem?_map] at hd
      obtain ⟨j, hj, rfl⟩ := map_some hd
      have := List.getElem?_eq_some_iff.mp hj
      obtain ⟨h1, h2⟩ := this
      simp at h2
      rw [h2]
    subst e
    exact ⟨Bc, Nx.refl e2, .int _⟩
theorem di_rng1 {m : Option (List D)} {p : Pos} (hg : Gl X "range") (hm : X.mg "range" = none) (ha : DA X [a] ρ m) (hs : starEach [a] X.env = [(false, eval a X.env)]) : DI X tg (.Call (.Name "range" p) [a] [] pos) ρ (m.bind rng1D) := ⟨piI (pi_range1 hg hm ha.pa hs) (by
  intro σ H R ⟨B0, H0, B, hh, ds, hm, q⟩
  obtain ⟨xs, hx, hf⟩ := bind_some hm
  refine ⟨B0, H0, B, hh, xs, hx, fun vs B1 H1 n1 r1 => ?_⟩
  unfold rng1D at hf
  split at hf
  · split at hf
    · rename_i j hj
      obtain ⟨hz, rfl⟩ := fit_some hf
      obtain ⟨v, rfl, h1⟩ := one_rep r1
      cases h1 with
      | int k =>
        have : (sizeLine : Nat) = 16777216 := sizeLine_eq
        exact ⟨_, rfl, by omega, by omega, q _ B1 H1 n1 (wk_rng 0 hz)⟩
    · cases hf
  · cases hf)⟩
theorem di_rng2 {m : Option (List D)} {p : Pos} (hg : Gl X "range") (hm : X.mg "range" = none) (ha : DA X [a, b] ρ m) (hs : starEach [a, b] X.env = [(false, eval a X.env), (false, eval b X.env)]) (hs2 : starEach [b] X.env = [(false, eval b X.env)]) : DI X tg (.Call (.Name "range" p) [a, b] [] pos) ρ (m.bind rng2D) := ⟨piI (pi_range2 hg hm ha.pa hs hs2) (by
  intro σ H R ⟨B0, H0, B, hh, ds, hm, q⟩
  obtain ⟨xs, hx, hf⟩ := bind_some hm
  refine ⟨B0, H0, B, hh, xs, hx, fun vs B1 H1 n1 r1 => ?_⟩
  unfold rng2D at hf
  split at hf
  · split at hf
    · rename_i i j hj
      obtain ⟨hz, rfl⟩ := fit_some hf
      obtain ⟨v, v', rfl, h1, h2⟩ := two_rep r1
      cases h1 with
      | int k =>
        cases h2 with
        | int k2 => exact ⟨_, _, rfl, ⟨by omega, by omega, by omega, by omega⟩, q _ B1 H1 n1 (wk_rng _ hz)⟩
    · cases hf
  · cases hf)⟩
end

/-! ### targets: what they take apart, the slots behind -/
def gT (K : PySem.W.Frag) {T : Type} (ρ : Env) (f : D → Option T) (post : T → Env) (js : List Nat) : TG := fun v σ H Q => ∃ B0 H0 B d t, Holds K B0 H0 ρ σ B H ∧ Rep K B v d ∧ f d = some t ∧
  ∀ σ', (∀ vs : List Nat, (∀ j ∈ js, j ∈ vs) → L2.wipe σ' vs = L2.wipe σ vs) → Holds K B0 H0 (post t) σ' B H → Q σ' H
structure DG (X : Cx) (tg : Expr) {T : Type} (ρ : Env) (f : D → Option T) (post : T → Env) (js : List Nat) : Prop where
  pg : PG X tg (gT X.K ρ f post js)
theorem wipe_set {σ : L2.St} {j : Nat} {o : Option V} : ∀ {vs : List Nat}, j ∈ vs → L2.wipe (σ.set j o) vs = L2.wipe σ vs
  | v :: vs, h => by
    by_cases e : j ∈ vs
    · unfold L2.wipe
      rw [wipe_set e]
    · have e' : j = v := (List.mem_cons.mp h).resolve_right e
      subst e'
      have key : ∀ {vs : List Nat}, j ∉ vs → L2.wipe (σ.set j o) vs = (L2.wipe σ vs).set j o := by
        intro vs
        induction vs with
        | nil => intro _; rfl
        | cons w ws ih =>
          intro hn
          unfold L2.wipe
          rw [ih (fun z => hn (List.mem_cons_of_mem _ z))]
          exact List.set_comm _ _ (fun z => hn (by rw [z]; exact List.mem_cons_self))
      unfold L2.wipe
      rw [key e, List.set_set]
theorem wipe_wipe (σ : L2.St) (vs : List Nat) : L2.wipe (L2.wipe σ vs) vs = L2.wipe σ vs := by
  have key : ∀ (us : List Nat), (∀ u ∈ us, u ∈ vs) → L2.wipe (L2.wipe σ us) vs = L2.wipe σ vs := by
    intro us
    induction us with
    | nil => intro _; rfl
    | cons u us ih =>
      intro h
      show L2.wipe ((L2.wipe σ us).set u none) vs = _
      rw [wipe_set (h u List.mem_cons_self)]
      exact ih fun w hw => h w (List.mem_cons_of_mem _ hw)
  exact key vs fun _ h => h
section
variable {X : Cx} {tg e a b c : Expr} {es : List Expr} {ρ : Env} {pos : Pos}
theorem pgI {t t' : TG} (h : PG X tg t) (f : ∀ v σ H Q, t' v σ H Q → t v σ H Q) : PG X tg t' := ⟨fun pins s σ H v u Q I r w => h.run pins s σ H v u Q I r (f v σ H Q w)⟩
theorem dg_name {i : Nat} {x : Str} (hN : X.N.Nodup) (hi : X.N[i]? = some x) (hx : Loc X.env.scope x) (hf : X.fn x = true ∨ X.env.scope.names.lookup x = some .local) : DG X (.Name x pos) ρ (fun d => some d) (fun d => ρ.set i (.val d)) [i] := ⟨pgI (pg_name hN hi hx hf) (by
  intro v σ H Q ⟨B0, H0, B, d, t, hh, r, ht, q⟩
  cases ht
  exact q _ (fun vs h => wipe_set (h i List.mem_cons_self)) (hh.setv r))⟩
def un2 : D → Option (D × D)
  | .tuple [x, y] => some (x, y)
  | _ => none
def un3 : D → Option (D × D × D)
  | .tuple [x, y, z] => some (x, y, z)
  | _ => none
def un4 : D → Option (D × D × D × D)
  | .tuple [x, y, z, w] => some (x, y, z, w)
  | _ => none
/-- several targets, by one list of data -/
def gTs (K : PySem.W.Frag) (ρ : Env) (n : Nat) (post : List D → Env) (js : List Nat) : TGs := fun us σ H Q => ∃ B0 H0 B ds, Holds K B0 H0 ρ σ B H ∧ Reps K B us ds ∧ ds.length = n ∧
  ∀ σ', (∀ vs : List Nat, (∀ j ∈ js, j ∈ vs) → L2.wipe σ' vs = L2.wipe σ vs) → Holds K B0 H0 (post ds) σ' B H → Q σ' H
structure DGs (X : Cx) (ts : List Expr) (ρ : Env) (n : Nat) (post : List D → Env) (js : List Nat) : Prop where
  pg : PGs X ts (gTs X.K ρ n post js)
theorem pgsI {ts : List Expr} {t t' : TGs} (h : PGs X ts t) (f : ∀ v σ H Q, t' v σ H Q → t v σ H Q) : PGs X ts t' := ⟨fun pins s σ H v u Q I r w => h.run pins s σ H v u Q I r (f v σ H Q w)⟩
theorem dgs_nil : DGs X [] ρ 0 (fun _ => ρ) [] := ⟨pgsI pgs_nil (by
  intro v σ H Q ⟨B0, H0, B, ds, hh, r, ht, q⟩
  cases ds with
  | nil => cases r; exact ⟨rfl, q σ (fun _ _ => rfl) hh⟩
  | cons => cases ht)⟩
/-- a name, then the rest -/
theorem dgs_cons {ts : List Expr} {i n : Nat} {x : Str} {post : D → List D → Env} {js : List Nat} (hN : X.N.Nodup) (hi : X.N[i]? = some x) (hx : Loc X.env.scope x) (hf : X.fn x = true ∨ X.env.scope.names.lookup x = some .local)
    (hr : ∀ d, DGs X ts (ρ.set i (.val d)) n (post d) js) : DGs X (.Name x pos :: ts) ρ (n + 1) (fun ds => post (ds.headD .none) ds.tail) (i :: js) := ⟨⟨by
  intro pins s σ H vs us Q I rv w
  obtain ⟨B0, H0, B, ds, hh, r, ht, q⟩ := w
  cases r with
  | nil => cases ht
  | @cons v vs d ds h1 h2 =>
    refine (pgs_cons (pg_name hN hi hx hf) (hr d).pg).run pins s σ H _ us Q I rv ⟨v, vs, rfl, ?_⟩
    refine ⟨B0, H0, B, ds, hh.setv h1, h2, by simpa using ht, fun σ' hw hh' => ?_⟩
    exact q σ' (fun ws h => (hw ws fun j hj => h j (List.mem_cons_of_mem _ hj)).trans (wipe_set (h i List.mem_cons_self))) hh'⟩⟩
theorem dg_tup {T : Type} {k n : Nat} {post : List D → Env} {js : List Nat} {f : D → Option T} {pst : T → Env} (hc : X.calm = true) (h : DGs X es ρ n post js) (hst : (assignEach es X.env).findIdx? (·.1) = none) (hlen : (assignEach es X.env).length = n)
    (hf : ∀ d t, f d = some t → ∃ ds, d = .tuple ds ∧ ds.length = n ∧ pst t = post ds) : DG X (.Tuple es k pos) ρ f pst js := ⟨pgI (pg_tup (n := n) hc h.pg hlen hst) (by
  intro v σ H Q ⟨B0, H0, B, d, t, hh, r, ht, q⟩
  obtain ⟨ds, rfl, hl, hp⟩ := hf d t ht
  cases r with
  | @tup a vs _ h1 rr =>
    refine ⟨a, vs, rfl, Evl.ex_t hh.ex h1, by rw [rr.len]; exact hl, ⟨B0, H0, B, ds, hh, rr, hl, fun σ' hw hh' => q σ' hw (by rw [hp]; exact hh')⟩⟩)⟩
theorem dg_tup2 {k : Nat} {post : List D → Env} {js : List Nat} {pst : D × D → Env} (hc : X.calm = true) (h : DGs X es ρ 2 post js) (hst : (assignEach es X.env).findIdx? (·.1) = none) (hlen : (assignEach es X.env).length = 2)
    (hp : ∀ x y, pst (x, y) = post [x, y]) : DG X (.Tuple es k pos) ρ un2 pst js := dg_tup hc h hst hlen fun d t e => by
  unfold un2 at e
  split at e
  · cases e; exact ⟨_, rfl, rfl, hp _ _⟩
  · cases e
theorem dg_tup3 {k : Nat} {post : List D → Env} {js : List Nat} {pst : D × D × D → Env} (hc : X.calm = true) (h : DGs X es ρ 3 post js) (hst : (assignEach es X.env).findIdx? (·.1) = none) (hlen : (assignEach es X.env).length = 3)
    (hp : ∀ x y z, pst (x, y, z) = post [x, y, z]) : DG X (.Tuple es k pos) ρ un3 pst js := dg_tup hc h hst hlen fun d t e => by
  unfold un3 at e
  split at e
  · cases e; exact ⟨_, rfl, rfl, hp _ _ _⟩
  · cases e
theorem dg_tup4 {k : Nat} {post : List D → Env} {js : List Nat} {pst : D × D × D × D → Env} (hc : X.calm = true) (h : DGs X es ρ 4 post js) (hst : (assignEach es X.env).findIdx? (·.1) = none) (hlen : (assignEach es X.env).length = 4)
    (hp : ∀ x y z w, pst (x, y, z, w) = post [x, y, z, w]) : DG X (.Tuple es k pos) ρ un4 pst js := dg_tup hc h hst hlen fun d t e => by
  unfold un4 at e
  split at e
  · cases e; exact ⟨_, rfl, rfl, hp _ _ _ _⟩
  · cases e

/-! ### list comprehensions -/
def compM {α β : Type} (h : α → Option (Option β)) : List α → Option (List β)
  | [] => some []
  | d :: r => (h d).bind fun o => (compM h r).bind fun ys => some (o.toList ++ ys)
theorem compM_app {α β : Type} {h : α → Option (Option β)} : ∀ (xs ys : List α), compM h (xs ++ ys) = (compM h xs).bind fun us => (compM h ys).bind fun ws => some (us ++ ws)
  | [], ys => by cases q : compM h ys <;> simp [compM, q]
  | x :: xs, ys => by
    show ((h x).bind fun o => (compM h (xs ++ ys)).bind fun zs => some (o.toList ++ zs)) = _
    rw [compM_app xs ys]
    cases q : h x <;> simp [compM, q]
    cases q2 : compM h xs <;> simp
    cases q3 : compM h ys <;> simp
theorem compM_len {α β : Type} {h : α → Option (Option β)} : ∀ {xs : List α} {ys : List β}, compM h xs = some ys → ys.length ≤ xs.length
  | [], ys, e => by cases e; simp
  | x :: xs, ys, e => by
    obtain ⟨o, h1, e⟩ := bind_some (show ((h x).bind fun o => (compM h xs).bind fun ys => some (o.toList ++ ys)) = some ys from e)
    obtain ⟨zs, h2, e⟩ := bind_some e
    cases e
    have := compM_len h2
    cases o <;> simp <;> omega
/-- the turns one by one -/
theorem compM_step {α β : Type} {h : α → Option (Option β)} {xs : List α} {ys : List β} (e : compM h xs = some ys) {i : Nat} {x : α} (hx : xs[i]? = some x) {acc : List β} (ha : compM h (xs.take i) = some acc) :
    ∃ o, h x = some o ∧ compM h (xs.take (i + 1)) = some (acc ++ o.toList) := by
  have hl := (List.getElem?_eq_some_iff.mp hx).1
  have e1 : xs = xs.take i ++ (x :: xs.drop (i + 1)) := by
    have : xs.drop i = x :: xs.drop (i + 1) := by
      rw [List.drop_eq_getElem_cons hl]
      have := (List.getElem?_eq_some_iff.mp hx).2
      rw [this]
    rw [← this, List.take_append_drop]
  rw [e1, compM_app, ha] at e
  obtain ⟨us, h0, e⟩ := bind_some e
  cases h0
  obtain ⟨ws, h1, e⟩ := bind_some e
  obtain ⟨o, h2, h3⟩ := bind_some (show ((h x).bind fun o => (compM h (xs.drop (i + 1))).bind fun ys => some (o.toList ++ ys)) = some ws from h1)
  refine ⟨o, h2, ?_⟩
  rw [List.take_add_one, hx, compM_app, ha]
  show (some acc).bind _ = _
  simp [compM, h2]
/-- one turn of a comprehension -/
abbrev turnC {T : Type} (f : D → Option T) (k : T → Option Bool) (g : T → Option D) (d : D) : Option (Option D) := (f d).bind fun t => (k t).bind fun b => if b then (g t).map some else some none
theorem tLcD {T : Type} {m : Option (List D)} {f : D → Option T} {post : T → Env} {js vs : List Nat} {k : T → Option Bool} {g : T → Option D} {K : PySem.W.Frag} {wi : TI} {gg : TG} {tt : TT} {te : TE}
    (hwi : ∀ σ H R, iT K ρ m σ H R → wi σ H R) (hgg : ∀ v σ H Q, gT K (wipeE ρ vs) f post js v σ H Q → gg v σ H Q) (htt : ∀ t σ H Q, cB K (post t) (k t) σ H Q → tt σ H Q) (hte : ∀ t σ H Q, cT K (post t) (g t) σ H Q → te σ H Q)
    (hj : ∀ j ∈ js, j ∈ vs) : ∀ σ H Q, cF K ρ (m.bind (compM (turnC f k g))) σ H Q → tLc wi gg tt te vs σ H Q := by
  intro σ H Q ⟨B0, H0, B, hh, ys, hm, q⟩
  obtain ⟨ds, hx, hf⟩ := bind_some hm
  refine hwi σ H _ ⟨B0, H0, B, hh, ds, hx, fun J B1 H1 n1 w => ?_⟩
  intro Da hD
  have h1 := hh.step n1
  -- the word between the turns
  let P : Nat → Hp → Prop := fun i H' => ∃ Bc ws acc, Nx B1 H1 Bc H' ∧ Bc Da = none ∧ H' Da = some (.lst ws) ∧ Reps K Bc ws acc ∧ compM (turnC f k g) (ds.take i) = some acc
  refine ⟨fun i n H' => n = ds.length - i ∧ i ≤ ds.length ∧ P i H', ⟨ds.length, by simp, Nat.zero_le _, B1, [], [], Nx.own n1.2.2.1 hD, Ex.none n1.2.2.1 hD, upd_same, .nil, rfl⟩, ?_⟩
  rintro i n H' ⟨rfl, hi, Bc, ws, acc, nx, hb, hd, rr, hc⟩
  by_cases hlt : i < ds.length
  · refine .inr ⟨w.go i H' hlt (nx.1.trans nx.2.2.1), P (i + 1), fun H2 p => ⟨ds.length - (i + 1), by omega, rfl, hlt, p⟩, fun x H2 y => ?_⟩
    have hdi : ds[i]? = some ds[i] := by simp [hlt]
    obtain ⟨o, ho, hc'⟩ := compM_step hf hdi hc
    obtain ⟨t, ht, ho⟩ := bind_some ho
    obtain ⟨b, hk, ho⟩ := bind_some ho
    obtain ⟨B2, n2, r2⟩ := w.yl i H' x H2 Bc ds[i] hdi nx.1 nx.2.2.1 y
    have hD2 : H2 Da = some (.lst ws) := n2.2.1 _ _ hd
    have hB2 : B2 Da = none := n2.2.2.2 Da (by rw [hd]; simp) hb
    have nx2 := nx.trans n2
    have acl : ws.length < sizeLine := by
      have e1 := compM_len hc
      have e2 := rr.len
      have e3 := w.len
      rw [List.length_take] at e1
      omega
    refine hgg x _ H2 _ ⟨B0, H0, B2, ds[i], t, (h1.step nx2).wipe vs, r2, ht, fun σ' hw h3 => ?_⟩
    refine ⟨by rw [hw vs hj, wipe_wipe], ?_⟩
    refine htt t σ' H2 _ ⟨B0, H0, B2, h3, b, hk, fun B3 H3 n3 => ?_⟩
    have hD3 : H3 Da = some (.lst ws) := n3.2.1 _ _ hD2
    have hB3 : B3 Da = none := n3.2.2.2 Da (by rw [hD2]; simp) hB2
    have nx3 := nx2.trans n3
    cases b with
    | false =>
      cases ho
      refine L2.iteF (B := P (i + 1) H3) ?_
      refine ⟨B3, ws, acc, nx3, hB3, hD3, rr.up (n2.1.trans n3.1), ?_⟩
      rw [hc', Option.toList_none, List.append_nil]
    | true =>
      refine L2.iteT (A := te σ' H3 _) ?_
      obtain ⟨z, hz, rfl⟩ := map_some (show (g t).map some = some o from ho)
      refine hte t σ' H3 _ ⟨B0, H0, B3, h3.step n3, z, hz, fun v B4 H4 n4 r4 => ?_⟩
      have hD4 : H4 Da = some (.lst ws) := n4.2.1 _ _ hD3
      have hB4 : B4 Da = none := n4.2.2.2 Da (by rw [hD3]; simp) hB3
      have nx4 := nx3.trans n4
      refine ⟨ws, hD4, acl, B4, ws ++ [v], acc ++ [z], ?_, hB4, upd_same, (rr.up ((n2.1.trans n3.1).trans n4.1)).app (.cons r4 .nil), hc'⟩
      refine ⟨nx4.1, fun a u z => ?_, fun a u z => ?_, nx4.2.2.2⟩
      · have ha : a ≠ Da := ne_of_none z hD
        rw [upd_ne ha]; exact nx4.2.1 a u z
      · have ha : a ≠ Da := ne_of_none z hB4
        rw [upd_ne ha]; exact nx4.2.2.1 a u z
  · have e : i = ds.length := by omega
    subst e
    rw [List.take_length, hf] at hc
    cases hc
    refine .inl ⟨w.st H' (nx.1.trans nx.2.2.1), ?_⟩
    exact q Da ws Bc H' (n1.trans nx) (Ex.none n1.2.1 hD) hb hd rr
section
variable {T : Type} {m : Option (List D)} {f : D → Option T} {post : T → Env} {js : List Nat} {k : T → Option Bool} {g : T → Option D} {elt iter : Expr} {ifs : List Expr} {scope : Scope} {own : List (Str × Nat)}
/-- the tests of a clause -/
structure DTs (X : Cx) (ifs : List Expr) (ρ : Env) (m : Option Bool) : Prop where
  pts : PTs X ifs (cB X.K ρ m)
theorem dts_nil : DTs X [] ρ (some true) := ⟨⟨fun pins s σ H Q I w => pts_nil.run pins s σ H Q I (by
  obtain ⟨B0, H0, B, hh, b, hm, q⟩ := w
  cases hm
  exact q B H (Nx.refl hh.ex))⟩⟩
theorem dts_one {m : Option Bool} (h : DT X c ρ m) : DTs X [c] ρ m := ⟨⟨fun pins s σ H Q I w => (pts_one h.pt).run pins s σ H Q I w⟩⟩
/-- any data: the judgements of the block hold for every datum of the target, as one reading -/
theorem peA {T : Type} {X : Cx} {e : Expr} {t : T → TE} (h : ∀ x, PE X e (t x)) : PE X e (fun σ H Q => ∃ x, t x σ H Q) := ⟨fun pins s σ H Q I ⟨x, w⟩ => (h x).run pins s σ H Q I w⟩
theorem ptsA {T : Type} {X : Cx} {es : List Expr} {t : T → TT} (h : ∀ x, PTs X es (t x)) : PTs X es (fun σ H Q => ∃ x, t x σ H Q) := ⟨fun pins s σ H Q I ⟨x, w⟩ => (h x).run pins s σ H Q I w⟩
theorem df_lc (hc : X.calm = true) (hN : X.N.Nodup) (hi : DI X tg iter ρ m) (ok : BlkOk X.N X.env.scope scope own)
    (hg : ∀ (s : Shared) (H : Hp) (C : Addr) (cl : List (Str × Addr)) (fp : List Addr), DG (X.blk s H scope (compEnvC scope cl C X.env) fp) tg (wipeE ρ (own.map (·.2))) f post js)
    (ht : ∀ (s : Shared) (H : Hp) (C : Addr) (cl : List (Str × Addr)) (fp : List Addr) (t : T), DTs (X.blk s H scope (compEnvC scope cl C X.env) fp) ifs (post t) (k t))
    (he : ∀ (s : Shared) (H : Hp) (C : Addr) (cl : List (Str × Addr)) (fp : List Addr) (t : T), DE (X.blk s H scope (compEnvC scope cl C X.env) fp) elt (post t) (g t))
    (hj : ∀ j ∈ js, j ∈ own.map (·.2)) (hs : ∀ x, foldedSetIterable iter X.env x = pure x) : DF X (.ListComp elt [⟨tg, iter, ifs, 0⟩] scope pos) ρ (m.bind (compM (turnC f k g))) :=
  ⟨peI (pe_lc (own := own) hc hN hi.pi ok (fun s H C cl fp => (hg s H C cl fp).pg) (fun s H C cl fp => ptsA fun t => (ht s H C cl fp t).pts) (fun s H C cl fp => peA fun t => (he s H C cl fp t).pe) hs)
    (tLcD (fun _ _ _ h => h) (fun _ _ _ _ h => h) (fun t _ _ _ h => ⟨t, h⟩) (fun t _ _ _ h => ⟨t, h⟩) hj)⟩
end
end
end Dl

/-! Data layer, part 6: statements, own functions. -/
namespace Dl
open PySem L2 PySem.Spec PyProof.Rows PySem.W PySem.SeqAt
open Evl (Ex)

inductive Fl (S L : Type) where
  | nx (s : S)
  | rt (d : D)
  | bk (l : L)
  | ct (l : L)
/-- what is wanted of a return -/
abbrev RT := PySem.W.Frag → Hp → Hp → D → VK → Prop
def rV : RT := fun K B0 H0 d k => ∀ v B' H', Nx B0 H0 B' H' → Rep K B' v d → k v H'
/-- a new list -/
def rF : RT := fun K B0 H0 d k => ∀ ds, d = .list ds → ∀ p vs B' H', Nx B0 H0 B' H' → H0 p = none → B' p = none → H' p = some (.lst vs) → Reps K B' vs ds → k (.ref p) H'
def cS (K : PySem.W.Frag) (R : RT) (ρ : Env) {S L : Type} (m : Option (Fl S L)) (post : S → Env) (lp : L → Env) : TS := fun Dn σ H => ∃ B0 H0 B, Holds K B0 H0 ρ σ B H ∧ ∃ f, m = some f ∧ match f with
  | .nx s => ∀ σ' B' H', Holds K B0 H0 (post s) σ' B' H' → Ex B B' → Dn.nx σ' H'
  | .bk l => ∀ σ' B' H', Holds K B0 H0 (lp l) σ' B' H' → Ex B B' → Dn.bk σ' H'
  | .ct l => ∀ σ' B' H', Holds K B0 H0 (lp l) σ' B' H' → Ex B B' → Dn.ct σ' H'
  | .rt d => R K B0 H0 d Dn.rt
structure DS (X : Cx) (R : RT) (st : Stmt) (ρ : Env) {S L : Type} (m : Option (Fl S L)) (post : S → Env) (lp : L → Env) : Prop where
  ps : PS X st (cS X.K R ρ m post lp)
structure DB (X : Cx) (R : RT) (sts : List Stmt) (ρ : Env) {S L : Type} (m : Option (Fl S L)) (post : S → Env) (lp : L → Env) : Prop where
  ps : PSs X sts (cS X.K R ρ m post lp)
/-- one statement, then the rest -/
@[irreducible] def seqF {S T L : Type} (m : Option (Fl S L)) (n : S → Option (Fl T L)) : Option (Fl T L) := m.bind fun f => match f with
  | .nx s => n s
  | .rt d => some (.rt d)
  | .bk l => some (.bk l)
  | .ct l => some (.ct l)
theorem seqF_some {S T L : Type} {m : Option (Fl S L)} {n : S → Option (Fl T L)} {f : Fl T L} (h : seqF m n = some f) : ∃ g, m = some g ∧ (match g with
  | .nx s => n s
  | .rt d => some (.rt d)
  | .bk l => some (.bk l)
  | .ct l => some (.ct l)) = some f := by
  unfold seqF at h
  exact bind_some h
/-- a for's turns -/
def forF {α L M : Type} (F : α → L → Option (Fl L L)) : List α → L → Option (Fl L M)
  | [], l => some (.nx l)
  | d :: r, l => (F d l).bind fun f => match f with
    | .nx l' => forF F r l'
    | .ct l' => forF F r l'
    | .bk l' => some (.nx l')
    | .rt d => some (.rt d)
/-- a while's turns, at most n -/
def whileF {L M : Type} (c : L → Option Bool) (F : L → Option (Fl L L)) : Nat → L → Option (Fl L M)
  | 0, _ => none
  | n + 1, l => (c l).bind fun b => if b then (F l).bind fun f => (match f with
    | .nx l' => whileF c F n l'
    | .ct l' => whileF c F n l'
    | .bk l' => some (.nx l')
    | .rt d => some (.rt d)) else some (.nx l)

section
variable {X : Cx} {R : RT} {tg e a b c : Expr} {es : List Expr} {ρ : Env} {pos : Pos} {st : Stmt} {sts : List Stmt}
theorem psI {t t' : TS} (h : PS X st t) (f : ∀ D σ H, t' D σ H → t D σ H) : PS X st t' := ⟨fun pins s σ H D I w => h.run pins s σ H D I (f D σ H w)⟩
theorem pssI {t t' : TS} (h : PSs X sts t) (f : ∀ D σ H, t' D σ H → t D σ H) : PSs X sts t' := ⟨fun pins s σ H D I w => h.run pins s σ H D I (f D σ H w)⟩
theorem pssA {T : Type} {t : T → TS} (h : ∀ x, PSs X sts (t x)) : PSs X sts (fun D σ H => ∃ x, t x D σ H) := ⟨fun pins s σ H D I ⟨x, w⟩ => (h x).run pins s σ H D I w⟩
section
variable {S T L : Type} {lp : L → Env}
theorem db_nil {post : S → Env} {s : S} (w : Wk ρ (post s)) : DB X R [] ρ (some (.nx s)) post lp := ⟨pssI pss_nil (by
  intro D σ H ⟨B0, H0, B, hh, f, hm, q⟩
  cases hm
  exact q σ B H (hh.wk w) (Ex.refl B))⟩
theorem db_cons {p1 : S → Env} {p2 : T → Env} {m : Option (Fl S L)} {n : S → Option (Fl T L)} (h1 : DS X R st ρ m p1 lp) (h2 : ∀ s, DB X R sts (p1 s) (n s) p2 lp) : DB X R (st :: sts) ρ (seqF m n) p2 lp := ⟨pssI (pss_cons h1.ps (pssA fun s => (h2 s).ps)) (by
  intro D σ H ⟨B0, H0, B, hh, f, hm, q⟩
  obtain ⟨g, hg, hm⟩ := seqF_some hm
  refine ⟨B0, H0, B, hh, g, hg, ?_⟩
  cases g with
  | nx s =>
    intro σ' B' H' h' e
    refine ⟨s, B0, H0, B', h', f, hm, ?_⟩
    cases f with
    | nx t => exact fun σ'' B'' H'' h'' e' => q σ'' B'' H'' h'' (e.trans e')
    | bk t => exact fun σ'' B'' H'' h'' e' => q σ'' B'' H'' h'' (e.trans e')
    | ct t => exact fun σ'' B'' H'' h'' e' => q σ'' B'' H'' h'' (e.trans e')
    | rt d => exact q
  | rt d => cases hm; exact q
  | bk l => cases hm; exact q
  | ct l => cases hm; exact q)⟩
theorem db_one {post : S → Env} {m : Option (Fl S L)} (h : DS X R st ρ m post lp) : DB X R [st] ρ m post lp := ⟨pss_one h.ps⟩
theorem db_wk {ρ' : Env} {post : S → Env} {m : Option (Fl S L)} (w : Wk ρ ρ') (h : DB X R sts ρ' m post lp) : DB X R sts ρ m post lp := ⟨pssI h.ps (by
  intro D σ H ⟨B0, H0, B, hh, q⟩
  exact ⟨B0, H0, B, hh.wk w, q⟩)⟩
/-- a list of one's own is never changed from here on -/
theorem db_frz {i : Nat} {ds : List D} {post : S → Env} {m : Option (Fl S L)} (hi : ρ[i]? = some (.own ds)) (h : DB X R sts (ρ.set i (.val (.list ds))) m post lp) : DB X R sts ρ m post lp := ⟨pssI h.ps (by
  intro D σ H ⟨B0, H0, B, hh, f, hm, q⟩
  obtain ⟨p, vs, h1, h2, h3, h4, h5⟩ := hh.own i ds hi
  have hE : Ex B (upd B p (.lst vs)) := Ex.new h3
  have nn : Nx B0 H0 (upd B p (.lst vs)) H := by
    refine ⟨hh.nx.1.trans hE, hh.nx.2.1, fun a u z => ?_, fun a ha hb => ?_⟩
    · by_cases e : a = p
      · subst e; rw [upd_same] at z; rw [h4]; exact z
      · rw [upd_ne e] at z; exact hh.ex a u z
    · have e : a ≠ p := fun z => ha (by rw [z]; exact h2)
      rw [upd_ne e]; exact hh.nx.2.2.2 a ha hb
  have gs : ∀ {j : Nat} {x : Sl}, (ρ.set i (.val (.list ds)))[j]? = some x → (j = i ∧ x = .val (.list ds)) ∨ (j ≠ i ∧ ρ[j]? = some x) := fun {j x} z => by
    rcases getset z with ⟨e1, e2⟩ | z
    · exact .inl ⟨e1, e2.symm⟩
    · exact .inr z
  have K2 : Holds X.K B0 H0 (ρ.set i (.val (.list ds))) σ (upd B p (.lst vs)) H := by
    refine ⟨nn, by rw [List.length_set]; exact hh.len, fun j d z => ?_, fun j es z => ?_, fun j ns z => ?_, fun j k es fs r z1 z2 z3 z4 => ?_⟩
    · rcases gs z with ⟨rfl, e2⟩ | ⟨_, z⟩
      · cases e2
        exact ⟨_, h1, .lst upd_same (h5.up hE)⟩
      · obtain ⟨v, g1, g2⟩ := hh.val j d z
        exact ⟨v, g1, g2.up hE⟩
    · rcases gs z with ⟨_, e2⟩ | ⟨ne, z⟩
      · cases e2
      · obtain ⟨p', vs', g1, g2, g3, g4, g5⟩ := hh.own j es z
        have np : p' ≠ p := fun e => ne (hh.apart j i es ds p' z hi g1 (by rw [e]; exact h1))
        exact ⟨p', vs', g1, g2, by rw [upd_ne np]; exact g3, g4, g5.up hE⟩
    · rcases gs z with ⟨_, e2⟩ | ⟨ne, z⟩
      · cases e2
      · obtain ⟨a, g1, g2⟩ := hh.scr j ns z
        exact ⟨a, g1, Evl.ex_l hE g2⟩
    · rcases gs z1 with ⟨_, e2⟩ | ⟨_, y1⟩
      · cases e2
      · rcases gs z2 with ⟨_, e2⟩ | ⟨_, y2⟩
        · cases e2
        · exact hh.apart j k es fs r y1 y2 z3 z4
  refine ⟨B0, H0, _, K2, f, hm, ?_⟩
  cases f with
  | nx t => exact fun σ'' B'' H'' h'' e' => q σ'' B'' H'' h'' (hE.trans e')
  | bk t => exact fun σ'' B'' H'' h'' e' => q σ'' B'' H'' h'' (hE.trans e')
  | ct t => exact fun σ'' B'' H'' h'' e' => q σ'' B'' H'' h'' (hE.trans e')
  | rt d => exact q)⟩

/-! ### assignments -/
abbrev nxt {S L : Type} (m : Option S) : Option (Fl S L) := m.map .nx
theorem nxt_some {m : Option S} {f : Fl S L} (h : (nxt m : Option (Fl S L)) = some f) : ∃ s, m = some s ∧ f = .nx s := by
  obtain ⟨s, h1, h2⟩ := map_some h
  exact ⟨s, h1, h2.symm⟩
theorem ds_asg {i : Nat} {x : Str} {pos' : Pos} {m : Option D} (hN : X.N.Nodup) (hi : X.N[i]? = some x) (hx : Loc X.env.scope x) (he : DE X e ρ m) (hs : swapsWith e (some (.Name x pos')) pos.line X.env = pure false) (hf : X.fn x = true ∨ X.env.scope.names.lookup x = some .local) :
    DS X R (.Assign [.Name x pos'] e pos) ρ (nxt m) (fun d => ρ.set i (.val d)) lp := ⟨psI (ps_set hN hi hx he.pe hs hf) (by
  intro D σ H ⟨B0, H0, B, hh, f, hm, q⟩
  obtain ⟨d, hd, rfl⟩ := nxt_some hm
  exact ⟨B0, H0, B, hh, d, hd, fun v B1 H1 n1 r1 => q _ B1 H1 ((hh.step n1).setv r1) n1.1⟩)⟩
theorem Holds.newOwn {K : PySem.W.Frag} {B0 H0 B H B1 H1 : Hp} {σ : L2.St} {p : Addr} {vs : List V} {ds : List D} {i : Nat} (hh : Holds K B0 H0 ρ σ B H) (n1 : Nx B H B1 H1) (hp : H p = none) (hb : B1 p = none) (he : H1 p = some (.lst vs)) (r : Reps K B1 vs ds) :
    Holds K B0 H0 (ρ.set i (.own ds)) (σ.set i (some (.ref p))) B1 H1 := by
  refine (hh.step n1).seto r (Ex.none hh.nx.2.1 hp) hb he fun j es hj hr z => ?_
  obtain ⟨p', vs', g1, g2, g3, g4, g5⟩ := hh.own j es hr
  rw [g1] at z
  cases z
  rw [hp] at g4; cases g4
theorem ds_asgF {i : Nat} {x : Str} {pos' : Pos} {m : Option (List D)} (hN : X.N.Nodup) (hi : X.N[i]? = some x) (hx : Loc X.env.scope x) (he : DF X e ρ m) (hs : swapsWith e (some (.Name x pos')) pos.line X.env = pure false) (hf : X.fn x = true ∨ X.env.scope.names.lookup x = some .local) :
    DS X R (.Assign [.Name x pos'] e pos) ρ (nxt m) (fun d => ρ.set i (.own d)) lp := ⟨psI (ps_set hN hi hx he.pe hs hf) (by
  intro D σ H ⟨B0, H0, B, hh, f, hm, q⟩
  obtain ⟨d, hd, rfl⟩ := nxt_some hm
  exact ⟨B0, H0, B, hh, d, hd, fun p vs B1 H1 n1 hp hb he r1 => q _ B1 H1 (hh.newOwn n1 hp hb he r1) n1.1⟩)⟩
/-- a, b = e -/
theorem ds_tg {T : Type} {f : D → Option T} {post : T → Env} {js : List Nat} {m : Option D} (he : DE X e ρ m) (hg : DG X tg ρ f post js) (hs : swapsWithSole [tg] e pos.line X.env = pure false) (hw : swappedStores [tg] e X.env = pure none) (h1 : (assignEach [tg] X.env).map (·.2) = [assign tg X.env]) :
    DS X R (.Assign [tg] e pos) ρ (nxt (m.bind f)) post lp := ⟨⟨fun pins s σ H D I w => by
  obtain ⟨B0, H0, B, hh, f', hm, q⟩ := w
  obtain ⟨t, ht, rfl⟩ := nxt_some hm
  obtain ⟨d, hd, ht⟩ := bind_some ht
  refine (ps_asg (g := fun v σ' H' Q => ∃ B1, Nx B H B1 H' ∧ Rep X.K B1 v d ∧ σ' = σ ∧ gT X.K ρ f post js v σ' H' Q) he.pe (pgI hg.pg fun v σ' H' Q ⟨B1, n1, r1, e1, w⟩ => w) hs hw h1).run pins s σ H D I ?_
  refine ⟨B0, H0, B, hh, d, hd, fun v B1 H1 n1 r1 => ⟨B1, n1, r1, rfl, B0, H0, B1, d, t, hh.step n1, r1, ht, fun σ' _ h' => q σ' B1 H1 h' n1.1⟩⟩⟩⟩
theorem ds_aug {i : Nat} {x : Str} {pos' : Pos} {op : Operator} {f : D → D → Option D} {m : Option D} {d0 : D} (hl : look ρ i = some d0) (hN : X.N.Nodup) (hi : X.N[i]? = some x) (hx : Loc X.env.scope x) (he : DE X e ρ m) (ho : PIp X op (rD X.K f)) (hf : X.fn x = true ∨ X.env.scope.names.lookup x = some .local) :
    DS X R (.AugAssign (.Name x pos') op e pos) ρ (nxt (m.bind fun y => f d0 y)) (fun d => ρ.set i (.val d)) lp := ⟨psI (ps_aug hN hi hx he.pe ho hf) (by
  intro D σ H ⟨B0, H0, B, hh, f', hm, q⟩
  obtain ⟨t, ht, rfl⟩ := nxt_some hm
  obtain ⟨y, hy, ht⟩ := bind_some ht
  obtain ⟨v0, g1, g2⟩ := hh.val i d0 (look_some hl)
  refine ⟨v0, g1, B0, H0, B, hh, y, hy, fun v B1 H1 n1 r1 => ⟨B1, d0, y, t, n1.2.2.1, g2.up n1.1, r1, ht, fun w B2 H2 n2 r2 => ?_⟩⟩
  exact q _ B2 H2 (((hh.step n1).step n2).setv r2) (n1.1.trans n2.1))⟩
def iaddD : D → D → Option D
  | .int i, .int j => some (.int (i + j))
  | _, _ => none
theorem ip_addD : PIp X .Add (rD X.K iaddD) := by
  intro pins s σ H x y v u Q I rx ry ⟨B, d, e, r, ex, hd, he, hf, q⟩
  cases hd with
  | int i =>
    cases he with
    | int j => cases hf; exact ip_add pins s σ H _ _ v u Q I rx ry ⟨i, j, rfl, rfl, q _ B H (Nx.refl ex) (.int _)⟩
    | _ => simp [iaddD] at hf
  | _ => cases he <;> simp [iaddD] at hf
theorem ip_subD : PIp X .Sub (rD X.K subD) := by
  intro pins s σ H x y v u Q I rx ry ⟨B, d, e, r, ex, hd, he, hf, q⟩
  cases hd with
  | int i =>
    cases he with
    | int j => cases hf; exact ip_sub pins s σ H _ _ v u Q I rx ry ⟨i, j, rfl, rfl, q _ B H (Nx.refl ex) (.int _)⟩
    | _ => simp [subD] at hf
  | _ => cases he <;> simp [subD] at hf
end
end
end Dl

/-! Data layer, part 7: the rest of the statements, own functions. -/
namespace Dl
open PySem L2 PySem.Spec PyProof.Rows PySem.W PySem.SeqAt
open Evl (Ex)

section
variable {X : Cx} {R : RT} {tg e a b c : Expr} {es : List Expr} {ρ : Env} {pos : Pos} {st : Stmt} {sts : List Stmt} {S T L : Type} {lp : L → Env}
section
variable {T : Type} {m : Option (List D)} {f : D → Option T} {post : T → Env} {js : List Nat} {k : T → Option Bool} {g : T → Option D} {elt iter : Expr} {ifs : List Expr} {scope : Scope} {own : List (Str × Nat)}
/-- name = [.. for ..], the name a local -/
theorem ds_setLc {i : Nat} {y : Str} {py : Pos} {spos : Pos} (hc : X.calm = true) (hN : X.N.Nodup) (hy : X.N[i]? = some y) (hyl : X.env.scope.names.lookup y = some .local)
    (hsw : swapsWith (.ListComp elt [⟨tg, iter, ifs, 0⟩] scope pos) (some (.Name y py)) spos.line X.env = pure true) (hi : DI X tg iter ρ m) (ok : BlkOk X.N X.env.scope scope own)
    (hg : ∀ (s : Shared) (H : Hp) (C : Addr) (cl : List (Str × Addr)) (fp : List Addr), DG (X.blk s H scope (compEnvC scope cl C X.env) fp) tg (wipeE ρ (own.map (·.2))) f post js)
    (ht : ∀ (s : Shared) (H : Hp) (C : Addr) (cl : List (Str × Addr)) (fp : List Addr) (t : T), DTs (X.blk s H scope (compEnvC scope cl C X.env) fp) ifs (post t) (k t))
    (he : ∀ (s : Shared) (H : Hp) (C : Addr) (cl : List (Str × Addr)) (fp : List Addr) (t : T), DE (X.blk s H scope (compEnvC scope cl C X.env) fp) elt (post t) (g t))
    (hj : ∀ j ∈ js, j ∈ own.map (·.2)) (hs : ∀ x, foldedSetIterable iter X.env x = pure x) :
    DS X R (.Assign [.Name y py] (.ListComp elt [⟨tg, iter, ifs, 0⟩] scope pos) spos) ρ (nxt (m.bind (compM (turnC f k g)))) (fun ys => ρ.set i (.own ys)) lp :=
  ⟨psI (ps_setLc (own := own) hc hN hy hyl hsw hi.pi ok (fun s H C cl fp => (hg s H C cl fp).pg) (fun s H C cl fp => ptsA fun t => (ht s H C cl fp t).pts) (fun s H C cl fp => peA fun t => (he s H C cl fp t).pe) hs) (by
    intro Dn σ H ⟨B0, H0, B, hh, f', hm, q⟩
    obtain ⟨ys, hd, rfl⟩ := nxt_some hm
    refine tLcD (post := post) (f := f) (k := k) (g := g) (fun _ _ _ h => h) (fun _ _ _ _ h => h) (fun t _ _ _ h => ⟨t, h⟩) (fun t _ _ _ h => ⟨t, h⟩) hj σ H _ ⟨B0, H0, B, hh, ys, hd, fun p vs B1 H1 n1 hp hb he r1 => ?_⟩
    exact q _ B1 H1 (hh.newOwn n1 hp hb he r1) n1.1)⟩
end
/-- an own list gets a change: its object is rewritten -/
theorem Holds.reown {K : PySem.W.Frag} {B0 H0 B H : Hp} {σ : L2.St} {i : Nat} {p : Addr} {us vs : List V} {ds es : List D} (hh : Holds K B0 H0 ρ σ B H) (hi : ρ[i]? = some (.own ds)) (hp : σ[i]? = some (some (.ref p)))
    (h0 : H0 p = none) (hb : B p = none) (hl : H p = some (.lst us)) (r : Reps K B vs es) : Holds K B0 H0 (ρ.set i (.own es)) σ B (upd H p (.lst vs)) := by
  have gs : ∀ {j : Nat} {x : Sl}, (ρ.set i (.own es))[j]? = some x → (j = i ∧ x = .own es) ∨ (j ≠ i ∧ ρ[j]? = some x) := fun {j x} z => by
    rcases getset z with ⟨e1, e2⟩ | z
    · exact .inl ⟨e1, e2.symm⟩
    · exact .inr z
  refine ⟨⟨hh.nx.1, fun a u z => ?_, fun a u z => ?_, hh.nx.2.2.2⟩, by rw [List.length_set]; exact hh.len, fun j d z => ?_, fun j fs z => ?_, fun j ns z => ?_, fun j k fs gs' q z1 z2 z3 z4 => ?_⟩
  · have ne : a ≠ p := ne_of_none z h0
    rw [upd_ne ne]; exact hh.nx.2.1 a u z
  · have ne : a ≠ p := ne_of_none z hb
    rw [upd_ne ne]; exact hh.ex a u z
  · rcases gs z with ⟨_, e2⟩ | ⟨_, z⟩
    · cases e2
    · exact hh.val j d z
  · rcases gs z with ⟨rfl, e2⟩ | ⟨ne, z⟩
    · cases e2
      exact ⟨p, vs, hp, h0, hb, upd_same, r⟩
    · obtain ⟨p', vs', g1, g2, g3, g4, g5⟩ := hh.own j fs z
      have np : p' ≠ p := fun e => ne (hh.apart j i fs ds p' z hi g1 (by rw [e]; exact hp))
      exact ⟨p', vs', g1, g2, g3, by rw [upd_ne np]; exact g4, g5⟩
  · rcases gs z with ⟨_, e2⟩ | ⟨_, z⟩
    · cases e2
    · exact hh.scr j ns z
  · have o1 : ∃ fs, ρ[j]? = some (.own fs) := by
      rcases gs z1 with ⟨e1, _⟩ | ⟨_, y⟩
      · exact ⟨ds, by rw [e1]; exact hi⟩
      · exact ⟨_, y⟩
    have o2 : ∃ fs, ρ[k]? = some (.own fs) := by
      rcases gs z2 with ⟨e1, _⟩ | ⟨_, y⟩
      · exact ⟨ds, by rw [e1]; exact hi⟩
      · exact ⟨_, y⟩
    obtain ⟨f1, o1⟩ := o1
    obtain ⟨f2, o2⟩ := o2
    exact hh.apart j k f1 f2 q o1 o2 z3 z4
/-- x.append(e), x a list of one's own -/
theorem ds_app {i : Nat} {x : Str} {p1 p2 p3 : Pos} {m : Option D} {ds : List D} (hi : ρ[i]? = some (.own ds)) (hN : X.N[i]? = some x) (hv : Vis X.env.scope x) (hd : (x == ("__debug__" : Str)) = false) (hcd : (x == ("__classdict__" : Str)) = false)
    (he : DE X e ρ m) (hq : PE X (.Call (.Attribute (.Name x p1) "append" p2) [e] [] p3) (tBM X.K "list" rAppend (tVar i) (tCons (cT X.K ρ m) tNil)))
    (hs : swapsWith (.Call (.Attribute (.Name x p1) "append" p2) [e] [] p3) none pos.line X.env = pure false) :
    DS X R (.Expr (.Call (.Attribute (.Name x p1) "append" p2) [e] [] p3) pos) ρ (nxt (m.bind fun d => fit (ds.length + 1) d)) (fun d => ρ.set i (.own (ds ++ [d]))) lp := ⟨psI (ps_expr hq hs) (by
  intro Dn σ H ⟨B0, H0, B, hh, f', hm, q⟩
  obtain ⟨d, hd0, rfl⟩ := nxt_some hm
  obtain ⟨d', hd1, hf⟩ := bind_some hd0
  obtain ⟨hz, rfl⟩ := fit_some hf
  obtain ⟨p, vs, g1, g2, g3, g4, g5⟩ := hh.own i ds hi
  refine ⟨.ref p, g1, .inl ⟨rfl, vs, .inl (.inl g4)⟩, B0, H0, B, hh, d', hd1, fun v B1 H1 n1 r1 => ?_⟩
  have k1 : H1 p = some (.lst vs) := n1.2.1 _ _ g4
  have kb : B1 p = none := n1.2.2.2 p (by rw [g4]; simp) g3
  refine ⟨p, vs, v, rfl, rfl, k1, by rw [g5.len]; exact hz, ?_⟩
  exact q _ B1 _ ((hh.step n1).reown hi g1 g2 kb k1 ((g5.up n1.1).app (.cons r1 .nil))) n1.1)⟩
/-- x[i] = e, x a list of one's own -/
theorem ds_seti {i : Nat} {x : Str} {p1 p2 : Pos} {m n : Option D} {ds : List D} (hi : ρ[i]? = some (.own ds)) (hN : X.N[i]? = some x) (hv : Vis X.env.scope x) (hd : (x == ("__debug__" : Str)) = false) (hcd : (x == ("__classdict__" : Str)) = false)
    (he : DE X e ρ m) (hk : DE X a ρ n) (hq : PG X (.Subscript (.Name x p1) a p2) (gSub (tVar i) (cT X.K ρ n) rSetL))
    (hs : swapsWithSole [.Subscript (.Name x p1) a p2] e pos.line X.env = pure false) (hw : swappedStores [.Subscript (.Name x p1) a p2] e X.env = pure none) (h1 : (assignEach [.Subscript (.Name x p1) a p2] X.env).map (·.2) = [assign (.Subscript (.Name x p1) a p2) X.env]) :
    DS X R (.Assign [.Subscript (.Name x p1) a p2] e pos) ρ (nxt (m.bind fun d => n.bind fun k => match k with | .int j => (ixN ds.length j).map fun t => ds.set t d | _ => none)) (fun es => ρ.set i (.own es)) lp := ⟨psI (ps_asg he.pe hq hs hw h1) (by
  intro Dn σ H ⟨B0, H0, B, hh, f', hm, q⟩
  obtain ⟨es, hd, rfl⟩ := nxt_some hm
  obtain ⟨d, hd, hf⟩ := bind_some hd
  obtain ⟨k, hk, hf⟩ := bind_some hf
  obtain ⟨p, vs, g1, g2, g3, g4, g5⟩ := hh.own i ds hi
  refine ⟨B0, H0, B, hh, d, hd, fun v B1 H1 n1 r1 => ⟨.ref p, g1, B0, H0, B1, hh.step n1, k, hk, fun w B2 H2 n2 r2 => ?_⟩⟩
  cases r2 with
  | int j =>
    obtain ⟨t, ht, rfl⟩ := map_some hf
    have k2 : H2 p = some (.lst vs) := n2.2.1 _ _ (n1.2.1 _ _ g4)
    have kb1 : B1 p = none := n1.2.2.2 p (by rw [g4]; simp) g3
    have kb2 : B2 p = none := n2.2.2.2 p (by rw [n1.2.1 _ _ g4]; simp) kb1
    refine ⟨p, vs, j, t, rfl, rfl, k2, by rw [g5.len]; exact ht, ?_⟩
    exact q _ B2 _ (((hh.step n1).step n2).reown hi g1 g2 kb2 k2 ((g5.up (n1.1.trans n2.1)).set (r1.up n2.1) t)) (n1.1.trans n2.1)
  | _ => simp at hf)⟩
/-- an expression alone -/
theorem ds_expr {m : Option D} (he : DE X e ρ m) (hs : swapsWith e none pos.line X.env = pure false) : DS X R (.Expr e pos) ρ (nxt (m.map fun _ => ())) (fun _ => ρ) lp := ⟨psI (ps_expr he.pe hs) (by
  intro Dn σ H ⟨B0, H0, B, hh, f', hm, q⟩
  obtain ⟨es, hd, rfl⟩ := nxt_some hm
  obtain ⟨d, hd, _⟩ := map_some hd
  exact ⟨B0, H0, B, hh, d, hd, fun v B1 H1 n1 r1 => q σ B1 H1 (hh.step n1) n1.1⟩)⟩
theorem ds_pass : DS X R (.Pass pos) ρ (some (.nx ())) (fun _ => ρ) lp := ⟨psI ps_pass (by
  intro Dn σ H ⟨B0, H0, B, hh, f', hm, q⟩
  cases hm
  exact q σ B H hh (Ex.refl B))⟩
theorem ds_if {p q : List Stmt} {post : S → Env} {k : Option Bool} {m n : Option (Fl S L)} (hc : DT X c ρ k) (ha : DB X R p ρ m post lp) (hb : DB X R q ρ n post lp) : DS X R (.If c p q pos) ρ (iteM k m n) post lp := ⟨psI (ps_if hc.pt ha.ps hb.ps) (by
  intro Dn σ H ⟨B0, H0, B, hh, f, hm, q⟩
  obtain ⟨k, hk, hm⟩ := bind_some hm
  refine ⟨B0, H0, B, hh, k, hk, fun B1 H1 n1 => ?_⟩
  have fin : cS X.K R ρ (if k = true then m else n) post lp Dn σ H1 := by
    refine ⟨B0, H0, B1, hh.step n1, f, hm, ?_⟩
    cases f with
    | nx t => exact fun σ'' B'' H'' h'' e' => q σ'' B'' H'' h'' (n1.1.trans e')
    | bk t => exact fun σ'' B'' H'' h'' e' => q σ'' B'' H'' h'' (n1.1.trans e')
    | ct t => exact fun σ'' B'' H'' h'' e' => q σ'' B'' H'' h'' (n1.1.trans e')
    | rt d => exact q
  cases k with
  | true => exact fin
  | false => exact fin)⟩
theorem ds_ret {post : S → Env} {m : Option D} (he : DE X e ρ m) : DS X rV (.Return (some e) pos) ρ (m.map .rt) post lp := ⟨psI (ps_ret he.pe) (by
  intro Dn σ H ⟨B0, H0, B, hh, f, hm, q⟩
  obtain ⟨d, hd, rfl⟩ := map_some hm
  exact ⟨B0, H0, B, hh, d, hd, fun v B1 H1 n1 r1 => q v B1 H1 (hh.nx.trans n1) r1⟩)⟩
theorem ds_retN {post : S → Env} : DS X rV (.Return none pos) ρ (some (.rt .none)) post lp := ⟨psI ps_retN (by
  intro Dn σ H ⟨B0, H0, B, hh, f, hm, q⟩
  cases hm
  exact q .non B H hh.nx .non)⟩
theorem ds_retF {post : S → Env} {m : Option (List D)} (he : DF X e ρ m) : DS X rF (.Return (some e) pos) ρ (m.map fun ds => .rt (.list ds)) post lp := ⟨psI (ps_ret he.pe) (by
  intro Dn σ H ⟨B0, H0, B, hh, f, hm, q⟩
  obtain ⟨d, hd, rfl⟩ := map_some hm
  exact ⟨B0, H0, B, hh, d, hd, fun p vs B1 H1 n1 hp hb he r1 => q d rfl p vs B1 H1 (hh.nx.trans n1) (Ex.none hh.nx.2.1 hp) hb he r1⟩)⟩
/-- return x, x a list of one's own -/
theorem ds_retO {i : Nat} {x : Str} {p1 : Pos} {ds : List D} {post : S → Env} (hi : ρ[i]? = some (.own ds)) (hN : X.N[i]? = some x) (hv : Vis X.env.scope x) (hd : (x == ("__debug__" : Str)) = false) (hcd : (x == ("__classdict__" : Str)) = false) :
    DS X rF (.Return (some (.Name x p1)) pos) ρ (some (.rt (.list ds))) post lp := ⟨psI (ps_ret (pe_var hN hv hd hcd)) (by
  intro Dn σ H ⟨B0, H0, B, hh, f, hm, q⟩
  cases hm
  obtain ⟨p, vs, g1, g2, g3, g4, g5⟩ := hh.own i ds hi
  exact ⟨.ref p, g1, q ds rfl p vs B H hh.nx g2 g3 g4 g5⟩)⟩
theorem ds_brk {post : S → Env} {l : L} (w : Wk ρ (lp l)) : DS X R (.Break pos) ρ (some (.bk l)) post lp := ⟨psI ps_break (by
  intro Dn σ H ⟨B0, H0, B, hh, f, hm, q⟩
  cases hm
  exact q σ B H (hh.wk w) (Ex.refl B))⟩
theorem ds_cnt {post : S → Env} {l : L} (w : Wk ρ (lp l)) : DS X R (.Continue pos) ρ (some (.ct l)) post lp := ⟨psI ps_continue (by
  intro Dn σ H ⟨B0, H0, B, hh, f, hm, q⟩
  cases hm
  exact q σ B H (hh.wk w) (Ex.refl B))⟩
/-- for -/
theorem ds_for {M : Type} {iter : Expr} {body : List Stmt} {m : Option (List D)} {l0 : L} {f : D → Option T} {pt : L → T → Env} {js : List Nat} {F : L → T → Option (Fl L L)} {lq : M → Env} (hp : PassesOwn (model X.prog X.w) X.A X.env X.xe) (hc : X.calm = true)
    (w0 : Wk ρ (lp l0)) (hi : DI X tg iter ρ m) (hg : ∀ l, DG X tg (lp l) f (pt l) js) (hb : ∀ l t, DB X R body (pt l t) (F l t) lp lp) (hs : ∀ x, foldedSetIterable iter X.env x = pure x) :
    DS X R (.For tg iter body [] pos) ρ (m.bind fun ds => (forF (fun d l => (f d).bind fun t => F l t) ds l0 : Option (Fl L M))) lp lq := by
  have hG : PG X tg (fun v σ H Q => ∃ l, gT X.K (lp l) f (pt l) js v σ H Q) := ⟨fun pins s σ H v u Q I r ⟨l, w⟩ => (hg l).pg.run pins s σ H v u Q I r w⟩
  have hB : PSs X body (fun Dn σ H => ∃ l t, cS X.K R (pt l t) (F l t) lp lp Dn σ H) := ⟨fun pins s σ H Dn I ⟨l, t, w⟩ => (hb l t).ps.run pins s σ H Dn I w⟩
  refine ⟨psI (ps_for hp hc hi.pi hG hB hs) ?_⟩
  intro Dn σ H ⟨B0, H0, B, hh, ft, hm, q⟩
  obtain ⟨ds, hx, hf⟩ := bind_some hm
  refine ⟨B0, H0, B, hh, ds, hx, fun J B1 H1 n1 w => ?_⟩
  let P : Nat → L2.St → Hp → Prop := fun i σ' H' => ∃ l Bc, Holds X.K B0 H0 (lp l) σ' Bc H' ∧ Ex B1 Bc ∧ (forF (fun d l => (f d).bind fun t => F l t) (ds.drop i) l : Option (Fl L M)) = some ft
  refine ⟨fun i n σ' H' => n = ds.length - i ∧ i ≤ ds.length ∧ P i σ' H', ⟨ds.length, by simp, Nat.zero_le _, l0, B1, (hh.step n1).wk w0, Ex.refl B1, hf⟩, ?_⟩
  rintro i n σ' H' ⟨rfl, hi, l, Bc, hc', e1, hr⟩
  by_cases hlt : i < ds.length
  · refine .inr ⟨w.go i H' hlt (e1.trans hc'.ex), P (i + 1), fun σ2 H2 p => ⟨ds.length - (i + 1), by omega, rfl, hlt, p⟩, fun x H2 y => ?_⟩
    have hdi : ds[i]? = some ds[i] := by simp [hlt]
    rw [List.drop_eq_getElem_cons hlt] at hr
    obtain ⟨g, hg', hr⟩ := bind_some hr
    obtain ⟨t, ht, hF⟩ := bind_some hg'
    obtain ⟨B2, n2, r2⟩ := w.yl i H' x H2 Bc ds[i] hdi e1 hc'.ex y
    refine ⟨l, B0, H0, B2, ds[i], t, hc'.step n2, r2, ht, fun σ3 _ h3 => ⟨l, t, B0, H0, B2, h3, g, hF, ?_⟩⟩
    cases g with
    | nx l' => exact fun σ'' B'' H'' h'' e' => ⟨l', B'', h'', (e1.trans n2.1).trans e', hr⟩
    | ct l' => exact fun σ'' B'' H'' h'' e' => ⟨l', B'', h'', (e1.trans n2.1).trans e', hr⟩
    | bk l' =>
      cases hr
      exact fun σ'' B'' H'' h'' e' => q σ'' B'' H'' h'' (n1.1.trans ((e1.trans n2.1).trans e'))
    | rt d =>
      cases hr
      exact q
  · have e : i = ds.length := by omega
    subst e
    rw [List.drop_length] at hr
    cases hr
    exact .inl ⟨w.st H' (e1.trans hc'.ex), q σ' Bc H' hc' (n1.1.trans e1)⟩
/-- while -/
theorem ds_while {M : Type} {body : List Stmt} {l0 : L} {k : L → Option Bool} {F : L → Option (Fl L L)} {lq : M → Env} (n : Nat) (hp : PassesOwn (model X.prog X.w) X.A X.env X.xe) (w0 : Wk ρ (lp l0))
    (ht : ∀ l, DT X c (lp l) (k l)) (hb : ∀ l, DB X R body (lp l) (F l) lp lp) : DS X R (.While c body [] pos) ρ (whileF k F n l0 : Option (Fl L M)) lp lq := by
  have hT : PT X c (fun σ H Q => ∃ l, cB X.K (lp l) (k l) σ H Q) := ⟨fun pins s σ H Q I ⟨l, w⟩ => (ht l).pt.run pins s σ H Q I w⟩
  have hB : PSs X body (fun Dn σ H => ∃ l, cS X.K R (lp l) (F l) lp lp Dn σ H) := ⟨fun pins s σ H Dn I ⟨l, w⟩ => (hb l).ps.run pins s σ H Dn I w⟩
  refine ⟨psI (ps_while hp hT hB) ?_⟩
  intro Dn σ H ⟨B0, H0, B, hh, ft, hm, q⟩
  refine ⟨fun i σ' H' => ∃ l Bc, Holds X.K B0 H0 (lp l) σ' Bc H' ∧ Ex B Bc ∧ (whileF k F i l : Option (Fl L M)) = some ft, ⟨n, l0, B, hh.wk w0, Ex.refl B, hm⟩, ?_⟩
  rintro i σ' H' ⟨l, Bc, hc, e1, hr⟩
  cases i with
  | zero => cases hr
  | succ i =>
    obtain ⟨b, hk, hr⟩ := bind_some hr
    refine ⟨l, B0, H0, Bc, hc, b, hk, fun B2 H2 n2 => ?_⟩
    cases b with
    | false =>
      cases hr
      refine L2.iteF ?_
      exact q σ' B2 H2 (hc.step n2) (e1.trans n2.1)
    | true =>
      obtain ⟨g, hF, hr⟩ := bind_some hr
      refine L2.iteT ?_
      refine ⟨fun σ3 H3 => ∃ l Bc, Holds X.K B0 H0 (lp l) σ3 Bc H3 ∧ Ex B Bc ∧ (whileF k F i l : Option (Fl L M)) = some ft, fun σ3 H3 w => ⟨i, Nat.lt_succ_self i, w⟩, l, B0, H0, B2, hc.step n2, g, hF, ?_⟩
      cases g with
      | nx l' => exact fun σ'' B'' H'' h'' e' => ⟨l', B'', h'', (e1.trans n2.1).trans e', hr⟩
      | ct l' => exact fun σ'' B'' H'' h'' e' => ⟨l', B'', h'', (e1.trans n2.1).trans e', hr⟩
      | bk l' =>
        cases hr
        exact fun σ'' B'' H'' h'' e' => q σ'' B'' H'' h'' ((e1.trans n2.1).trans e')
      | rt d =>
        cases hr
        exact q
end

/-! ### own functions -/
def spD (K : PySem.W.Frag) (g : List D → Option D) : Sp := fun vs H Q _ => ∃ B ds d, Ex B H ∧ Reps K B vs ds ∧ g ds = some d ∧ ∀ v B' H', Nx B H B' H' → Rep K B' v d → Q v H'
/-- .. that hands back a new list -/
def spF (K : PySem.W.Frag) (g : List D → Option (List D)) : Sp := fun vs H Q _ => ∃ B ds r, Ex B H ∧ Reps K B vs ds ∧ g ds = some r ∧ ∀ p us B' H', Nx B H B' H' → H p = none → B' p = none → H' p = some (.lst us) → Reps K B' us r → Q (.ref p) H'
def f1 {α : Type} (f : D → Option α) : List D → Option α
  | [a] => f a
  | _ => none
def f2 {α : Type} (f : D → D → Option α) : List D → Option α
  | [a, b] => f a b
  | _ => none
def f3 {α : Type} (f : D → D → D → Option α) : List D → Option α
  | [a, b, c] => f a b c
  | _ => none
def f4 {α : Type} (f : D → D → D → D → Option α) : List D → Option α
  | [a, b, c, d] => f a b c d
  | _ => none
def f5 {α : Type} (f : D → D → D → D → D → Option α) : List D → Option α
  | [a, b, c, d, e] => f a b c d e
  | _ => none
section
variable {X : Cx} {e : Expr} {es : List Expr} {ρ : Env} {pos p : Pos} {k : Nat} {f : Addr} {fd : FuncData} {ps : List Str} {x : Str} {m : Option (List D)}
theorem de_fn {g : List D → Option D} (F : FnOk X.prog X.w X.K X.mg X.base CX0 k f fd ps (spD X.K g)) (hr : Room k X.A) (hg : Gl X x) (hm : X.mg x = some (.ref f)) (hk : PySem.W.keepIn X.K (.ref f) = true) (hb : Binds X.K fd ps [])
    (ha : DA X (e :: es) ρ m) (hdb : (x == ("__debug__" : Str)) = false) (he : starEach (e :: es) X.env = (false, eval e X.env) :: starEach es X.env) (hpl : (backTo pos (starEach es X.env)).any (·.1) = false) :
    DE X (.Call (.Name x p) (e :: es) [] pos) ρ (m.bind g) := ⟨peI (pe_call F hr hg hm hk hb .nil pass0 ha.pa hdb he hpl) (by
  intro σ H Q ⟨B0, H0, B, hh, d', hm, q⟩
  obtain ⟨ds, hx, hf⟩ := bind_some hm
  refine ⟨B0, H0, B, hh, ds, hx, fun vs B1 H1 n1 r1 => ?_⟩
  show spD X.K g (vs ++ []) H1 Q _
  rw [List.append_nil]
  exact ⟨B1, ds, d', n1.2.2.1, r1, hf, fun w B2 H2 n2 r2 => q w B2 H2 (n1.trans n2) r2⟩)⟩
theorem df_fn {g : List D → Option (List D)} (F : FnOk X.prog X.w X.K X.mg X.base CX0 k f fd ps (spF X.K g)) (hr : Room k X.A) (hg : Gl X x) (hm : X.mg x = some (.ref f)) (hk : PySem.W.keepIn X.K (.ref f) = true) (hb : Binds X.K fd ps [])
    (ha : DA X (e :: es) ρ m) (hdb : (x == ("__debug__" : Str)) = false) (he : starEach (e :: es) X.env = (false, eval e X.env) :: starEach es X.env) (hpl : (backTo pos (starEach es X.env)).any (·.1) = false) :
    DF X (.Call (.Name x p) (e :: es) [] pos) ρ (m.bind g) := ⟨peI (pe_call F hr hg hm hk hb .nil pass0 ha.pa hdb he hpl) (by
  intro σ H Q ⟨B0, H0, B, hh, d', hm, q⟩
  obtain ⟨ds, hx, hf⟩ := bind_some hm
  refine ⟨B0, H0, B, hh, ds, hx, fun vs B1 H1 n1 r1 => ?_⟩
  show spF X.K g (vs ++ []) H1 Q _
  rw [List.append_nil]
  exact ⟨B1, ds, d', n1.2.2.1, r1, hf, fun p us B2 H2 n2 hp hb he r2 => q p us B2 H2 (n1.trans n2) (Ex.none n1.2.1 hp) hb he r2⟩)⟩
end
/-- the slots at the entry -/
def startE (N : List Str) (ds : List D) : Env := ds.map .val ++ List.replicate (N.length - ds.length) .no
theorem start_holds {K : PySem.W.Frag} {N : List Str} {B H : Hp} {vs : List V} {ds : List D} (e : Ex B H) (r : Reps K B vs ds) : Holds K B H (startE N ds) (L2.start N vs) B H := by
  have hl := r.len
  have noO : ∀ {i : Nat} {x : Sl}, (startE N ds)[i]? = some x → (∃ d, x = .val d ∧ ds[i]? = some d) ∨ x = .no := fun {i x} h => by
    unfold startE at h
    by_cases hi : i < (ds.map Sl.val).length
    · rw [List.getElem?_append_left hi, List.getElem?_map] at h
      obtain ⟨d, h1, h2⟩ := map_some h
      exact .inl ⟨d, h2.symm, h1⟩
    · rw [List.getElem?_append_right (by omega), List.getElem?_replicate] at h
      split at h
      · exact .inr (Option.some.inj h).symm
      · cases h
  refine ⟨Nx.refl e, by unfold startE L2.start; simp [hl], fun i d h => ?_, fun i d h => ?_, fun i d h => ?_, fun i j ds es p h1 h2 => ?_⟩
  · rcases noO h with ⟨d', e1, e2⟩ | e1
    · cases e1
      obtain ⟨v, h1, h2⟩ := r.at e2
      refine ⟨v, ?_, h2⟩
      unfold L2.start
      have hi : i < (vs.map some).length := by
        have := (List.getElem?_eq_some_iff.mp h1).1
        simpa using this
      rw [List.getElem?_append_left hi, List.getElem?_map, h1]
      rfl
    · cases e1
  · rcases noO h with ⟨d', e1, e2⟩ | e1 <;> cases e1
  · rcases noO h with ⟨d', e1, e2⟩ | e1 <;> cases e1
  · rcases noO h1 with ⟨d', e1, e2⟩ | e1 <;> cases e1
/-- what a body hands back: the end without a return is None -/
def outD (m : Option (Fl Unit Unit)) : Option D := m.bind fun f => match f with
  | .nx _ => some .none
  | .rt d => some d
  | _ => none
def outF (m : Option (Fl Unit Unit)) : Option (List D) := m.bind fun f => match f with
  | .rt (.list ds) => some ds
  | _ => none
section
variable {P : Program} {w : World} {K : PySem.W.Frag} {mg : Str → Option Value} {base : Heap}
theorem fn_D {x qual : Str} {st : Stmt} {f : Addr} {fd : FuncData} {N ps : List Str} {k : Nat} {g : List D → Option D} {m : List D → Option (Fl Unit Unit)} (F : Fun K x qual st f fd) (S : FnScope N ps (defScope st)) (hl : ∀ ds d, g ds = some d → ds.length = ps.length)
    (hg : ∀ ds d, g ds = some d → outD (m ds) = some d)
    (hb : ∀ (cdv : Value) (A : Around) (outer : List PySem.Env) (s : Shared) (H : Hp) (E : XK), Room k (A.deeper (envOfC qual (defScope st) s.heap.objs.size f cdv)) → ∀ ds d, g ds = some d → ∃ po lp, DB (cxOf CX0 P w K mg base N qual (defScope st) f cdv A outer s H E).nox rV (defBody st) (startE N ds) (m ds) po lp) :
    FnOk P w K mg base CX0 (k + 1) f fd ps (spD K g) := by
  refine F.ok S (fun vs H Q E ⟨B, ds, d, e, r, hd, q⟩ => by rw [r.len]; exact hl ds d hd) (fun cdv A outer s H vs Q E hr ⟨B, ds, d, e, r, hd, q⟩ => ?_)
  obtain ⟨po, lp, h⟩ := hb cdv A outer s H E hr ds d hd
  refine ⟨_, h.ps, B, H, B, start_holds e r, ?_⟩
  obtain ⟨fl, h1, h2⟩ := bind_some (hg ds d hd)
  refine ⟨fl, h1, ?_⟩
  cases fl with
  | nx s =>
    cases h2
    exact fun σ' B' H' h' e' => q .non B' H' h'.nx .non
  | rt d' =>
    cases h2
    exact q
  | bk l => cases h2
  | ct l => cases h2
theorem fn_F {x qual : Str} {st : Stmt} {f : Addr} {fd : FuncData} {N ps : List Str} {k : Nat} {g : List D → Option (List D)} {m : List D → Option (Fl Unit Unit)} (F : Fun K x qual st f fd) (S : FnScope N ps (defScope st)) (hl : ∀ ds d, g ds = some d → ds.length = ps.length)
    (hg : ∀ ds d, g ds = some d → outF (m ds) = some d)
    (hb : ∀ (cdv : Value) (A : Around) (outer : List PySem.Env) (s : Shared) (H : Hp) (E : XK), Room k (A.deeper (envOfC qual (defScope st) s.heap.objs.size f cdv)) → ∀ ds d, g ds = some d → ∃ po lp, DB (cxOf CX0 P w K mg base N qual (defScope st) f cdv A outer s H E).nox rF (defBody st) (startE N ds) (m ds) po lp) :
    FnOk P w K mg base CX0 (k + 1) f fd ps (spF K g) := by
  refine F.ok S (fun vs H Q E ⟨B, ds, d, e, r, hd, q⟩ => by rw [r.len]; exact hl ds d hd) (fun cdv A outer s H vs Q E hr ⟨B, ds, d, e, r, hd, q⟩ => ?_)
  obtain ⟨po, lp, h⟩ := hb cdv A outer s H E hr ds d hd
  refine ⟨_, h.ps, B, H, B, start_holds e r, ?_⟩
  obtain ⟨fl, h1, h2⟩ := bind_some (hg ds d hd)
  refine ⟨fl, h1, ?_⟩
  cases fl with
  | nx s => cases h2
  | rt d' =>
    intro ds' e'
    subst e'
    cases h2
    exact q
  | bk l => cases h2
  | ct l => cases h2
end
end Dl

/-! Data layer, part 8: lists of one's own that are read; more sources and calls. -/
namespace Dl
open PySem L2 PySem.Spec PyProof.Rows PySem.W PySem.SeqAt
open Evl (Ex)

/-! ### reading lists of one's own -/
inductive Th : Env → Env → Prop
  | nil : Th [] []
  | k {x : Sl} {r s : Env} : Th r s → Th (x :: r) (x :: s)
  | o {ds : List D} {r s : Env} : Th r s → Th (.own ds :: r) (.val (.list ds) :: s)
theorem Th.at : ∀ {r s : Env}, Th r s → r.length = s.length ∧ ∀ (i : Nat) (x : Sl), s[i]? = some x → r[i]? = some x ∨ ∃ ds, x = .val (.list ds) ∧ r[i]? = some (.own ds)
  | _, _, .nil => ⟨rfl, fun i x h => by simp at h⟩
  | _, _, .k w => ⟨by simp [w.at.1], fun i x h => by
      cases i with
      | zero => exact .inl h
      | succ i => exact w.at.2 i x (by simpa using h)⟩
  | _, _, .o w => ⟨by simp [w.at.1], fun i x h => by
      cases i with
      | zero => exact .inr ⟨_, (Option.some.inj h).symm, rfl⟩
      | succ i => exact w.at.2 i x (by simpa using h)⟩
section
variable {K : PySem.W.Frag} {B0 H0 B H : Hp} {ρ ρ' : Env} {σ : L2.St}
def thw (ρ ρ' : Env) (σ : L2.St) (a : Addr) : Prop := ∃ (i : Nat) (ds : List D), ρ[i]? = some (.own ds) ∧ ρ'[i]? = some (.val (.list ds)) ∧ σ[i]? = some (some (.ref a))
open Classical in
theorem Holds.thaw (hh : Holds K B0 H0 ρ σ B H) (t : Th ρ ρ') : ∃ B1, Holds K B0 H0 ρ' σ B1 H ∧ ∀ B2 H2, Nx B1 H B2 H2 → ∃ B3, Nx B H B3 H2 ∧ ∀ v d, Rep K B2 v d → (∀ ds, d ≠ .list ds ∧ d ≠ .tuple ds) → Rep K B3 v d := by
  have hO : ∀ {a : Addr}, thw ρ ρ' σ a → B a = none ∧ H0 a = none ∧ ∃ vs ds, H a = some (.lst vs) ∧ Reps K B vs ds := fun {a} ⟨i, ds, h1, h2, h3⟩ => by
    obtain ⟨p, vs, g1, g2, g3, g4, g5⟩ := hh.own i ds h1
    rw [h3] at g1; cases g1
    exact ⟨g3, g2, vs, ds, g4, g5⟩
  let B1 : Hp := fun a => if thw ρ ρ' σ a then H a else B a
  have b1y : ∀ {a : Addr}, thw ρ ρ' σ a → B1 a = H a := fun h => if_pos h
  have b1n : ∀ {a : Addr}, ¬ thw ρ ρ' σ a → B1 a = B a := fun h => if_neg h
  have e1 : Ex B B1 := fun a u z => by
    rw [b1n (fun h => by rw [(hO h).1] at z; cases z)]; exact z
  refine ⟨B1, ⟨⟨hh.nx.1.trans e1, hh.nx.2.1, fun a u z => ?_, fun a ha hb => ?_⟩, hh.len.trans t.at.1, fun i d z => ?_, fun i ds z => ?_, fun i ns z => ?_, fun i j ds es p z1 z2 z3 z4 => ?_⟩, fun B2 H2 n => ?_⟩
  · by_cases h : thw ρ ρ' σ a
    · rw [b1y h] at z; exact z
    · rw [b1n h] at z; exact hh.ex a u z
  · rw [b1n fun h => ha (hO h).2.1]; exact hh.nx.2.2.2 a ha hb
  · rcases t.at.2 i _ z with y | ⟨ds, y1, y2⟩
    · obtain ⟨v, g1, g2⟩ := hh.val i d y
      exact ⟨v, g1, g2.up e1⟩
    · cases y1
      obtain ⟨p, vs, g1, g2, g3, g4, g5⟩ := hh.own i ds y2
      exact ⟨.ref p, g1, .lst (by rw [b1y ⟨i, ds, y2, z, g1⟩]; exact g4) (g5.up e1)⟩
  · rcases t.at.2 i _ z with y | ⟨_, y1, _⟩
    · obtain ⟨p, vs, g1, g2, g3, g4, g5⟩ := hh.own i ds y
      have hn : ¬ thw ρ ρ' σ p := fun ⟨j, es, h1, h2, h3⟩ => by
        have e := hh.apart i j ds es p y h1 g1 h3
        subst e
        rw [z] at h2; cases h2
      exact ⟨p, vs, g1, g2, (b1n hn).trans g3, g4, g5.up e1⟩
    · cases y1
  · rcases t.at.2 i _ z with y | ⟨_, y1, _⟩
    · obtain ⟨a, g1, g2⟩ := hh.scr i ns y
      exact ⟨a, g1, Evl.ex_l e1 g2⟩
    · cases y1
  · rcases t.at.2 i _ z1 with y1 | ⟨_, y1, _⟩
    · rcases t.at.2 j _ z2 with y2 | ⟨_, y2, _⟩
      · exact hh.apart i j ds es p y1 y2 z3 z4
      · cases y2
    · cases y1
  · let B3 : Hp := fun a => if thw ρ ρ' σ a then none else B2 a
    have b3y : ∀ {a : Addr}, thw ρ ρ' σ a → B3 a = none := fun h => if_pos h
    have b3n : ∀ {a : Addr}, ¬ thw ρ ρ' σ a → B3 a = B2 a := fun h => if_neg h
    refine ⟨B3, ⟨fun a u z => ?_, n.2.1, fun a u z => ?_, fun a ha hb => ?_⟩, fun v d r hd => ?_⟩
    · have hn : ¬ thw ρ ρ' σ a := fun h => by rw [(hO h).1] at z; cases z
      rw [b3n hn]
      exact n.1 a u (by rw [b1n hn]; exact z)
    · by_cases h : thw ρ ρ' σ a
      · rw [b3y h] at z; cases z
      · rw [b3n h] at z; exact n.2.2.1 a u z
    · by_cases h : thw ρ ρ' σ a
      · exact b3y h
      · rw [b3n h]; exact n.2.2.2 a ha (by rw [b1n h]; exact hb)
    · cases r with
      | non => exact .non
      | bl b => exact .bl b
      | int i => exact .int i
      | str x => exact .str x
      | lst _ _ => exact absurd rfl (hd _).1
      | tup _ _ => exact absurd rfl (hd _).2
end
def flatD : D → Option D
  | .list _ => none
  | .tuple _ => none
  | d => some d
theorem flatD_some {d d' : D} (h : flatD d = some d') : d = d' ∧ ∀ ds, d ≠ .list ds ∧ d ≠ .tuple ds := by
  unfold flatD at h
  split at h
  · cases h
  · cases h
  · cases h
    rename_i a b
    exact ⟨rfl, fun ds => ⟨fun e => a ds e, fun e => b ds e⟩⟩
section
variable {X : Cx} {R : RT} {tg e a b c : Expr} {es : List Expr} {ρ ρ' : Env} {pos : Pos}
/-- a value without parts, read where lists of one's own are taken as they stand -/
theorem de_thaw {m : Option D} (t : Th ρ ρ') (h : DE X e ρ' m) : DE X e ρ (m.bind flatD) := ⟨peI h.pe (by
  intro σ H Q ⟨B0, H0, B, hh, d', hm, q⟩
  obtain ⟨d, hd, hf⟩ := bind_some hm
  obtain ⟨rfl, hn⟩ := flatD_some hf
  obtain ⟨B1, h1, f⟩ := hh.thaw t
  refine ⟨B0, H0, B1, h1, d, hd, fun v B2 H2 n2 r2 => ?_⟩
  obtain ⟨B3, n3, g⟩ := f B2 H2 n2
  exact q v B3 H2 n3 (g v d r2 hn))⟩
theorem dt_thaw {m : Option Bool} (t : Th ρ ρ') (h : DT X e ρ' m) : DT X e ρ m := ⟨ptI h.pt (by
  intro σ H Q ⟨B0, H0, B, hh, d, hd, q⟩
  obtain ⟨B1, h1, f⟩ := hh.thaw t
  refine ⟨B0, H0, B1, h1, d, hd, fun B2 H2 n2 => ?_⟩
  obtain ⟨B3, n3, g⟩ := f B2 H2 n2
  exact q B3 H2 n3)⟩
/-- x[i], x a list of one's own -/
theorem de_oix {i : Nat} {x : Str} {p1 : Pos} {ds : List D} {n : Option D} (hi : ρ[i]? = some (.own ds)) (hN : X.N[i]? = some x) (hv : Vis X.env.scope x) (hd : (x == ("__debug__" : Str)) = false) (hcd : (x == ("__classdict__" : Str)) = false) (hb : DE X b ρ n) (hs : PlainIx b) :
    DE X (.Subscript (.Name x p1) b pos) ρ (n.bind fun k => idxD (.list ds) k) := ⟨peI (pe_ix ix_list (pe_var hN hv hd hcd) hb.pe hs) (by
  intro σ H Q ⟨B0, H0, B, hh, d', hm, q⟩
  obtain ⟨k, hk, hf⟩ := bind_some hm
  obtain ⟨p, vs, g1, g2, g3, g4, g5⟩ := hh.own i ds hi
  refine ⟨.ref p, g1, B0, H0, B, hh, k, hk, fun v B1 H1 n1 r1 => ?_⟩
  cases r1 with
  | int j =>
    obtain ⟨w, e1, e2⟩ := (g5.up n1.1).atI hf
    exact ⟨p, vs, j, w, rfl, rfl, .inl (.inl (n1.2.1 _ _ g4)), e1, q w B1 H1 n1 e2⟩
  | _ => simp [idxD] at hf)⟩
/-- a + b as a new list -/
def catF : D → D → Option (List D)
  | .list a, .list b => fit (a.length + b.length) (a ++ b)
  | _, _ => none
abbrev b2F (m n : Option D) (f : D → D → Option (List D)) : Option (List D) := m.bind fun x => n.bind fun y => f x y
theorem df_add {m n : Option D} (ha : DE X a ρ m) (hb : DE X b ρ n) : DF X (.BinOp a .Add b pos) ρ (b2F m n catF) := ⟨peI (pe_op op_cat ha.pe hb.pe) (by
  intro σ H Q ⟨B0, H0, B, hh, d', hm, q⟩
  obtain ⟨x, hx, hm⟩ := bind_some hm
  obtain ⟨y, hy, hf⟩ := bind_some hm
  refine ⟨B0, H0, B, hh, x, hx, fun v B1 H1 n1 r1 => ⟨B0, H0, B1, hh.step n1, y, hy, fun w B2 H2 n2 r2 => ?_⟩⟩
  cases r1 with
  | @lst l xs ds g1 rr =>
    cases r2 with
    | @lst l2 ys es g2 rr2 =>
      obtain ⟨hz, rfl⟩ := fit_some hf
      refine ⟨l, l2, xs, ys, rfl, rfl, n2.2.1 _ _ (n1.2.2.1 _ _ g1), n2.2.2.1 _ _ g2, by rw [rr.len, rr2.len]; exact hz, fun p hp => ?_⟩
      have n3 := n1.trans n2
      exact q p _ B2 _ (n3.trans (Nx.own n3.2.2.1 hp)) (Ex.none n3.2.1 hp) (Ex.none n3.2.2.1 hp) upd_same ((rr.up n2.1).app rr2)
    | _ => simp [catF] at hf
  | _ => cases r2 <;> simp [catF] at hf)⟩
/-- [..] * k as a new list -/
def repF : D → D → Option (List D)
  | .list a, .int k => if -9223372036854775808 ≤ k ∧ k < 9223372036854775808 ∧ a.length * k.toNat ≤ 16777216 then some (List.replicate k.toNat a).flatten else none
  | _, _ => none
theorem df_mul {m n : Option D} (ha : DE X a ρ m) (hb : DE X b ρ n) : DF X (.BinOp a .Mult b pos) ρ (b2F m n repF) := ⟨peI (pe_op op_rep ha.pe hb.pe) (by
  intro σ H Q ⟨B0, H0, B, hh, d', hm, q⟩
  obtain ⟨x, hx, hm⟩ := bind_some hm
  obtain ⟨y, hy, hf⟩ := bind_some hm
  refine ⟨B0, H0, B, hh, x, hx, fun v B1 H1 n1 r1 => ⟨B0, H0, B1, hh.step n1, y, hy, fun w B2 H2 n2 r2 => ?_⟩⟩
  cases r1 with
  | @lst l xs ds g1 rr =>
    cases r2 with
    | int k =>
      simp only [repF] at hf
      split at hf
      · rename_i hc
        cases hf
        refine ⟨l, k, xs, rfl, rfl, n2.2.1 _ _ (n1.2.2.1 _ _ g1), by omega, by omega, by rw [rr.len, sizeLine_eq]; exact hc.2.2, fun p hp => ?_⟩
        have n3 := n1.trans n2
        exact q p _ B2 _ (n3.trans (Nx.own n3.2.2.1 hp)) (Ex.none n3.2.1 hp) (Ex.none n3.2.2.1 hp) upd_same ((rr.up n2.1).rep _)
      · cases hf
    | _ => simp [repF] at hf
  | _ => cases r2 <;> simp [repF] at hf)⟩

/-! ### chains -/
abbrev ch3 (m n : Option D) (f f' : D → D → Option D) (o : Option D) : Option D := m.bind fun x => n.bind fun y => (f x y).bind fun r => (isB r).bind fun k => if k then o.bind fun z => f' y z else some (.bool false)
theorem tChD {f f' : D → D → Option D} {m n o : Option D} : ∀ (σ : L2.St) (H : Hp) (Q : VK), cT X.K ρ (ch3 m n f f' o) σ H Q → tChain (rD X.K f) (rD X.K f') (cT X.K ρ m) (cT X.K ρ n) (cT X.K ρ o) σ H Q := by
  intro σ H Q ⟨B0, H0, B, hh, d, hm, q⟩
  obtain ⟨x, hx, hm⟩ := bind_some hm
  obtain ⟨y, hy, hm⟩ := bind_some hm
  obtain ⟨r, hr, hm⟩ := bind_some hm
  obtain ⟨k, hk, hm⟩ := bind_some hm
  refine ⟨B0, H0, B, hh, x, hx, fun v B1 H1 n1 r1 => ⟨B0, H0, B1, hh.step n1, y, hy, fun w B2 H2 n2 r2 => ⟨B2, x, y, r, n2.2.2.1, r1.up n2.1, r2, hr, fun u B3 H3 n3 r3 => ⟨k, isB_some r3 hk, ?_⟩⟩⟩⟩
  have n123 := (n1.trans n2).trans n3
  cases k with
  | false =>
    cases hm
    exact L2.iteF (q _ B3 H3 n123 (.bl _))
  | true =>
    obtain ⟨z, hz, hf⟩ := bind_some (show (o.bind fun z => f' y z) = some d from hm)
    refine L2.iteT ?_
    refine ⟨B0, H0, B3, hh.step n123, z, hz, fun t B4 H4 n4 r4 => ⟨B4, y, z, d, n4.2.2.1, r2.up (n3.1.trans n4.1), r4, hf, fun w' B5 H5 n5 r5 => q w' B5 H5 ((n123.trans n4).trans n5) r5⟩⟩
theorem de_chain {op op' : CmpOp} {f f' : D → D → Option D} {m n o : Option D} (ho : OpR X (compareOp op) (rD X.K f)) (ho' : OpR X (compareOp op') (rD X.K f')) (ha : DE X a ρ m) (hb : DE X b ρ n) (hc : DE X c ρ o) (hm : lastMarks [op, op'] [b, c] = false) :
    DE X (.Compare a [op, op'] [b, c] pos) ρ (ch3 m n f f' o) := ⟨peI (pe_chain ho ho' ha.pe hb.pe hc.pe hm) tChD⟩
theorem dt_chain {op op' : CmpOp} {f f' : D → D → Option D} {m n o : Option D} (ho : OpR X (compareOp op) (rD X.K f)) (ho' : OpR X (compareOp op') (rD X.K f')) (ha : DE X a ρ m) (hb : DE X b ρ n) (hc : DE X c ρ o) (hm : lastMarks [op, op'] [b, c] = false) :
    DT X (.Compare a [op, op'] [b, c] pos) ρ ((ch3 m n f f' o).bind isB) := ⟨ptI (pt_chain ho ho' ha.pe hb.pe hc.pe hm) (by
  intro σ H Q ⟨B0, H0, B, hh, d', hm, q⟩
  obtain ⟨x, hx, hf⟩ := bind_some hm
  refine tChD σ H _ ⟨B0, H0, B, hh, x, hx, fun v B1 H1 n1 r1 => ?_⟩
  exact ⟨d', isB_some r1 hf, q B1 H1 n1⟩)⟩

/-! ### more sources -/
def enumL (ds : List D) : List D := ds.zipIdx.map fun p => .tuple [.int p.2, p.1]
def enumD : List D → Option (List D)
  | [.list ds] => fit ds.length (enumL ds)
  | _ => none
theorem enumL_at {ds : List D} {i : Nat} {d : D} (h : (enumL ds)[i]? = some d) : ∃ e, ds[i]? = some e ∧ d = .tuple [.int i, e] := by
  unfold enumL at h
  rw [List.getElem?_map, List.getElem?_zipIdx] at h
  obtain ⟨p, h1, h2⟩ := map_some h
  obtain ⟨e, h3, h4⟩ := map_some h1
  subst h4
  refine ⟨e, h3, ?_⟩
  rw [← h2]
  simp
theorem di_enum {elts : List Expr} {kk : Nat} {tpos p : Pos} {m : Option (List D)} (hg : Gl X "enumerate") (hm : X.mg "enumerate" = none) (ha : DA X [e] ρ m) (hs : starEach [e] X.env = [(false, eval e X.env)]) :
    DI X (.Tuple elts kk tpos) (.Call (.Name "enumerate" p) [e] [] pos) ρ (m.bind enumD) := ⟨⟨fun pins s σ H R I w => by
  obtain ⟨B0, H0, B, hh, ds, hm', q⟩ := w
  obtain ⟨xs, hx, hf⟩ := bind_some hm'
  unfold enumD at hf
  split at hf
  · rename_i es
    obtain ⟨hz, rfl⟩ := fit_some hf
    refine (pi_enum hg hm (ha.pa) hs).run pins s σ H R I ⟨B0, H0, B, hh, _, hx, fun vs B1 H1 n1 r1 => ?_⟩
    obtain ⟨v, rfl, h1⟩ := one_rep r1
    cases h1 with
    | @lst l us _ g1 rr =>
      refine ⟨l, us, rfl, .inl (.inl (n1.2.2.1 _ _ g1)), q _ B1 H1 n1 ⟨?_, fun i H hi e => ?_, fun H e => ?_, fun i H x H' Bc d hd e1 e2 y => ?_⟩⟩
      · simpa [enumL] using hz
      · exact walk_enum.goes i H (by rw [rr.len]; simpa [enumL] using hi) (.inl (.inl (e _ _ g1)))
      · have := (walk_enum (K := X.K) (a := l) (xs := us)).stops H (.inl (.inl (e _ _ g1)))
        rw [rr.len] at this
        simpa [enumL] using this
      · obtain ⟨z, hz, rfl⟩ := enumL_at hd
        have hi := (List.getElem?_eq_some_iff.mp hz).1
        obtain ⟨T, x1, x2, rfl, hT, rfl, f1, f2⟩ := walk_enum.yields i H x H' (by rw [rr.len]; exact hi) (.inl (.inl ((e1.trans e2) _ _ g1))) y
        cases f1
        exact ⟨_, Nx.new e2 hT, Nx.tup (.cons (.int _) (.cons ((atV rr f2 hz).up e1) .nil)) e2 hT⟩
  · cases hf⟩⟩

def revF : List D → Option (List D)
  | [.list ds] => fit ds.length ds.reverse
  | _ => none
theorem di_rev {p : Pos} {m : Option (List D)} (hg : Gl X "reversed") (hm : X.mg "reversed" = none) (ha : DA X [e] ρ m) (hs : starEach [e] X.env = [(false, eval e X.env)]) : DI X tg (.Call (.Name "reversed" p) [e] [] pos) ρ (m.bind revF) := ⟨⟨fun pins s σ H R I w => by
  obtain ⟨B0, H0, B, hh, ds, hm', q⟩ := w
  obtain ⟨xs, hx, hf⟩ := bind_some hm'
  unfold revF at hf
  split at hf
  · rename_i es
    obtain ⟨hz, rfl⟩ := fit_some hf
    refine (pi_reversed hg hm (ha.pa) hs).run pins s σ H R I ⟨B0, H0, B, hh, _, hx, fun vs B1 H1 n1 r1 => ?_⟩
    obtain ⟨v, rfl, h1⟩ := one_rep r1
    cases h1 with
    | @lst l us _ g1 rr =>
      have hl := rr.len
      refine ⟨l, us, rfl, .inl (.inl (n1.2.2.1 _ _ g1)), q _ B1 H1 n1 ⟨by simpa using hz, fun i H hi e => ?_, fun H e => ?_, fun i H x H' Bc d hd e1 e2 y => ?_⟩⟩
      · exact (walk_rev (K := X.K) (a := l) (xs := us)).goes i H (by rw [hl]; simpa using hi) (.inl (.inl (e _ _ g1)))
      · have := (walk_rev (K := X.K) (a := l) (xs := us)).stops H (.inl (.inl (e _ _ g1)))
        rw [hl] at this
        rw [hl]
        simpa using this
      · have hi := (List.getElem?_eq_some_iff.mp hd).1
        rw [List.length_reverse] at hi
        obtain ⟨rfl, hx'⟩ := (walk_rev (K := X.K) (a := l) (xs := us)).yields i H x H' (by rw [hl]; exact hi) (.inl (.inl ((e1.trans e2) _ _ g1))) y
        rw [List.getElem?_reverse hi] at hd
        rw [hl] at hx'
        exact ⟨Bc, Nx.refl e2, (atV rr hx' hd).up e1⟩
  · cases hf⟩⟩
def zipL (xs ys : List D) : List D := (xs.zip ys).map fun p => .tuple [p.1, p.2]
def zipD : List D → Option (List D)
  | [.list xs, .list ys] => fit xs.length (zipL xs ys)
  | _ => none
theorem di_zip {elts : List Expr} {kk : Nat} {tpos p : Pos} {m : Option (List D)} (hg : Gl X "zip") (hm : X.mg "zip" = none) (ha : DA X [a, b] ρ m) (hs : starEach [a, b] X.env = (false, eval a X.env) :: starEach [b] X.env) (hpl : (backTo pos (starEach [b] X.env)).any (·.1) = false) :
    DI X (.Tuple elts kk tpos) (.Call (.Name "zip" p) [a, b] [] pos) ρ (m.bind zipD) := ⟨⟨fun pins s σ H R I w => by
  obtain ⟨B0, H0, B, hh, ds, hm', q⟩ := w
  obtain ⟨xs, hx, hf⟩ := bind_some hm'
  unfold zipD at hf
  split at hf
  · rename_i es fs
    obtain ⟨hz, rfl⟩ := fit_some hf
    refine (pi_zip hg hm (ha.pa) hs hpl).run pins s σ H R I ⟨B0, H0, B, hh, _, hx, fun vs B1 H1 n1 r1 => ?_⟩
    obtain ⟨v, v', rfl, h1, h2⟩ := two_rep r1
    cases h1 with
    | @lst l us _ g1 rr =>
      cases h2 with
      | @lst l2 us2 _ g2 rr2 =>
        have hl := rr.len
        have hl2 := rr2.len
        have hn : (zipL es fs).length = min us.length us2.length := by unfold zipL; rw [List.length_map, List.length_zip, hl, hl2]
        have W := walk_zip (K := X.K) (a := l) (b := l2) (xs := us) (ys := us2) hn
        refine ⟨l, l2, us, us2, rfl, .inl (.inl (n1.2.2.1 _ _ g1)), .inl (.inl (n1.2.2.1 _ _ g2)), q _ B1 H1 n1 ⟨by rw [hn]; omega, fun i H hi e => W.goes i H hi ⟨.inl (.inl (e _ _ g1)), .inl (.inl (e _ _ g2))⟩, fun H e => W.stops H ⟨.inl (.inl (e _ _ g1)), .inl (.inl (e _ _ g2))⟩, fun i H x H' Bc d hd e1 e2 y => ?_⟩⟩
        have hi := (List.getElem?_eq_some_iff.mp hd).1
        obtain ⟨T, x1, x2, rfl, hT, rfl, f1, f2⟩ := W.yields i H x H' hi ⟨.inl (.inl ((e1.trans e2) _ _ g1)), .inl (.inl ((e1.trans e2) _ _ g2))⟩ y
        obtain ⟨d1, k1, k2⟩ := rr.atV f1
        obtain ⟨d2, k3, k4⟩ := rr2.atV f2
        have e : d = .tuple [d1, d2] := by
          unfold zipL at hd
          rw [List.getElem?_map, (List.getElem?_zip_eq_some (z := (d1, d2))).mpr ⟨k1, k3⟩] at hd
          exact (Option.some.inj hd).symm
        subst e
        exact ⟨_, Nx.new e2 hT, Nx.tup (.cons (k2.up e1) (.cons (k4.up e1) .nil)) e2 hT⟩
  · cases hf⟩⟩
/-- list(range(..)) -/
def cR (K : PySem.W.Frag) (ρ : Env) (m : Option (Int × Int)) : L2.St → Hp → (Int → Int → Hp → Prop) → Prop := fun σ H Q => ∃ B0 H0 B, Holds K B0 H0 ρ σ B H ∧ ∃ p, m = some p ∧ ∀ B' H', Nx B H B' H' → Q p.1 p.2 H'
def int1 : List D → Option (Int × Int)
  | [.int j] => some (0, j)
  | _ => none
def int2 : List D → Option (Int × Int)
  | [.int i, .int j] => some (i, j)
  | _ => none
structure DR (X : Cx) (e : Expr) (ρ : Env) (m : Option (Int × Int)) : Prop where
  pr : PRg X e (cR X.K ρ m)
theorem prI {t t' : L2.St → Hp → (Int → Int → Hp → Prop) → Prop} (h : PRg X e t) (f : ∀ σ H Q, t' σ H Q → t σ H Q) : PRg X e t' := fun pins s σ H Q I w => h pins s σ H Q I (f σ H Q w)
theorem dr_1 {p : Pos} {m : Option D} (hg : Gl X "range") (hm : X.mg "range" = none) (ha : DE X a ρ m) (na : starEach [a] X.env = (false, eval a X.env) :: starEach [] X.env) : DR X (.Call (.Name "range" p) [a] [] pos) ρ ((c2 m (some [])).bind int1) := ⟨prI (prg_1 hg hm ha.pe na) (by
  intro σ H Q ⟨B0, H0, B, hh, p', hm, q⟩
  obtain ⟨ds, hd0, hf⟩ := bind_some hm
  obtain ⟨d, hd, hd2⟩ := bind_some hd0
  cases hd2
  refine ⟨B0, H0, B, hh, d, hd, fun v B1 H1 n1 r1 => ?_⟩
  cases r1 <;> simp [int1] at hf
  · subst hf
    exact ⟨_, rfl, q B1 H1 n1⟩)⟩
theorem dr_2 {p : Pos} {m n : Option D} (hg : Gl X "range") (hm : X.mg "range" = none) (ha : DE X a ρ m) (hb : DE X b ρ n) (na : starEach [a, b] X.env = (false, eval a X.env) :: starEach [b] X.env) (nb : starEach [b] X.env = (false, eval b X.env) :: starEach [] X.env) (hpl : (backTo pos (starEach [b] X.env)).any (·.1) = false) : DR X (.Call (.Name "range" p) [a, b] [] pos) ρ ((c2 m (c2 n (some []))).bind int2) := ⟨prI (prg_2 hg hm ha.pe hb.pe na nb hpl) (by
  intro σ H Q ⟨B0, H0, B, hh, p', hm, q⟩
  obtain ⟨ds, hd0, hf⟩ := bind_some hm
  obtain ⟨d, hd, hd2⟩ := bind_some hd0
  obtain ⟨es, he0, hd3⟩ := bind_some hd2
  obtain ⟨e', he, he2⟩ := bind_some he0
  cases he2
  cases hd3
  refine ⟨B0, H0, B, hh, d, hd, fun v B1 H1 n1 r1 => ⟨B0, H0, B1, hh.step n1, e', he, fun w B2 H2 n2 r2 => ?_⟩⟩
  cases r1 <;> cases r2 <;> simp [int2] at hf
  · subst hf
    exact ⟨_, _, rfl, rfl, q B2 H2 (n1.trans n2)⟩)⟩
def rngF (p : Int × Int) : Option (List D) := if (-4611686018427387904 ≤ p.1 ∧ p.1 < 4611686018427387904) ∧ -4611686018427387904 ≤ p.2 ∧ p.2 < 4611686018427387904 then fit (p.2 - p.1).toNat (rangeI p.1 (p.2 - p.1).toNat) else none
theorem reps_rng {K : PySem.W.Frag} {B : Hp} (lo : Int) (f : Nat → V) (h : ∀ i, f i = .int (lo + (i : Int))) : ∀ n : Nat, Reps K B ((List.range n).map f) (rangeI lo n)
  | 0 => .nil
  | n + 1 => by
    unfold rangeI
    rw [List.range_succ, List.map_append, List.map_append]
    exact (reps_rng lo f h n).app (.cons (by rw [h n]; exact .int _) .nil)
theorem df_listRg {p : Pos} {m : Option (Int × Int)} (hc : X.calm = true) (hg : Gl X "list") (hm : X.mg "list" = none) (he : DR X e ρ m) (na : starEach [e] X.env = (false, eval e X.env) :: starEach [] X.env) : DF X (.Call (.Name "list" p) [e] [] pos) ρ (m.bind rngF) := ⟨peI (pe_listRg hc hg hm he.pr na) (by
  intro σ H Q ⟨B0, H0, B, hh, ds, hm, q⟩
  obtain ⟨pr, hd, hf⟩ := bind_some hm
  unfold rngF at hf
  split at hf
  · rename_i hj
    obtain ⟨hz, rfl⟩ := fit_some hf
    have hs : (sizeLine : Nat) = 16777216 := sizeLine_eq
    refine ⟨B0, H0, B, hh, pr, hd, fun B1 H1 n1 => ⟨⟨by omega, by omega, by omega, by omega, by omega⟩, fun p hp => ?_⟩⟩
    exact q p _ B1 _ (n1.trans (Nx.own n1.2.2.1 hp)) (Ex.none n1.2.1 hp) (Ex.none n1.2.2.1 hp) upd_same (reps_rng _ _ (fun _ => rfl) _)
  · cases hf)⟩
/-! ### isinstance -/
def tyName : D → String
  | .none => "NoneType"
  | .bool _ => "bool"
  | .int _ => "int"
  | .str _ => "str"
  | .list _ => "list"
  | .tuple _ => "tuple"
  | .dict _ => "dict"
def insD (T : String) (d : D) : Option D := (kitB (tyName d) T).map .bool
theorem de_isi {T : String} {y : Str} {p p2 : Pos} {m : Option D} (hg : Gl X "isinstance") (hm : X.mg "isinstance" = none) (hg2 : Gl X y) (hm2 : X.mg y = none) (hv2 : bootBuiltins y = some (.type T)) (he : DE X e ρ m) (hn2 : y ≠ "__name__") (hd2 : (y == ("__debug__" : Str)) = false)
    (h1 : starEach [e, .Name y p2] X.env = (false, eval e X.env) :: starEach [.Name y p2] X.env) (h2 : starEach [.Name y p2] X.env = (false, eval (.Name y p2) X.env) :: starEach [] X.env) (hpl : (backTo pos (starEach [.Name y p2] X.env)).any (·.1) = false) :
    DE X (.Call (.Name "isinstance" p) [e, .Name y p2] [] pos) ρ (m.bind (insD T)) := ⟨peI (pe_callB call_isi hg hm PyProof.Rows.boot_isinstance (pa_cons he.pe (pa_cons (pe_bltn (v := .ty T) hg2 hm2 hv2 rfl hn2 hd2) pa_nil h2) h1) (by decide) (by decide) h1 hpl) (by
  intro σ H Q ⟨B0, H0, B, hh, d', hm, q⟩
  obtain ⟨d, hd, hf⟩ := bind_some hm
  obtain ⟨k, hk, rfl⟩ := map_some hf
  refine ⟨B0, H0, B, hh, d, hd, fun v B1 H1 n1 r1 => ?_⟩
  refine ⟨v, .ty T, .type (tyName d), .type T, k, rfl, .ty T, ?_, kit_ty hk, q _ B1 H1 n1 (.bl _)⟩
  cases r1 with
  | non => exact .base .non
  | bl b => exact .base (.bl b)
  | int b => exact .base (.int b)
  | str b => exact .base (.str b)
  | lst g rr => exact .base (.lst (n1.2.2.1 _ _ g))
  | tup g rr =>
    rcases Evl.ex_t n1.2.2.1 g with (g | ⟨o, g⟩) | ⟨o, its, n, g, gc, _⟩
    · exact .base (.tup g)
    · exact .fTuple g
    · exact .kTuple g gc)⟩
end
end Dl

/-! Data layer, part 9: short words for printed derivations. -/
namespace Dl
open PySem L2 PySem.Spec PyProof.Rows PySem.W PySem.SeqAt
open Evl (Ex)

structure Nm (x : Str) : Prop where
  d : (x == ("__debug__" : Str)) = false
  c : (x == ("__classdict__" : Str)) = false

section
variable {X : Cx} {R : RT} {tg e a b c : Expr} {es : List Expr} {ρ : Env} {pos : Pos} {st : Stmt} {sts : List Stmt} {S T L : Type} {lp : L → Env}
theorem de_v {i : Nat} {x : Str} {d : D} (n : Nm x) (hl : look ρ i = some d) (hN : X.N[i]? = some x) (hv : Vis X.env.scope x) : DE X (.Name x pos) ρ (some d) := de_var hl hN hv n.d n.c
theorem de_ox {i : Nat} {x : Str} {p1 : Pos} {ds : List D} {n : Option D} (nm : Nm x) (hi : ρ[i]? = some (.own ds)) (hN : X.N[i]? = some x) (hv : Vis X.env.scope x) (hb : DE X b ρ n) (hs : PlainIx b) :
    DE X (.Subscript (.Name x p1) b pos) ρ (n.bind fun k => idxD (.list ds) k) := de_oix hi hN hv nm.d nm.c hb hs
theorem ds_rO {i : Nat} {x : Str} {p1 : Pos} {ds : List D} {post : S → Env} (n : Nm x) (hi : ρ[i]? = some (.own ds)) (hN : X.N[i]? = some x) (hv : Vis X.env.scope x) :
    DS X rF (.Return (some (.Name x p1)) pos) ρ (some (.rt (.list ds))) post lp := ds_retO hi hN hv n.d n.c
theorem db_at (ρ' : Env) {post : S → Env} {m : Option (Fl S L)} (h : ρ = ρ') (x : DB X R sts ρ' m post lp) : DB X R sts ρ m post lp := h ▸ x
theorem ds_ap {i : Nat} {x : Str} {p1 p2 p3 : Pos} {m : Option D} {ds : List D} (n : Nm x) (hi : ρ[i]? = some (.own ds)) (hN : X.N[i]? = some x) (hv : Vis X.env.scope x) (he : DE X e ρ m)
    (hbase : attributeBase (.Name x p1) "append" X.env (eval (.Name x p1) X.env) = eval (.Name x p1) X.env)
    (hfew : ((backTo p3 (starEach [e] X.env)).all (fun x => !x.1) && (backToKw p3 (keywordEach [] X.env)).all (fun x => x.1.isSome) && decide ([e].length + ([] : List Keyword).length + (if ([] : List Keyword).isEmpty then 0 else 1) < 30)) = true)
    (hline : (p2.endLine == p3.line) = true) (hs : starEach [e] X.env = (false, eval e X.env) :: starEach [] X.env) (hplain : (backTo p3 (starEach [] X.env)).any (·.1) = false)
    (hsw : swapsWith (.Call (.Attribute (.Name x p1) "append" p2) [e] [] p3) none pos.line X.env = pure false) :
    DS X R (.Expr (.Call (.Attribute (.Name x p1) "append" p2) [e] [] p3) pos) ρ (nxt (m.bind fun d => fit (ds.length + 1) d)) (fun d => ρ.set i (.own (ds ++ [d]))) lp :=
  ds_app hi hN hv n.d n.c he (pe_bm PySem.F.plainAttrs_list PySem.F.slot_list_append PySem.F.type_list_append mt_append (pe_var hN hv n.d n.c) (pa_cons he.pe pa_nil hs) hbase hfew hline hs hplain) hsw
def setM (ds : List D) (m n : Option D) : Option (List D) := m.bind fun d => n.bind fun k => match k with
  | .int j => (ixN ds.length j).map fun t => ds.set t d
  | _ => none
theorem ds_st {i : Nat} {x : Str} {p1 p2 : Pos} {m n : Option D} {ds : List D} (nm : Nm x) (hi : ρ[i]? = some (.own ds)) (hN : X.N[i]? = some x) (hv : Vis X.env.scope x) (he : DE X e ρ m) (hk : DE X a ρ n)
    (hs : swapsWithSole [.Subscript (.Name x p1) a p2] e pos.line X.env = pure false) (hw : swappedStores [.Subscript (.Name x p1) a p2] e X.env = pure none) (h1 : (assignEach [.Subscript (.Name x p1) a p2] X.env).map (·.2) = [assign (.Subscript (.Name x p1) a p2) X.env])
    (hq : ∀ {to ti : TE} {t : TSet}, PE X (.Name x p1) to → PE X a ti → PSet X t → PG X (.Subscript (.Name x p1) a p2) (gSub to ti t)) :
    DS X R (.Assign [.Subscript (.Name x p1) a p2] e pos) ρ (nxt (setM ds m n)) (fun es => ρ.set i (.own es)) lp :=
  ds_seti hi hN hv nm.d nm.c he hk (hq (pe_var hN hv nm.d nm.c) hk.pe set_list) hs hw h1
/-- x[a], x[b] = e -/
def setM2 (ds : List D) (m n : Option D) (o : List D → Option D) : Option (List D) := (m.bind un2).bind fun p => (setM ds (some p.1) n).bind fun es => setM es (some p.2) (o es)
theorem ds_st2 {i kt : Nat} {x : Str} {p1 p2 p3 p4 pt : Pos} {m n : Option D} {o : List D → Option D} {ds : List D} (nm : Nm x) (hi : ρ[i]? = some (.own ds)) (hN : X.N[i]? = some x) (hv : Vis X.env.scope x) (hc : X.calm = true) (he : DE X e ρ m) (hk : DE X a ρ n) (hk2 : ∀ es, DE X b (ρ.set i (.own es)) (o es))
    (hq : ∀ {to ti t to' ti' t'}, PE X (.Name x p1) to → PE X a ti → PSet X t → PE X (.Name x p3) to' → PE X b ti' → PSet X t' → PG X (.Tuple [.Subscript (.Name x p1) a p2, .Subscript (.Name x p3) b p4] kt pt) (gTup X.K 2 (gCons (gSub to ti t) (gCons (gSub to' ti' t') gNil))))
    (hs : swapsWithSole [.Tuple [.Subscript (.Name x p1) a p2, .Subscript (.Name x p3) b p4] kt pt] e pos.line X.env = pure false) (hw : swappedStores [.Tuple [.Subscript (.Name x p1) a p2, .Subscript (.Name x p3) b p4] kt pt] e X.env = pure none)
    (h1 : (assignEach [.Tuple [.Subscript (.Name x p1) a p2, .Subscript (.Name x p3) b p4] kt pt] X.env).map (·.2) = [assign (.Tuple [.Subscript (.Name x p1) a p2, .Subscript (.Name x p3) b p4] kt pt) X.env]) :
    DS X R (.Assign [.Tuple [.Subscript (.Name x p1) a p2, .Subscript (.Name x p3) b p4] kt pt] e pos) ρ (nxt (setM2 ds m n o)) (fun es => ρ.set i (.own es)) lp := by
  have hX : PE X b (fun σ H Q => ∃ es, cT X.K (ρ.set i (.own es)) (o es) σ H Q) := ⟨fun pins s σ H Q I ⟨es, w⟩ => (hk2 es).pe.run pins s σ H Q I w⟩
  refine ⟨psI (ps_asg he.pe (hq (pe_var hN hv nm.d nm.c) hk.pe set_list (pe_var hN hv nm.d nm.c) hX set_list) hs hw h1) ?_⟩
  intro Dn σ H ⟨B0, H0, B, hh, f', hm, q⟩
  obtain ⟨es, hd, rfl⟩ := nxt_some hm
  obtain ⟨pr, hd, hf⟩ := bind_some hd
  obtain ⟨d, hd, hu⟩ := bind_some hd
  obtain ⟨es1, g1, g2⟩ := bind_some hf
  obtain ⟨p, vs, k1, k2, k3, k4, k5⟩ := hh.own i ds hi
  refine ⟨B0, H0, B, hh, d, hd, fun v B1 H1 n1 r1 => ?_⟩
  unfold un2 at hu
  split at hu
  · rename_i x1 x2
    cases hu
    cases r1 with
    | @tup t ws _ t1 rr =>
      obtain ⟨v1, v2, rfl, w1, w2⟩ := two_rep rr
      obtain ⟨z1, e1, g1⟩ := bind_some g1
      cases e1
      obtain ⟨j1, hj1, g1⟩ := bind_some g1
      obtain ⟨z2, e2, g2⟩ := bind_some g2
      cases e2
      obtain ⟨j2, hj2, g2⟩ := bind_some g2
      refine ⟨t, [v1, v2], rfl, Evl.ex_t n1.2.2.1 t1, rfl, v1, [v2], rfl, .ref p, k1, B0, H0, B1, hh.step n1, j1, hj1, fun w B2 H2 n2 r2 => ?_⟩
      cases r2 with
      | int c1 =>
        obtain ⟨t1', ht1, rfl⟩ := map_some g1
        have a1 : H2 p = some (.lst vs) := n2.2.1 _ _ (n1.2.1 _ _ k4)
        have b1 : B1 p = none := n1.2.2.2 p (by rw [k4]; simp) k3
        have b2 : B2 p = none := n2.2.2.2 p (by rw [n1.2.1 _ _ k4]; simp) b1
        refine ⟨p, vs, c1, t1', rfl, rfl, a1, by rw [k5.len]; exact ht1, ?_⟩
        have K2 := ((hh.step n1).step n2).reown hi k1 k2 b2 a1 ((k5.up (n1.1.trans n2.1)).set (w1.up n2.1) t1')
        refine ⟨v2, [], rfl, .ref p, k1, _, B0, H0, B2, K2, j2, hj2, fun w' B3 H3 n3 r3 => ?_⟩
        cases r3 with
        | int c2 =>
          obtain ⟨t2', ht2, rfl⟩ := map_some g2
          have hi2 : (ρ.set i (.own (ds.set t1' x1)))[i]? = some (.own (ds.set t1' x1)) := List.getElem?_set_self (List.getElem?_eq_some_iff.mp hi).1
          have a2 : H3 p = some (.lst (vs.set t1' v1)) := n3.2.1 _ _ upd_same
          have b3 : B3 p = none := n3.2.2.2 p (by rw [upd_same]; simp) b2
          refine ⟨p, vs.set t1' v1, c2, t2', rfl, rfl, a2, by rw [List.length_set, k5.len]; rw [List.length_set] at ht2; exact ht2, rfl, ?_⟩
          have K3 := (K2.step n3).reown hi2 k1 k2 b3 a2 ((((k5.up (n1.1.trans n2.1)).set (w1.up n2.1) t1').up n3.1).set (w2.up (n2.1.trans n3.1)) t2')
          rw [List.set_set] at K3
          exact q _ B3 _ K3 ((n1.1.trans n2.1).trans n3.1)
        | _ => simp at g2
      | _ => simp at g1
  · cases hu
def un2L : List D → Option (D × D)
  | [x, y] => some (x, y)
  | _ => none
theorem ds_par {i j : Nat} {x y : Str} {px py pt : Pos} {kt k2 : Nat} {pt2 : Pos} {m : Option (List D)} (hc : X.calm = true) (hN : X.N.Nodup) (hi : X.N[i]? = some x) (hj : X.N[j]? = some y) (hij : i ≠ j)
    (hq : ∀ t, PA X [a, b] t → PS X (.Assign [.Tuple [.Name x px, .Name y py] kt pt] (.Tuple [a, b] k2 pt2) pos) (tPar i j t)) (ha : DA X [a, b] ρ m) :
    DS X R (.Assign [.Tuple [.Name x px, .Name y py] kt pt] (.Tuple [a, b] k2 pt2) pos) ρ (nxt (m.bind un2L)) (fun p => (ρ.set i (.val p.1)).set j (.val p.2)) lp := ⟨psI (hq _ ha.pa) (by
  intro Dn σ H ⟨B0, H0, B, hh, f, hm, q⟩
  obtain ⟨p, hp, rfl⟩ := nxt_some hm
  obtain ⟨ds, hd, hf⟩ := bind_some hp
  refine ⟨B0, H0, B, hh, ds, hd, fun vs B1 H1 n1 r1 => ?_⟩
  unfold un2L at hf
  split at hf
  · cases hf
    obtain ⟨v, v', rfl, g1, g2⟩ := two_rep r1
    exact ⟨v, v', rfl, q _ B1 H1 (((hh.step n1).setv g1).setv g2) n1.1⟩
  · cases hf)⟩

/-! ### methods -/
noncomputable def countD : D → D → Option D
  | .list ds, d => @ite _ (shalAll ds d) (Classical.propDecidable _) (some (.int ((ds.countP fun y => PyData.eqv y d : Nat) : Int))) none
  | _, _ => none
def indexD : D → D → Option D
  | .list ds, d => if shalAll ds d then (dataPlace ds d).map fun j => .int (j : Nat) else none
  | _, _ => none
def rMD (K : PySem.W.Frag) (f : D → D → Option D) : V → List V → Hp → VK → Prop := fun x xs H Q => ∃ y, xs = [y] ∧ rD K f x y H Q
theorem mt_countD (hu : X.A.units + 200 < cLine) : MtR X "list.count" (rMD X.K countD) := by
  intro pins s σ H x xs v us Q I rx rxs ⟨y, e, B, d, d', r, ex, hd, he, hf, q⟩
  subst e
  cases hd with
  | @lst l ws ds h1 rr =>
    simp only [countD] at hf
    split at hf
    · rename_i hc
      cases hf
      cases rx
      obtain ⟨uy, rfl, ry⟩ := rxs.one
      obtain ⟨bs, r1⟩ := he.reads rfl I ex ry
      obtain ⟨its, rv, pl, hz⟩ := I.list (.inl (.inl (ex _ _ h1)))
      obtain ⟨as, ra⟩ := Dp.readsAll I _ _ _ (Reps.dp (Reps.up ex rr)) rv
      exact count_list_data pl.isList (by simpa using ra) r1 (Reps.plain rr) he.plain (shalAll_room hc hu) ⟨.int _, H, I.tok _, ⟨_, rfl⟩, q _ B H (Nx.refl ex) (.int _)⟩
    · cases hf
  | _ => simp [countD] at hf
theorem bmD {id : String} {name : Str} {apos cpos : Pos} {f : D → D → Option D} {m n : Option D} (slot : Slot "list" name id) (hty : typeOf (.builtin id) = pure (.type "method_descriptor")) (hm : MtR X id (rMD X.K f)) (hl : ∀ d e r, f d e = some r → ∃ ds, d = .list ds) (ha : DE X a ρ m) (hb : DE X b ρ n)
    (hbase : attributeBase a name X.env (eval a X.env) = eval a X.env)
    (hfew : ((backTo cpos (starEach [b] X.env)).all (fun x => !x.1) && (backToKw cpos (keywordEach [] X.env)).all (fun x => x.1.isSome) && decide ([b].length + ([] : List Keyword).length + (if ([] : List Keyword).isEmpty then 0 else 1) < 30)) = true)
    (hline : (apos.endLine == cpos.line) = true) (hs : starEach [b] X.env = (false, eval b X.env) :: starEach [] X.env) (hplain : (backTo cpos (starEach [] X.env)).any (·.1) = false) :
    DE X (.Call (.Attribute a name apos) [b] [] cpos) ρ (b2 m n f) := ⟨peI (pe_bm PySem.F.plainAttrs_list slot hty hm ha.pe (pa_cons hb.pe pa_nil hs) hbase hfew hline hs hplain) (by
  intro σ H Q ⟨B0, H0, B, hh, d, hm, q⟩
  obtain ⟨x, hx, hm⟩ := bind_some hm
  obtain ⟨y, hy, hf⟩ := bind_some hm
  obtain ⟨ds, rfl⟩ := hl _ _ _ hf
  refine ⟨B0, H0, B, hh, _, hx, fun v B1 H1 n1 r1 => ?_⟩
  have r1' := r1
  cases r1 with
  | @lst l ws _ h1 rr =>
    refine ⟨.inl ⟨rfl, ws, .inl (.inl (n1.2.2.1 _ _ h1))⟩, B0, H0, B1, hh.step n1, y, hy, fun w B2 H2 n2 r2 => ?_⟩
    exact ⟨w, rfl, B2, _, y, d, n2.2.2.1, r1'.up n2.1, r2, hf, fun u B3 H3 n3 r3 => q u B3 H3 ((n1.trans n2).trans n3) r3⟩)⟩
theorem de_count {apos cpos : Pos} {m n : Option D} (hu : X.A.units + 200 < cLine) (ha : DE X a ρ m) (hb : DE X b ρ n) (hbase : attributeBase a "count" X.env (eval a X.env) = eval a X.env)
    (hfew : ((backTo cpos (starEach [b] X.env)).all (fun x => !x.1) && (backToKw cpos (keywordEach [] X.env)).all (fun x => x.1.isSome) && decide ([b].length + ([] : List Keyword).length + (if ([] : List Keyword).isEmpty then 0 else 1) < 30)) = true)
    (hline : (apos.endLine == cpos.line) = true) (hs : starEach [b] X.env = (false, eval b X.env) :: starEach [] X.env) (hplain : (backTo cpos (starEach [] X.env)).any (·.1) = false) :
    DE X (.Call (.Attribute a "count" apos) [b] [] cpos) ρ (b2 m n countD) := bmD PySem.F.slot_list_count PySem.F.type_list_count (mt_countD hu) (fun d e r h => by cases d <;> simp [countD] at h; exact ⟨_, rfl⟩) ha hb hbase hfew hline hs hplain

/-! ### own functions, bundled -/
structure Callee (P : Program) (w : World) (K : PySem.W.Frag) (mg : Str → Option Value) (base : Heap) (x : Str) (ps : List Str) (k : Nat) (sp : Sp) : Prop where
  ex : ∃ f fd, FnOk P w K mg base CX0 k f fd ps sp ∧ mg x = some (.ref f) ∧ PySem.W.keepIn K (.ref f) = true ∧ Binds K fd ps []
theorem de_call {x : Str} {p : Pos} {ps : List Str} {k : Nat} {g : List D → Option D} {m : Option (List D)} (C : Callee X.prog X.w X.K X.mg X.base x ps k (spD X.K g)) (hr : Room k X.A) (ha : DA X (e :: es) ρ m) (hg : Gl X x) (hdb : (x == ("__debug__" : Str)) = false)
    (he : starEach (e :: es) X.env = (false, eval e X.env) :: starEach es X.env) (hpl : (backTo pos (starEach es X.env)).any (·.1) = false) : DE X (.Call (.Name x p) (e :: es) [] pos) ρ (m.bind g) :=
  let ⟨_, _, F, h1, h2, h3⟩ := C.ex
  de_fn F hr hg h1 h2 h3 ha hdb he hpl
theorem df_call {x : Str} {p : Pos} {ps : List Str} {k : Nat} {g : List D → Option (List D)} {m : Option (List D)} (C : Callee X.prog X.w X.K X.mg X.base x ps k (spF X.K g)) (hr : Room k X.A) (ha : DA X (e :: es) ρ m) (hg : Gl X x) (hdb : (x == ("__debug__" : Str)) = false)
    (he : starEach (e :: es) X.env = (false, eval e X.env) :: starEach es X.env) (hpl : (backTo pos (starEach es X.env)).any (·.1) = false) : DF X (.Call (.Name x p) (e :: es) [] pos) ρ (m.bind g) :=
  let ⟨_, _, F, h1, h2, h3⟩ := C.ex
  df_fn F hr hg h1 h2 h3 ha hdb he hpl
/-- a reader of the script -/
def cellD (ns : List Int) : D → Option D
  | .int k => if 0 ≤ k ∧ k < 64 then some (.int (ns.getD k.toNat 0)) else none
  | _ => none
def spCell (K : PySem.W.Frag) : Sp := fun vs H Q _ => ∃ (a : Addr) (k : Int) (ns : List Int) (B : Hp), vs = [.ref a, .int k] ∧ Ex B H ∧ SqL K B a (ns.map V.int) ∧ ns.length ≤ 63 ∧ 0 ≤ k ∧ k < 64 ∧ ∀ B' H', Nx B H B' H' → Q (.int (ns.getD k.toNat 0)) H'
theorem de_cell {x y : Str} {p p1 : Pos} {ps : List Str} {k i : Nat} {ns : List Int} {m : Option D} (C : Callee X.prog X.w X.K X.mg X.base x ps k (spCell X.K)) (hr : Room k X.A) (n : Nm y) (hn : ns.length ≤ 63) (hi : ρ[i]? = some (.scr ns)) (hN : X.N[i]? = some y) (hv : Vis X.env.scope y) (hb : DE X b ρ m) (hg : Gl X x)
    (hdb : (x == ("__debug__" : Str)) = false) (he : starEach [.Name y p1, b] X.env = (false, eval (.Name y p1) X.env) :: starEach [b] X.env) (he2 : starEach [b] X.env = (false, eval b X.env) :: starEach [] X.env) (hpl : (backTo pos (starEach [b] X.env)).any (·.1) = false) :
    DE X (.Call (.Name x p) [.Name y p1, b] [] pos) ρ (m.bind (cellD ns)) := by
  obtain ⟨f, fd, F, h1, h2, h3⟩ := C.ex
  refine ⟨peI (pe_call F hr hg h1 h2 h3 .nil pass0 (pa_cons (pe_var hN hv n.d n.c) (pa_cons hb.pe pa_nil he2) he) hdb he hpl) ?_⟩
  intro σ H Q ⟨B0, H0, B, hh, d, hm, q⟩
  obtain ⟨x, hx, hf⟩ := bind_some hm
  obtain ⟨a, g1, g2⟩ := hh.scr i ns hi
  refine ⟨.ref a, g1, B0, H0, B, hh, x, hx, fun v B1 H1 n1 r1 => ?_⟩
  cases r1 <;> simp [cellD] at hf
  · obtain ⟨⟨c1, c2⟩, rfl⟩ := hf
    exact ⟨a, _, ns, B1, rfl, n1.2.2.1, Evl.ex_l n1.1 g2, hn, c1, c2, fun B' H' n' => q _ B' H' (n1.trans n') (by rw [List.getD_eq_getElem?_getD]; exact .int _)⟩
end

/-! ### defs -/
section
variable {P : Program} {w : World} {K : PySem.W.Frag} {mg : Str → Option Value} {base : Heap} {α : Type}
theorem f1_len {f : D → Option α} : ∀ ds d, f1 f ds = some d → ds.length = 1
  | [_], _, _ => rfl
  | [], _, h | _ :: _ :: _, _, h => by cases h
theorem f2_len {f : D → D → Option α} : ∀ ds d, f2 f ds = some d → ds.length = 2
  | [_, _], _, _ => rfl
  | [], _, h | [_], _, h | _ :: _ :: _ :: _, _, h => by cases h
theorem f3_len {f : D → D → D → Option α} : ∀ ds d, f3 f ds = some d → ds.length = 3
  | [_, _, _], _, _ => rfl
  | [], _, h | [_], _, h | [_, _], _, h | _ :: _ :: _ :: _ :: _, _, h => by cases h
theorem f4_len {f : D → D → D → D → Option α} : ∀ ds d, f4 f ds = some d → ds.length = 4
  | [_, _, _, _], _, _ => rfl
  | [], _, h | [_], _, h | [_, _], _, h | [_, _, _], _, h | _ :: _ :: _ :: _ :: _ :: _, _, h => by cases h
theorem f5_len {f : D → D → D → D → D → Option α} : ∀ ds d, f5 f ds = some d → ds.length = 5
  | [_, _, _, _, _], _, _ => rfl
  | [], _, h | [_], _, h | [_, _], _, h | [_, _, _], _, h | [_, _, _, _], _, h | _ :: _ :: _ :: _ :: _ :: _ :: _, _, h => by cases h
theorem f1_args {f : D → Option α} {ds : List D} {d : α} (h : f1 f ds = some d) : ∃ a, ds = [a] := by
  match ds, f1_len _ _ h with | [a], _ => exact ⟨a, rfl⟩
theorem f2_args {f : D → D → Option α} {ds : List D} {d : α} (h : f2 f ds = some d) : ∃ a b, ds = [a, b] := by
  match ds, f2_len _ _ h with | [a, b], _ => exact ⟨a, b, rfl⟩
theorem f3_args {f : D → D → D → Option α} {ds : List D} {d : α} (h : f3 f ds = some d) : ∃ a b c, ds = [a, b, c] := by
  match ds, f3_len _ _ h with | [a, b, c], _ => exact ⟨a, b, c, rfl⟩
theorem f4_args {f : D → D → D → D → Option α} {ds : List D} {d : α} (h : f4 f ds = some d) : ∃ a b c e, ds = [a, b, c, e] := by
  match ds, f4_len _ _ h with | [a, b, c, e], _ => exact ⟨a, b, c, e, rfl⟩
theorem f5_args {f : D → D → D → D → D → Option α} {ds : List D} {d : α} (h : f5 f ds = some d) : ∃ a b c e g, ds = [a, b, c, e, g] := by
  match ds, f5_len _ _ h with | [a, b, c, e, g], _ => exact ⟨a, b, c, e, g, rfl⟩
theorem f1_outD {f : D → Option D} {b : D → Option (Fl Unit Unit)} (h : ∀ x, f x = outD (b x)) : ∀ ds d, f1 f ds = some d → outD (f1 b ds) = some d := fun ds d e => by
  obtain ⟨a, rfl⟩ := f1_args e
  exact (h a).symm.trans e
theorem f2_outD {f : D → D → Option D} {b : D → D → Option (Fl Unit Unit)} (h : ∀ x y, f x y = outD (b x y)) : ∀ ds d, f2 f ds = some d → outD (f2 b ds) = some d := fun ds d e => by
  obtain ⟨a, c, rfl⟩ := f2_args e
  exact (h a c).symm.trans e
theorem f3_outD {f : D → D → D → Option D} {b : D → D → D → Option (Fl Unit Unit)} (h : ∀ x y z, f x y z = outD (b x y z)) : ∀ ds d, f3 f ds = some d → outD (f3 b ds) = some d := fun ds d e => by
  obtain ⟨a, c, g, rfl⟩ := f3_args e
  exact (h a c g).symm.trans e
theorem f4_outD {f : D → D → D → D → Option D} {b : D → D → D → D → Option (Fl Unit Unit)} (h : ∀ x y z u, f x y z u = outD (b x y z u)) : ∀ ds d, f4 f ds = some d → outD (f4 b ds) = some d := fun ds d e => by
  obtain ⟨a, c, g, k, rfl⟩ := f4_args e
  exact (h a c g k).symm.trans e
theorem f5_outD {f : D → D → D → D → D → Option D} {b : D → D → D → D → D → Option (Fl Unit Unit)} (h : ∀ x y z u v, f x y z u v = outD (b x y z u v)) : ∀ ds d, f5 f ds = some d → outD (f5 b ds) = some d := fun ds d e => by
  obtain ⟨a, c, g, k, l, rfl⟩ := f5_args e
  exact (h a c g k l).symm.trans e
theorem f1_outF {f : D → Option (List D)} {b : D → Option (Fl Unit Unit)} (h : ∀ x, f x = outF (b x)) : ∀ ds d, f1 f ds = some d → outF (f1 b ds) = some d := fun ds d e => by
  obtain ⟨a, rfl⟩ := f1_args e
  exact (h a).symm.trans e
theorem f2_outF {f : D → D → Option (List D)} {b : D → D → Option (Fl Unit Unit)} (h : ∀ x y, f x y = outF (b x y)) : ∀ ds d, f2 f ds = some d → outF (f2 b ds) = some d := fun ds d e => by
  obtain ⟨a, c, rfl⟩ := f2_args e
  exact (h a c).symm.trans e
theorem f3_outF {f : D → D → D → Option (List D)} {b : D → D → D → Option (Fl Unit Unit)} (h : ∀ x y z, f x y z = outF (b x y z)) : ∀ ds d, f3 f ds = some d → outF (f3 b ds) = some d := fun ds d e => by
  obtain ⟨a, c, g, rfl⟩ := f3_args e
  exact (h a c g).symm.trans e
theorem f4_outF {f : D → D → D → D → Option (List D)} {b : D → D → D → D → Option (Fl Unit Unit)} (h : ∀ x y z u, f x y z u = outF (b x y z u)) : ∀ ds d, f4 f ds = some d → outF (f4 b ds) = some d := fun ds d e => by
  obtain ⟨a, c, g, k, rfl⟩ := f4_args e
  exact (h a c g k).symm.trans e
theorem f5_outF {f : D → D → D → D → D → Option (List D)} {b : D → D → D → D → D → Option (Fl Unit Unit)} (h : ∀ x y z u v, f x y z u v = outF (b x y z u v)) : ∀ ds d, f5 f ds = some d → outF (f5 b ds) = some d := fun ds d e => by
  obtain ⟨a, c, g, k, l, rfl⟩ := f5_args e
  exact (h a c g k l).symm.trans e
theorem fn_none {f : Addr} {fd : FuncData} {k : Nat} {ps : List Str} {g : List D → Option D} (h : ∀ ds, g ds = none) : FnOk P w K mg base CX0 k f fd ps (spD K g) :=
  ⟨fun vs H Q E ⟨B, ds, d, _, _, e, _⟩ => by (rw [h ds] at e; cases e), fun A outer s H args us vs Q E _ _ _ _ ⟨B, ds, d, _, _, e, _⟩ => by (rw [h ds] at e; cases e)⟩
/-- the law's promise -/
def spLaw (K : PySem.W.Frag) (g : List Int → Option D) : Sp := fun vs H Q _ => ∃ a ns, vs = [.ref a] ∧ SqL K H a (ns.map V.int) ∧ ns.length ≤ 63 ∧ g ns = some (.bool true) ∧ ∀ H', Q (.bl true) H'
theorem fn_law {x qual : Str} {st : Stmt} {f : Addr} {fd : FuncData} {N : List Str} {sc : Str} {k : Nat} {g : List Int → Option D} {m : List Int → Option (Fl Unit Unit)} (F : Fun K x qual st f fd) (S : FnScope N [sc] (defScope st)) (hg : ∀ ns, g ns = outD (m ns))
    (hb : ∀ (cdv : Value) (A : Around) (outer : List PySem.Env) (s : Shared) (H : Hp) (E : XK), Room k (A.deeper (envOfC qual (defScope st) s.heap.objs.size f cdv)) → ∀ ns : List Int, ns.length ≤ 63 → ∃ po lp, DB (cxOf CX0 P w K mg base N qual (defScope st) f cdv A outer s H E).nox rV (defBody st) (.scr ns :: List.replicate (N.length - 1) .no) (m ns) po lp) :
    FnOk P w K mg base CX0 (k + 1) f fd [sc] (spLaw K g) := by
  refine F.ok S (fun vs H Q E ⟨a, ns, h, _⟩ => by rw [h]; rfl) (fun cdv A outer s H vs Q E hr ⟨a, ns, e, hs, hl, hd, q⟩ => ?_)
  subst e
  obtain ⟨po, lp, h⟩ := hb cdv A outer s H E hr ns hl
  have hN : 1 ≤ N.length := by
    have := S.pre
    have h2 := congrArg List.length this
    simp at h2
    omega
  have hh : Holds K H H (.scr ns :: List.replicate (N.length - 1) .no) (L2.start N [.ref a]) H H := by
    have noO : ∀ {i : Nat} {x : Sl}, ((.scr ns : Sl) :: List.replicate (N.length - 1) .no)[i]? = some x → (i = 0 ∧ x = .scr ns) ∨ x = .no := fun {i x} h => by
      cases i with
      | zero => exact .inl ⟨rfl, (Option.some.inj h).symm⟩
      | succ i =>
        rw [List.getElem?_cons_succ, List.getElem?_replicate] at h
        split at h
        · exact .inr (Option.some.inj h).symm
        · cases h
    refine ⟨Nx.refl (Ex.refl H), by unfold L2.start; simp, fun i d h => ?_, fun i d h => ?_, fun i d h => ?_, fun i j ds es p h1 h2 => ?_⟩
    · rcases noO h with ⟨_, e⟩ | e <;> cases e
    · rcases noO h with ⟨_, e⟩ | e <;> cases e
    · rcases noO h with ⟨rfl, e⟩ | e
      · cases e; exact ⟨a, rfl, hs⟩
      · cases e
    · rcases noO h1 with ⟨_, e⟩ | e <;> cases e
  refine ⟨_, h.ps, H, H, H, hh, ?_⟩
  rw [hg ns] at hd
  obtain ⟨fl, h1, h2⟩ := bind_some hd
  refine ⟨fl, h1, ?_⟩
  cases fl with
  | nx s => cases h2
  | rt d' =>
    cases h2
    intro v B' H' n r
    cases r
    exact q H'
  | bk l => cases h2
  | ct l => cases h2
end
end Dl

namespace Wk0
open PySem L2 PySem.Spec PyProof.Rows PySem.W PySem.SeqAt Dl
def topS (i : Nat) : Stmt := PySem.Challenge.pw_nobodywaits_k49_whole_orders_of_mixed_co.main.body.getD i (.Pass ⟨0, 0, 0, 0⟩)
theorem nm_answer : Nm ("answer" : Str) := ⟨by decide, by decide⟩
theorem nm_at : Nm ("at" : Str) := ⟨by decide, by decide⟩
theorem nm_barred : Nm ("barred" : Str) := ⟨by decide, by decide⟩
theorem nm_cell : Nm ("cell" : Str) := ⟨by decide, by decide⟩
theorem nm_composers : Nm ("composers" : Str) := ⟨by decide, by decide⟩
theorem nm_count : Nm ("count" : Str) := ⟨by decide, by decide⟩
theorem nm_draws : Nm ("draws" : Str) := ⟨by decide, by decide⟩
theorem nm_due : Nm ("due" : Str) := ⟨by decide, by decide⟩
theorem nm_found : Nm ("found" : Str) := ⟨by decide, by decide⟩
theorem nm_frequent : Nm ("frequent" : Str) := ⟨by decide, by decide⟩
theorem nm_half : Nm ("half" : Str) := ⟨by decide, by decide⟩
theorem nm_i : Nm ("i" : Str) := ⟨by decide, by decide⟩
theorem nm_j : Nm ("j" : Str) := ⟨by decide, by decide⟩
theorem nm_k : Nm ("k" : Str) := ⟨by decide, by decide⟩
theorem nm_kept : Nm ("kept" : Str) := ⟨by decide, by decide⟩
theorem nm_limit : Nm ("limit" : Str) := ⟨by decide, by decide⟩
theorem nm_mixed : Nm ("mixed" : Str) := ⟨by decide, by decide⟩
theorem nm_more : Nm ("more" : Str) := ⟨by decide, by decide⟩
theorem nm_name : Nm ("name" : Str) := ⟨by decide, by decide⟩
theorem nm_names : Nm ("names" : Str) := ⟨by decide, by decide⟩
theorem nm_one : Nm ("one" : Str) := ⟨by decide, by decide⟩
theorem nm_order : Nm ("order" : Str) := ⟨by decide, by decide⟩
theorem nm_other : Nm ("other" : Str) := ⟨by decide, by decide⟩
theorem nm_paper : Nm ("paper" : Str) := ⟨by decide, by decide⟩
theorem nm_papers : Nm ("papers" : Str) := ⟨by decide, by decide⟩
theorem nm_part : Nm ("part" : Str) := ⟨by decide, by decide⟩
theorem nm_piece : Nm ("piece" : Str) := ⟨by decide, by decide⟩
theorem nm_ranked : Nm ("ranked" : Str) := ⟨by decide, by decide⟩
theorem nm_ranks : Nm ("ranks" : Str) := ⟨by decide, by decide⟩
theorem nm_row : Nm ("row" : Str) := ⟨by decide, by decide⟩
theorem nm_script : Nm ("script" : Str) := ⟨by decide, by decide⟩
theorem nm_told : Nm ("told" : Str) := ⟨by decide, by decide⟩
theorem nm_turned : Nm ("turned" : Str) := ⟨by decide, by decide⟩
theorem nm_verdict : Nm ("verdict" : Str) := ⟨by decide, by decide⟩
theorem nm_word : Nm ("word" : Str) := ⟨by decide, by decide⟩
abbrev s__law_numbers : Stmt := topS 6
theorem sc__law_numbers : FnScope ["cell", "count", "limit", "found", "k", "mixed"] ["cell", "count", "limit"] (defScope s__law_numbers) := ⟨rfl, rfl, rfl, by decide +kernel, rfl, by decide +kernel, by decide +kernel⟩
abbrev s_ranked_pieces : Stmt := topS 1
theorem sc_ranked_pieces : FnScope ["composers", "ranks", "k", "name", "_"] ["composers"] (defScope s_ranked_pieces) := ⟨rfl, rfl, rfl, by decide +kernel, rfl, by decide +kernel, by decide +kernel⟩
abbrev s_find_mixed : Stmt := topS 2
theorem sc_find_mixed : FnScope ["composers", "ranked", "name", "half", "order", "k", "piece", "_"] ["composers"] (defScope s_find_mixed) := ⟨rfl, rfl, rfl, by decide +kernel, rfl, by decide +kernel, by decide +kernel⟩
abbrev s__law_cell : Stmt := topS 5
theorem sc__law_cell : FnScope ["script", "k"] ["script", "k"] (defScope s__law_cell) := ⟨rfl, rfl, rfl, by decide +kernel, rfl, by decide +kernel, by decide +kernel⟩
abbrev s_judge_mixed : Stmt := topS 3
theorem sc_judge_mixed : FnScope ["composers", "verdict", "word", "part", "k"] ["composers", "verdict"] (defScope s_judge_mixed) := ⟨rfl, rfl, rfl, by decide +kernel, rfl, by decide +kernel, by decide +kernel⟩
abbrev s__law_accepts : Stmt := topS 10
theorem sc__law_accepts : FnScope ["composers", "paper", "word", "part", "k", "name"] ["composers", "paper"] (defScope s__law_accepts) := ⟨rfl, rfl, rfl, by decide +kernel, rfl, by decide +kernel, by decide +kernel⟩
abbrev s__law_same : Stmt := topS 7
theorem sc__law_same : FnScope ["told", "due", "k"] ["told", "due"] (defScope s__law_same) := ⟨rfl, rfl, rfl, by decide +kernel, rfl, by decide +kernel, by decide +kernel⟩
abbrev s__law_may : Stmt := topS 8
theorem sc__law_may : FnScope ["barred", "one", "other"] ["barred", "one", "other"] (defScope s__law_may) := ⟨rfl, rfl, rfl, by decide +kernel, rfl, by decide +kernel, by decide +kernel⟩
abbrev s__law_clean_orders : Stmt := topS 9
theorem sc__law_clean_orders : FnScope ["count", "barred", "found", "turn", "more", "row", "k"] ["count", "barred"] (defScope s__law_clean_orders) := ⟨rfl, rfl, rfl, by decide +kernel, rfl, by decide +kernel, by decide +kernel⟩
abbrev s_law : Stmt := topS 11
theorem sc_law : FnScope ["script", "draws", "count", "names", "composers", "kept", "frequent", "told", "barred", "i", "more", "papers", "order", "k", "at", "other", "turned", "paper", "answer", "name", "j"] ["script"] (defScope s_law) := ⟨rfl, rfl, rfl, by decide +kernel, rfl, by decide +kernel, by decide +kernel⟩
noncomputable def b__law_numbers (p_cell p_count p_limit : D) : Option (Fl Unit Unit) := (seqF (nxt ((some []).bind fun xs => fit xs.length xs)) fun found1 => (seqF (iteM ((b2 (some p_cell) (b2 (some (.int 10)) (some (.int 18)) powD) geD).bind isB) (seqF (((c2 (some p_count) (some [])).bind rng1D).bind fun ds => forF (fun d (l2 : D × List D) => ((fun d => some d) d).bind fun v3 => (seqF (nxt ((b2 ((c2 (some l2.1) (some [])).bind intL) (some p_limit) modD).bind fun d => fit (l2.2.length + 1) d)) fun a4 => (seqF (nxt (b2 ((c2 (some l2.1) (some [])).bind intL) (some p_limit) fdivD)) fun cell5 => (some (.nx (cell5, (l2.2 ++ [a4]))))))) ds (p_cell, found1)) fun l2 => (some (.rt (.list l2.2)))) (some (.nx ()))) fun _ => (seqF (((c2 (some p_count) (some [])).bind rng1D).bind fun ds => forF (fun d (l6 : List D) => ((fun d => some d) d).bind fun v7 => (seqF (nxt (b2 ((c2 (b2 (b2 (b2 (some p_cell) (some (.int 48271)) mulD) (b2 (some v7) (some (.int 69621)) mulD) addD) (some (.int 7)) addD) (some [])).bind intL) (some (.int 2147483647)) modD)) fun mixed8 => (seqF (nxt (b2 ((c2 (b2 (b2 (b2 (b2 (some mixed8) (some mixed8) mulD) (b2 (some mixed8) (some (.int 40692)) mulD) addD) (b2 (some v7) (some (.int 16807)) mulD) addD) (some (.int 11)) addD) (some [])).bind intL) (some (.int 2147483399)) modD)) fun mixed9 => (seqF (nxt ((b2 ((c2 (b2 (some mixed9) (some (.int 32)) fdivD) (some [])).bind intL) (some p_limit) modD).bind fun d => fit (l6.length + 1) d)) fun a10 => (some (.nx (l6 ++ [a10]))))))) ds found1) fun l6 => (some (.rt (.list l6))))))
noncomputable def d__law_numbers (p_cell p_count p_limit : D) : Option (List D) := outF (b__law_numbers p_cell p_count p_limit)
noncomputable def b_ranked_pieces (p_composers : D) : Option (Fl Unit Unit) := (seqF (nxt (((c2 (some p_composers) (some [])).bind enumD).bind (compM (turnC un2 (fun k2 => (some true)) (fun k2 => ((c2 ((b2 (some p_composers) (some k2.2) countD).bind negD) (c2 (some k2.2) (c2 (some k2.1) (some [])))).bind fun xs => fit xs.length (.tuple xs))))))) fun ranks1 => ((((((c2 (some (.list ranks1)) (some [])).bind sortF).map .list).bind itemsD).bind (compM (turnC un3 (fun x3 => (some true)) (fun x3 => (some x3.2.2))))).map fun ds => .rt (.list ds)))
noncomputable def d_ranked_pieces (p_composers : D) : Option (List D) := outF (b_ranked_pieces p_composers)
noncomputable def b_find_mixed (p_composers : D) : Option (Fl Unit Unit) := (seqF (nxt (((c2 (some p_composers) (some [])).bind (f1 d_ranked_pieces)).map .list)) fun ranked1 => (seqF (nxt (b2 (some p_composers) (b2 (some ranked1) (some (.int 0)) idxD) idxD)) fun name2 => (seqF (iteM ((b2 (b2 (some (.int 2)) (b2 (some p_composers) (some name2) countD) mulD) (b2 ((c2 (some p_composers) (some [])).bind lenL) (some (.int 1)) addD) gtD).bind isB) (((c2 (some (.str "composer")) (c2 (some name2) (some []))).bind fun xs => fit xs.length (.tuple xs)).map .rt) (some (.nx ()))) fun _ => (seqF (nxt (b2 (b2 ((c2 (some ranked1) (some [])).bind lenL) (some (.int 1)) addD) (some (.int 2)) fdivD)) fun half3 => (seqF (nxt (((some ranked1).bind itemsD).bind (compM (turnC (fun d => some d) (fun x5 => (some true)) (fun x5 => (some (.int 0))))))) fun order4 => (seqF (((c2 (some ranked1) (some [])).bind enumD).bind fun ds => forF (fun d (l6 : List D) => (un2 d).bind fun v7 => (seqF (nxt (setM l6 (some v7.2) (iteM ((b2 (some v7.1) (some half3) ltD).bind isB) (b2 (some (.int 2)) (some v7.1) mulD) (b2 (b2 (some (.int 2)) (b2 (some v7.1) (some half3) subD) mulD) (some (.int 1)) addD)))) fun order8 => (some (.nx order8)))) ds order4) fun l6 => (((c2 (some (.str "order")) (c2 (some (.list l6)) (some []))).bind fun xs => fit xs.length (.tuple xs)).map .rt)))))))
noncomputable def d_find_mixed (p_composers : D) : Option D := outD (b_find_mixed p_composers)
noncomputable def b_judge_mixed (p_composers p_verdict : D) : Option (Fl Unit Unit) := (seqF (iteM ((b2 ((c2 (some p_verdict) (some [])).bind lenL) (some (.int 2)) neD).bind isB) ((some (.bool false)).map .rt) (some (.nx ()))) fun _ => (seqF (nxt ((some p_verdict).bind un2)) fun t1 => (seqF (iteM ((b2 (some t1.1) (some (.str "composer")) eqD).bind isB) ((b2 (b2 (some (.int 2)) (b2 (some p_composers) (some t1.2) countD) mulD) (b2 ((c2 (some p_composers) (some [])).bind lenL) (some (.int 1)) addD) gtD).map .rt) (some (.nx ()))) fun _ => (seqF (iteM (orB ((b2 (some t1.1) (some (.str "order")) neD).bind isB) ((b2 (((c2 (some t1.2) (some [])).bind sortF).map .list) ((((c2 ((c2 (some p_composers) (some [])).bind lenL) (some [])).bind int1).bind rngF).map .list) neD).bind isB)) ((some (.bool false)).map .rt) (some (.nx ()))) fun _ => (((c2 ((((c2 (b2 ((c2 (some t1.2) (some [])).bind lenL) (some (.int 1)) subD) (some [])).bind rng1D).bind (compM (turnC (fun d => some d) (fun k2 => (some true)) (fun k2 => (b2 (b2 (some p_composers) (b2 (some t1.2) (some k2) idxD) idxD) (b2 (some p_composers) (b2 (some t1.2) (b2 (some k2) (some (.int 1)) addD) idxD) idxD) neD))))).map .list) (some [])).bind allL).map .rt)))))
noncomputable def d_judge_mixed (p_composers p_verdict : D) : Option D := outD (b_judge_mixed p_composers p_verdict)
noncomputable def b__law_accepts (p_composers p_paper : D) : Option (Fl Unit Unit) := (seqF (iteM ((b2 ((c2 (some p_paper) (some [])).bind lenL) (some (.int 2)) neD).bind isB) ((some (.bool false)).map .rt) (some (.nx ()))) fun _ => (seqF (nxt ((some p_paper).bind un2)) fun t1 => (seqF (iteM ((b2 (some t1.1) (some (.str "composer")) eqD).bind isB) ((b2 (b2 (some (.int 2)) ((c2 ((((some p_composers).bind itemsD).bind (compM (turnC (fun d => some d) (fun name2 => ((b2 (some name2) (some t1.2) eqD).bind isB)) (fun name2 => (some name2))))).map .list) (some [])).bind lenL) mulD) (b2 ((c2 (some p_composers) (some [])).bind lenL) (some (.int 1)) addD) gtD).map .rt) (some (.nx ()))) fun _ => (seqF (iteM (orB ((b2 (some t1.1) (some (.str "order")) neD).bind isB) ((b2 (((c2 (some t1.2) (some [])).bind sortF).map .list) ((((c2 ((c2 (some p_composers) (some [])).bind lenL) (some [])).bind int1).bind rngF).map .list) neD).bind isB)) ((some (.bool false)).map .rt) (some (.nx ()))) fun _ => ((b2 ((c2 ((((c2 (b2 ((c2 (some t1.2) (some [])).bind lenL) (some (.int 1)) subD) (some [])).bind rng1D).bind (compM (turnC (fun d => some d) (fun k3 => ((b2 (b2 (some p_composers) (b2 (some t1.2) (some k3) idxD) idxD) (b2 (some p_composers) (b2 (some t1.2) (b2 (some k3) (some (.int 1)) addD) idxD) idxD) eqD).bind isB)) (fun k3 => (some k3))))).map .list) (some [])).bind lenL) (some (.int 0)) eqD).map .rt)))))
noncomputable def d__law_accepts (p_composers p_paper : D) : Option D := outD (b__law_accepts p_composers p_paper)
noncomputable def b__law_same (rec : D → D → Option D) (p_told p_due : D) : Option (Fl Unit Unit) := (seqF (iteM (((some p_due).bind (insD "list")).bind truth) (iteM (orB ((((some p_told).bind (insD "list")).bind truth).map (!·)) ((b2 ((c2 (some p_told) (some [])).bind lenL) ((c2 (some p_due) (some [])).bind lenL) neD).bind isB)) ((some (.bool false)).map .rt) (some (.nx ()))) (iteM (((some p_due).bind (insD "tuple")).bind truth) (iteM (orB ((((some p_told).bind (insD "tuple")).bind truth).map (!·)) ((b2 ((c2 (some p_told) (some [])).bind lenL) ((c2 (some p_due) (some [])).bind lenL) neD).bind isB)) ((some (.bool false)).map .rt) (some (.nx ()))) (iteM ((b2 (some p_due) (some .none) isD).bind isB) ((b2 (some p_told) (some .none) isD).map .rt) (iteM (((some p_due).bind (insD "bool")).bind truth) ((andV ((some p_told).bind (insD "bool")) (b2 (some p_told) (some p_due) eqD)).map .rt) (iteM (((some p_due).bind (insD "int")).bind truth) ((andV ((some p_told).bind (insD "int")) (andV (((some p_told).bind (insD "bool")).bind fun x => (truth x).map fun k => .bool (!k)) (b2 (some p_told) (some p_due) eqD))).map .rt) ((andV ((some p_told).bind (insD "str")) (b2 (some p_told) (some p_due) eqD)).map .rt)))))) fun j1 => (seqF (((c2 ((c2 (some p_due) (some [])).bind lenL) (some [])).bind rng1D).bind fun ds => forF (fun d (l2 : Unit) => ((fun d => some d) d).bind fun v3 => (iteM ((((c2 (b2 (some p_told) (some v3) idxD) (c2 (b2 (some p_due) (some v3) idxD) (some []))).bind (f2 rec)).bind truth).map (!·)) ((some (.bool false)).map .rt) (some (.nx ())))) ds ()) fun l2 => ((some (.bool true)).map .rt)))
noncomputable def d__law_same : Nat → D → D → Option D
  | 0 => fun _ _ => none
  | n + 1 => fun p_told p_due => outD (b__law_same (d__law_same n) p_told p_due)
noncomputable def b__law_may (p_barred p_one p_other : D) : Option (Fl Unit Unit) := ((b2 ((c2 ((c2 (some p_one) (c2 (some p_other) (some []))).bind minL) (c2 ((c2 (some p_one) (c2 (some p_other) (some []))).bind maxL) (some []))).bind fun xs => fit xs.length (.tuple xs)) (some p_barred) notInD).map .rt)
noncomputable def d__law_may (p_barred p_one p_other : D) : Option D := outD (b__law_may p_barred p_one p_other)
noncomputable def b__law_clean_orders (p_count p_barred : D) : Option (Fl Unit Unit) := (seqF (nxt (((c2 (some p_count) (some [])).bind rng1D).bind (compM (turnC (fun d => some d) (fun k2 => (some true)) (fun k2 => (((c2 (some k2) (some [])).bind fun xs => fit xs.length xs).map .list)))))) fun found1 => (seqF (((c2 (b2 (some p_count) (some (.int 1)) subD) (some [])).bind rng1D).bind fun ds => forF (fun d (l3 : D) => ((fun d => some d) d).bind fun v4 => (seqF (nxt (((some []).bind fun xs => fit xs.length xs).map .list)) fun more5 => (seqF (((some l3).bind itemsD).bind fun ds => forF (fun d (l6 : D) => ((fun d => some d) d).bind fun v7 => (seqF (nxt (b2 (some l6) ((((c2 (some p_count) (some [])).bind rng1D).bind (compM (turnC (fun d => some d) (fun k9 => (andB ((b2 (some k9) (some v7) notInD).bind isB) (((c2 (some p_barred) (c2 (b2 (some v7) (b2 ((c2 (some v7) (some [])).bind lenL) (some (.int 1)) subD) idxD) (c2 (some k9) (some [])))).bind (f3 d__law_may)).bind truth))) (fun k9 => (b2 (some v7) (((c2 (some k9) (some [])).bind fun xs => fit xs.length xs).map .list) addD))))).map .list) addD)) fun more8 => (some (.nx more8)))) ds more5) fun l6 => (seqF (nxt (some l6)) fun found10 => (some (.nx found10)))))) ds (.list found1)) fun l3 => ((some l3).map .rt)))
noncomputable def d__law_clean_orders (p_count p_barred : D) : Option D := outD (b__law_clean_orders p_count p_barred)
noncomputable def b_law (ns : List Int) : Option (Fl Unit Unit) := (seqF (nxt (((c2 ((some (.int 0)).bind (cellD ns)) (c2 (some (.int 60)) (c2 (some (.int 5040)) (some [])))).bind (f3 d__law_numbers)).map .list)) fun draws1 => (seqF (nxt (b2 (some (.int 1)) (b2 (b2 (some draws1) (some (.int 0)) idxD) (some (.int 7)) modD) addD)) fun count2 => (seqF (iteM ((b2 (b2 (b2 (some draws1) (some (.int 1)) idxD) (some (.int 3)) modD) (some (.int 0)) eqD).bind isB) (seqF (nxt (b2 (some (.int 8)) (b2 (b2 (some draws1) (some (.int 0)) idxD) (some (.int 33)) modD) addD)) fun count4 => (some (.nx count4))) (some (.nx count2))) fun j3 => (seqF (nxt (b3 (((c2 (some (.str "Ada")) (c2 (some (.str "Bo")) (c2 (some (.str "")) (c2 (some (.str "ada")) (some []))))).bind fun xs => fit xs.length xs).map .list) (oI (some (.int 0))) (oI (b2 (some (.int 1)) (b2 (b2 (some draws1) (some (.int 2)) idxD) (some (.int 4)) modD) addD)))) fun names5 => (seqF (nxt ((((c2 (some j3) (some [])).bind rng1D).bind (compM (turnC (fun d => some d) (fun k7 => (some true)) (fun k7 => (b2 (some names5) (b2 (((c2 (b2 (b2 (some draws1) (b2 (some (.int 3)) (some k7) addD) idxD) ((c2 (some names5) (some [])).bind lenL) modD) (c2 (some (.int 0)) (some []))).bind fun xs => fit xs.length xs).map .list) ((c2 (b2 (b2 (b2 (some draws1) (b2 (some (.int 44)) (b2 (some k7) (some (.int 10)) modD) addD) idxD) (some (.int 3)) modD) (some (.int 0)) eqD) (some [])).bind intL) idxD) idxD))))).map .list)) fun composers6 => (seqF (nxt (((c2 (some composers6) (some [])).bind listF).map .list)) fun kept8 => (seqF (nxt (((some names5).bind itemsD).bind (compM (turnC (fun d => some d) (fun name10 => ((b2 (b2 (some (.int 2)) (b2 (some composers6) (some name10) countD) mulD) (b2 (some j3) (some (.int 1)) addD) gtD).bind isB)) (fun name10 => (some name10)))))) fun frequent9 => (seqF (iteM ((b2 ((c2 (some (.list frequent9)) (some [])).bind lenL) (some (.int 1)) gtD).bind isB) ((some (.bool false)).map .rt) (some (.nx ()))) fun _ => (seqF (nxt ((c2 (some composers6) (some [])).bind (f1 d_find_mixed))) fun told11 => (seqF (iteM (orB ((((some told11).bind (insD "tuple")).bind truth).map (!·)) (orB ((b2 (b2 (some told11) (some (.int 0)) idxD) (b2 (((c2 (some (.str "order")) (c2 (some (.str "composer")) (some []))).bind fun xs => fit xs.length xs).map .list) ((c2 (b2 ((c2 (some (.list frequent9)) (some [])).bind lenL) (some (.int 0)) gtD) (some [])).bind intL) idxD) neD).bind isB) (orB ((((c2 (some composers6) (c2 (some told11) (some []))).bind (f2 d__law_accepts)).bind truth).map (!·)) ((b2 (some composers6) (some kept8) neD).bind isB)))) ((some (.bool false)).map .rt) (some (.nx ()))) fun _ => (seqF (iteM (andB ((b2 ((c2 (some (.list frequent9)) (some [])).bind lenL) (some (.int 0)) gtD).bind isB) ((((c2 (some told11) (c2 ((c2 (some (.str "composer")) (c2 (b2 (some (.list frequent9)) (some (.int 0)) idxD) (some []))).bind fun xs => fit xs.length (.tuple xs)) (some []))).bind (f2 (d__law_same 12))).bind truth).map (!·))) ((some (.bool false)).map .rt) (some (.nx ()))) fun _ => (seqF (nxt (((some []).bind fun xs => fit xs.length xs).map .list)) fun barred12 => (seqF (((c2 (some j3) (some [])).bind rng1D).bind fun ds => forF (fun d (l13 : D) => ((fun d => some d) d).bind fun v14 => (seqF (nxt (b2 (some l13) ((((c2 (b2 (some v14) (some (.int 1)) addD) (c2 (some j3) (some []))).bind rng2D).bind (compM (turnC (fun d => some d) (fun j16 => ((b2 (b2 (some composers6) (some v14) idxD) (b2 (some composers6) (some j16) idxD) eqD).bind isB)) (fun j16 => ((c2 (some v14) (c2 (some j16) (some []))).bind fun xs => fit xs.length (.tuple xs)))))).map .list) addD)) fun barred15 => (some (.nx barred15)))) ds barred12) fun l13 => (seqF (iteM (andB ((b2 (some j3) (some (.int 7)) ltD).bind isB) ((b2 (b2 ((c2 ((c2 (some j3) (c2 (some l13) (some []))).bind (f2 d__law_clean_orders)) (some [])).bind lenL) (some (.int 0)) gtD) (b2 (b2 (some told11) (some (.int 0)) idxD) (some (.str "order")) eqD) neD).bind isB)) ((some (.bool false)).map .rt) (some (.nx ()))) fun _ => (seqF (nxt (((c2 ((some (.int 1)).bind (cellD ns)) (c2 (some (.int 10)) (c2 (some (.int 5040)) (some [])))).bind (f3 d__law_numbers)).map .list)) fun more17 => (seqF (nxt ((c2 (some told11) (c2 (b3 (some told11) (oI (some (.int 0))) (oI (some (.int 1)))) (c2 (b2 (some told11) ((c2 (some (.int 0)) (some [])).bind fun xs => fit xs.length (.tuple xs)) addD) (c2 ((c2 (some (.str "orders")) (c2 ((((c2 (some j3) (some [])).bind int1).bind rngF).map .list) (some []))).bind fun xs => fit xs.length (.tuple xs)) (c2 ((c2 (some (.str "order")) (c2 ((((c2 (some j3) (some [])).bind int1).bind rngF).map .list) (some []))).bind fun xs => fit xs.length (.tuple xs)) (c2 ((c2 (some (.str "order")) (c2 (((some []).bind fun xs => fit xs.length xs).map .list) (some []))).bind fun xs => fit xs.length (.tuple xs)) (c2 ((c2 (some (.str "order")) (c2 (b2 (((c2 (some (.int 0)) (some [])).bind fun xs => fit xs.length xs).map .list) (some j3) mulD) (some []))).bind fun xs => fit xs.length (.tuple xs)) (some [])))))))).bind fun xs => fit xs.length xs)) fun papers18 => (seqF (nxt (b2F (some (.list papers18)) (((c2 ((c2 (some (.str "order")) (c2 ((((c2 (some (.int 1)) (c2 (b2 (some j3) (some (.int 1)) addD) (some []))).bind int2).bind rngF).map .list) (some []))).bind fun xs => fit xs.length (.tuple xs)) (c2 ((c2 (some (.str "composer")) (c2 (some (.str "nobody")) (some []))).bind fun xs => fit xs.length (.tuple xs)) (some []))).bind fun xs => fit xs.length xs).map .list) catF)) fun papers20 => (seqF (nxt (b2F (some (.list papers20)) ((((some names5).bind itemsD).bind (compM (turnC (fun d => some d) (fun name23 => (some true)) (fun name23 => ((c2 (some (.str "composer")) (c2 (some name23) (some []))).bind fun xs => fit xs.length (.tuple xs)))))).map .list) catF)) fun papers22 => (seqF (iteM ((b2 (b2 (some told11) (some (.int 0)) idxD) (some (.str "order")) eqD).bind isB) (seqF (nxt (b2 (some told11) (some (.int 1)) idxD)) fun order25 => (seqF (((c2 (some (.int 4)) (some [])).bind rng1D).bind fun ds => forF (fun d (l26 : List D) => ((fun d => some d) d).bind fun v27 => (seqF (nxt (b2 (b2 (some more17) (b2 (some (.int 2)) (some v27) mulD) idxD) (some j3) modD)) fun at28 => (seqF (nxt (b2 (b2 (some more17) (b2 (b2 (some (.int 2)) (some v27) mulD) (some (.int 1)) addD) idxD) (some j3) modD)) fun other29 => (seqF (nxt ((c2 (some order25) (some [])).bind listF)) fun turned30 => (seqF (nxt (setM2 turned30 ((c2 (b2 (some order25) (some other29) idxD) (c2 (b2 (some order25) (some at28) idxD) (some []))).bind fun xs => fit xs.length (.tuple xs)) (some at28) (fun e31 => (some other29)))) fun turned32 => (seqF (nxt (((c2 (some (.str "order")) (c2 (some (.list turned32)) (some []))).bind fun xs => fit xs.length (.tuple xs)).bind fun d => fit (l26.length + 1) d)) fun a33 => (some (.nx (l26 ++ [a33]))))))))) ds papers22) fun l26 => (seqF (nxt (b2F (some (.list l26)) (((c2 ((c2 (some (.str "order")) (c2 ((some order25).bind revD) (some []))).bind fun xs => fit xs.length (.tuple xs)) (c2 ((c2 (some (.str "order")) (c2 (b3 (some order25) (oI (some (.int 1))) (some none)) (some []))).bind fun xs => fit xs.length (.tuple xs)) (c2 ((c2 (some (.str "order")) (c2 (b2 (some order25) (b3 (some order25) (oI (some (.int 0))) (oI (some (.int 1)))) addD) (some []))).bind fun xs => fit xs.length (.tuple xs)) (c2 ((c2 (some (.str "order")) (c2 (b2 (((c2 ((some (.int 1)).bind negD) (some [])).bind fun xs => fit xs.length xs).map .list) (b3 (some order25) (oI (some (.int 1))) (some none)) addD) (some []))).bind fun xs => fit xs.length (.tuple xs)) (some []))))).bind fun xs => fit xs.length xs).map .list) catF)) fun papers35 => (some (.nx papers35))))) (some (.nx papers22))) fun j24 => (seqF (((some (.list j24)).bind itemsD).bind fun ds => forF (fun d (l36 : Unit) => ((fun d => some d) d).bind fun v37 => (seqF (nxt ((c2 (some composers6) (c2 (some v37) (some []))).bind (f2 d_judge_mixed))) fun answer38 => (iteM (orB ((((c2 (some answer38) (c2 ((c2 (some composers6) (c2 (some v37) (some []))).bind (f2 d__law_accepts)) (some []))).bind (f2 (d__law_same 12))).bind truth).map (!·)) (andB ((some answer38).bind truth) ((b2 (b2 (some v37) (some (.int 0)) idxD) (b2 (some told11) (some (.int 0)) idxD) neD).bind isB))) ((some (.bool false)).map .rt) (some (.nx ()))))) ds ()) fun l36 => ((some (.bool true)).map .rt)))))))))))))))))))))
noncomputable def d_law (ns : List Int) : Option D := outD (b_law ns)
section
variable {P : Program} {w : World} {K : PySem.W.Frag} {mg : Str → Option Value} {base : Heap}
variable (z_all : mg "all" = none) (z_bool : mg "bool" = none) (z_enumerate : mg "enumerate" = none) (z_int : mg "int" = none) (z_isinstance : mg "isinstance" = none) (z_len : mg "len" = none) (z_list : mg "list" = none) (z_max : mg "max" = none) (z_min : mg "min" = none) (z_range : mg "range" = none) (z_sorted : mg "sorted" = none) (z_str : mg "str" = none) (z_tuple : mg "tuple" = none)
include z_all z_bool z_enumerate z_int z_isinstance z_len z_list z_max z_min z_range z_sorted z_str z_tuple

theorem ok__law_numbers {f : Addr} {fd : FuncData} (F : Fun K "_law_numbers" "_law_numbers" s__law_numbers f fd) : FnOk P w K mg base CX0 1 f fd ["cell", "count", "limit"] (spF K (f3 d__law_numbers)) := by
  refine fn_F (m := f3 b__law_numbers) F sc__law_numbers f3_len (f3_outF fun p_cell p_count p_limit => rfl) fun cdv A outer s H E hr ds d hd => ?_
  have nd := sc__law_numbers.nd
  have hu : (A.deeper (envOfC "_law_numbers" (defScope s__law_numbers) s.heap.objs.size f cdv)).units + 200 < cLine := by have := hr.un; omega
  obtain ⟨p_cell, p_count, p_limit, rfl⟩ := f3_args hd
  exact ⟨fun _ => [.no, .no, .no, .no, .no, .no], fun _ => [.no, .no, .no, .no, .no, .no], (db_at [.val p_cell, .val p_count, .val p_limit, .no, .no, .no] rfl (db_cons (ds_asgF (i := 3) nd rfl (.inl rfl) (df_lst da_nil) rfl (.inl rfl)) fun found1 => (db_at [.val p_cell, .val p_count, .val p_limit, .own found1, .no, .no] rfl (db_cons (ds_if (S := Unit) (post := fun _ => [.val p_cell, .val p_count, .val p_limit, .own found1, .no, .no]) (dt_cmp (op_geD' hu) (de_v (i := 0) nm_cell rfl rfl (.inl rfl)) (de_op op_powD de_int de_int) (nomark _)) (db_at [.val p_cell, .val p_count, .val p_limit, .own found1, .no, .no] rfl (db_cons (ds_for (l0 := (p_cell, found1)) (lp := fun (l2 : D × List D) => [.val l2.1, .val p_count, .val p_limit, .own l2.2, .no, .no]) (pt := fun (l2 : D × List D) (v3 : D) => [.val l2.1, .val p_count, .val p_limit, .own l2.2, .val v3, .no]) (js := [4]) PassesOwn.never rfl (.k (.k (.k (.k (.n (.n .nil)))))) (di_rng1 (by rfl) z_range (da_cons (de_v (i := 1) nm_count rfl rfl (.inl rfl)) da_nil rfl) rfl) (fun l2 => (dg_name (i := 4) nd rfl (.inl rfl) (.inl rfl))) (fun l2 v3 => (db_cons (ds_ap (i := 3) nm_found rfl rfl (.inl rfl) (de_op op_modD (de_callT (ct_int) (by rfl) z_int (by decide +kernel) (da_cons (de_v (i := 0) nm_cell rfl rfl (.inl rfl)) da_nil rfl) (by decide) (by decide) rfl rfl) (de_v (i := 2) nm_limit rfl rfl (.inl rfl))) rfl rfl rfl rfl rfl rfl) fun a4 => (db_at [.val l2.1, .val p_count, .val p_limit, .own (l2.2 ++ [a4]), .val v3, .no] rfl (db_cons (ds_asg (i := 0) nd rfl (.inl rfl) (de_op op_fdivD (de_callT (ct_int) (by rfl) z_int (by decide +kernel) (da_cons (de_v (i := 0) nm_cell rfl rfl (.inl rfl)) da_nil rfl) (by decide) (by decide) rfl rfl) (de_v (i := 2) nm_limit rfl rfl (.inl rfl))) rfl (.inl rfl)) fun cell5 => (db_at [.val cell5, .val p_count, .val p_limit, .own (l2.2 ++ [a4]), .val v3, .no] rfl (db_nil (s := (cell5, (l2.2 ++ [a4]))) (.k (.k (.k (.k (.n (.n .nil)))))))))))) (fun _ => rfl)) fun l2 => (db_at [.val l2.1, .val p_count, .val p_limit, .own l2.2, .no, .no] rfl (db_one (ds_rO (i := 3) nm_found rfl rfl (.inl rfl)))))) (db_nil (s := ()) (Wk.refl _))) fun _ => (db_at [.val p_cell, .val p_count, .val p_limit, .own found1, .no, .no] rfl (db_cons (ds_for (l0 := found1) (lp := fun (l6 : List D) => [.val p_cell, .val p_count, .val p_limit, .own l6, .no, .no]) (pt := fun (l6 : List D) (v7 : D) => [.val p_cell, .val p_count, .val p_limit, .own l6, .val v7, .no]) (js := [4]) PassesOwn.never rfl (.k (.k (.k (.k (.n (.n .nil)))))) (di_rng1 (by rfl) z_range (da_cons (de_v (i := 1) nm_count rfl rfl (.inl rfl)) da_nil rfl) rfl) (fun l6 => (dg_name (i := 4) nd rfl (.inl rfl) (.inl rfl))) (fun l6 v7 => (db_cons (ds_asg (i := 5) nd rfl (.inl rfl) (de_op op_modD (de_callT (ct_int) (by rfl) z_int (by decide +kernel) (da_cons (de_op op_addD (de_op op_addD (de_op op_mulD (de_v (i := 0) nm_cell rfl rfl (.inl rfl)) de_int) (de_op op_mulD (de_v (i := 4) nm_k rfl rfl (.inl rfl)) de_int)) de_int) da_nil rfl) (by decide) (by decide) rfl rfl) de_int) rfl (.inl rfl)) fun mixed8 => (db_at [.val p_cell, .val p_count, .val p_limit, .own l6, .val v7, .val mixed8] rfl (db_cons (ds_asg (i := 5) nd rfl (.inl rfl) (de_op op_modD (de_callT (ct_int) (by rfl) z_int (by decide +kernel) (da_cons (de_op op_addD (de_op op_addD (de_op op_addD (de_op op_mulD (de_v (i := 5) nm_mixed rfl rfl (.inl rfl)) (de_v (i := 5) nm_mixed rfl rfl (.inl rfl))) (de_op op_mulD (de_v (i := 5) nm_mixed rfl rfl (.inl rfl)) de_int)) (de_op op_mulD (de_v (i := 4) nm_k rfl rfl (.inl rfl)) de_int)) de_int) da_nil rfl) (by decide) (by decide) rfl rfl) de_int) rfl (.inl rfl)) fun mixed9 => (db_at [.val p_cell, .val p_count, .val p_limit, .own l6, .val v7, .val mixed9] rfl (db_cons (ds_ap (i := 3) nm_found rfl rfl (.inl rfl) (de_op op_modD (de_callT (ct_int) (by rfl) z_int (by decide +kernel) (da_cons (de_op op_fdivD (de_v (i := 5) nm_mixed rfl rfl (.inl rfl)) de_int) da_nil rfl) (by decide) (by decide) rfl rfl) (de_v (i := 2) nm_limit rfl rfl (.inl rfl))) rfl rfl rfl rfl rfl rfl) fun a10 => (db_at [.val p_cell, .val p_count, .val p_limit, .own (l6 ++ [a10]), .val v7, .val mixed9] rfl (db_nil (s := (l6 ++ [a10])) (.k (.k (.k (.k (.n (.n .nil)))))))))))))) (fun _ => rfl)) fun l6 => (db_at [.val p_cell, .val p_count, .val p_limit, .own l6, .no, .no] rfl (db_one (ds_rO (i := 3) nm_found rfl rfl (.inl rfl))))))))))⟩
theorem ok_ranked_pieces {f : Addr} {fd : FuncData} (F : Fun K "ranked_pieces" "ranked_pieces" s_ranked_pieces f fd) : FnOk P w K mg base CX0 1 f fd ["composers"] (spF K (f1 d_ranked_pieces)) := by
  refine fn_F (m := f1 b_ranked_pieces) F sc_ranked_pieces f1_len (f1_outF fun p_composers => rfl) fun cdv A outer s H E hr ds d hd => ?_
  have nd := sc_ranked_pieces.nd
  have hu : (A.deeper (envOfC "ranked_pieces" (defScope s_ranked_pieces) s.heap.objs.size f cdv)).units + 200 < cLine := by have := hr.un; omega
  obtain ⟨p_composers, rfl⟩ := f1_args hd
  exact ⟨fun _ => [.no, .no, .no, .no, .no], fun _ => [.no, .no, .no, .no, .no], (db_at [.val p_composers, .no, .no, .no, .no] rfl (db_cons (ds_setLc (i := 1) (own := [("k", 2), ("name", 3)]) (post := fun (k2 : D × D) => [.val p_composers, .no, .val k2.1, .val k2.2, .no]) (js := [2, 3]) rfl nd rfl rfl (sw_true rfl rfl rfl (by decide +kernel)) (di_enum (by rfl) z_enumerate (da_cons (de_v (i := 0) nm_composers rfl rfl (.inr (.inl rfl))) da_nil rfl) rfl) (blkOk_by (N := ["composers", "ranks", "k", "name", "_"]) (sc := defScope s_ranked_pieces) (own := [("k", 2), ("name", 3)]) (by decide +kernel)) (fun _ _ _ _ _ => (dg_tup2 rfl (dgs_cons (i := 2) nd rfl (.inl rfl) (.inr rfl) fun _ => (dgs_cons (i := 3) nd rfl (.inl rfl) (.inr rfl) fun _ => dgs_nil)) rfl rfl (fun _ _ => rfl))) (fun _ _ _ _ _ k2 => dts_nil) (fun _ _ _ _ _ k2 => (de_tup (da_cons (de_un un_negD (de_count hu (de_v (i := 0) nm_composers rfl rfl (.inr (.inl rfl))) (de_v (i := 3) nm_name rfl rfl (.inl rfl)) rfl rfl rfl rfl rfl)) (da_cons (de_v (i := 3) nm_name rfl rfl (.inl rfl)) (da_cons (de_v (i := 2) nm_k rfl rfl (.inl rfl)) da_nil rfl) rfl) rfl))) (by decide) (fun _ => rfl)) fun ranks1 => (db_at [.val p_composers, .own ranks1, .no, .no, .no] rfl (db_frz (i := 1) rfl (db_at [.val p_composers, .val (.list ranks1), .no, .no, .no] rfl (db_one (ds_retF (df_lc (own := [("_", 4), ("k", 2)]) (post := fun (x3 : D × D × D) => [.val p_composers, .val (.list ranks1), .val x3.2.2, .no, .val x3.2.1]) (js := [4, 4, 2]) rfl nd (di_seq (DF.de (df_callB (cb_sorted hu) (by rfl) z_sorted (by decide +kernel) (da_cons (de_v (i := 1) nm_ranks rfl rfl (.inl rfl)) da_nil rfl) (by decide) (by decide) rfl rfl))) (blkOk_by (N := ["composers", "ranks", "k", "name", "_"]) (sc := defScope s_ranked_pieces) (own := [("_", 4), ("k", 2)]) (by decide +kernel)) (fun _ _ _ _ _ => (dg_tup3 rfl (dgs_cons (i := 4) nd rfl (.inl rfl) (.inr rfl) fun _ => (dgs_cons (i := 4) nd rfl (.inl rfl) (.inr rfl) fun _ => (dgs_cons (i := 2) nd rfl (.inl rfl) (.inr rfl) fun _ => dgs_nil))) rfl rfl (fun _ _ _ => rfl))) (fun _ _ _ _ _ x3 => dts_nil) (fun _ _ _ _ _ x3 => (de_v (i := 2) nm_k rfl rfl (.inl rfl))) (by decide) (fun _ => rfl)))))))))⟩
theorem ok_find_mixed {f : Addr} {fd : FuncData} (F : Fun K "find_mixed" "find_mixed" s_find_mixed f fd) (c_ranked_pieces : Dl.Callee P w K mg base "ranked_pieces" ["composers"] 1 (spF K (f1 d_ranked_pieces))) : FnOk P w K mg base CX0 2 f fd ["composers"] (spD K (f1 d_find_mixed)) := by
  refine fn_D (m := f1 b_find_mixed) F sc_find_mixed f1_len (f1_outD fun p_composers => rfl) fun cdv A outer s H E hr ds d hd => ?_
  have nd := sc_find_mixed.nd
  have hu : (A.deeper (envOfC "find_mixed" (defScope s_find_mixed) s.heap.objs.size f cdv)).units + 200 < cLine := by have := hr.un; omega
  obtain ⟨p_composers, rfl⟩ := f1_args hd
  exact ⟨fun _ => [.no, .no, .no, .no, .no, .no, .no, .no], fun _ => [.no, .no, .no, .no, .no, .no, .no, .no], (db_at [.val p_composers, .no, .no, .no, .no, .no, .no, .no] rfl (db_cons (ds_asg (i := 1) nd rfl (.inl rfl) (DF.de (df_call c_ranked_pieces (hr.mono (by decide)) (da_cons (de_v (i := 0) nm_composers rfl rfl (.inl rfl)) da_nil rfl) (by rfl) (by decide) rfl rfl)) rfl (.inl rfl)) fun ranked1 => (db_at [.val p_composers, .val ranked1, .no, .no, .no, .no, .no, .no] rfl (db_cons (ds_asg (i := 2) nd rfl (.inl rfl) (de_ix ix_D (de_v (i := 0) nm_composers rfl rfl (.inl rfl)) (de_ix ix_D (de_v (i := 1) nm_ranked rfl rfl (.inl rfl)) de_int (fun _ _ => rfl)) (fun _ _ => rfl)) rfl (.inl rfl)) fun name2 => (db_at [.val p_composers, .val ranked1, .val name2, .no, .no, .no, .no, .no] rfl (db_cons (ds_if (S := Unit) (post := fun _ => [.val p_composers, .val ranked1, .val name2, .no, .no, .no, .no, .no]) (dt_cmp (op_gtD' hu) (de_op op_mulD de_int (de_count hu (de_v (i := 0) nm_composers rfl rfl (.inl rfl)) (de_v (i := 2) nm_name rfl rfl (.inl rfl)) rfl rfl rfl rfl rfl)) (de_op op_addD (de_callB (cb_len) (by rfl) z_len (by decide +kernel) (da_cons (de_v (i := 0) nm_composers rfl rfl (.inl rfl)) da_nil rfl) (by decide) (by decide) rfl rfl) de_int) (nomark _)) (db_at [.val p_composers, .val ranked1, .val name2, .no, .no, .no, .no, .no] rfl (db_one (ds_ret (de_tup (da_cons de_str (da_cons (de_v (i := 2) nm_name rfl rfl (.inl rfl)) da_nil rfl) rfl))))) (db_nil (s := ()) (Wk.refl _))) fun _ => (db_at [.val p_composers, .val ranked1, .val name2, .no, .no, .no, .no, .no] rfl (db_cons (ds_asg (i := 3) nd rfl (.inl rfl) (de_op op_fdivD (de_op op_addD (de_callB (cb_len) (by rfl) z_len (by decide +kernel) (da_cons (de_v (i := 1) nm_ranked rfl rfl (.inl rfl)) da_nil rfl) (by decide) (by decide) rfl rfl) de_int) de_int) rfl (.inl rfl)) fun half3 => (db_at [.val p_composers, .val ranked1, .val name2, .val half3, .no, .no, .no, .no] rfl (db_cons (ds_setLc (i := 4) (own := [("_", 7)]) (post := fun (x5 : D) => [.val p_composers, .val ranked1, .val name2, .val half3, .no, .no, .no, .val x5]) (js := [7]) rfl nd rfl rfl (sw_true rfl rfl rfl (by decide +kernel)) (di_seq (de_v (i := 1) nm_ranked rfl rfl (.inl rfl))) (blkOk_by (N := ["composers", "ranked", "name", "half", "order", "k", "piece", "_"]) (sc := defScope s_find_mixed) (own := [("_", 7)]) (by decide +kernel)) (fun _ _ _ _ _ => (dg_name (i := 7) nd rfl (.inl rfl) (.inr rfl))) (fun _ _ _ _ _ x5 => dts_nil) (fun _ _ _ _ _ x5 => de_int) (by decide) (fun _ => rfl)) fun order4 => (db_at [.val p_composers, .val ranked1, .val name2, .val half3, .own order4, .no, .no, .no] rfl (db_cons (ds_for (l0 := order4) (lp := fun (l6 : List D) => [.val p_composers, .val ranked1, .val name2, .val half3, .own l6, .no, .no, .no]) (pt := fun (l6 : List D) (v7 : D × D) => [.val p_composers, .val ranked1, .val name2, .val half3, .own l6, .val v7.1, .val v7.2, .no]) (js := [5, 6]) PassesOwn.never rfl (.k (.k (.k (.k (.k (.n (.n (.n .nil)))))))) (di_enum (by rfl) z_enumerate (da_cons (de_v (i := 1) nm_ranked rfl rfl (.inl rfl)) da_nil rfl) rfl) (fun l6 => (dg_tup2 rfl (dgs_cons (i := 5) nd rfl (.inl rfl) (.inl rfl) fun _ => (dgs_cons (i := 6) nd rfl (.inl rfl) (.inl rfl) fun _ => dgs_nil)) rfl rfl (fun _ _ => rfl))) (fun l6 v7 => (db_cons (ds_st (i := 4) nm_order rfl rfl (.inl rfl) (de_v (i := 6) nm_piece rfl rfl (.inl rfl)) (de_if (dt_cmp (op_ltD' hu) (de_v (i := 5) nm_k rfl rfl (.inl rfl)) (de_v (i := 3) nm_half rfl rfl (.inl rfl)) (nomark _)) (de_op op_mulD de_int (de_v (i := 5) nm_k rfl rfl (.inl rfl))) (de_op op_addD (de_op op_mulD de_int (de_op op_subD (de_v (i := 5) nm_k rfl rfl (.inl rfl)) (de_v (i := 3) nm_half rfl rfl (.inl rfl)))) de_int)) rfl rfl rfl (fun ho hi hs => pg_sub ho hi hs)) fun order8 => (db_at [.val p_composers, .val ranked1, .val name2, .val half3, .own order8, .val v7.1, .val v7.2, .no] rfl (db_nil (s := order8) (.k (.k (.k (.k (.k (.n (.n (.n .nil)))))))))))) (fun _ => rfl)) fun l6 => (db_at [.val p_composers, .val ranked1, .val name2, .val half3, .own l6, .no, .no, .no] rfl (db_frz (i := 4) rfl (db_at [.val p_composers, .val ranked1, .val name2, .val half3, .val (.list l6), .no, .no, .no] rfl (db_one (ds_ret (de_tup (da_cons de_str (da_cons (de_v (i := 4) nm_order rfl rfl (.inl rfl)) da_nil rfl) rfl)))))))))))))))))))⟩
theorem ok_judge_mixed {f : Addr} {fd : FuncData} (F : Fun K "judge_mixed" "judge_mixed" s_judge_mixed f fd) : FnOk P w K mg base CX0 1 f fd ["composers", "verdict"] (spD K (f2 d_judge_mixed)) := by
  refine fn_D (m := f2 b_judge_mixed) F sc_judge_mixed f2_len (f2_outD fun p_composers p_verdict => rfl) fun cdv A outer s H E hr ds d hd => ?_
  have nd := sc_judge_mixed.nd
  have hu : (A.deeper (envOfC "judge_mixed" (defScope s_judge_mixed) s.heap.objs.size f cdv)).units + 200 < cLine := by have := hr.un; omega
  obtain ⟨p_composers, p_verdict, rfl⟩ := f2_args hd
  exact ⟨fun _ => [.no, .no, .no, .no, .no], fun _ => [.no, .no, .no, .no, .no], (db_at [.val p_composers, .val p_verdict, .no, .no, .no] rfl (db_cons (ds_if (S := Unit) (post := fun _ => [.val p_composers, .val p_verdict, .no, .no, .no]) (dt_cmp (op_neD' hu) (de_callB (cb_len) (by rfl) z_len (by decide +kernel) (da_cons (de_v (i := 1) nm_verdict rfl rfl (.inl rfl)) da_nil rfl) (by decide) (by decide) rfl rfl) de_int (nomark _)) (db_at [.val p_composers, .val p_verdict, .no, .no, .no] rfl (db_one (ds_ret de_bl))) (db_nil (s := ()) (Wk.refl _))) fun _ => (db_at [.val p_composers, .val p_verdict, .no, .no, .no] rfl (db_cons (ds_tg (post := fun (t1 : D × D) => [.val p_composers, .val p_verdict, .val t1.1, .val t1.2, .no]) (de_v (i := 1) nm_verdict rfl rfl (.inl rfl)) (dg_tup2 rfl (dgs_cons (i := 2) nd rfl (.inl rfl) (.inl rfl) fun _ => (dgs_cons (i := 3) nd rfl (.inr rfl) (.inl rfl) fun _ => dgs_nil)) rfl rfl (fun _ _ => rfl)) rfl rfl rfl) fun t1 => (db_at [.val p_composers, .val p_verdict, .val t1.1, .val t1.2, .no] rfl (db_cons (ds_if (S := Unit) (post := fun _ => [.val p_composers, .val p_verdict, .val t1.1, .val t1.2, .no]) (dt_cmp (op_eqD' hu) (de_v (i := 2) nm_word rfl rfl (.inl rfl)) de_str (nomark _)) (db_at [.val p_composers, .val p_verdict, .val t1.1, .val t1.2, .no] rfl (db_one (ds_ret (de_cmp (op_gtD' hu) (de_op op_mulD de_int (de_count hu (de_v (i := 0) nm_composers rfl rfl (.inr (.inl rfl))) (de_v (i := 3) nm_part rfl rfl (.inr (.inl rfl))) rfl rfl rfl rfl rfl)) (de_op op_addD (de_callB (cb_len) (by rfl) z_len (by decide +kernel) (da_cons (de_v (i := 0) nm_composers rfl rfl (.inr (.inl rfl))) da_nil rfl) (by decide) (by decide) rfl rfl) de_int) (nomark _))))) (db_nil (s := ()) (Wk.refl _))) fun _ => (db_at [.val p_composers, .val p_verdict, .val t1.1, .val t1.2, .no] rfl (db_cons (ds_if (S := Unit) (post := fun _ => [.val p_composers, .val p_verdict, .val t1.1, .val t1.2, .no]) (DW.dt (dw_or (dt_cmp (op_neD' hu) (de_v (i := 2) nm_word rfl rfl (.inl rfl)) de_str (nomark _)) (dw_or1 (dt_cmp (op_neD' hu) (DF.de (df_callB (cb_sorted hu) (by rfl) z_sorted (by decide +kernel) (da_cons (de_v (i := 3) nm_part rfl rfl (.inr (.inl rfl))) da_nil rfl) (by decide) (by decide) rfl rfl)) (DF.de (df_listRg rfl (by rfl) z_list (dr_1 (by rfl) z_range (de_callB (cb_len) (by rfl) z_len (by decide +kernel) (da_cons (de_v (i := 0) nm_composers rfl rfl (.inr (.inl rfl))) da_nil rfl) (by decide) (by decide) rfl rfl) rfl) rfl)) (nomark _))))) (db_at [.val p_composers, .val p_verdict, .val t1.1, .val t1.2, .no] rfl (db_one (ds_ret de_bl))) (db_nil (s := ()) (Wk.refl _))) fun _ => (db_at [.val p_composers, .val p_verdict, .val t1.1, .val t1.2, .no] rfl (db_one (ds_ret (de_callB (cb_all rfl) (by rfl) z_all (by decide +kernel) (da_cons (DF.de (df_lc (own := [("k", 4)]) (post := fun (k2 : D) => [.val p_composers, .val p_verdict, .val t1.1, .val t1.2, .val k2]) (js := [4]) rfl nd (di_rng1 (by rfl) z_range (da_cons (de_op op_subD (de_callB (cb_len) (by rfl) z_len (by decide +kernel) (da_cons (de_v (i := 3) nm_part rfl rfl (.inr (.inl rfl))) da_nil rfl) (by decide) (by decide) rfl rfl) de_int) da_nil rfl) rfl) (blkOk_by (N := ["composers", "verdict", "word", "part", "k"]) (sc := defScope s_judge_mixed) (own := [("k", 4)]) (by decide +kernel)) (fun _ _ _ _ _ => (dg_name (i := 4) nd rfl (.inl rfl) (.inr rfl))) (fun _ _ _ _ _ k2 => dts_nil) (fun _ _ _ _ _ k2 => (de_cmp (op_neD' hu) (de_ix ix_D (de_v (i := 0) nm_composers rfl rfl (.inr (.inl rfl))) (de_ix ix_D (de_v (i := 3) nm_part rfl rfl (.inr (.inl rfl))) (de_v (i := 4) nm_k rfl rfl (.inl rfl)) (fun _ _ => rfl)) (fun _ _ => rfl)) (de_ix ix_D (de_v (i := 0) nm_composers rfl rfl (.inr (.inl rfl))) (de_ix ix_D (de_v (i := 3) nm_part rfl rfl (.inr (.inl rfl))) (de_op op_addD (de_v (i := 4) nm_k rfl rfl (.inl rfl)) de_int) (fun _ _ => rfl)) (fun _ _ => rfl)) (nomark _))) (by decide) (fun _ => rfl))) da_nil rfl) (by decide) (by decide) rfl rfl))))))))))))⟩
theorem ok__law_accepts {f : Addr} {fd : FuncData} (F : Fun K "_law_accepts" "_law_accepts" s__law_accepts f fd) : FnOk P w K mg base CX0 1 f fd ["composers", "paper"] (spD K (f2 d__law_accepts)) := by
  refine fn_D (m := f2 b__law_accepts) F sc__law_accepts f2_len (f2_outD fun p_composers p_paper => rfl) fun cdv A outer s H E hr ds d hd => ?_
  have nd := sc__law_accepts.nd
  have hu : (A.deeper (envOfC "_law_accepts" (defScope s__law_accepts) s.heap.objs.size f cdv)).units + 200 < cLine := by have := hr.un; omega
  obtain ⟨p_composers, p_paper, rfl⟩ := f2_args hd
  exact ⟨fun _ => [.no, .no, .no, .no, .no, .no], fun _ => [.no, .no, .no, .no, .no, .no], (db_at [.val p_composers, .val p_paper, .no, .no, .no, .no] rfl (db_cons (ds_if (S := Unit) (post := fun _ => [.val p_composers, .val p_paper, .no, .no, .no, .no]) (dt_cmp (op_neD' hu) (de_callB (cb_len) (by rfl) z_len (by decide +kernel) (da_cons (de_v (i := 1) nm_paper rfl rfl (.inl rfl)) da_nil rfl) (by decide) (by decide) rfl rfl) de_int (nomark _)) (db_at [.val p_composers, .val p_paper, .no, .no, .no, .no] rfl (db_one (ds_ret de_bl))) (db_nil (s := ()) (Wk.refl _))) fun _ => (db_at [.val p_composers, .val p_paper, .no, .no, .no, .no] rfl (db_cons (ds_tg (post := fun (t1 : D × D) => [.val p_composers, .val p_paper, .val t1.1, .val t1.2, .no, .no]) (de_v (i := 1) nm_paper rfl rfl (.inl rfl)) (dg_tup2 rfl (dgs_cons (i := 2) nd rfl (.inl rfl) (.inl rfl) fun _ => (dgs_cons (i := 3) nd rfl (.inr rfl) (.inl rfl) fun _ => dgs_nil)) rfl rfl (fun _ _ => rfl)) rfl rfl rfl) fun t1 => (db_at [.val p_composers, .val p_paper, .val t1.1, .val t1.2, .no, .no] rfl (db_cons (ds_if (S := Unit) (post := fun _ => [.val p_composers, .val p_paper, .val t1.1, .val t1.2, .no, .no]) (dt_cmp (op_eqD' hu) (de_v (i := 2) nm_word rfl rfl (.inl rfl)) de_str (nomark _)) (db_at [.val p_composers, .val p_paper, .val t1.1, .val t1.2, .no, .no] rfl (db_one (ds_ret (de_cmp (op_gtD' hu) (de_op op_mulD de_int (de_callB (cb_len) (by rfl) z_len (by decide +kernel) (da_cons (DF.de (df_lc (own := [("name", 5)]) (post := fun (name2 : D) => [.val p_composers, .val p_paper, .val t1.1, .val t1.2, .no, .val name2]) (js := [5]) rfl nd (di_seq (de_v (i := 0) nm_composers rfl rfl (.inr (.inl rfl)))) (blkOk_by (N := ["composers", "paper", "word", "part", "k", "name"]) (sc := defScope s__law_accepts) (own := [("name", 5)]) (by decide +kernel)) (fun _ _ _ _ _ => (dg_name (i := 5) nd rfl (.inl rfl) (.inr rfl))) (fun _ _ _ _ _ name2 => (dts_one (dt_cmp (op_eqD' hu) (de_v (i := 5) nm_name rfl rfl (.inl rfl)) (de_v (i := 3) nm_part rfl rfl (.inr (.inl rfl))) (nomark _)))) (fun _ _ _ _ _ name2 => (de_v (i := 5) nm_name rfl rfl (.inl rfl))) (by decide) (fun _ => rfl))) da_nil rfl) (by decide) (by decide) rfl rfl)) (de_op op_addD (de_callB (cb_len) (by rfl) z_len (by decide +kernel) (da_cons (de_v (i := 0) nm_composers rfl rfl (.inr (.inl rfl))) da_nil rfl) (by decide) (by decide) rfl rfl) de_int) (nomark _))))) (db_nil (s := ()) (Wk.refl _))) fun _ => (db_at [.val p_composers, .val p_paper, .val t1.1, .val t1.2, .no, .no] rfl (db_cons (ds_if (S := Unit) (post := fun _ => [.val p_composers, .val p_paper, .val t1.1, .val t1.2, .no, .no]) (DW.dt (dw_or (dt_cmp (op_neD' hu) (de_v (i := 2) nm_word rfl rfl (.inl rfl)) de_str (nomark _)) (dw_or1 (dt_cmp (op_neD' hu) (DF.de (df_callB (cb_sorted hu) (by rfl) z_sorted (by decide +kernel) (da_cons (de_v (i := 3) nm_part rfl rfl (.inr (.inl rfl))) da_nil rfl) (by decide) (by decide) rfl rfl)) (DF.de (df_listRg rfl (by rfl) z_list (dr_1 (by rfl) z_range (de_callB (cb_len) (by rfl) z_len (by decide +kernel) (da_cons (de_v (i := 0) nm_composers rfl rfl (.inr (.inl rfl))) da_nil rfl) (by decide) (by decide) rfl rfl) rfl) rfl)) (nomark _))))) (db_at [.val p_composers, .val p_paper, .val t1.1, .val t1.2, .no, .no] rfl (db_one (ds_ret de_bl))) (db_nil (s := ()) (Wk.refl _))) fun _ => (db_at [.val p_composers, .val p_paper, .val t1.1, .val t1.2, .no, .no] rfl (db_one (ds_ret (de_cmp (op_eqD' hu) (de_callB (cb_len) (by rfl) z_len (by decide +kernel) (da_cons (DF.de (df_lc (own := [("k", 4)]) (post := fun (k3 : D) => [.val p_composers, .val p_paper, .val t1.1, .val t1.2, .val k3, .no]) (js := [4]) rfl nd (di_rng1 (by rfl) z_range (da_cons (de_op op_subD (de_callB (cb_len) (by rfl) z_len (by decide +kernel) (da_cons (de_v (i := 3) nm_part rfl rfl (.inr (.inl rfl))) da_nil rfl) (by decide) (by decide) rfl rfl) de_int) da_nil rfl) rfl) (blkOk_by (N := ["composers", "paper", "word", "part", "k", "name"]) (sc := defScope s__law_accepts) (own := [("k", 4)]) (by decide +kernel)) (fun _ _ _ _ _ => (dg_name (i := 4) nd rfl (.inl rfl) (.inr rfl))) (fun _ _ _ _ _ k3 => (dts_one (dt_cmp (op_eqD' hu) (de_ix ix_D (de_v (i := 0) nm_composers rfl rfl (.inr (.inl rfl))) (de_ix ix_D (de_v (i := 3) nm_part rfl rfl (.inr (.inl rfl))) (de_v (i := 4) nm_k rfl rfl (.inl rfl)) (fun _ _ => rfl)) (fun _ _ => rfl)) (de_ix ix_D (de_v (i := 0) nm_composers rfl rfl (.inr (.inl rfl))) (de_ix ix_D (de_v (i := 3) nm_part rfl rfl (.inr (.inl rfl))) (de_op op_addD (de_v (i := 4) nm_k rfl rfl (.inl rfl)) de_int) (fun _ _ => rfl)) (fun _ _ => rfl)) (nomark _)))) (fun _ _ _ _ _ k3 => (de_v (i := 4) nm_k rfl rfl (.inl rfl))) (by decide) (fun _ => rfl))) da_nil rfl) (by decide) (by decide) rfl rfl) de_int (nomark _)))))))))))))⟩
theorem ok__law_same {f : Addr} {fd : FuncData} (F : Fun K "_law_same" "_law_same" s__law_same f fd) (gf : mg "_law_same" = some (.ref f)) (bf : Binds K fd ["told", "due"] []) : ∀ n : Nat, FnOk P w K mg base CX0 (0 + n) f fd ["told", "due"] (spD K (f2 (d__law_same n)))
  | 0 => fn_none fun ds => by unfold f2; split <;> rfl
  | n + 1 => by
    have c_rec : Dl.Callee P w K mg base "_law_same" ["told", "due"] (0 + n) (spD K (f2 (d__law_same n))) := ⟨f, fd, ok__law_same F gf bf  n, gf, F.kp, bf⟩
    refine fn_D (m := f2 (b__law_same (d__law_same n))) F sc__law_same f2_len (f2_outD fun p_told p_due => rfl) fun cdv A outer s H E hr ds d hd => ?_
    have nd := sc__law_same.nd
    have hu : (A.deeper (envOfC "_law_same" (defScope s__law_same) s.heap.objs.size f cdv)).units + 200 < cLine := by have := hr.un; omega
    obtain ⟨p_told, p_due, rfl⟩ := f2_args hd
    exact ⟨fun _ => [.no, .no, .no], fun _ => [.no, .no, .no], (db_at [.val p_told, .val p_due, .no] rfl (db_cons (ds_if (S := Unit) (post := fun j1 => [.val p_told, .val p_due, .no]) (dt_truth (de_isi (T := "list") (by rfl) z_isinstance (by rfl) z_list (by decide +kernel) (de_v (i := 1) nm_due rfl rfl (.inl rfl)) (by decide) (by decide) rfl rfl rfl) (fun _ => rfl)) (db_at [.val p_told, .val p_due, .no] rfl (db_one (ds_if (DW.dt (dw_or (dt_not (dt_truth (de_isi (T := "list") (by rfl) z_isinstance (by rfl) z_list (by decide +kernel) (de_v (i := 0) nm_told rfl rfl (.inl rfl)) (by decide) (by decide) rfl rfl rfl) (fun _ => rfl))) (dw_or1 (dt_cmp (op_neD' hu) (de_callB (cb_len) (by rfl) z_len (by decide +kernel) (da_cons (de_v (i := 0) nm_told rfl rfl (.inl rfl)) da_nil rfl) (by decide) (by decide) rfl rfl) (de_callB (cb_len) (by rfl) z_len (by decide +kernel) (da_cons (de_v (i := 1) nm_due rfl rfl (.inl rfl)) da_nil rfl) (by decide) (by decide) rfl rfl) (nomark _))))) (db_at [.val p_told, .val p_due, .no] rfl (db_one (ds_ret de_bl))) (db_at [.val p_told, .val p_due, .no] rfl (db_nil (s := ()) (.k (.k (.n .nil)))))))) (db_at [.val p_told, .val p_due, .no] rfl (db_one (ds_if (dt_truth (de_isi (T := "tuple") (by rfl) z_isinstance (by rfl) z_tuple (by decide +kernel) (de_v (i := 1) nm_due rfl rfl (.inl rfl)) (by decide) (by decide) rfl rfl rfl) (fun _ => rfl)) (db_at [.val p_told, .val p_due, .no] rfl (db_one (ds_if (DW.dt (dw_or (dt_not (dt_truth (de_isi (T := "tuple") (by rfl) z_isinstance (by rfl) z_tuple (by decide +kernel) (de_v (i := 0) nm_told rfl rfl (.inl rfl)) (by decide) (by decide) rfl rfl rfl) (fun _ => rfl))) (dw_or1 (dt_cmp (op_neD' hu) (de_callB (cb_len) (by rfl) z_len (by decide +kernel) (da_cons (de_v (i := 0) nm_told rfl rfl (.inl rfl)) da_nil rfl) (by decide) (by decide) rfl rfl) (de_callB (cb_len) (by rfl) z_len (by decide +kernel) (da_cons (de_v (i := 1) nm_due rfl rfl (.inl rfl)) da_nil rfl) (by decide) (by decide) rfl rfl) (nomark _))))) (db_at [.val p_told, .val p_due, .no] rfl (db_one (ds_ret de_bl))) (db_at [.val p_told, .val p_due, .no] rfl (db_nil (s := ()) (.k (.k (.n .nil)))))))) (db_at [.val p_told, .val p_due, .no] rfl (db_one (ds_if (dt_cmp op_isD (de_v (i := 1) nm_due rfl rfl (.inl rfl)) de_non (nomark _)) (db_at [.val p_told, .val p_due, .no] rfl (db_one (ds_ret (de_cmp op_isD (de_v (i := 0) nm_told rfl rfl (.inl rfl)) de_non (nomark _))))) (db_at [.val p_told, .val p_due, .no] rfl (db_one (ds_if (dt_truth (de_isi (T := "bool") (by rfl) z_isinstance (by rfl) z_bool (by decide +kernel) (de_v (i := 1) nm_due rfl rfl (.inl rfl)) (by decide) (by decide) rfl rfl rfl) (fun _ => rfl)) (db_at [.val p_told, .val p_due, .no] rfl (db_one (ds_ret (de_and (de_isi (T := "bool") (by rfl) z_isinstance (by rfl) z_bool (by decide +kernel) (de_v (i := 0) nm_told rfl rfl (.inl rfl)) (by decide) (by decide) rfl rfl rfl) (de_one (de_cmp (op_eqD' hu) (de_v (i := 0) nm_told rfl rfl (.inl rfl)) (de_v (i := 1) nm_due rfl rfl (.inl rfl)) (nomark _))))))) (db_at [.val p_told, .val p_due, .no] rfl (db_one (ds_if (dt_truth (de_isi (T := "int") (by rfl) z_isinstance (by rfl) z_int (by decide +kernel) (de_v (i := 1) nm_due rfl rfl (.inl rfl)) (by decide) (by decide) rfl rfl rfl) (fun _ => rfl)) (db_at [.val p_told, .val p_due, .no] rfl (db_one (ds_ret (de_and (de_isi (T := "int") (by rfl) z_isinstance (by rfl) z_int (by decide +kernel) (de_v (i := 0) nm_told rfl rfl (.inl rfl)) (by decide) (by decide) rfl rfl rfl) (de_and (de_not (de_isi (T := "bool") (by rfl) z_isinstance (by rfl) z_bool (by decide +kernel) (de_v (i := 0) nm_told rfl rfl (.inl rfl)) (by decide) (by decide) rfl rfl rfl)) (de_one (de_cmp (op_eqD' hu) (de_v (i := 0) nm_told rfl rfl (.inl rfl)) (de_v (i := 1) nm_due rfl rfl (.inl rfl)) (nomark _)))))))) (db_at [.val p_told, .val p_due, .no] rfl (db_one (ds_ret (de_and (de_isi (T := "str") (by rfl) z_isinstance (by rfl) z_str (by decide +kernel) (de_v (i := 0) nm_told rfl rfl (.inl rfl)) (by decide) (by decide) rfl rfl rfl) (de_one (de_cmp (op_eqD' hu) (de_v (i := 0) nm_told rfl rfl (.inl rfl)) (de_v (i := 1) nm_due rfl rfl (.inl rfl)) (nomark _)))))))))))))))))))) fun j1 => (db_at [.val p_told, .val p_due, .no] rfl (db_cons (ds_for (l0 := ()) (lp := fun (l2 : Unit) => [.val p_told, .val p_due, .no]) (pt := fun (l2 : Unit) (v3 : D) => [.val p_told, .val p_due, .val v3]) (js := [2]) PassesOwn.never rfl (.k (.k (.n .nil))) (di_rng1 (by rfl) z_range (da_cons (de_callB (cb_len) (by rfl) z_len (by decide +kernel) (da_cons (de_v (i := 1) nm_due rfl rfl (.inl rfl)) da_nil rfl) (by decide) (by decide) rfl rfl) da_nil rfl) rfl) (fun l2 => (dg_name (i := 2) nd rfl (.inl rfl) (.inl rfl))) (fun l2 v3 => (db_one (ds_if (dt_not (dt_truth (de_call c_rec hr (da_cons (de_ix ix_D (de_v (i := 0) nm_told rfl rfl (.inl rfl)) (de_v (i := 2) nm_k rfl rfl (.inl rfl)) (fun _ _ => rfl)) (da_cons (de_ix ix_D (de_v (i := 1) nm_due rfl rfl (.inl rfl)) (de_v (i := 2) nm_k rfl rfl (.inl rfl)) (fun _ _ => rfl)) da_nil rfl) rfl) (by rfl) (by decide) rfl rfl) (fun _ => rfl))) (db_at [.val p_told, .val p_due, .val v3] rfl (db_one (ds_ret de_bl))) (db_at [.val p_told, .val p_due, .val v3] rfl (db_nil (s := ()) (.k (.k (.n .nil)))))))) (fun _ => rfl)) fun l2 => (db_at [.val p_told, .val p_due, .no] rfl (db_one (ds_ret de_bl)))))))⟩
theorem ok__law_may {f : Addr} {fd : FuncData} (F : Fun K "_law_may" "_law_may" s__law_may f fd) : FnOk P w K mg base CX0 1 f fd ["barred", "one", "other"] (spD K (f3 d__law_may)) := by
  refine fn_D (m := f3 b__law_may) F sc__law_may f3_len (f3_outD fun p_barred p_one p_other => rfl) fun cdv A outer s H E hr ds d hd => ?_
  have nd := sc__law_may.nd
  have hu : (A.deeper (envOfC "_law_may" (defScope s__law_may) s.heap.objs.size f cdv)).units + 200 < cLine := by have := hr.un; omega
  obtain ⟨p_barred, p_one, p_other, rfl⟩ := f3_args hd
  exact ⟨fun _ => [.no, .no, .no], fun _ => [.no, .no, .no], (db_at [.val p_barred, .val p_one, .val p_other] rfl (db_one (ds_ret (de_cmp (op_notInD' hu) (de_tup (da_cons (de_callB (cb_min rfl hu) (by rfl) z_min (by decide +kernel) (da_cons (de_v (i := 1) nm_one rfl rfl (.inl rfl)) (da_cons (de_v (i := 2) nm_other rfl rfl (.inl rfl)) da_nil rfl) rfl) (by decide) (by decide) rfl rfl) (da_cons (de_callB (cb_max rfl hu) (by rfl) z_max (by decide +kernel) (da_cons (de_v (i := 1) nm_one rfl rfl (.inl rfl)) (da_cons (de_v (i := 2) nm_other rfl rfl (.inl rfl)) da_nil rfl) rfl) (by decide) (by decide) rfl rfl) da_nil rfl) rfl)) (de_v (i := 0) nm_barred rfl rfl (.inl rfl)) rfl))))⟩
theorem ok__law_clean_orders {f : Addr} {fd : FuncData} (F : Fun K "_law_clean_orders" "_law_clean_orders" s__law_clean_orders f fd) (c__law_may : Dl.Callee P w K mg base "_law_may" ["barred", "one", "other"] 1 (spD K (f3 d__law_may))) : FnOk P w K mg base CX0 2 f fd ["count", "barred"] (spD K (f2 d__law_clean_orders)) := by
  refine fn_D (m := f2 b__law_clean_orders) F sc__law_clean_orders f2_len (f2_outD fun p_count p_barred => rfl) fun cdv A outer s H E hr ds d hd => ?_
  have nd := sc__law_clean_orders.nd
  have hu : (A.deeper (envOfC "_law_clean_orders" (defScope s__law_clean_orders) s.heap.objs.size f cdv)).units + 200 < cLine := by have := hr.un; omega
  obtain ⟨p_count, p_barred, rfl⟩ := f2_args hd
  exact ⟨fun _ => [.no, .no, .no, .no, .no, .no, .no], fun _ => [.no, .no, .no, .no, .no, .no, .no], (db_at [.val p_count, .val p_barred, .no, .no, .no, .no, .no] rfl (db_cons (ds_setLc (i := 2) (own := [("k", 6)]) (post := fun (k2 : D) => [.val p_count, .val p_barred, .no, .no, .no, .no, .val k2]) (js := [6]) rfl nd rfl rfl (sw_true rfl rfl rfl (by decide +kernel)) (di_rng1 (by rfl) z_range (da_cons (de_v (i := 0) nm_count rfl rfl (.inl rfl)) da_nil rfl) rfl) (blkOk_by (N := ["count", "barred", "found", "turn", "more", "row", "k"]) (sc := defScope s__law_clean_orders) (own := [("k", 6)]) (by decide +kernel)) (fun _ _ _ _ _ => (dg_name (i := 6) nd rfl (.inl rfl) (.inr rfl))) (fun _ _ _ _ _ k2 => dts_nil) (fun _ _ _ _ _ k2 => (DF.de (df_lst (da_cons (de_v (i := 6) nm_k rfl rfl (.inl rfl)) da_nil rfl)))) (by decide) (fun _ => rfl)) fun found1 => (db_at [.val p_count, .val p_barred, .own found1, .no, .no, .no, .no] rfl (db_frz (i := 2) rfl (db_at [.val p_count, .val p_barred, .val (.list found1), .no, .no, .no, .no] rfl (db_cons (ds_for (l0 := (.list found1)) (lp := fun (l3 : D) => [.val p_count, .val p_barred, .val l3, .no, .no, .no, .no]) (pt := fun (l3 : D) (v4 : D) => [.val p_count, .val p_barred, .val l3, .val v4, .no, .no, .no]) (js := [3]) PassesOwn.never rfl (.k (.k (.k (.n (.n (.n (.n .nil))))))) (di_rng1 (by rfl) z_range (da_cons (de_op op_subD (de_v (i := 0) nm_count rfl rfl (.inl rfl)) de_int) da_nil rfl) rfl) (fun l3 => (dg_name (i := 3) nd rfl (.inl rfl) (.inl rfl))) (fun l3 v4 => (db_cons (ds_asg (i := 4) nd rfl (.inl rfl) (DF.de (df_lst da_nil)) rfl (.inl rfl)) fun more5 => (db_at [.val p_count, .val p_barred, .val l3, .val v4, .val more5, .no, .no] rfl (db_cons (ds_for (l0 := more5) (lp := fun (l6 : D) => [.val p_count, .val p_barred, .val l3, .val v4, .val l6, .no, .no]) (pt := fun (l6 : D) (v7 : D) => [.val p_count, .val p_barred, .val l3, .val v4, .val l6, .val v7, .no]) (js := [5]) PassesOwn.never rfl (.k (.k (.k (.k (.k (.n (.n .nil))))))) (di_seq (de_v (i := 2) nm_found rfl rfl (.inl rfl))) (fun l6 => (dg_name (i := 5) nd rfl (.inr rfl) (.inl rfl))) (fun l6 v7 => (db_cons (ds_asg (i := 4) nd rfl (.inl rfl) (de_op op_addD (de_v (i := 4) nm_more rfl rfl (.inl rfl)) (DF.de (df_lc (own := [("k", 6)]) (post := fun (k9 : D) => [.val p_count, .val p_barred, .val l3, .val v4, .val l6, .val v7, .val k9]) (js := [6]) rfl nd (di_rng1 (by rfl) z_range (da_cons (de_v (i := 0) nm_count rfl rfl (.inl rfl)) da_nil rfl) rfl) (blkOk_by (N := ["count", "barred", "found", "turn", "more", "row", "k"]) (sc := defScope s__law_clean_orders) (own := [("k", 6)]) (by decide +kernel)) (fun _ _ _ _ _ => (dg_name (i := 6) nd rfl (.inl rfl) (.inr rfl))) (fun _ _ _ _ _ k9 => (dts_one (DW.dt (dw_and (dt_cmp (op_notInD' hu) (de_v (i := 6) nm_k rfl rfl (.inl rfl)) (de_v (i := 5) nm_row rfl rfl (.inr (.inl rfl))) rfl) (dw_and1 (dt_truth (de_call c__law_may (hr.mono (by decide)) (da_cons (de_v (i := 1) nm_barred rfl rfl (.inr (.inl rfl))) (da_cons (de_ix ix_D (de_v (i := 5) nm_row rfl rfl (.inr (.inl rfl))) (de_op op_subD (de_callB (cb_len) (by rfl) z_len (by decide +kernel) (da_cons (de_v (i := 5) nm_row rfl rfl (.inr (.inl rfl))) da_nil rfl) (by decide) (by decide) rfl rfl) de_int) (fun _ _ => rfl)) (da_cons (de_v (i := 6) nm_k rfl rfl (.inl rfl)) da_nil rfl) rfl) rfl) (by rfl) (by decide) rfl rfl) (fun _ => rfl))))))) (fun _ _ _ _ _ k9 => (de_op op_addD (de_v (i := 5) nm_row rfl rfl (.inr (.inl rfl))) (DF.de (df_lst (da_cons (de_v (i := 6) nm_k rfl rfl (.inl rfl)) da_nil rfl))))) (by decide) (fun _ => rfl)))) rfl (.inl rfl)) fun more8 => (db_at [.val p_count, .val p_barred, .val l3, .val v4, .val more8, .val v7, .no] rfl (db_nil (s := more8) (.k (.k (.k (.k (.k (.n (.n .nil))))))))))) (fun _ => rfl)) fun l6 => (db_at [.val p_count, .val p_barred, .val l3, .val v4, .val l6, .no, .no] rfl (db_cons (ds_asg (i := 2) nd rfl (.inl rfl) (de_v (i := 4) nm_more rfl rfl (.inl rfl)) rfl (.inl rfl)) fun found10 => (db_at [.val p_count, .val p_barred, .val found10, .val v4, .val l6, .no, .no] rfl (db_nil (s := found10) (.k (.k (.k (.n (.n (.n (.n .nil))))))))))))))) (fun _ => rfl)) fun l3 => (db_at [.val p_count, .val p_barred, .val l3, .no, .no, .no, .no] rfl (db_one (ds_ret (de_v (i := 2) nm_found rfl rfl (.inl rfl)))))))))))⟩
theorem ok_law {f : Addr} {fd : FuncData} (F : Fun K "law" "law" s_law f fd) (c__law_accepts : Dl.Callee P w K mg base "_law_accepts" ["composers", "paper"] 1 (spD K (f2 d__law_accepts))) (c__law_cell : Dl.Callee P w K mg base "_law_cell" ["script", "k"] 1 (spCell K)) (c__law_clean_orders : Dl.Callee P w K mg base "_law_clean_orders" ["count", "barred"] 2 (spD K (f2 d__law_clean_orders))) (c__law_numbers : Dl.Callee P w K mg base "_law_numbers" ["cell", "count", "limit"] 1 (spF K (f3 d__law_numbers))) (c__law_same : Dl.Callee P w K mg base "_law_same" ["told", "due"] 12 (spD K (f2 (d__law_same 12)))) (c_find_mixed : Dl.Callee P w K mg base "find_mixed" ["composers"] 2 (spD K (f1 d_find_mixed))) (c_judge_mixed : Dl.Callee P w K mg base "judge_mixed" ["composers", "verdict"] 1 (spD K (f2 d_judge_mixed))) : FnOk P w K mg base CX0 13 f fd ["script"] (spLaw K d_law) := by
  refine fn_law (m := b_law) F sc_law (fun _ => rfl) fun cdv A outer s H E hr ns hl => ?_
  have nd := sc_law.nd
  have hu : (A.deeper (envOfC "law" (defScope s_law) s.heap.objs.size f cdv)).units + 200 < cLine := by have := hr.un; omega
  exact ⟨fun _ => [.no, .no, .no, .no, .no, .no, .no, .no, .no, .no, .no, .no, .no, .no, .no, .no, .no, .no, .no, .no, .no], fun _ => [.no, .no, .no, .no, .no, .no, .no, .no, .no, .no, .no, .no, .no, .no, .no, .no, .no, .no, .no, .no, .no], (db_at [.scr ns, .no, .no, .no, .no, .no, .no, .no, .no, .no, .no, .no, .no, .no, .no, .no, .no, .no, .no, .no, .no] rfl (db_cons (ds_asg (i := 1) nd rfl (.inr rfl) (DF.de (df_call c__law_numbers (hr.mono (by decide)) (da_cons (de_cell c__law_cell (hr.mono (by decide)) (i := 0) nm_script hl rfl rfl (.inl rfl) de_int (by rfl) (by decide) rfl rfl rfl) (da_cons de_int (da_cons de_int da_nil rfl) rfl) rfl) (by rfl) (by decide) rfl rfl)) rfl (.inl rfl)) fun draws1 => (db_at [.scr ns, .val draws1, .no, .no, .no, .no, .no, .no, .no, .no, .no, .no, .no, .no, .no, .no, .no, .no, .no, .no, .no] rfl (db_cons (ds_asg (i := 2) nd rfl (.inr rfl) (de_op op_addD de_int (de_op op_modD (de_ix ix_D (de_v (i := 1) nm_draws rfl rfl (.inr (.inl rfl))) de_int (fun _ _ => rfl)) de_int)) rfl (.inl rfl)) fun count2 => (db_at [.scr ns, .val draws1, .val count2, .no, .no, .no, .no, .no, .no, .no, .no, .no, .no, .no, .no, .no, .no, .no, .no, .no, .no] rfl (db_cons (ds_if (S := D) (post := fun j3 => [.scr ns, .val draws1, .val j3, .no, .no, .no, .no, .no, .no, .no, .no, .no, .no, .no, .no, .no, .no, .no, .no, .no, .no]) (dt_cmp (op_eqD' hu) (de_op op_modD (de_ix ix_D (de_v (i := 1) nm_draws rfl rfl (.inr (.inl rfl))) de_int (fun _ _ => rfl)) de_int) de_int (nomark _)) (db_at [.scr ns, .val draws1, .val count2, .no, .no, .no, .no, .no, .no, .no, .no, .no, .no, .no, .no, .no, .no, .no, .no, .no, .no] rfl (db_cons (ds_asg (i := 2) nd rfl (.inr rfl) (de_op op_addD de_int (de_op op_modD (de_ix ix_D (de_v (i := 1) nm_draws rfl rfl (.inr (.inl rfl))) de_int (fun _ _ => rfl)) de_int)) rfl (.inl rfl)) fun count4 => (db_at [.scr ns, .val draws1, .val count4, .no, .no, .no, .no, .no, .no, .no, .no, .no, .no, .no, .no, .no, .no, .no, .no, .no, .no] rfl (db_nil (s := count4) (.k (.k (.k (.n (.n (.n (.n (.n (.n (.n (.n (.n (.n (.n (.n (.n (.n (.n (.n (.n (.n .nil))))))))))))))))))))))))) (db_at [.scr ns, .val draws1, .val count2, .no, .no, .no, .no, .no, .no, .no, .no, .no, .no, .no, .no, .no, .no, .no, .no, .no, .no] rfl (db_nil (s := count2) (.k (.k (.k (.n (.n (.n (.n (.n (.n (.n (.n (.n (.n (.n (.n (.n (.n (.n (.n (.n (.n .nil)))))))))))))))))))))))) fun j3 => (db_at [.scr ns, .val draws1, .val j3, .no, .no, .no, .no, .no, .no, .no, .no, .no, .no, .no, .no, .no, .no, .no, .no, .no, .no] rfl (db_cons (ds_asg (i := 3) nd rfl (.inr rfl) (de_slice (DF.de (df_lst (da_cons de_str (da_cons de_str (da_cons de_str (da_cons de_str da_nil rfl) rfl) rfl) rfl))) (do_some de_int) (do_some (de_op op_addD de_int (de_op op_modD (de_ix ix_D (de_v (i := 1) nm_draws rfl rfl (.inr (.inl rfl))) de_int (fun _ _ => rfl)) de_int)))) rfl (.inl rfl)) fun names5 => (db_at [.scr ns, .val draws1, .val j3, .val names5, .no, .no, .no, .no, .no, .no, .no, .no, .no, .no, .no, .no, .no, .no, .no, .no, .no] rfl (db_cons (ds_asg (i := 4) nd rfl (.inr rfl) (DF.de (df_lc (own := [("k", 13)]) (post := fun (k7 : D) => [.scr ns, .val draws1, .val j3, .val names5, .no, .no, .no, .no, .no, .no, .no, .no, .no, .val k7, .no, .no, .no, .no, .no, .no, .no]) (js := [13]) rfl nd (di_rng1 (by rfl) z_range (da_cons (de_v (i := 2) nm_count rfl rfl (.inr (.inl rfl))) da_nil rfl) rfl) (blkOk_by (N := ["script", "draws", "count", "names", "composers", "kept", "frequent", "told", "barred", "i", "more", "papers", "order", "k", "at", "other", "turned", "paper", "answer", "name", "j"]) (sc := defScope s_law) (own := [("k", 13)]) (by decide +kernel)) (fun _ _ _ _ _ => (dg_name (i := 13) nd rfl (.inl rfl) (.inr rfl))) (fun _ _ _ _ _ k7 => dts_nil) (fun _ _ _ _ _ k7 => (de_ix ix_D (de_v (i := 3) nm_names rfl rfl (.inr (.inl rfl))) (de_ix ix_D (DF.de (df_lst (da_cons (de_op op_modD (de_ix ix_D (de_v (i := 1) nm_draws rfl rfl (.inr (.inl rfl))) (de_op op_addD de_int (de_v (i := 13) nm_k rfl rfl (.inl rfl))) (fun _ _ => rfl)) (de_callB (cb_len) (by rfl) z_len (by decide +kernel) (da_cons (de_v (i := 3) nm_names rfl rfl (.inr (.inl rfl))) da_nil rfl) (by decide) (by decide) rfl rfl)) (da_cons de_int da_nil rfl) rfl))) (de_callT (ct_int) (by rfl) z_int (by decide +kernel) (da_cons (de_cmp (op_eqD' hu) (de_op op_modD (de_ix ix_D (de_v (i := 1) nm_draws rfl rfl (.inr (.inl rfl))) (de_op op_addD de_int (de_op op_modD (de_v (i := 13) nm_k rfl rfl (.inl rfl)) de_int)) (fun _ _ => rfl)) de_int) de_int (nomark _)) da_nil rfl) (by decide) (by decide) rfl rfl) (fun _ _ => rfl)) (fun _ _ => rfl))) (by decide) (fun _ => rfl))) rfl (.inl rfl)) fun composers6 => (db_at [.scr ns, .val draws1, .val j3, .val names5, .val composers6, .no, .no, .no, .no, .no, .no, .no, .no, .no, .no, .no, .no, .no, .no, .no, .no] rfl (db_cons (ds_asg (i := 5) nd rfl (.inl rfl) (DF.de (df_callT ct_list (by rfl) z_list (by decide +kernel) (da_cons (de_v (i := 4) nm_composers rfl rfl (.inr (.inl rfl))) da_nil rfl) (by decide) (by decide) rfl rfl)) rfl (.inl rfl)) fun kept8 => (db_at [.scr ns, .val draws1, .val j3, .val names5, .val composers6, .val kept8, .no, .no, .no, .no, .no, .no, .no, .no, .no, .no, .no, .no, .no, .no, .no] rfl (db_cons (ds_setLc (i := 6) (own := [("name", 19)]) (post := fun (name10 : D) => [.scr ns, .val draws1, .val j3, .val names5, .val composers6, .val kept8, .no, .no, .no, .no, .no, .no, .no, .no, .no, .no, .no, .no, .no, .val name10, .no]) (js := [19]) rfl nd rfl rfl (sw_true rfl rfl rfl (by decide +kernel)) (di_seq (de_v (i := 3) nm_names rfl rfl (.inr (.inl rfl)))) (blkOk_by (N := ["script", "draws", "count", "names", "composers", "kept", "frequent", "told", "barred", "i", "more", "papers", "order", "k", "at", "other", "turned", "paper", "answer", "name", "j"]) (sc := defScope s_law) (own := [("name", 19)]) (by decide +kernel)) (fun _ _ _ _ _ => (dg_name (i := 19) nd rfl (.inl rfl) (.inr rfl))) (fun _ _ _ _ _ name10 => (dts_one (dt_cmp (op_gtD' hu) (de_op op_mulD de_int (de_count hu (de_v (i := 4) nm_composers rfl rfl (.inr (.inl rfl))) (de_v (i := 19) nm_name rfl rfl (.inl rfl)) rfl rfl rfl rfl rfl)) (de_op op_addD (de_v (i := 2) nm_count rfl rfl (.inr (.inl rfl))) de_int) (nomark _)))) (fun _ _ _ _ _ name10 => (de_v (i := 19) nm_name rfl rfl (.inl rfl))) (by decide) (fun _ => rfl)) fun frequent9 => (db_at [.scr ns, .val draws1, .val j3, .val names5, .val composers6, .val kept8, .own frequent9, .no, .no, .no, .no, .no, .no, .no, .no, .no, .no, .no, .no, .no, .no] rfl (db_frz (i := 6) rfl (db_at [.scr ns, .val draws1, .val j3, .val names5, .val composers6, .val kept8, .val (.list frequent9), .no, .no, .no, .no, .no, .no, .no, .no, .no, .no, .no, .no, .no, .no] rfl (db_cons (ds_if (S := Unit) (post := fun _ => [.scr ns, .val draws1, .val j3, .val names5, .val composers6, .val kept8, .val (.list frequent9), .no, .no, .no, .no, .no, .no, .no, .no, .no, .no, .no, .no, .no, .no]) (dt_cmp (op_gtD' hu) (de_callB (cb_len) (by rfl) z_len (by decide +kernel) (da_cons (de_v (i := 6) nm_frequent rfl rfl (.inl rfl)) da_nil rfl) (by decide) (by decide) rfl rfl) de_int (nomark _)) (db_at [.scr ns, .val draws1, .val j3, .val names5, .val composers6, .val kept8, .val (.list frequent9), .no, .no, .no, .no, .no, .no, .no, .no, .no, .no, .no, .no, .no, .no] rfl (db_one (ds_ret de_bl))) (db_nil (s := ()) (Wk.refl _))) fun _ => (db_at [.scr ns, .val draws1, .val j3, .val names5, .val composers6, .val kept8, .val (.list frequent9), .no, .no, .no, .no, .no, .no, .no, .no, .no, .no, .no, .no, .no, .no] rfl (db_cons (ds_asg (i := 7) nd rfl (.inl rfl) (de_call c_find_mixed (hr.mono (by decide)) (da_cons (de_v (i := 4) nm_composers rfl rfl (.inr (.inl rfl))) da_nil rfl) (by rfl) (by decide) rfl rfl) rfl (.inl rfl)) fun told11 => (db_at [.scr ns, .val draws1, .val j3, .val names5, .val composers6, .val kept8, .val (.list frequent9), .val told11, .no, .no, .no, .no, .no, .no, .no, .no, .no, .no, .no, .no, .no] rfl (db_cons (ds_if (S := Unit) (post := fun _ => [.scr ns, .val draws1, .val j3, .val names5, .val composers6, .val kept8, .val (.list frequent9), .val told11, .no, .no, .no, .no, .no, .no, .no, .no, .no, .no, .no, .no, .no]) (DW.dt (dw_or (dt_not (dt_truth (de_isi (T := "tuple") (by rfl) z_isinstance (by rfl) z_tuple (by decide +kernel) (de_v (i := 7) nm_told rfl rfl (.inl rfl)) (by decide) (by decide) rfl rfl rfl) (fun _ => rfl))) (dw_or (dt_cmp (op_neD' hu) (de_ix ix_D (de_v (i := 7) nm_told rfl rfl (.inl rfl)) de_int (fun _ _ => rfl)) (de_ix ix_D (DF.de (df_lst (da_cons de_str (da_cons de_str da_nil rfl) rfl))) (de_callT (ct_int) (by rfl) z_int (by decide +kernel) (da_cons (de_cmp (op_gtD' hu) (de_callB (cb_len) (by rfl) z_len (by decide +kernel) (da_cons (de_v (i := 6) nm_frequent rfl rfl (.inl rfl)) da_nil rfl) (by decide) (by decide) rfl rfl) de_int (nomark _)) da_nil rfl) (by decide) (by decide) rfl rfl) (fun _ _ => rfl)) (nomark _)) (dw_or (dt_not (dt_truth (de_call c__law_accepts (hr.mono (by decide)) (da_cons (de_v (i := 4) nm_composers rfl rfl (.inr (.inl rfl))) (da_cons (de_v (i := 7) nm_told rfl rfl (.inl rfl)) da_nil rfl) rfl) (by rfl) (by decide) rfl rfl) (fun _ => rfl))) (dw_or1 (dt_cmp (op_neD' hu) (de_v (i := 4) nm_composers rfl rfl (.inr (.inl rfl))) (de_v (i := 5) nm_kept rfl rfl (.inl rfl)) (nomark _))))))) (db_at [.scr ns, .val draws1, .val j3, .val names5, .val composers6, .val kept8, .val (.list frequent9), .val told11, .no, .no, .no, .no, .no, .no, .no, .no, .no, .no, .no, .no, .no] rfl (db_one (ds_ret de_bl))) (db_nil (s := ()) (Wk.refl _))) fun _ => (db_at [.scr ns, .val draws1, .val j3, .val names5, .val composers6, .val kept8, .val (.list frequent9), .val told11, .no, .no, .no, .no, .no, .no, .no, .no, .no, .no, .no, .no, .no] rfl (db_cons (ds_if (S := Unit) (post := fun _ => [.scr ns, .val draws1, .val j3, .val names5, .val composers6, .val kept8, .val (.list frequent9), .val told11, .no, .no, .no, .no, .no, .no, .no, .no, .no, .no, .no, .no, .no]) (DW.dt (dw_and (dt_cmp (op_gtD' hu) (de_callB (cb_len) (by rfl) z_len (by decide +kernel) (da_cons (de_v (i := 6) nm_frequent rfl rfl (.inl rfl)) da_nil rfl) (by decide) (by decide) rfl rfl) de_int (nomark _)) (dw_and1 (dt_not (dt_truth (de_call c__law_same (hr.mono (by decide)) (da_cons (de_v (i := 7) nm_told rfl rfl (.inl rfl)) (da_cons (de_tup (da_cons de_str (da_cons (de_ix ix_D (de_v (i := 6) nm_frequent rfl rfl (.inl rfl)) de_int (fun _ _ => rfl)) da_nil rfl) rfl)) da_nil rfl) rfl) (by rfl) (by decide) rfl rfl) (fun _ => rfl)))))) (db_at [.scr ns, .val draws1, .val j3, .val names5, .val composers6, .val kept8, .val (.list frequent9), .val told11, .no, .no, .no, .no, .no, .no, .no, .no, .no, .no, .no, .no, .no] rfl (db_one (ds_ret de_bl))) (db_nil (s := ()) (Wk.refl _))) fun _ => (db_at [.scr ns, .val draws1, .val j3, .val names5, .val composers6, .val kept8, .val (.list frequent9), .val told11, .no, .no, .no, .no, .no, .no, .no, .no, .no, .no, .no, .no, .no] rfl (db_cons (ds_asg (i := 8) nd rfl (.inl rfl) (DF.de (df_lst da_nil)) rfl (.inl rfl)) fun barred12 => (db_at [.scr ns, .val draws1, .val j3, .val names5, .val composers6, .val kept8, .val (.list frequent9), .val told11, .val barred12, .no, .no, .no, .no, .no, .no, .no, .no, .no, .no, .no, .no] rfl (db_cons (ds_for (l0 := barred12) (lp := fun (l13 : D) => [.scr ns, .val draws1, .val j3, .val names5, .val composers6, .val kept8, .val (.list frequent9), .val told11, .val l13, .no, .no, .no, .no, .no, .no, .no, .no, .no, .no, .no, .no]) (pt := fun (l13 : D) (v14 : D) => [.scr ns, .val draws1, .val j3, .val names5, .val composers6, .val kept8, .val (.list frequent9), .val told11, .val l13, .val v14, .no, .no, .no, .no, .no, .no, .no, .no, .no, .no, .no]) (js := [9]) PassesOwn.never rfl (.k (.k (.k (.k (.k (.k (.k (.k (.k (.n (.n (.n (.n (.n (.n (.n (.n (.n (.n (.n (.n .nil))))))))))))))))))))) (di_rng1 (by rfl) z_range (da_cons (de_v (i := 2) nm_count rfl rfl (.inr (.inl rfl))) da_nil rfl) rfl) (fun l13 => (dg_name (i := 9) nd rfl (.inr rfl) (.inl rfl))) (fun l13 v14 => (db_cons (ds_asg (i := 8) nd rfl (.inl rfl) (de_op op_addD (de_v (i := 8) nm_barred rfl rfl (.inl rfl)) (DF.de (df_lc (own := [("j", 20)]) (post := fun (j16 : D) => [.scr ns, .val draws1, .val j3, .val names5, .val composers6, .val kept8, .val (.list frequent9), .val told11, .val l13, .val v14, .no, .no, .no, .no, .no, .no, .no, .no, .no, .no, .val j16]) (js := [20]) rfl nd (di_rng2 (by rfl) z_range (da_cons (de_op op_addD (de_v (i := 9) nm_i rfl rfl (.inr (.inl rfl))) de_int) (da_cons (de_v (i := 2) nm_count rfl rfl (.inr (.inl rfl))) da_nil rfl) rfl) rfl rfl) (blkOk_by (N := ["script", "draws", "count", "names", "composers", "kept", "frequent", "told", "barred", "i", "more", "papers", "order", "k", "at", "other", "turned", "paper", "answer", "name", "j"]) (sc := defScope s_law) (own := [("j", 20)]) (by decide +kernel)) (fun _ _ _ _ _ => (dg_name (i := 20) nd rfl (.inl rfl) (.inr rfl))) (fun _ _ _ _ _ j16 => (dts_one (dt_cmp (op_eqD' hu) (de_ix ix_D (de_v (i := 4) nm_composers rfl rfl (.inr (.inl rfl))) (de_v (i := 9) nm_i rfl rfl (.inr (.inl rfl))) (fun _ _ => rfl)) (de_ix ix_D (de_v (i := 4) nm_composers rfl rfl (.inr (.inl rfl))) (de_v (i := 20) nm_j rfl rfl (.inl rfl)) (fun _ _ => rfl)) (nomark _)))) (fun _ _ _ _ _ j16 => (de_tup (da_cons (de_v (i := 9) nm_i rfl rfl (.inr (.inl rfl))) (da_cons (de_v (i := 20) nm_j rfl rfl (.inl rfl)) da_nil rfl) rfl))) (by decide) (fun _ => rfl)))) rfl (.inl rfl)) fun barred15 => (db_at [.scr ns, .val draws1, .val j3, .val names5, .val composers6, .val kept8, .val (.list frequent9), .val told11, .val barred15, .val v14, .no, .no, .no, .no, .no, .no, .no, .no, .no, .no, .no] rfl (db_nil (s := barred15) (.k (.k (.k (.k (.k (.k (.k (.k (.k (.n (.n (.n (.n (.n (.n (.n (.n (.n (.n (.n (.n .nil))))))))))))))))))))))))) (fun _ => rfl)) fun l13 => (db_at [.scr ns, .val draws1, .val j3, .val names5, .val composers6, .val kept8, .val (.list frequent9), .val told11, .val l13, .no, .no, .no, .no, .no, .no, .no, .no, .no, .no, .no, .no] rfl (db_cons (ds_if (S := Unit) (post := fun _ => [.scr ns, .val draws1, .val j3, .val names5, .val composers6, .val kept8, .val (.list frequent9), .val told11, .val l13, .no, .no, .no, .no, .no, .no, .no, .no, .no, .no, .no, .no]) (DW.dt (dw_and (dt_cmp (op_ltD' hu) (de_v (i := 2) nm_count rfl rfl (.inr (.inl rfl))) de_int (nomark _)) (dw_and1 (dt_cmp (op_neD' hu) (de_cmp (op_gtD' hu) (de_callB (cb_len) (by rfl) z_len (by decide +kernel) (da_cons (de_call c__law_clean_orders (hr.mono (by decide)) (da_cons (de_v (i := 2) nm_count rfl rfl (.inr (.inl rfl))) (da_cons (de_v (i := 8) nm_barred rfl rfl (.inl rfl)) da_nil rfl) rfl) (by rfl) (by decide) rfl rfl) da_nil rfl) (by decide) (by decide) rfl rfl) de_int (nomark _)) (de_cmp (op_eqD' hu) (de_ix ix_D (de_v (i := 7) nm_told rfl rfl (.inl rfl)) de_int (fun _ _ => rfl)) de_str (nomark _)) (nomark _))))) (db_at [.scr ns, .val draws1, .val j3, .val names5, .val composers6, .val kept8, .val (.list frequent9), .val told11, .val l13, .no, .no, .no, .no, .no, .no, .no, .no, .no, .no, .no, .no] rfl (db_one (ds_ret de_bl))) (db_nil (s := ()) (Wk.refl _))) fun _ => (db_at [.scr ns, .val draws1, .val j3, .val names5, .val composers6, .val kept8, .val (.list frequent9), .val told11, .val l13, .no, .no, .no, .no, .no, .no, .no, .no, .no, .no, .no, .no] rfl (db_cons (ds_asg (i := 10) nd rfl (.inl rfl) (DF.de (df_call c__law_numbers (hr.mono (by decide)) (da_cons (de_cell c__law_cell (hr.mono (by decide)) (i := 0) nm_script hl rfl rfl (.inl rfl) de_int (by rfl) (by decide) rfl rfl rfl) (da_cons de_int (da_cons de_int da_nil rfl) rfl) rfl) (by rfl) (by decide) rfl rfl)) rfl (.inl rfl)) fun more17 => (db_at [.scr ns, .val draws1, .val j3, .val names5, .val composers6, .val kept8, .val (.list frequent9), .val told11, .val l13, .no, .val more17, .no, .no, .no, .no, .no, .no, .no, .no, .no, .no] rfl (db_cons (ds_asgF (i := 11) nd rfl (.inl rfl) (df_lst (da_cons (de_v (i := 7) nm_told rfl rfl (.inl rfl)) (da_cons (de_slice (de_v (i := 7) nm_told rfl rfl (.inl rfl)) (do_some de_int) (do_some de_int)) (da_cons (de_op op_addD (de_v (i := 7) nm_told rfl rfl (.inl rfl)) (de_tup (da_cons de_int da_nil rfl))) (da_cons (de_tup (da_cons de_str (da_cons (DF.de (df_listRg rfl (by rfl) z_list (dr_1 (by rfl) z_range (de_v (i := 2) nm_count rfl rfl (.inr (.inl rfl))) rfl) rfl)) da_nil rfl) rfl)) (da_cons (de_tup (da_cons de_str (da_cons (DF.de (df_listRg rfl (by rfl) z_list (dr_1 (by rfl) z_range (de_v (i := 2) nm_count rfl rfl (.inr (.inl rfl))) rfl) rfl)) da_nil rfl) rfl)) (da_cons (de_tup (da_cons de_str (da_cons (DF.de (df_lst da_nil)) da_nil rfl) rfl)) (da_cons (de_tup (da_cons de_str (da_cons (de_op op_mulD (DF.de (df_lst (da_cons de_int da_nil rfl))) (de_v (i := 2) nm_count rfl rfl (.inr (.inl rfl)))) da_nil rfl) rfl)) da_nil rfl) rfl) rfl) rfl) rfl) rfl) rfl)) rfl (.inl rfl)) fun papers18 => (db_at [.scr ns, .val draws1, .val j3, .val names5, .val composers6, .val kept8, .val (.list frequent9), .val told11, .val l13, .no, .val more17, .own papers18, .no, .no, .no, .no, .no, .no, .no, .no, .no] rfl (db_frz (i := 11) rfl (db_at [.scr ns, .val draws1, .val j3, .val names5, .val composers6, .val kept8, .val (.list frequent9), .val told11, .val l13, .no, .val more17, .val (.list papers18), .no, .no, .no, .no, .no, .no, .no, .no, .no] rfl (db_cons (ds_asgF (i := 11) nd rfl (.inl rfl) (df_add (de_v (i := 11) nm_papers rfl rfl (.inl rfl)) (DF.de (df_lst (da_cons (de_tup (da_cons de_str (da_cons (DF.de (df_listRg rfl (by rfl) z_list (dr_2 (by rfl) z_range de_int (de_op op_addD (de_v (i := 2) nm_count rfl rfl (.inr (.inl rfl))) de_int) rfl rfl rfl) rfl)) da_nil rfl) rfl)) (da_cons (de_tup (da_cons de_str (da_cons de_str da_nil rfl) rfl)) da_nil rfl) rfl)))) rfl (.inl rfl)) fun papers20 => (db_at [.scr ns, .val draws1, .val j3, .val names5, .val composers6, .val kept8, .val (.list frequent9), .val told11, .val l13, .no, .val more17, .own papers20, .no, .no, .no, .no, .no, .no, .no, .no, .no] rfl (db_frz (i := 11) rfl (db_at [.scr ns, .val draws1, .val j3, .val names5, .val composers6, .val kept8, .val (.list frequent9), .val told11, .val l13, .no, .val more17, .val (.list papers20), .no, .no, .no, .no, .no, .no, .no, .no, .no] rfl (db_cons (ds_asgF (i := 11) nd rfl (.inl rfl) (df_add (de_v (i := 11) nm_papers rfl rfl (.inl rfl)) (DF.de (df_lc (own := [("name", 19)]) (post := fun (name23 : D) => [.scr ns, .val draws1, .val j3, .val names5, .val composers6, .val kept8, .val (.list frequent9), .val told11, .val l13, .no, .val more17, .val (.list papers20), .no, .no, .no, .no, .no, .no, .no, .val name23, .no]) (js := [19]) rfl nd (di_seq (de_v (i := 3) nm_names rfl rfl (.inr (.inl rfl)))) (blkOk_by (N := ["script", "draws", "count", "names", "composers", "kept", "frequent", "told", "barred", "i", "more", "papers", "order", "k", "at", "other", "turned", "paper", "answer", "name", "j"]) (sc := defScope s_law) (own := [("name", 19)]) (by decide +kernel)) (fun _ _ _ _ _ => (dg_name (i := 19) nd rfl (.inl rfl) (.inr rfl))) (fun _ _ _ _ _ name23 => dts_nil) (fun _ _ _ _ _ name23 => (de_tup (da_cons de_str (da_cons (de_v (i := 19) nm_name rfl rfl (.inl rfl)) da_nil rfl) rfl))) (by decide) (fun _ => rfl)))) rfl (.inl rfl)) fun papers22 => (db_at [.scr ns, .val draws1, .val j3, .val names5, .val composers6, .val kept8, .val (.list frequent9), .val told11, .val l13, .no, .val more17, .own papers22, .no, .no, .no, .no, .no, .no, .no, .no, .no] rfl (db_cons (ds_if (S := List D) (post := fun j24 => [.scr ns, .val draws1, .val j3, .val names5, .val composers6, .val kept8, .val (.list frequent9), .val told11, .val l13, .no, .val more17, .own j24, .no, .no, .no, .no, .no, .no, .no, .no, .no]) (dt_cmp (op_eqD' hu) (de_ix ix_D (de_v (i := 7) nm_told rfl rfl (.inl rfl)) de_int (fun _ _ => rfl)) de_str (nomark _)) (db_at [.scr ns, .val draws1, .val j3, .val names5, .val composers6, .val kept8, .val (.list frequent9), .val told11, .val l13, .no, .val more17, .own papers22, .no, .no, .no, .no, .no, .no, .no, .no, .no] rfl (db_cons (ds_asg (i := 12) nd rfl (.inl rfl) (de_ix ix_D (de_v (i := 7) nm_told rfl rfl (.inl rfl)) de_int (fun _ _ => rfl)) rfl (.inl rfl)) fun order25 => (db_at [.scr ns, .val draws1, .val j3, .val names5, .val composers6, .val kept8, .val (.list frequent9), .val told11, .val l13, .no, .val more17, .own papers22, .val order25, .no, .no, .no, .no, .no, .no, .no, .no] rfl (db_cons (ds_for (l0 := papers22) (lp := fun (l26 : List D) => [.scr ns, .val draws1, .val j3, .val names5, .val composers6, .val kept8, .val (.list frequent9), .val told11, .val l13, .no, .val more17, .own l26, .val order25, .no, .no, .no, .no, .no, .no, .no, .no]) (pt := fun (l26 : List D) (v27 : D) => [.scr ns, .val draws1, .val j3, .val names5, .val composers6, .val kept8, .val (.list frequent9), .val told11, .val l13, .no, .val more17, .own l26, .val order25, .val v27, .no, .no, .no, .no, .no, .no, .no]) (js := [13]) PassesOwn.never rfl (.k (.k (.k (.k (.k (.k (.k (.k (.k (.n (.k (.k (.k (.n (.n (.n (.n (.n (.n (.n (.n .nil))))))))))))))))))))) (di_rng1 (by rfl) z_range (da_cons de_int da_nil rfl) rfl) (fun l26 => (dg_name (i := 13) nd rfl (.inl rfl) (.inl rfl))) (fun l26 v27 => (db_cons (ds_asg (i := 14) nd rfl (.inl rfl) (de_op op_modD (de_ix ix_D (de_v (i := 10) nm_more rfl rfl (.inl rfl)) (de_op op_mulD de_int (de_v (i := 13) nm_k rfl rfl (.inl rfl))) (fun _ _ => rfl)) (de_v (i := 2) nm_count rfl rfl (.inr (.inl rfl)))) rfl (.inl rfl)) fun at28 => (db_at [.scr ns, .val draws1, .val j3, .val names5, .val composers6, .val kept8, .val (.list frequent9), .val told11, .val l13, .no, .val more17, .own l26, .val order25, .val v27, .val at28, .no, .no, .no, .no, .no, .no] rfl (db_cons (ds_asg (i := 15) nd rfl (.inl rfl) (de_op op_modD (de_ix ix_D (de_v (i := 10) nm_more rfl rfl (.inl rfl)) (de_op op_addD (de_op op_mulD de_int (de_v (i := 13) nm_k rfl rfl (.inl rfl))) de_int) (fun _ _ => rfl)) (de_v (i := 2) nm_count rfl rfl (.inr (.inl rfl)))) rfl (.inl rfl)) fun other29 => (db_at [.scr ns, .val draws1, .val j3, .val names5, .val composers6, .val kept8, .val (.list frequent9), .val told11, .val l13, .no, .val more17, .own l26, .val order25, .val v27, .val at28, .val other29, .no, .no, .no, .no, .no] rfl (db_cons (ds_asgF (i := 16) nd rfl (.inl rfl) (df_callT ct_list (by rfl) z_list (by decide +kernel) (da_cons (de_v (i := 12) nm_order rfl rfl (.inl rfl)) da_nil rfl) (by decide) (by decide) rfl rfl) rfl (.inl rfl)) fun turned30 => (db_at [.scr ns, .val draws1, .val j3, .val names5, .val composers6, .val kept8, .val (.list frequent9), .val told11, .val l13, .no, .val more17, .own l26, .val order25, .val v27, .val at28, .val other29, .own turned30, .no, .no, .no, .no] rfl (db_cons (ds_st2 (i := 16) nm_turned rfl rfl (.inl rfl) rfl (de_tup (da_cons (de_ix ix_D (de_v (i := 12) nm_order rfl rfl (.inl rfl)) (de_v (i := 15) nm_other rfl rfl (.inl rfl)) (fun _ _ => rfl)) (da_cons (de_ix ix_D (de_v (i := 12) nm_order rfl rfl (.inl rfl)) (de_v (i := 14) nm_at rfl rfl (.inl rfl)) (fun _ _ => rfl)) da_nil rfl) rfl)) (de_v (i := 14) nm_at rfl rfl (.inl rfl)) (fun e31 => (de_v (i := 15) nm_other rfl rfl (.inl rfl))) (fun h1 h2 h3 h4 h5 h6 => pg_tup rfl (pgs_cons (pg_sub h1 h2 h3) (pgs_cons (pg_sub h4 h5 h6) pgs_nil))) rfl rfl rfl) fun turned32 => (db_at [.scr ns, .val draws1, .val j3, .val names5, .val composers6, .val kept8, .val (.list frequent9), .val told11, .val l13, .no, .val more17, .own l26, .val order25, .val v27, .val at28, .val other29, .own turned32, .no, .no, .no, .no] rfl (db_frz (i := 16) rfl (db_at [.scr ns, .val draws1, .val j3, .val names5, .val composers6, .val kept8, .val (.list frequent9), .val told11, .val l13, .no, .val more17, .own l26, .val order25, .val v27, .val at28, .val other29, .val (.list turned32), .no, .no, .no, .no] rfl (db_cons (ds_ap (i := 11) nm_papers rfl rfl (.inl rfl) (de_tup (da_cons de_str (da_cons (de_v (i := 16) nm_turned rfl rfl (.inl rfl)) da_nil rfl) rfl)) rfl rfl rfl rfl rfl rfl) fun a33 => (db_at [.scr ns, .val draws1, .val j3, .val names5, .val composers6, .val kept8, .val (.list frequent9), .val told11, .val l13, .no, .val more17, .own (l26 ++ [a33]), .val order25, .val v27, .val at28, .val other29, .val (.list turned32), .no, .no, .no, .no] rfl (db_nil (s := (l26 ++ [a33])) (.k (.k (.k (.k (.k (.k (.k (.k (.k (.n (.k (.k (.k (.n (.n (.n (.n (.n (.n (.n (.n .nil))))))))))))))))))))))))))))))))))) (fun _ => rfl)) fun l26 => (db_at [.scr ns, .val draws1, .val j3, .val names5, .val composers6, .val kept8, .val (.list frequent9), .val told11, .val l13, .no, .val more17, .own l26, .val order25, .no, .no, .no, .no, .no, .no, .no, .no] rfl (db_frz (i := 11) rfl (db_at [.scr ns, .val draws1, .val j3, .val names5, .val composers6, .val kept8, .val (.list frequent9), .val told11, .val l13, .no, .val more17, .val (.list l26), .val order25, .no, .no, .no, .no, .no, .no, .no, .no] rfl (db_cons (ds_asgF (i := 11) nd rfl (.inl rfl) (df_add (de_v (i := 11) nm_papers rfl rfl (.inl rfl)) (DF.de (df_lst (da_cons (de_tup (da_cons de_str (da_cons (de_rev (de_v (i := 12) nm_order rfl rfl (.inl rfl))) da_nil rfl) rfl)) (da_cons (de_tup (da_cons de_str (da_cons (de_slice (de_v (i := 12) nm_order rfl rfl (.inl rfl)) (do_some de_int) do_none) da_nil rfl) rfl)) (da_cons (de_tup (da_cons de_str (da_cons (de_op op_addD (de_v (i := 12) nm_order rfl rfl (.inl rfl)) (de_slice (de_v (i := 12) nm_order rfl rfl (.inl rfl)) (do_some de_int) (do_some de_int))) da_nil rfl) rfl)) (da_cons (de_tup (da_cons de_str (da_cons (de_op op_addD (DF.de (df_lst (da_cons (de_un un_negD de_int) da_nil rfl))) (de_slice (de_v (i := 12) nm_order rfl rfl (.inl rfl)) (do_some de_int) do_none)) da_nil rfl) rfl)) da_nil rfl) rfl) rfl) rfl)))) rfl (.inl rfl)) fun papers35 => (db_at [.scr ns, .val draws1, .val j3, .val names5, .val composers6, .val kept8, .val (.list frequent9), .val told11, .val l13, .no, .val more17, .own papers35, .val order25, .no, .no, .no, .no, .no, .no, .no, .no] rfl (db_nil (s := papers35) (.k (.k (.k (.k (.k (.k (.k (.k (.k (.n (.k (.k (.n (.n (.n (.n (.n (.n (.n (.n (.n .nil))))))))))))))))))))))))))))))) (db_at [.scr ns, .val draws1, .val j3, .val names5, .val composers6, .val kept8, .val (.list frequent9), .val told11, .val l13, .no, .val more17, .own papers22, .no, .no, .no, .no, .no, .no, .no, .no, .no] rfl (db_nil (s := papers22) (.k (.k (.k (.k (.k (.k (.k (.k (.k (.n (.k (.k (.n (.n (.n (.n (.n (.n (.n (.n (.n .nil)))))))))))))))))))))))) fun j24 => (db_at [.scr ns, .val draws1, .val j3, .val names5, .val composers6, .val kept8, .val (.list frequent9), .val told11, .val l13, .no, .val more17, .own j24, .no, .no, .no, .no, .no, .no, .no, .no, .no] rfl (db_frz (i := 11) rfl (db_at [.scr ns, .val draws1, .val j3, .val names5, .val composers6, .val kept8, .val (.list frequent9), .val told11, .val l13, .no, .val more17, .val (.list j24), .no, .no, .no, .no, .no, .no, .no, .no, .no] rfl (db_cons (ds_for (l0 := ()) (lp := fun (l36 : Unit) => [.scr ns, .val draws1, .val j3, .val names5, .val composers6, .val kept8, .val (.list frequent9), .val told11, .val l13, .no, .val more17, .val (.list j24), .no, .no, .no, .no, .no, .no, .no, .no, .no]) (pt := fun (l36 : Unit) (v37 : D) => [.scr ns, .val draws1, .val j3, .val names5, .val composers6, .val kept8, .val (.list frequent9), .val told11, .val l13, .no, .val more17, .val (.list j24), .no, .no, .no, .no, .no, .val v37, .no, .no, .no]) (js := [17]) PassesOwn.never rfl (.k (.k (.k (.k (.k (.k (.k (.k (.k (.n (.k (.k (.n (.n (.n (.n (.n (.n (.n (.n (.n .nil))))))))))))))))))))) (di_seq (de_v (i := 11) nm_papers rfl rfl (.inl rfl))) (fun l36 => (dg_name (i := 17) nd rfl (.inl rfl) (.inl rfl))) (fun l36 v37 => (db_cons (ds_asg (i := 18) nd rfl (.inl rfl) (de_call c_judge_mixed (hr.mono (by decide)) (da_cons (de_v (i := 4) nm_composers rfl rfl (.inr (.inl rfl))) (da_cons (de_v (i := 17) nm_paper rfl rfl (.inl rfl)) da_nil rfl) rfl) (by rfl) (by decide) rfl rfl) rfl (.inl rfl)) fun answer38 => (db_at [.scr ns, .val draws1, .val j3, .val names5, .val composers6, .val kept8, .val (.list frequent9), .val told11, .val l13, .no, .val more17, .val (.list j24), .no, .no, .no, .no, .no, .val v37, .val answer38, .no, .no] rfl (db_one (ds_if (DW.dt (dw_or (dt_not (dt_truth (de_call c__law_same (hr.mono (by decide)) (da_cons (de_v (i := 18) nm_answer rfl rfl (.inl rfl)) (da_cons (de_call c__law_accepts (hr.mono (by decide)) (da_cons (de_v (i := 4) nm_composers rfl rfl (.inr (.inl rfl))) (da_cons (de_v (i := 17) nm_paper rfl rfl (.inl rfl)) da_nil rfl) rfl) (by rfl) (by decide) rfl rfl) da_nil rfl) rfl) (by rfl) (by decide) rfl rfl) (fun _ => rfl))) (dw_or1 (DW.dt (dw_and (dt_truth (de_v (i := 18) nm_answer rfl rfl (.inl rfl)) (fun _ => rfl)) (dw_and1 (dt_cmp (op_neD' hu) (de_ix ix_D (de_v (i := 17) nm_paper rfl rfl (.inl rfl)) de_int (fun _ _ => rfl)) (de_ix ix_D (de_v (i := 7) nm_told rfl rfl (.inl rfl)) de_int (fun _ _ => rfl)) (nomark _)))))))) (db_at [.scr ns, .val draws1, .val j3, .val names5, .val composers6, .val kept8, .val (.list frequent9), .val told11, .val l13, .no, .val more17, .val (.list j24), .no, .no, .no, .no, .no, .val v37, .val answer38, .no, .no] rfl (db_one (ds_ret de_bl))) (db_at [.scr ns, .val draws1, .val j3, .val names5, .val composers6, .val kept8, .val (.list frequent9), .val told11, .val l13, .no, .val more17, .val (.list j24), .no, .no, .no, .no, .no, .val v37, .val answer38, .no, .no] rfl (db_nil (s := ()) (.k (.k (.k (.k (.k (.k (.k (.k (.k (.n (.k (.k (.n (.n (.n (.n (.n (.n (.n (.n (.n .nil)))))))))))))))))))))))))))) (fun _ => rfl)) fun l36 => (db_at [.scr ns, .val draws1, .val j3, .val names5, .val composers6, .val kept8, .val (.list frequent9), .val told11, .val l13, .no, .val more17, .val (.list j24), .no, .no, .no, .no, .no, .no, .no, .no, .no] rfl (db_one (ds_ret de_bl)))))))))))))))))))))))))))))))))))))))))))))))))))⟩
end
end Wk0

/-! Plain laws, part 1: the mirrors' words computed on data with a Lean type. -/
namespace Dl
open PySem L2 PySem.Spec PyProof.Rows PySem.W PySem.SeqAt

section
variable {S T L : Type}
@[simp] theorem seqF_nx (s : S) (n : S → Option (Fl T L)) : seqF (some (.nx s) : Option (Fl S L)) n = n s := by unfold seqF; rfl
@[simp] theorem seqF_rt (d : D) (n : S → Option (Fl T L)) : seqF (some (.rt d) : Option (Fl S L)) n = some (.rt d) := by unfold seqF; rfl
@[simp] theorem seqF_ct (d : L) (n : S → Option (Fl T L)) : seqF (some (.ct d) : Option (Fl S L)) n = some (.ct d) := by unfold seqF; rfl
@[simp] theorem seqF_bk (d : L) (n : S → Option (Fl T L)) : seqF (some (.bk d) : Option (Fl S L)) n = some (.bk d) := by unfold seqF; rfl
theorem seqF_go {m : Option S} {n : S → Option (Fl T L)} {v : S} {r : Option (Fl T L)} (h : m = some v) (k : n v = r) : seqF (nxt m) n = r := by
  subst h; simpa using k
theorem seqF_do {m : Option (Fl S L)} {n : S → Option (Fl T L)} {v : S} {r : Option (Fl T L)} (h : m = some (.nx v)) (k : n v = r) : seqF m n = r := by
  subst h; simpa using k
theorem seqF_no {c : Option Bool} {m : Option (Fl Unit L)} {n : Unit → Option (Fl T L)} {r : Option (Fl T L)} (h : c = some false) (k : n () = r) : seqF (iteM c m (some (.nx ()))) n = r := by
  subst h; simpa using k
end
@[simp] theorem outD_rt (d : D) : outD (some (.rt d)) = some d := rfl
@[simp] theorem outF_rt (ds : List D) : outF (some (.rt (.list ds))) = some ds := rfl
@[simp] theorem f1_one {α : Type} (f : D → Option α) (x : D) : f1 f [x] = f x := rfl
@[simp] theorem f2_two {α : Type} (f : D → D → Option α) (x y : D) : f2 f [x, y] = f x y := rfl
@[simp] theorem f3_three {α : Type} (f : D → D → D → Option α) (x y z : D) : f3 f [x, y, z] = f x y z := rfl
@[simp] theorem f4_four {α : Type} (f : D → D → D → D → Option α) (x y z w : D) : f4 f [x, y, z, w] = f x y z w := rfl
@[simp] theorem f5_five {α : Type} (f : D → D → D → D → D → Option α) (x y z w u : D) : f5 f [x, y, z, w, u] = f x y z w u := rfl

/-! turns -/
section
variable {α L M : Type} {F : α → L → Option (Fl L L)}
@[simp] theorem forF_nil (l : L) : (forF F [] l : Option (Fl L M)) = some (.nx l) := rfl
theorem forF_inv (I : Nat → L → Prop) : ∀ (ds : List α) (k : Nat) (l : L), I k l → (∀ i d l, ds[i]? = some d → I (k + i) l → ∃ l', F d l = some (.nx l') ∧ I (k + i + 1) l') →
    ∃ l', (forF F ds l : Option (Fl L M)) = some (.nx l') ∧ I (k + ds.length) l'
  | [], k, l, h, _ => ⟨l, rfl, h⟩
  | d :: r, k, l, h, hs => by
    obtain ⟨l1, e1, i1⟩ := hs 0 d l rfl h
    obtain ⟨l2, e2, i2⟩ := forF_inv I r (k + 1) l1 i1 (fun i d' l' hd hi => by
      have := hs (i + 1) d' l' (by simpa using hd) (by rwa [show k + (i + 1) = k + 1 + i from by omega])
      rwa [show k + (i + 1) + 1 = k + 1 + i + 1 from by omega] at this)
    refine ⟨l2, ?_, by
      have e : k + (d :: r).length = k + 1 + r.length := by simp only [List.length_cons]; omega
      rwa [e]⟩
    show ((F d l).bind _) = _
    rw [e1]
    exact e2
theorem forF_at (I : Nat → L → Prop) {ds : List α} {l : L} (h : I 0 l) (hs : ∀ i d l, ds[i]? = some d → I i l → ∃ l', F d l = some (.nx l') ∧ I (i + 1) l') :
    ∃ l', (forF F ds l : Option (Fl L M)) = some (.nx l') ∧ I ds.length l' := by
  obtain ⟨l', e, i⟩ := forF_inv (F := F) (M := M) I ds 0 l h (fun i d l hd hi => by
    simp only [Nat.zero_add] at hi ⊢
    exact hs i d l hd hi)
  exact ⟨l', e, by simpa using i⟩
theorem forF_fold {β σ : Type} (e : β → α) (en : σ → L) (g : σ → β → σ) (P : σ → Prop) : ∀ (xs : List β) (s : σ), P s → (∀ x ∈ xs, ∀ s, P s → F (e x) (en s) = some (.nx (en (g s x))) ∧ P (g s x)) →
    (forF F (xs.map e) (en s) : Option (Fl L M)) = some (.nx (en (xs.foldl g s))) ∧ P (xs.foldl g s)
  | [], s, h, _ => ⟨rfl, h⟩
  | x :: r, s, h, hs => by
    obtain ⟨e1, h1⟩ := hs x (.head _) s h
    have := forF_fold e en g P r (g s x) h1 (fun y hy => hs y (.tail _ hy))
    refine ⟨?_, this.2⟩
    show ((F (e x) (en s)).bind _) = _
    rw [e1]
    exact this.1
end
theorem forF_all {α M : Type} {F : α → Unit → Option (Fl Unit Unit)} : ∀ {ds : List α}, (∀ d ∈ ds, F d () = some (.nx ())) → (forF F ds () : Option (Fl Unit M)) = some (.nx ())
  | [], _ => rfl
  | d :: r, h => by
    show ((F d ()).bind _) = _
    rw [h d (.head _)]
    exact forF_all fun x hx => h x (.tail _ hx)

/-! comprehensions -/
section
variable {α β γ : Type}
theorem compM_fm {h : α → Option (Option β)} {e : γ → α} {g : γ → Option β} : ∀ {xs : List γ}, (∀ x ∈ xs, h (e x) = some (g x)) → compM h (xs.map e) = some (xs.filterMap g)
  | [], _ => rfl
  | x :: r, hs => by
    show ((h (e x)).bind fun o => (compM h (r.map e)).bind fun ys => some (o.toList ++ ys)) = _
    rw [hs x (.head _), compM_fm fun y hy => hs y (.tail _ hy)]
    cases q : g x <;> simp [List.filterMap_cons, q]
theorem compM_mp {h : α → Option (Option β)} {e : γ → α} {g : γ → β} {xs : List γ} (hs : ∀ x ∈ xs, h (e x) = some (some (g x))) : compM h (xs.map e) = some (xs.map g) := by
  rw [compM_fm (g := fun x => some (g x)) hs]
  simp
theorem compM_fl {h : α → Option (Option β)} {e : γ → α} {p : γ → Bool} {g : γ → β} {xs : List γ} (hs : ∀ x ∈ xs, h (e x) = some (if p x then some (g x) else none)) : compM h (xs.map e) = some ((xs.filter p).map g) := by
  rw [compM_fm hs]
  congr 1
  induction xs with
  | nil => rfl
  | cons x r ih =>
    have := ih fun y hy => hs y (.tail _ hy)
    cases q : p x <;> simp [List.filterMap_cons, List.filter_cons, q, this]
end

/-! data with a type -/
section
variable {α β : Type} [DecidableEq α] [Datum α] [DecidableEq β] [Datum β]
abbrev tD {α : Type} [DecidableEq α] [Datum α] (x : α) : D := Datum.toD x
def LD (xs : List α) : List D := xs.map Datum.toD
theorem tD_int (i : Int) : Datum.toD i = PyData.int i := rfl
theorem tD_bool (i : Bool) : Datum.toD i = PyData.bool i := rfl
theorem tD_str (i : Str) : Datum.toD i = PyData.str i := rfl
theorem tD_list (xs : List α) : Datum.toD xs = PyData.list (LD xs) := rfl
theorem tD_pair (x : α) (y : β) : Datum.toD (x, y) = PyData.tuple [Datum.toD x, Datum.toD y] := rfl
@[simp] theorem LD_nil : LD ([] : List α) = [] := rfl
theorem LD_cons (x : α) (xs : List α) : LD (x :: xs) = Datum.toD x :: LD xs := rfl
@[simp] theorem LD_len (xs : List α) : (LD xs).length = xs.length := List.length_map ..
@[simp] theorem LD_app (xs ys : List α) : LD xs ++ LD ys = LD (xs ++ ys) := (List.map_append ..).symm
theorem LD_at (xs : List α) (i : Nat) : (LD xs)[i]? = xs[i]?.map Datum.toD := List.getElem?_map ..
theorem LD_dep (xs : List α) : PyData.depthAll (LD xs) ≤ Datum.depth α := depthAll_map xs
theorem toD_dep (x : α) : (Datum.toD x).depth ≤ Datum.depth α := Datum.depth_le x
theorem toD_inj {x y : α} (h : Datum.toD x = Datum.toD y) : x = y := by
  have := Datum.eqv x y
  rw [h, Datum.eqv y y] at this
  simpa using this.symm
@[simp] theorem lenL_L (xs : List D) : lenL [.list xs] = some (.int xs.length) := rfl
@[simp] theorem lenL_T (xs : List D) : lenL [.tuple xs] = some (.int xs.length) := rfl
@[simp] theorem itemsD_L (xs : List D) : itemsD (.list xs) = some xs := rfl
@[simp] theorem itemsD_T (xs : List D) : itemsD (.tuple xs) = some xs := rfl
@[simp] theorem listF_L (xs : List D) : listF [.list xs] = some xs := rfl
theorem eqD_t (x y : α) (h : Datum.depth α ≤ 64) : eqD (Datum.toD x) (Datum.toD y) = some (.bool (decide (x = y))) := by
  unfold eqD
  rw [if_pos (.inl (Nat.le_trans (toD_dep x) h)), Datum.eqv]
theorem neD_t (x y : α) (h : Datum.depth α ≤ 64) : neD (Datum.toD x) (Datum.toD y) = some (.bool (decide (x ≠ y))) := by
  unfold neD
  rw [if_pos (.inl (Nat.le_trans (toD_dep x) h)), Datum.eqv]
  simp
@[simp] theorem eqD_int (x y : Int) : eqD (.int x) (.int y) = some (.bool (decide (x = y))) := eqD_t x y (Nat.zero_le _)
@[simp] theorem eqD_str (x y : Str) : eqD (.str x) (.str y) = some (.bool (decide (x = y))) := eqD_t x y (Nat.zero_le _)
@[simp] theorem eqD_bool (x y : Bool) : eqD (.bool x) (.bool y) = some (.bool (decide (x = y))) := eqD_t x y (Nat.zero_le _)
@[simp] theorem neD_int (x y : Int) : neD (.int x) (.int y) = some (.bool (decide (x ≠ y))) := neD_t x y (Nat.zero_le _)
@[simp] theorem neD_str (x y : Str) : neD (.str x) (.str y) = some (.bool (decide (x ≠ y))) := neD_t x y (Nat.zero_le _)
@[simp] theorem neD_bool (x y : Bool) : neD (.bool x) (.bool y) = some (.bool (decide (x ≠ y))) := neD_t x y (Nat.zero_le _)
theorem eqD_self (x : Str) : eqD (.str x) (.str x) = some (.bool true) := by
  rw [eqD_str, decide_eq_true rfl]
theorem neD_self (x : Str) : neD (.str x) (.str x) = some (.bool false) := by
  rw [neD_str, decide_eq_false (fun h => h rfl)]
theorem eqD_apart {x y : Str} (h : x ≠ y) : eqD (.str x) (.str y) = some (.bool false) := by
  rw [eqD_str, decide_eq_false h]
theorem neD_apart {x y : Str} (h : x ≠ y) : neD (.str x) (.str y) = some (.bool true) := by
  rw [neD_str, decide_eq_true h]
theorem eqD_L (xs ys : List α) (h : Datum.depth α ≤ 63) : eqD (.list (LD xs)) (.list (LD ys)) = some (.bool (decide (xs = ys))) := eqD_t xs ys (by show Datum.depth α + 1 ≤ 64; omega)
theorem neD_L (xs ys : List α) (h : Datum.depth α ≤ 63) : neD (.list (LD xs)) (.list (LD ys)) = some (.bool (decide (xs ≠ ys))) := neD_t xs ys (by show Datum.depth α + 1 ≤ 64; omega)
@[simp] theorem eqD_Li (xs ys : List Int) : eqD (.list (LD xs)) (.list (LD ys)) = some (.bool (decide (xs = ys))) := eqD_L xs ys (Nat.zero_le _)
@[simp] theorem neD_Li (xs ys : List Int) : neD (.list (LD xs)) (.list (LD ys)) = some (.bool (decide (xs ≠ ys))) := neD_L xs ys (Nat.zero_le _)
@[simp] theorem eqD_Ls (xs ys : List Str) : eqD (.list (LD xs)) (.list (LD ys)) = some (.bool (decide (xs = ys))) := eqD_L xs ys (Nat.zero_le _)
@[simp] theorem neD_Ls (xs ys : List Str) : neD (.list (LD xs)) (.list (LD ys)) = some (.bool (decide (xs ≠ ys))) := neD_L xs ys (Nat.zero_le _)
theorem hasD_t (xs : List α) (x : α) : hasD (LD xs) (Datum.toD x) = decide (x ∈ xs) := any_datum xs x
theorem inD_t (x : α) (xs : List α) (h : Datum.depth α ≤ 64) : inD (Datum.toD x) (.list (LD xs)) = some (.bool (decide (x ∈ xs))) := by
  have e : shalAll (LD xs) (Datum.toD x) := .inl (Nat.le_trans (LD_dep xs) h)
  unfold inD
  cases hd : Datum.toD x <;> simp only [] <;> (rw [hd] at e; rw [if_pos e, ← hd, hasD_t])
theorem notInD_t (x : α) (xs : List α) (h : Datum.depth α ≤ 64) : notInD (Datum.toD x) (.list (LD xs)) = some (.bool (decide (x ∉ xs))) := by
  have e : shalAll (LD xs) (Datum.toD x) := .inl (Nat.le_trans (LD_dep xs) h)
  unfold notInD
  cases hd : Datum.toD x <;> simp only [] <;> (rw [hd] at e; rw [if_pos e, ← hd, hasD_t]; simp)
@[simp] theorem inD_int (x : Int) (xs : List Int) : inD (.int x) (.list (LD xs)) = some (.bool (decide (x ∈ xs))) := inD_t x xs (Nat.zero_le _)
@[simp] theorem notInD_int (x : Int) (xs : List Int) : notInD (.int x) (.list (LD xs)) = some (.bool (decide (x ∉ xs))) := notInD_t x xs (Nat.zero_le _)
@[simp] theorem inD_str (x : Str) (xs : List Str) : inD (.str x) (.list (LD xs)) = some (.bool (decide (x ∈ xs))) := inD_t x xs (Nat.zero_le _)
@[simp] theorem notInD_str (x : Str) (xs : List Str) : notInD (.str x) (.list (LD xs)) = some (.bool (decide (x ∉ xs))) := notInD_t x xs (Nat.zero_le _)
theorem countD_t (x : α) (xs : List α) (h : Datum.depth α ≤ 64) : countD (.list (LD xs)) (Datum.toD x) = some (.int (xs.count x)) := by
  have e : shalAll (LD xs) (Datum.toD x) := .inl (Nat.le_trans (LD_dep xs) h)
  unfold countD
  simp only []
  rw [if_pos e]
  have := count_datum xs x
  unfold LD
  rw [this, List.count_eq_countP]
  congr 4
@[simp] theorem countD_int (x : Int) (xs : List Int) : countD (.list (LD xs)) (.int x) = some (.int (xs.count x)) := countD_t x xs (Nat.zero_le _)
@[simp] theorem countD_str (x : Str) (xs : List Str) : countD (.list (LD xs)) (.str x) = some (.int (xs.count x)) := countD_t x xs (Nat.zero_le _)
theorem atI_nat' {γ : Type} {xs : List γ} {i : Int} (h0 : 0 ≤ i) (h1 : i < xs.length) : atI xs i = xs[i.toNat]? := by
  unfold atI ixN
  rw [if_pos h0, if_pos h1]; rfl
theorem atI_neg {γ : Type} {xs : List γ} {i : Int} (h0 : i < 0) (h1 : -(xs.length : Int) ≤ i) : atI xs i = xs[(i + xs.length).toNat]? := by
  unfold atI ixN
  rw [if_neg (by omega), if_pos h1]; rfl
theorem idxD_n {xs : List D} {i : Nat} {d : D} (h : xs[i]? = some d) : idxD (.list xs) (.int (i : Int)) = some d := by
  have := (List.getElem?_eq_some_iff.mp h).1
  show atI xs _ = _
  rw [atI_nat' (by omega) (by omega)]
  simpa using h
theorem idxD_L {xs : List α} {i : Int} {x : α} (h0 : 0 ≤ i) (h : xs[i.toNat]? = some x) : idxD (.list (LD xs)) (.int i) = some (Datum.toD x) := by
  have h1 := (List.getElem?_eq_some_iff.mp h).1
  show atI (LD xs) i = _
  rw [atI_nat' h0 (by rw [LD_len]; omega), LD_at, h]; rfl
@[simp] theorem idxD_T (xs : List D) (i : Int) : idxD (.tuple xs) (.int i) = atI xs i := rfl
/-- whole numbers from lo on -/
def ri (lo : Int) (n : Nat) : List Int := (List.range n).map fun (k : Nat) => lo + (k : Int)
theorem rangeI_ri (lo : Int) (n : Nat) : rangeI lo n = LD (ri lo n) := by
  unfold rangeI LD ri
  rw [List.map_map]; rfl
@[simp] theorem ri_len (lo : Int) (n : Nat) : (ri lo n).length = n := by simp [ri]
theorem ri_at {lo : Int} {n i : Nat} (h : i < n) : (ri lo n)[i]? = some (lo + i) := by
  unfold ri
  rw [List.getElem?_map, List.getElem?_range h]; rfl
theorem mem_ri {lo : Int} {n : Nat} {x : Int} : x ∈ ri lo n ↔ lo ≤ x ∧ x < lo + n := by
  unfold ri
  simp only [List.mem_map, List.mem_range]
  constructor
  · rintro ⟨k, h, rfl⟩; omega
  · intro h
    exact ⟨(x - lo).toNat, by omega, by omega⟩
theorem rng1D_n (n : Nat) (h : n ≤ 16777216) : rng1D [.int (n : Int)] = some (LD (ri 0 n)) := by
  simp only [rng1D]
  rw [if_pos (by omega), Int.toNat_natCast, fit_ok h, rangeI_ri]
theorem rng1D_i (j : Int) (h : j ≤ 16777216) (h' : -4611686018427387904 ≤ j) : rng1D [.int j] = some (LD (ri 0 j.toNat)) := by
  simp only [rng1D]
  rw [if_pos h', fit_ok (by omega), rangeI_ri]
theorem rng2D_i (i j : Int) (h : j - i ≤ 16777216) (h1 : -4611686018427387904 ≤ i) (h2 : i < 4611686018427387904) (h3 : -4611686018427387904 ≤ j) (h4 : j < 4611686018427387904) : rng2D [.int i, .int j] = some (LD (ri i (j - i).toNat)) := by
  simp only [rng2D]
  rw [if_pos ⟨⟨h1, h2⟩, h3, h4⟩, fit_ok (by omega), rangeI_ri]
theorem rngF_i (i j : Int) (h : j - i ≤ 16777216) (h1 : -4611686018427387904 ≤ i) (h2 : i < 4611686018427387904) (h3 : -4611686018427387904 ≤ j) (h4 : j < 4611686018427387904) : rngF (i, j) = some (LD (ri i (j - i).toNat)) := by
  simp only [rngF]
  rw [if_pos ⟨⟨h1, h2⟩, h3, h4⟩, fit_ok (by omega), rangeI_ri]
theorem compM_LD {γ : Type} {h : D → Option (Option γ)} {g : α → γ} {xs : List α} (hs : ∀ x ∈ xs, h (Datum.toD x) = some (some (g x))) : compM h (LD xs) = some (xs.map g) := compM_mp hs
theorem compM_LDt {h : D → Option (Option D)} {g : α → β} {xs : List α} (hs : ∀ x ∈ xs, h (Datum.toD x) = some (some (Datum.toD (g x)))) : compM h (LD xs) = some (LD (xs.map g)) := by
  rw [compM_LD hs]; unfold LD; rw [List.map_map]; rfl
theorem compM_LDf {h : D → Option (Option D)} {p : α → Bool} {g : α → β} {xs : List α} (hs : ∀ x ∈ xs, h (Datum.toD x) = some (if p x then some (Datum.toD (g x)) else none)) : compM h (LD xs) = some (LD ((xs.filter p).map g)) := by
  unfold LD; rw [compM_fl hs, List.map_map]; rfl
theorem forF_LD {L M : Type} {F : D → L → Option (Fl L L)} {xs : List α} (I : Nat → L → Prop) {l : L} (h : I 0 l) (hs : ∀ (i : Nat) (x : α) (l : L), xs[i]? = some x → I i l → ∃ l', F (Datum.toD x) l = some (.nx l') ∧ I (i + 1) l') :
    ∃ l', (forF F (LD xs) l : Option (Fl L M)) = some (.nx l') ∧ I xs.length l' := by
  have := forF_at (F := F) (M := M) (ds := LD xs) I h (fun i d l hd hi => by
    rw [LD_at] at hd
    cases q : xs[i]? with
    | none => rw [q] at hd; cases hd
    | some x => rw [q] at hd; cases hd; exact hs i x l q hi)
  rwa [LD_len] at this
theorem forF_LDf {L M σ : Type} {F : D → L → Option (Fl L L)} {xs : List α} (en : σ → L) (g : σ → α → σ) (P : σ → Prop) {s : σ} (h : P s) (hs : ∀ x ∈ xs, ∀ s, P s → F (Datum.toD x) (en s) = some (.nx (en (g s x))) ∧ P (g s x)) :
    (forF F (LD xs) (en s) : Option (Fl L M)) = some (.nx (en (xs.foldl g s))) ∧ P (xs.foldl g s) := forF_fold Datum.toD en g P xs s h hs
/-- the block goes on, with a state that is Q -/
abbrev Gv {S L : Type} (m : Option (Fl S L)) (Q : S → Prop) : Prop := ∃ s, m = some (.nx s) ∧ Q s
theorem gv_nx {S L : Type} {Q : S → Prop} {s : S} (h : Q s) : Gv (some (.nx s) : Option (Fl S L)) Q := ⟨s, rfl, h⟩
theorem gv_nxt {S L : Type} {Q : S → Prop} {m : Option S} {s : S} (e : m = some s) (h : Q s) : Gv (nxt m : Option (Fl S L)) Q := ⟨s, by rw [e]; rfl, h⟩
theorem gv_go {S T L : Type} {Q : T → Prop} {m : Option S} {n : S → Option (Fl T L)} {v : S} (h : m = some v) (k : Gv (n v) Q) : Gv (seqF (nxt m) n) Q := by
  rw [h]; simpa using k
theorem gv_do {S T L : Type} {Q : T → Prop} {m : Option (Fl S L)} {n : S → Option (Fl T L)} {v : S} (h : m = some (.nx v)) (k : Gv (n v) Q) : Gv (seqF m n) Q := by
  rw [h]; simpa using k
theorem gv_gv {S T L : Type} {Q : T → Prop} {R : S → Prop} {m : Option (Fl S L)} {n : S → Option (Fl T L)} (h : Gv m R) (k : ∀ s, R s → Gv (n s) Q) : Gv (seqF m n) Q := by
  obtain ⟨s, e, hs⟩ := h
  rw [e]; simpa using k s hs
theorem seqF_gv {S T L : Type} {R : S → Prop} {m : Option (Fl S L)} {n : S → Option (Fl T L)} {r : Option (Fl T L)} (h : Gv m R) (k : ∀ s, R s → n s = r) : seqF m n = r := by
  obtain ⟨s, e, hs⟩ := h
  rw [e]; simpa using k s hs
theorem gv_for {L M : Type} {F : D → L → Option (Fl L L)} {xs : List α} {l : L} (I : Nat → L → Prop) (h : I 0 l) (hs : ∀ (i : Nat) (x : α) (l : L), xs[i]? = some x → I i l → Gv (F (Datum.toD x) l) (I (i + 1))) :
    Gv (forF F (LD xs) l : Option (Fl L M)) (I xs.length) := forF_LD I h hs
theorem enumL_LD (xs : List α) : enumL (LD xs) = LD (xs.zipIdx.map fun p => ((p.2 : Int), p.1)) := by
  unfold enumL LD
  rw [List.zipIdx_map, List.map_map, List.map_map]; rfl
theorem intsOf_LD : ∀ xs : List Int, intsOf (LD xs) = some xs
  | [] => rfl
  | x :: r => by
    show (intsOf (LD r)).map _ = _
    rw [intsOf_LD r]; rfl
theorem boolsOf_LD : ∀ xs : List Bool, boolsOf (LD xs) = some xs
  | [] => rfl
  | x :: r => by
    show (boolsOf (LD r)).map _ = _
    rw [boolsOf_LD r]; rfl
@[simp] theorem allL_LD (xs : List Bool) : allL [.list (LD xs)] = some (.bool (xs.all id)) := by simp [allL, boolsOf_LD]
@[simp] theorem anyL_LD (xs : List Bool) : anyL [.list (LD xs)] = some (.bool (xs.any id)) := by simp [anyL, boolsOf_LD]
@[simp] theorem sumL_LD (xs : List Int) : sumL [.list (LD xs)] = some (.int xs.sum) := by simp [sumL, intsOf_LD]
@[simp] theorem minL_LD (xs : List Int) : minL [.list (LD xs)] = xs.min?.map .int := by simp [minL, intsOf_LD]
@[simp] theorem maxL_LD (xs : List Int) : maxL [.list (LD xs)] = xs.max?.map .int := by simp [maxL, intsOf_LD]
theorem cutL_LD (xs : List α) (lo hi : Option Int) : cutL (LD xs) lo hi = LD (cutL xs lo hi) := by
  unfold cutL LD
  rw [List.length_map, List.map_take, List.map_drop]
end

/-! whole numbers -/
@[simp] theorem addD_int (i j : Int) : addD (.int i) (.int j) = some (.int (i + j)) := rfl
@[simp] theorem subD_int (i j : Int) : subD (.int i) (.int j) = some (.int (i - j)) := rfl
theorem mulD_int (i j : Int) (h : small64 i ∨ small64 j) : mulD (.int i) (.int j) = some (.int (i * j)) := by simp only [mulD, if_pos h]
@[simp] theorem negD_int (i : Int) : negD (.int i) = some (.int (-i)) := rfl
theorem modD_int (i j : Int) (h : 0 < j) : modD (.int i) (.int j) = some (.int (i % j)) := by
  simp only [modD]
  rw [if_pos (by omega), Int.fmod_eq_emod_of_nonneg _ (by omega)]
theorem fdivD_int (i j : Int) (h : 0 < j) (h' : j < 1073741824) : fdivD (.int i) (.int j) = some (.int (i / j)) := by
  simp only [fdivD]
  rw [if_pos (by omega), Int.fdiv_eq_ediv_of_nonneg _ (by omega)]
@[simp] theorem ltD_int (i j : Int) : ltD (.int i) (.int j) = some (.bool (decide (i < j))) := by simp [ltD]
@[simp] theorem gtD_int (i j : Int) : gtD (.int i) (.int j) = some (.bool (decide (j < i))) := by simp [gtD]
@[simp] theorem leD_int (i j : Int) : leD (.int i) (.int j) = some (.bool (decide (i ≤ j))) := by simp [leD]
@[simp] theorem geD_int (i j : Int) : geD (.int i) (.int j) = some (.bool (decide (j ≤ i))) := by simp [geD]
@[simp] theorem intL_int (i : Int) : intL [.int i] = some (.int i) := rfl
@[simp] theorem intL_bool (b : Bool) : intL [.bool b] = some (.int (if b then 1 else 0)) := rfl
@[simp] theorem int1_int (i : Int) : int1 [.int i] = some (0, i) := rfl
@[simp] theorem int2_int (i j : Int) : int2 [.int i, .int j] = some (i, j) := rfl
@[simp] theorem oI_int (i : Int) : oI (some (.int i)) = some (some i) := rfl
@[simp] theorem isB_b (b : Bool) : isB (.bool b) = some b := rfl
@[simp] theorem truth_b (b : Bool) : truth (.bool b) = some b := rfl
@[simp] theorem un2_t (x y : D) : un2 (.tuple [x, y]) = some (x, y) := rfl
@[simp] theorem un3_t (x y z : D) : un3 (.tuple [x, y, z]) = some (x, y, z) := rfl
@[simp] theorem un4_t (x y z w : D) : un4 (.tuple [x, y, z, w]) = some (x, y, z, w) := rfl
@[simp] theorem un2L_t (x y : D) : un2L [x, y] = some (x, y) := rfl
@[simp] theorem fit_zero {α : Type} (x : α) : fit 0 x = some x := fit_ok (by omega)
@[simp] theorem isD_none (d : D) : isD d .none = some (.bool (isNoneB d)) := rfl
theorem ints18 : powD (.int 10) (.int 18) = some (.int 1000000000000000000) := by simp [powD]
@[simp] theorem revD_L (xs : List D) : revD (.list xs) = some (.list xs.reverse) := rfl
@[simp] theorem LD_rev {α : Type} [DecidableEq α] [Datum α] (xs : List α) : (LD xs).reverse = LD xs.reverse := (List.map_reverse ..).symm

/-! tuples of three -/
structure T3 (α β γ : Type) where
  a : α
  b : β
  c : γ
  deriving DecidableEq
instance {α β γ : Type} [DecidableEq α] [Datum α] [DecidableEq β] [Datum β] [DecidableEq γ] [Datum γ] : Datum (T3 α β γ) where
  toD t := .tuple [Datum.toD t.a, Datum.toD t.b, Datum.toD t.c]
  plain t := by simp [PyData.plain, PyData.plainAll, Datum.plain]
  eqv x y := by
    cases x; cases y
    simp [PyData.eqv, PyData.eqvAll, Datum.eqv]
  depth := max (Datum.depth α) (max (Datum.depth β) (Datum.depth γ)) + 1
  depth_le t := by
    have h1 := Datum.depth_le t.a
    have h2 := Datum.depth_le t.b
    have h3 := Datum.depth_le t.c
    simp only [PyData.depth, PyData.depthAll]
    omega
theorem tD_t3 {α β γ : Type} [DecidableEq α] [Datum α] [DecidableEq β] [Datum β] [DecidableEq γ] [Datum γ] (t : T3 α β γ) : Datum.toD t = PyData.tuple [Datum.toD t.a, Datum.toD t.b, Datum.toD t.c] := rfl
/-! sorting -/
section
variable {α : Type} [DecidableEq α] [Datum α]
class DatOrd (α : Type) [DecidableEq α] [Datum α] where
  al : ∀ x y : α, alike (Datum.toD x) (Datum.toD y) = true
/-- sorted as Python sorts -/
noncomputable def srt (xs : List α) : List α := xs.mergeSort (dataLe false Datum.toD)
theorem srt_perm (xs : List α) : (srt xs).Perm xs := List.mergeSort_perm _ _
theorem srt_sorted (xs : List α) : (srt xs).Pairwise fun x y => dataLt (Datum.toD y) (Datum.toD x) = false := by
  have t := sortLe_total (listOrd itemOrd) false fun b : α => keyToks (Datum.toD b)
  refine (List.pairwise_mergeSort (le := dataLe false Datum.toD) t.trans (fun a b => ?_) xs).imp fun {x y} h => ?_
  · rw [Bool.or_eq_true]; exact t.total a b
  · have : (!dataLt (Datum.toD y) (Datum.toD x)) = true := h
    simpa using this
theorem sortF_LD [DatOrd α] (xs : List α) (hs : Sortable (LD xs)) (hd : Datum.depth α ≤ 64) : sortF [.list (LD xs)] = some (LD (srt xs)) := by
  have h1 : AllAlike (LD xs) := AllAlike.of DatOrd.al
  simp only [sortF]
  rw [if_pos ⟨h1, hs, Nat.le_trans (LD_dep xs) hd⟩]
  unfold LD srt
  rw [List.map_mergeSort]
  intro a _ b _; rfl
instance : DatOrd Int := ⟨fun _ _ => by simp [tD_int, alike]⟩
instance : DatOrd Bool := ⟨fun _ _ => by simp [tD_bool, alike]⟩
instance : DatOrd Str := ⟨fun _ _ => by simp [tD_str, alike]⟩
theorem sortF_int (xs : List Int) : sortF [.list (LD xs)] = some (LD (srt xs)) := sortF_LD xs (Sortable.others fun b => ⟨by simp [tD_int], by simp [tD_int]⟩) (Nat.zero_le _)
theorem sortF_str (xs : List Str) : sortF [.list (LD xs)] = some (LD (srt xs)) := sortF_LD xs (Sortable.others fun b => ⟨by simp [tD_str], by simp [tD_str]⟩) (Nat.zero_le _)
theorem srt_int (xs : List Int) : (srt xs).Pairwise (· ≤ ·) := (srt_sorted xs).imp fun {x y} h => by
  rw [tD_int, tD_int, dataLt_int] at h
  simpa using h
theorem srt_eq {xs ys : List Int} (h : ys.Pairwise (· ≤ ·)) : srt xs = ys ↔ xs.Perm ys := by
  constructor
  · rintro rfl; exact (srt_perm xs).symm
  · intro p
    exact ((srt_perm xs).trans p).eq_of_pairwise (fun a b _ _ h1 h2 => Int.le_antisymm h1 h2) (srt_int xs) h
theorem ri_sorted (lo : Int) (n : Nat) : (ri lo n).Pairwise (· ≤ ·) := by
  unfold ri
  rw [List.pairwise_map]
  exact List.pairwise_lt_range.imp fun {a b} h => by omega
theorem ri_nodup (lo : Int) (n : Nat) : (ri lo n).Nodup := by
  unfold ri
  rw [List.Nodup, List.pairwise_map]
  exact List.pairwise_lt_range.imp fun {a b} h => by omega
instance {α β : Type} [DecidableEq α] [Datum α] [DecidableEq β] [Datum β] [DatOrd α] [DatOrd β] : DatOrd (α × β) := ⟨fun x y => by
  show alike (.tuple [Datum.toD x.1, Datum.toD x.2]) (.tuple [Datum.toD y.1, Datum.toD y.2]) = true
  simp [alike, alikeAll, DatOrd.al]⟩
instance {α β γ : Type} [DecidableEq α] [Datum α] [DecidableEq β] [Datum β] [DecidableEq γ] [Datum γ] [DatOrd α] [DatOrd β] [DatOrd γ] : DatOrd (T3 α β γ) := ⟨fun x y => by
  rw [tD_t3, tD_t3]
  simp [alike, alikeAll, DatOrd.al]⟩
theorem alikeAll_LD [DatOrd α] : ∀ xs ys : List α, alikeAll (LD xs) (LD ys) = true
  | [], _ => rfl
  | _ :: _, [] => rfl
  | x :: xs, y :: ys => by
    rw [LD_cons, LD_cons, alikeAll, DatOrd.al, alikeAll_LD xs ys]; rfl
instance [DatOrd α] : DatOrd (List α) := ⟨fun x y => by
  rw [tD_list, tD_list, alike]; exact alikeAll_LD x y⟩
theorem dataLt_t3 {α β γ : Type} [DecidableEq α] [Datum α] [DecidableEq β] [Datum β] [DecidableEq γ] [Datum γ] [DatOrd α] [DatOrd β] [DatOrd γ] (x y : T3 α β γ) :
    dataLt (Datum.toD x) (Datum.toD y) = if x.a = y.a then (if x.b = y.b then (if x.c = y.c then false else dataLt (Datum.toD x.c) (Datum.toD y.c)) else dataLt (Datum.toD x.b) (Datum.toD y.b)) else dataLt (Datum.toD x.a) (Datum.toD y.a) := by
  rw [tD_t3, tD_t3, dataLt_tuple, dataLt_cons (DatOrd.al _ _), dataLt_cons (DatOrd.al _ _), dataLt_cons (DatOrd.al _ _)]
  have e : PyProof.Rows.lexLt itemOrd (keyToksAll []) (keyToksAll []) = false := lex_irrefl _
  rw [e, Datum.eqv, Datum.eqv, Datum.eqv]
  simp only [decide_eq_true_eq]
theorem dataLt_str_tri (x y : Str) (h1 : dataLt (.str x) (.str y) = false) (h2 : dataLt (.str y) (.str x) = false) : x = y := by
  rw [dataLt_str] at h1 h2
  have h1 := of_decide_eq_false h1
  have h2 := of_decide_eq_false h2
  exact str_of_cps (List.le_antisymm (List.not_lt.mp h2) (List.not_lt.mp h1))
end
end Dl

/-! The drawn numbers and the sameness of data: one text for each law. -/
namespace Wk0
open PySem L2 PySem.Spec PyProof.Rows PySem.W PySem.SeqAt Dl
theorem small_i {i : Int} (h : -18446744073709551616 < i) (h' : i < 18446744073709551616) : small64 i := ⟨h, h'⟩
theorem numbers_ok (c : Int) (n : Nat) (lim : Int) (hn : n ≤ 1000) (hl : 0 < lim) (hl' : lim < 1073741824) :
    ∃ zs : List Int, d__law_numbers (.int c) (.int (n : Int)) (.int lim) = some (LD zs) ∧ zs.length = n ∧ ∀ z ∈ zs, 0 ≤ z ∧ z < lim := by
  unfold d__law_numbers b__law_numbers
  have hr : rng1D [.int (n : Int)] = some (LD (ri 0 n)) := rng1D_n n (by omega)
  simp only [b2, c2, iteM, nxt, Option.bind_some, Option.map_some, seqF_nx, List.length_nil, fit_zero, ints18, geD_int, isB_b, hr, id]
  by_cases hc : (1000000000000000000 : Int) ≤ c
  · rw [if_pos (decide_eq_true hc)]
    obtain ⟨l', e, i⟩ := forF_LD (M := Unit) (F := fun d (l2 : D × List D) => (((some d) : Option D).bind fun v3 => (seqF (nxt ((b2 ((c2 (some l2.1) (some [])).bind intL) (some (.int lim)) modD).bind fun d => fit (l2.2.length + 1) d)) fun a4 => (seqF (nxt (b2 ((c2 (some l2.1) (some [])).bind intL) (some (.int lim)) fdivD)) fun cell5 => (some (.nx (cell5, (l2.2 ++ [a4]))) : Option (Fl (D × List D) (D × List D)))))))
      (xs := ri 0 n) (fun i l => ∃ (c : Int) (zs : List Int), l = (.int c, LD zs) ∧ zs.length = i ∧ i ≤ n ∧ ∀ z ∈ zs, 0 ≤ z ∧ z < lim) (l := (.int c, [])) ⟨c, [], rfl, rfl, by omega, by simp⟩
      (fun i x l hx ⟨c, zs, e, hz, hi, hb⟩ => by
        subst e
        have hi' : i < n := by have := (List.getElem?_eq_some_iff.mp hx).1; simpa using this
        simp only [b2, c2, nxt, Option.bind_some, intL_int, modD_int _ _ hl, fdivD_int _ _ hl hl', fit_ok (show (LD zs).length + 1 ≤ 16777216 by simp; omega), Option.map_some, seqF_nx]
        refine ⟨_, rfl, c / lim, zs ++ [c % lim], by rw [← LD_app]; rfl, by simp [hz], by omega, ?_⟩
        intro z h
        rcases List.mem_append.mp h with h | h
        · exact hb z h
        · rw [List.mem_singleton.mp h]; exact ⟨Int.emod_nonneg _ (by omega), Int.emod_lt_of_pos _ hl⟩)
    simp only [b2, c2, nxt, Option.bind_some] at e
    rw [e]
    obtain ⟨c', zs, rfl, h1, h2, h3⟩ := i
    exact ⟨zs, by simp only [seqF_nx, seqF_rt, outF_rt], by simpa using h1, h3⟩
  · rw [if_neg (by simpa using hc)]
    simp only [seqF_nx]
    obtain ⟨l', e, i⟩ := forF_LD (M := Unit) (F := fun d (l6 : List D) => (((some d) : Option D).bind fun v7 => (seqF (nxt (b2 ((c2 (b2 (b2 (b2 (some (.int c)) (some (.int 48271)) mulD) (b2 (some v7) (some (.int 69621)) mulD) addD) (some (.int 7)) addD) (some [])).bind intL) (some (.int 2147483647)) modD)) fun mixed8 => (seqF (nxt (b2 ((c2 (b2 (b2 (b2 (b2 (some mixed8) (some mixed8) mulD) (b2 (some mixed8) (some (.int 40692)) mulD) addD) (b2 (some v7) (some (.int 16807)) mulD) addD) (some (.int 11)) addD) (some [])).bind intL) (some (.int 2147483399)) modD)) fun mixed9 => (seqF (nxt ((b2 ((c2 (b2 (some mixed9) (some (.int 32)) fdivD) (some [])).bind intL) (some (.int lim)) modD).bind fun d => fit (l6.length + 1) d)) fun a10 => (some (.nx (l6 ++ [a10])) : Option (Fl (List D) (List D))))))))
      (xs := ri 0 n) (fun i l => ∃ (zs : List Int), l = LD zs ∧ zs.length = i ∧ i ≤ n ∧ ∀ z ∈ zs, 0 ≤ z ∧ z < lim) (l := []) ⟨[], rfl, rfl, by omega, by simp⟩
      (fun i x l hx ⟨zs, e, hz, hi, hb⟩ => by
        subst e
        have hi' : i < n := by have := (List.getElem?_eq_some_iff.mp hx).1; simpa using this
        have hq : ∀ a b : Int, 0 < b → b < 1000000000000 → small64 (a % b) := fun a b h h' => by
          have h1 := Int.emod_nonneg a (b := b) (by omega)
          have h2 := Int.emod_lt_of_pos a h
          exact ⟨by omega, by omega⟩
        have hk : ∀ a b : Int, -1000000000 < b → b < 1000000000 → mulD (.int a) (.int b) = some (.int (a * b)) := fun a b h h' => mulD_int a b (.inr ⟨by omega, by omega⟩)
        have hm : ∀ a b c : Int, 0 < b → b < 1000000000000 → mulD (.int (a % b)) (.int c) = some (.int (a % b * c)) := fun a b c h h' => mulD_int _ _ (.inl (hq a b h h'))
        simp only [b2, c2, nxt, Option.bind_some, intL_int, addD_int, hk _ 48271 (by omega) (by omega), hk _ 69621 (by omega) (by omega), hk _ 16807 (by omega) (by omega), hm _ 2147483647 _ (by omega) (by omega), tD_int,
          modD_int _ 2147483647 (by omega), modD_int _ 2147483399 (by omega), modD_int _ _ hl, fdivD_int _ 32 (by omega) (by omega), fit_ok (show (LD zs).length + 1 ≤ 16777216 by simp; omega), Option.map_some, seqF_nx]
        refine ⟨_, rfl, zs ++ [_], by rw [← LD_app]; rfl, by simp [hz], by omega, ?_⟩
        intro z h
        rcases List.mem_append.mp h with h | h
        · exact hb z h
        · rw [List.mem_singleton.mp h]; exact ⟨Int.emod_nonneg _ (by omega), Int.emod_lt_of_pos _ hl⟩)
    simp only [b2, c2, nxt, Option.bind_some] at e
    rw [e]
    obtain ⟨zs, rfl, h1, h2, h3⟩ := i
    exact ⟨zs, by simp only [seqF_nx, seqF_rt, outF_rt], by simpa using h1, h3⟩

/-- data without a dict, not deep, no list long: the same as itself -/
inductive Tame : Nat → D → Prop
  | non {n : Nat} : Tame n .none
  | bool {n : Nat} (b : Bool) : Tame n (.bool b)
  | int {n : Nat} (i : Int) : Tame n (.int i)
  | str {n : Nat} (x : Str) : Tame n (.str x)
  | list {n : Nat} {ds : List D} (h : ds.length ≤ 16777216) (a : ∀ d ∈ ds, Tame n d) : Tame (n + 1) (.list ds)
  | tuple {n : Nat} {ds : List D} (h : ds.length ≤ 16777216) (a : ∀ d ∈ ds, Tame n d) : Tame (n + 1) (.tuple ds)
theorem same_self : ∀ (n m : Nat) (d : D), Tame n d → n < m → d__law_same m d d = some (.bool true)
  | n, 0, d, _, hm => by omega
  | n, m + 1, d, ht, hm => by
    have k1 : ∀ x : D, (∃ i, x = .int i) → d.depth = 0 → True := fun _ _ _ => trivial
    have e : d__law_same (m + 1) d d = outD (b__law_same (d__law_same m) d d) := by rw [d__law_same]
    rw [e]
    unfold b__law_same
    have q1 : kitB "int" "int" = some true := by decide +kernel
    have q2 : kitB "int" "list" = some false := by decide +kernel
    have q3 : kitB "int" "tuple" = some false := by decide +kernel
    have q4 : kitB "int" "bool" = some false := by decide +kernel
    have q5 : kitB "bool" "bool" = some true := by decide +kernel
    have q6 : kitB "bool" "list" = some false := by decide +kernel
    have q7 : kitB "bool" "tuple" = some false := by decide +kernel
    have q8 : kitB "str" "str" = some true := by decide +kernel
    have q9 : kitB "str" "list" = some false := by decide +kernel
    have q10 : kitB "str" "tuple" = some false := by decide +kernel
    have q11 : kitB "str" "bool" = some false := by decide +kernel
    have q12 : kitB "str" "int" = some false := by decide +kernel
    have q13 : kitB "list" "list" = some true := by decide +kernel
    have q14 : kitB "tuple" "list" = some false := by decide +kernel
    have q15 : kitB "tuple" "tuple" = some true := by decide +kernel
    have q16 : kitB "NoneType" "list" = some false := by decide +kernel
    have q17 : kitB "NoneType" "tuple" = some false := by decide +kernel
    cases ht with
    | non => simp [b2, c2, iteM, nxt, insD, tyName, q16, q17, isNoneB]
    | bool b => simp [b2, c2, iteM, nxt, insD, tyName, q5, q6, q7, isNoneB, andV]
    | int b => simp [b2, c2, iteM, nxt, insD, tyName, q1, q2, q3, q4, isNoneB, andV]
    | str b => simp [b2, c2, iteM, nxt, insD, tyName, q8, q9, q10, q11, q12, isNoneB, andV]
    | @list n ds h a =>
      have hr : rng1D [.int (ds.length : Int)] = some (LD (ri 0 ds.length)) := rng1D_n _ h
      simp only [b2, c2, iteM, orB, nxt, insD, tyName, q13, Option.bind_some, Option.map_some, truth_b, if_true, lenL_L, neD_int, isB_b, ne_eq, not_true_eq_false, decide_false, Bool.not_true, Bool.false_eq_true, if_false, seqF_nx, hr]
      rw [forF_all]
      · simp
      · intro x hx
        obtain ⟨i, hi, rfl⟩ := List.mem_map.mp hx
        obtain ⟨i1, i2⟩ := mem_ri.mp hi
        have hl : i.toNat < ds.length := by omega
        have ei : idxD (.list ds) (.int i) = some ds[i.toNat] := by
          show atI ds i = _
          rw [atI_nat' i1 (by omega), List.getElem?_eq_getElem hl]
        simp only [tD_int, Option.bind_some, ei, f2_two, same_self n m _ (a _ (List.getElem_mem hl)) (by omega), truth_b, Option.map_some, Bool.not_true, Bool.false_eq_true, if_false]
    | @tuple n ds h a =>
      have hr : rng1D [.int (ds.length : Int)] = some (LD (ri 0 ds.length)) := rng1D_n _ h
      simp only [b2, c2, iteM, orB, nxt, insD, tyName, q14, q15, Option.bind_some, Option.map_some, truth_b, if_true, lenL_T, neD_int, isB_b, ne_eq, not_true_eq_false, decide_false, Bool.not_true, Bool.false_eq_true, if_false, seqF_nx, hr]
      rw [forF_all]
      · simp
      · intro x hx
        obtain ⟨i, hi, rfl⟩ := List.mem_map.mp hx
        obtain ⟨i1, i2⟩ := mem_ri.mp hi
        have hl : i.toNat < ds.length := by omega
        have ei : idxD (.tuple ds) (.int i) = some ds[i.toNat] := by
          show atI ds i = _
          rw [atI_nat' i1 (by omega), List.getElem?_eq_getElem hl]
        simp only [tD_int, Option.bind_some, ei, f2_two, same_self n m _ (a _ (List.getElem_mem hl)) (by omega), truth_b, Option.map_some, Bool.not_true, Bool.false_eq_true, if_false]
theorem same_bool (m : Nat) (b : Bool) : d__law_same (m + 1) (.bool b) (.bool b) = some (.bool true) := same_self 0 (m + 1) _ (.bool b) (by omega)
theorem Tame.up {n : Nat} {d : D} (h : Tame n d) : Tame (n + 1) d := by
  induction h with
  | non => exact .non
  | bool b => exact .bool b
  | int i => exact .int i
  | str x => exact .str x
  | list h _ ih => exact .list h ih
  | tuple h _ ih => exact .tuple h ih
end Wk0

/-! k49: the plain law -/
namespace Wk0
open PySem L2 PySem.Spec PyProof.Rows PySem.W PySem.SeqAt Dl
theorem perm_sub {α : Type} [DecidableEq α] : ∀ {xs ys : List α}, xs.Nodup → (∀ x ∈ xs, x ∈ ys) → ys.length ≤ xs.length → xs.Perm ys
  | [], ys, _, _, h => by
    have : ys = [] := List.eq_nil_of_length_eq_zero (by simpa using h)
    rw [this]
  | x :: r, ys, hn, hs, hl => by
    have h1 := hs x (.head _)
    have h2 := List.perm_cons_erase h1
    have hx := (List.nodup_cons.mp hn).1
    refine (List.Perm.cons x (perm_sub (List.nodup_cons.mp hn).2 (fun y hy => ?_) ?_)).trans h2.symm
    · exact (List.mem_erase_of_ne (fun e : y = x => hx (by rw [← e]; exact hy))).mpr (hs y (.tail _ hy))
    · rw [List.length_erase_of_mem h1]
      simp -implicitDefEqProofs only [List.length_cons] at hl
      omega
/-- no two neighbours alike: none stands too often -/
theorem pig {α : Type} [DecidableEq α] (x : α) : ∀ (ms : List α), (∀ k a b, ms[k]? = some a → ms[k + 1]? = some b → a ≠ b) → 2 * ms.count x ≤ ms.length + 1
  | [], _ => by simp
  | [a], _ => by
    rw [List.count_cons]
    simp -implicitDefEqProofs only [List.count_nil, List.length_cons, List.length_nil]
    split <;> omega
  | a :: b :: r, h => by
    have h1 := pig x r fun k c d hc hd => h (k + 2) c d (by simpa using hc) (by simpa using hd)
    have h2 := h 0 a b rfl rfl
    rw [List.count_cons, List.count_cons]
    simp -implicitDefEqProofs only [List.length_cons, beq_iff_eq]
    split <;> split
    · rename_i e1 e2; exact absurd (e2.trans e1.symm) h2
    all_goals omega
theorem count_run {α : Type} [DecidableEq α] (x : α) (ms : List α) (a h : Nat) (hl : a + h ≤ ms.length) (he : ∀ i, a ≤ i → i < a + h → ms[i]? = some x) : h ≤ ms.count x := by
  have e : (ms.drop a).take h = List.replicate h x := by
    apply List.ext_getElem?
    intro i
    rw [List.getElem?_take, List.getElem?_replicate, List.getElem?_drop]
    split
    · exact he _ (by omega) (by omega)
    · rfl
  have s : ((ms.drop a).take h).Sublist ms := (List.take_sublist _ _).trans (List.drop_sublist _ _)
  have := s.count_le x
  rw [e, List.count_replicate_self] at this
  exact this
theorem two_count {α : Type} [DecidableEq α] {x y : α} (h : x ≠ y) : ∀ ms : List α, ms.count x + ms.count y ≤ ms.length
  | [] => by simp
  | a :: r => by
    have := two_count h r
    rw [List.count_cons, List.count_cons]
    simp -implicitDefEqProofs only [List.length_cons, beq_iff_eq]
    split <;> split
    · rename_i e1 e2; exact absurd (e1.symm.trans e2) h
    all_goals omega

abbrev LS (cs : List Str) : D := .list (LD cs)
/-- the name at the part's place -/
def nm (cs : List Str) (part : List Int) (k : Nat) : Str := cs.getD (part.getD k 0).toNat default
noncomputable def okO (cs : List Str) (part : List Int) : Bool := decide (srt part = ri 0 cs.length) && (List.range (part.length - 1)).all fun k => decide (nm cs part k ≠ nm cs part (k + 1))
theorem oc : ("order" : Str) ≠ "composer" := by decide +kernel
theorem co : ("composer" : Str) ≠ "order" := by decide +kernel
theorem so : ("orders" : Str) ≠ "order" := by decide +kernel
theorem sc : ("orders" : Str) ≠ "composer" := by decide +kernel
theorem perm_of {cs : List Str} {part : List Int} (h : srt part = ri 0 cs.length) : part.Perm (ri 0 cs.length) := h ▸ (srt_perm part).symm
theorem part_len {cs : List Str} {part : List Int} (h : srt part = ri 0 cs.length) : part.length = cs.length := by
  have := (perm_of h).length_eq
  simpa using this
theorem part_in {cs : List Str} {part : List Int} (h : srt part = ri 0 cs.length) {k : Nat} (hk : k < part.length) : 0 ≤ part.getD k 0 ∧ part.getD k 0 < cs.length := by
  have e : part.getD k 0 = part[k] := by rw [List.getD_eq_getElem?_getD, List.getElem?_eq_getElem hk]; rfl
  have := mem_ri.mp ((perm_of h).mem_iff.mp (List.getElem_mem hk))
  rw [e]; omega
theorem nm_idx {cs : List Str} {part : List Int} (h : srt part = ri 0 cs.length) {k : Nat} (hk : k < part.length) : (idxD (.list (LD part)) (.int (k : Int))).bind (fun y => idxD (LS cs) y) = some (.str (nm cs part k)) := by
  obtain ⟨h0, h1⟩ := part_in h hk
  have e1 : part[(k : Int).toNat]? = some (part.getD k 0) := by rw [Int.toNat_natCast, List.getD_eq_getElem?_getD, List.getElem?_eq_getElem hk]; rfl
  rw [idxD_L (by omega) e1]
  have hl : (part.getD k 0).toNat < cs.length := by omega
  have e2 : cs[(part.getD k 0).toNat]? = some (nm cs part k) := by
    unfold nm
    rw [List.getD_eq_getElem?_getD (i := (part.getD k 0).toNat), List.getElem?_eq_getElem hl]; rfl
  exact idxD_L h0 e2
theorem judge_order (cs : List Str) (part : List Int) (hn : cs.length ≤ 100) : d_judge_mixed (LS cs) (.tuple [.str "order", .list (LD part)]) = some (.bool (okO cs part)) := by
  unfold d_judge_mixed b_judge_mixed
  simp -implicitDefEqProofs only [b2, c2, iteM, nxt, orB, Option.bind_some, Option.map_some, lenL_L, lenL_T, neD_int, isB_b, List.length_cons, List.length_nil, un2_t, seqF_nx, eqD_self, neD_self, eqD_apart oc, oc, LD_len, sortF_int, int1_int]
  rw [rngF_i _ _ (by omega) (by omega) (by omega) (by omega) (by omega)]
  have e0 : ((cs.length : Int) - 0).toNat = cs.length := by omega
  simp -implicitDefEqProofs only [e0, Option.map_some, neD_Li, Option.bind_some, isB_b, decide_false, Bool.false_eq_true, if_false, seqF_nx, ne_eq, not_true_eq_false, show ¬ ((0 + 1 + 1 : Nat) : Int) ≠ 2 from by omega]
  by_cases h : srt part = ri 0 cs.length
  · have hl := part_len h
    simp -implicitDefEqProofs only [h, not_true_eq_false, decide_false, Bool.false_eq_true, if_false, seqF_nx, subD_int, Option.bind_some]
    rw [rng1D_i _ (by omega) (by omega)]
    simp -implicitDefEqProofs only [Option.bind_some]
    rw [compM_LDt (g := fun k : Int => decide (nm cs part k.toNat ≠ nm cs part (k.toNat + 1)))]
    · simp -implicitDefEqProofs only [Option.map_some, Option.bind_some, allL_LD, outD_rt, okO, h, decide_true, Bool.true_and]
      congr 2
      have e1 : ((part.length : Int) - 1).toNat = part.length - 1 := by omega
      rw [e1, ri, List.map_map, List.all_map]
      congr 1
      funext k
      simp
    · intro k hk
      obtain ⟨h0, h1⟩ := mem_ri.mp hk
      have hk1 : k.toNat + 1 < part.length := by omega
      have a1 := nm_idx h (show k.toNat < part.length by omega)
      have a2 := nm_idx h hk1
      rw [Int.toNat_of_nonneg h0] at a1
      rw [show ((k.toNat + 1 : Nat) : Int) = k + 1 by omega] at a2
      simp -implicitDefEqProofs only [turnC, Option.bind_some, if_true, tD_int, addD_int, a1, a2, neD_str, Option.map_some, tD_bool]
  · simp -implicitDefEqProofs only [h, okO, decide_true, decide_false, if_true, seqF_rt, outD_rt, Bool.false_and, Option.map_some, not_false_eq_true]
theorem judge_comp (cs : List Str) (x : Str) : d_judge_mixed (LS cs) (.tuple [.str "composer", .str x]) = some (.bool (decide ((cs.length : Int) + 1 < 2 * (cs.count x : Int)))) := by
  unfold d_judge_mixed b_judge_mixed
  simp -implicitDefEqProofs only [b2, c2, iteM, nxt, orB, Option.bind_some, Option.map_some, lenL_L, lenL_T, neD_int, isB_b, List.length_cons, List.length_nil, un2_t, seqF_nx, eqD_self, decide_true, if_true, LD_len, countD_str, mulD_int 2 _ (.inl (by decide)), addD_int, gtD_int, seqF_rt, outD_rt, decide_false, Bool.false_eq_true, if_false, ne_eq, not_true_eq_false, show ¬ ((0 + 1 + 1 : Nat) : Int) ≠ 2 from by omega]
theorem judge_short (cs : List Str) (ds : List D) (h : ds.length ≠ 2) : d_judge_mixed (LS cs) (.tuple ds) = some (.bool false) := by
  unfold d_judge_mixed b_judge_mixed
  have : (ds.length : Int) ≠ 2 := by omega
  simp -implicitDefEqProofs only [b2, c2, iteM, nxt, orB, Option.bind_some, Option.map_some, lenL_L, lenL_T, neD_int, isB_b, seqF_nx, seqF_rt, outD_rt, un2_t, eqD_self, neD_self, eqD_apart oc, List.length_cons, List.length_nil, this, decide_true, if_true, ne_eq, not_false_eq_true]
theorem judge_word (cs : List Str) (x : Str) (d : D) (h1 : x ≠ "composer") (h2 : x ≠ "order") : d_judge_mixed (LS cs) (.tuple [.str x, d]) = some (.bool false) := by
  unfold d_judge_mixed b_judge_mixed
  simp -implicitDefEqProofs only [b2, c2, iteM, nxt, orB, Option.bind_some, Option.map_some, lenL_L, lenL_T, neD_int, isB_b, seqF_nx, seqF_rt, outD_rt, un2_t, eqD_apart h1, neD_apart h2, List.length_cons, List.length_nil, h1, h2, decide_false, Bool.false_eq_true, if_false, ne_eq, not_true_eq_false, not_false_eq_true, decide_true, if_true, show ¬ ((0 + 1 + 1 : Nat) : Int) ≠ 2 from by omega]
theorem acc_order (cs : List Str) (part : List Int) (hn : cs.length ≤ 100) : d__law_accepts (LS cs) (.tuple [.str "order", .list (LD part)]) = some (.bool (okO cs part)) := by
  unfold d__law_accepts b__law_accepts
  simp -implicitDefEqProofs only [b2, c2, iteM, nxt, orB, Option.bind_some, Option.map_some, lenL_L, lenL_T, neD_int, isB_b, List.length_cons, List.length_nil, un2_t, seqF_nx, eqD_self, neD_self, eqD_apart oc, oc, LD_len, sortF_int, int1_int]
  rw [rngF_i _ _ (by omega) (by omega) (by omega) (by omega) (by omega)]
  have e0 : ((cs.length : Int) - 0).toNat = cs.length := by omega
  simp -implicitDefEqProofs only [e0, Option.map_some, neD_Li, Option.bind_some, isB_b, decide_false, Bool.false_eq_true, if_false, seqF_nx, ne_eq, not_true_eq_false, show ¬ ((0 + 1 + 1 : Nat) : Int) ≠ 2 from by omega]
  by_cases h : srt part = ri 0 cs.length
  · have hl := part_len h
    simp -implicitDefEqProofs only [h, not_true_eq_false, decide_false, Bool.false_eq_true, if_false, seqF_nx, subD_int, Option.bind_some]
    rw [rng1D_i _ (by omega) (by omega)]
    simp -implicitDefEqProofs only [Option.bind_some]
    rw [compM_LDf (p := fun k : Int => decide (nm cs part k.toNat = nm cs part (k.toNat + 1))) (g := fun k : Int => k)]
    · simp -implicitDefEqProofs only [Option.map_some, Option.bind_some, lenL_L, LD_len, eqD_int, outD_rt, okO, h, decide_true, Bool.true_and]
      congr 2
      have e1 : ((part.length : Int) - 1).toNat = part.length - 1 := by omega
      rw [e1, ri, Bool.eq_iff_iff, decide_eq_true_eq, List.all_eq_true]
      simp -implicitDefEqProofs only [List.map_id', List.filter_map, List.length_map, Int.natCast_eq_zero, List.length_eq_zero_iff, List.filter_eq_nil_iff, List.mem_range, Function.comp, decide_eq_true_eq]
      constructor
      · intro q k hk
        have := q k hk
        simpa using this
      · intro q k hk
        have := q k hk
        simpa using this
    · intro k hk
      obtain ⟨h0, h1⟩ := mem_ri.mp hk
      have hk1 : k.toNat + 1 < part.length := by omega
      have a1 := nm_idx h (show k.toNat < part.length by omega)
      have a2 := nm_idx h hk1
      rw [Int.toNat_of_nonneg h0] at a1
      rw [show ((k.toNat + 1 : Nat) : Int) = k + 1 by omega] at a2
      simp -implicitDefEqProofs only [turnC, Option.bind_some, tD_int, addD_int, a1, a2, eqD_str, Option.map_some, isB_b]
      split <;> rfl
  · simp -implicitDefEqProofs only [h, okO, decide_true, decide_false, if_true, seqF_rt, outD_rt, Bool.false_and, Option.map_some, not_false_eq_true]
theorem acc_comp (cs : List Str) (x : Str) : d__law_accepts (LS cs) (.tuple [.str "composer", .str x]) = some (.bool (decide ((cs.length : Int) + 1 < 2 * (cs.count x : Int)))) := by
  unfold d__law_accepts b__law_accepts
  have e : compM (turnC (fun d => some d) (fun name2 => Option.bind (eqD name2 (.str x)) isB) fun name2 => some name2) (LD cs) = some (LD ((cs.filter fun y => decide (y = x)).map id)) := compM_LDf fun y hy => by
    simp -implicitDefEqProofs only [turnC, Option.bind_some, tD_str, eqD_str, isB_b, Option.map_some, id]
    split <;> rfl
  have e2 : ((cs.filter fun y => decide (y = x)).map id).length = cs.count x := by
    rw [List.map_id, List.count_eq_countP, List.countP_eq_length_filter]
    congr 2
  simp -implicitDefEqProofs only [b2, c2, iteM, nxt, orB, Option.bind_some, Option.map_some, lenL_L, lenL_T, neD_int, isB_b, List.length_cons, List.length_nil, un2_t, seqF_nx, eqD_self, decide_true, if_true, itemsD_L, e, LD_len, e2, mulD_int 2 _ (.inl (by decide)), addD_int, gtD_int, seqF_rt, outD_rt, decide_false, Bool.false_eq_true, if_false, ne_eq, not_true_eq_false, show ¬ ((0 + 1 + 1 : Nat) : Int) ≠ 2 from by omega]
theorem acc_short (cs : List Str) (ds : List D) (h : ds.length ≠ 2) : d__law_accepts (LS cs) (.tuple ds) = some (.bool false) := by
  unfold d__law_accepts b__law_accepts
  have : (ds.length : Int) ≠ 2 := by omega
  simp -implicitDefEqProofs only [b2, c2, iteM, nxt, orB, Option.bind_some, Option.map_some, lenL_L, lenL_T, neD_int, isB_b, seqF_nx, seqF_rt, outD_rt, un2_t, eqD_self, neD_self, eqD_apart oc, List.length_cons, List.length_nil, this, decide_true, if_true, ne_eq, not_false_eq_true]
theorem acc_word (cs : List Str) (x : Str) (d : D) (h1 : x ≠ "composer") (h2 : x ≠ "order") : d__law_accepts (LS cs) (.tuple [.str x, d]) = some (.bool false) := by
  unfold d__law_accepts b__law_accepts
  simp -implicitDefEqProofs only [b2, c2, iteM, nxt, orB, Option.bind_some, Option.map_some, lenL_L, lenL_T, neD_int, isB_b, seqF_nx, seqF_rt, outD_rt, un2_t, eqD_apart h1, neD_apart h2, List.length_cons, List.length_nil, h1, h2, decide_false, Bool.false_eq_true, if_false, ne_eq, not_true_eq_false, not_false_eq_true, decide_true, if_true, show ¬ ((0 + 1 + 1 : Nat) : Int) ≠ 2 from by omega]
/-- an order that is right: no name stands too often -/
theorem okO_iff {cs : List Str} {part : List Int} : okO cs part = true ↔ part.Perm (ri 0 cs.length) ∧ ∀ k, k + 1 < part.length → nm cs part k ≠ nm cs part (k + 1) := by
  unfold okO
  rw [Bool.and_eq_true, decide_eq_true_eq, srt_eq (ri_sorted _ _), List.all_eq_true]
  simp -implicitDefEqProofs only [List.mem_range, decide_eq_true_eq]
  constructor
  · rintro ⟨a, b⟩; exact ⟨a, fun k hk => b k (by omega)⟩
  · rintro ⟨a, b⟩; exact ⟨a, fun k hk => b k (by omega)⟩
theorem nm_map (cs : List Str) : (ri 0 cs.length).map (fun i => cs.getD i.toNat default) = cs := by
  apply List.ext_getElem?
  intro i
  unfold ri
  rw [List.map_map, List.getElem?_map]
  by_cases h : i < cs.length
  · rw [List.getElem?_range h, List.getElem?_eq_getElem h]
    simp [h]
  · rw [List.getElem?_eq_none (by simpa using h), List.getElem?_eq_none (by omega)]; rfl
theorem okO_few {cs : List Str} {part : List Int} (h : okO cs part = true) (x : Str) : 2 * cs.count x ≤ cs.length + 1 := by
  obtain ⟨h1, h2⟩ := okO_iff.mp h
  have p : (part.map fun i => cs.getD i.toNat default).Perm cs := by
    have := h1.map fun i => cs.getD i.toNat default
    rwa [nm_map] at this
  rw [← p.count_eq, ← p.length_eq]
  refine pig x _ fun k a b ha hb => ?_
  rw [List.getElem?_map] at ha hb
  obtain ⟨u, hu, rfl⟩ := Option.map_eq_some_iff.mp ha
  obtain ⟨w, hw, rfl⟩ := Option.map_eq_some_iff.mp hb
  have hk := (List.getElem?_eq_some_iff.mp hw).1
  have := h2 k hk
  unfold nm at this
  rwa [List.getD_eq_getElem?_getD (l := part), List.getD_eq_getElem?_getD (l := part), hu, hw] at this
end Wk0

namespace Wk0
open PySem L2 PySem.Spec PyProof.Rows PySem.W PySem.SeqAt Dl
abbrev RK := T3 Int Str Int
noncomputable def rks (cs : List Str) : List RK := (cs.zipIdx.map fun p => ((p.2 : Int), p.1)).map fun p => T3.mk (-(cs.count p.2 : Int)) p.2 p.1
theorem rks_at (cs : List Str) (i : Nat) : (rks cs)[i]? = cs[i]?.map fun x => T3.mk (-(cs.count x : Int)) x (i : Int) := by
  unfold rks
  rw [List.getElem?_map, List.getElem?_map, List.getElem?_zipIdx]
  cases cs[i]? <;> simp
theorem ranked_ok (cs : List Str) (hn : cs.length ≤ 100) : d_ranked_pieces (LS cs) = some (LD ((srt (rks cs)).map T3.c)) := by
  unfold d_ranked_pieces b_ranked_pieces
  have e1 : enumD [LS cs] = some (LD (cs.zipIdx.map fun p => ((p.2 : Int), p.1))) := by
    show fit _ (enumL (LD cs)) = _
    rw [enumL_LD, fit_ok (by rw [LD_len]; omega)]
  simp -implicitDefEqProofs only [b2, c2, Option.bind_some, e1]
  rw [compM_LDt (g := fun p : Int × Str => T3.mk (-(cs.count p.2 : Int)) p.2 p.1)]
  · have e2 : sortF [.list (LD (rks cs))] = some (LD (srt (rks cs))) := sortF_LD _ (Sortable.tuples fun b => ⟨_, _, rfl⟩) (by decide)
    unfold rks at e2
    simp -implicitDefEqProofs only [nxt, Option.map_some, seqF_nx, e2, Option.bind_some, itemsD_L]
    rw [compM_LDt (g := fun p : RK => p.c)]
    · rfl
    · intro t ht
      simp -implicitDefEqProofs only [turnC, tD_t3, un3_t, Option.bind_some, if_true, Option.map_some]
  · rintro ⟨i, x⟩ hp
    simp -implicitDefEqProofs only [turnC, tD_pair, un2_t, Option.bind_some, if_true, tD_str, countD_str, negD_int, List.length_cons, List.length_nil, Option.map_some, tD_t3, tD_int]
    rw [fit_ok (by omega)]; rfl
section
variable (cs : List Str)
theorem s_len : (srt (rks cs)).length = cs.length := by
  rw [(srt_perm (rks cs)).length_eq]
  simp [rks]
theorem s_mem {t : RK} (h : t ∈ srt (rks cs)) : t.a = -(cs.count t.b : Int) ∧ 0 ≤ t.c ∧ t.c < cs.length ∧ cs[t.c.toNat]? = some t.b := by
  have := (srt_perm (rks cs)).mem_iff.mp h
  obtain ⟨i, hi⟩ := List.mem_iff_getElem?.mp this
  rw [rks_at] at hi
  obtain ⟨x, hx, rfl⟩ := Option.map_eq_some_iff.mp hi
  have := (List.getElem?_eq_some_iff.mp hx).1
  exact ⟨rfl, by simp, by simp only []; omega, by simpa using hx⟩
theorem s_names : ((srt (rks cs)).map T3.b).Perm cs := by
  refine ((srt_perm (rks cs)).map _).trans (.of_eq ?_)
  apply List.ext_getElem?
  intro i
  rw [List.getElem?_map, rks_at]
  cases cs[i]? <;> simp
theorem s_nums : ((srt (rks cs)).map T3.c).Perm (ri 0 cs.length) := by
  refine ((srt_perm (rks cs)).map _).trans (.of_eq ?_)
  apply List.ext_getElem?
  intro i
  rw [List.getElem?_map, rks_at]
  by_cases h : i < cs.length
  · rw [List.getElem?_eq_getElem h, ri_at h]; simp
  · rw [List.getElem?_eq_none (by omega), List.getElem?_eq_none (by rw [ri_len]; omega)]; rfl
theorem s_le {i j : Nat} {x y : RK} (hij : i < j) (hx : (srt (rks cs))[i]? = some x) (hy : (srt (rks cs))[j]? = some y) : x.a ≤ y.a ∧ (x.a = y.a → dataLt (.str y.b) (.str x.b) = false) := by
  obtain ⟨h1, e1⟩ := List.getElem?_eq_some_iff.mp hx
  obtain ⟨h2, e2⟩ := List.getElem?_eq_some_iff.mp hy
  have h := List.pairwise_iff_getElem.mp (srt_sorted (rks cs)) i j h1 h2 hij
  rw [e1, e2, dataLt_t3] at h
  by_cases ea : y.a = x.a
  · rw [if_pos ea] at h
    refine ⟨by omega, fun _ => ?_⟩
    by_cases eb : y.b = x.b
    · rw [eb, dataLt_str]; simp
    · rw [if_neg eb] at h; exact h
  · rw [if_neg ea, tD_int, tD_int, dataLt_int] at h
    have := of_decide_eq_false h
    exact ⟨by omega, fun e => absurd e.symm ea⟩
theorem s_many {i j : Nat} {x y : RK} (hij : i ≤ j) (hx : (srt (rks cs))[i]? = some x) (hy : (srt (rks cs))[j]? = some y) : cs.count y.b ≤ cs.count x.b := by
  rcases Nat.lt_or_ge i j with h | h
  · have h1 := (s_le cs h hx hy).1
    rw [(s_mem cs (List.mem_of_getElem? hx)).1, (s_mem cs (List.mem_of_getElem? hy)).1] at h1
    omega
  · have : i = j := by omega
    subst this
    rw [hx] at hy; cases hy; exact Nat.le_refl _
theorem s_group {i j l : Nat} {x y z : RK} (hij : i ≤ j) (hjl : j ≤ l) (hx : (srt (rks cs))[i]? = some x) (hy : (srt (rks cs))[j]? = some y) (hz : (srt (rks cs))[l]? = some z) (e : x.b = z.b) : y.b = x.b := by
  rcases Nat.lt_or_ge i j with h | h
  · rcases Nat.lt_or_ge j l with h' | h'
    · have a := s_le cs h hx hy
      have b := s_le cs h' hy hz
      have e1 := (s_mem cs (List.mem_of_getElem? hx)).1
      have e3 := (s_mem cs (List.mem_of_getElem? hz)).1
      rw [← e] at e3
      have h1 : x.a = y.a := by omega
      have h2 : y.a = z.a := by omega
      have p := a.2 h1
      have q := b.2 h2
      rw [← e] at q
      exact dataLt_str_tri _ _ p q
    · have : j = l := by omega
      subst this; rw [hy] at hz; cases hz; exact e.symm
  · have : i = j := by omega
    subst this; rw [hx] at hy; cases hy; rfl
/-- a run of one name -/
theorem s_run {i h : Nat} {x y : RK} (hx : (srt (rks cs))[i]? = some x) (hy : (srt (rks cs))[i + h]? = some y) (e : x.b = y.b) : h + 1 ≤ cs.count x.b := by
  rw [← (s_names cs).count_eq]
  have hl := (List.getElem?_eq_some_iff.mp hy).1
  refine count_run _ _ i (h + 1) (by rw [List.length_map]; omega) fun k h1 h2 => ?_
  have hk : k < (srt (rks cs)).length := by omega
  rw [List.getElem?_map, List.getElem?_eq_getElem hk]
  exact congrArg some (s_group cs h1 (by omega) hx (List.getElem?_eq_getElem hk) hy e)
end
def pos (h k : Nat) : Nat := if k < h then 2 * k else 2 * (k - h) + 1
def inv (h p : Nat) : Nat := if p % 2 = 0 then p / 2 else h + p / 2
theorem pos_lt {n k : Nat} (hk : k < n) : pos ((n + 1) / 2) k < n := by unfold pos; split <;> omega
theorem inv_lt {n p : Nat} (hk : p < n) : inv ((n + 1) / 2) p < n := by unfold inv; split <;> omega
theorem pos_inv {n p : Nat} (hk : p < n) : pos ((n + 1) / 2) (inv ((n + 1) / 2) p) = p := by unfold inv pos; split <;> split <;> omega
theorem pos_inj {h k l : Nat} (e : pos h k = pos h l) : k = l := by unfold pos at e; split at e <;> split at e <;> omega
theorem set_LD {α : Type} [DecidableEq α] [Datum α] (xs : List α) (i : Nat) (x : α) : (LD xs).set i (Datum.toD x) = LD (xs.set i x) := by
  unfold LD; rw [List.map_set]
theorem find_ok (cs : List Str) (h1 : 1 ≤ cs.length) (hn : cs.length ≤ 100) : ∃ x, x ∈ cs ∧ (∀ y, cs.count y ≤ cs.count x) ∧
    ((cs.length + 1 < 2 * cs.count x ∧ d_find_mixed (LS cs) = some (.tuple [.str "composer", .str x])) ∨
     (2 * cs.count x ≤ cs.length + 1 ∧ ∃ o : List Int, d_find_mixed (LS cs) = some (.tuple [.str "order", .list (LD o)]) ∧ okO cs o = true)) := by
  have hl := s_len cs
  have h0 : 0 < (srt (rks cs)).length := by omega
  obtain ⟨x0, hx0⟩ : ∃ x0, (srt (rks cs))[0]? = some x0 := ⟨_, List.getElem?_eq_getElem h0⟩
  have m0 := s_mem cs (List.mem_of_getElem? hx0)
  have hmax : ∀ y, cs.count y ≤ cs.count x0.b := by
    intro y
    by_cases hy : y ∈ cs
    · obtain ⟨t, ht, rfl⟩ := List.mem_map.mp ((s_names cs).mem_iff.mpr hy)
      obtain ⟨j, hj⟩ := List.mem_iff_getElem?.mp ht
      exact s_many cs (Nat.zero_le j) hx0 hj
    · rw [List.count_eq_zero_of_not_mem hy]; omega
  refine ⟨x0.b, List.mem_of_getElem? m0.2.2.2, hmax, ?_⟩
  have e1 : idxD (.list (LD ((srt (rks cs)).map T3.c))) (.int 0) = some (.int x0.c) := idxD_L (by omega) (by rw [List.getElem?_map]; simp [hx0])
  have e2 : idxD (LS cs) (.int x0.c) = some (.str x0.b) := idxD_L m0.2.1 m0.2.2.2
  unfold d_find_mixed b_find_mixed
  simp -implicitDefEqProofs only [b2, c2, iteM, nxt, Option.bind_some, Option.map_some, f1_one, ranked_ok cs hn, seqF_nx, e1, e2, countD_str, mulD_int 2 _ (.inl (by decide)), lenL_L, LD_len, List.length_map, hl, addD_int, gtD_int, isB_b, List.length_cons, List.length_nil]
  rw [fit_ok (by omega)]
  by_cases hc : (cs.length : Int) + 1 < 2 * (cs.count x0.b : Int)
  · refine .inl ⟨by omega, ?_⟩
    rw [if_pos (decide_eq_true hc), Option.map_some, seqF_rt, outD_rt]
  · refine .inr ⟨by omega, ?_⟩
    rw [if_neg (by rw [decide_eq_true_eq]; exact hc)]
    have hh : ((cs.length : Int) + 1) / 2 = (((cs.length + 1) / 2 : Nat) : Int) := by omega
    have e3 : compM (turnC (fun d => some d) (fun x5 => some true) fun x5 => some (PyData.int 0)) (LD ((srt (rks cs)).map T3.c)) = some (LD (((srt (rks cs)).map T3.c).map fun _ => (0 : Int))) := compM_LDt fun x _ => rfl
    have e4 : enumD [.list (LD ((srt (rks cs)).map T3.c))] = some (LD (((srt (rks cs)).map T3.c).zipIdx.map fun p => ((p.2 : Int), p.1))) := by
      show fit _ (enumL _) = _
      rw [enumL_LD, fit_ok (by rw [LD_len, List.length_map]; omega)]
    simp -implicitDefEqProofs only [seqF_nx, fdivD_int _ 2 (by omega) (by omega), hh, Option.map_some, itemsD_L, Option.bind_some, e3, e4]
    have hR : ∀ i : Nat, i < cs.length → ∃ t, (srt (rks cs))[i]? = some t ∧ ((srt (rks cs)).map T3.c)[i]? = some t.c := fun i hi => ⟨_, List.getElem?_eq_getElem (by omega), by rw [List.getElem?_map, List.getElem?_eq_getElem (by omega)]; rfl⟩
    obtain ⟨l', e, o, rfl, ho, hp⟩ := forF_LD (M := Unit) (F := fun d (l6 : List D) => (un2 d).bind fun v7 => seqF (nxt (setM l6 (some v7.2) (iteM ((b2 (some v7.1) (some (.int (((cs.length + 1) / 2 : Nat) : Int))) ltD).bind isB) (b2 (some (.int 2)) (some v7.1) mulD) (b2 (b2 (some (.int 2)) (b2 (some v7.1) (some (.int (((cs.length + 1) / 2 : Nat) : Int))) subD) mulD) (some (.int 1)) addD)))) fun order8 => (some (.nx order8) : Option (Fl (List D) (List D))))
      (xs := ((srt (rks cs)).map T3.c).zipIdx.map fun p => ((p.2 : Int), p.1)) (l := LD (((srt (rks cs)).map T3.c).map fun _ => (0 : Int)))
      (fun i l => ∃ o : List Int, l = LD o ∧ o.length = cs.length ∧ ∀ k, k < i → k < cs.length → o[pos ((cs.length + 1) / 2) k]? = ((srt (rks cs)).map T3.c)[k]?)
      ⟨_, rfl, by simp [hl], fun k h => by omega⟩
      (fun i p l hx ⟨o, e, ho, hp⟩ => by
        subst e
        rw [List.getElem?_map, List.getElem?_zipIdx] at hx
        obtain ⟨q, hq, rfl⟩ := Option.map_eq_some_iff.mp hx
        obtain ⟨r, hr, rfl⟩ := Option.map_eq_some_iff.mp hq
        have hi : i < cs.length := by have := (List.getElem?_eq_some_iff.mp hr).1; rw [List.length_map] at this; omega
        simp -implicitDefEqProofs only [b2, iteM, nxt, tD_pair, un2_t, Option.bind_some, tD_int, Nat.zero_add, ltD_int, isB_b, mulD_int 2 _ (.inl (by decide)), subD_int, addD_int]
        have e5 : (if decide ((i : Int) < (((cs.length + 1) / 2 : Nat) : Int)) = true then some (PyData.int (2 * (i : Int))) else some (PyData.int (2 * ((i : Int) - (((cs.length + 1) / 2 : Nat) : Int)) + 1))) = some (PyData.int ((pos ((cs.length + 1) / 2) i : Nat) : Int)) := by
          unfold pos
          by_cases hlt : i < (cs.length + 1) / 2
          · rw [if_pos hlt, if_pos (by rw [decide_eq_true_eq]; omega)]
            congr 2
          · rw [if_neg hlt, if_neg (by rw [decide_eq_true_eq]; omega)]
            congr 2
            omega
        rw [e5]
        have hlt := pos_lt hi
        have e6 : setM (LD o) (some (PyData.int r)) (some (PyData.int ((pos ((cs.length + 1) / 2) i : Nat) : Int))) = some (LD (o.set (pos ((cs.length + 1) / 2) i) r)) := by
          simp -implicitDefEqProofs only [setM, Option.bind_some, ixN, LD_len, ho]
          rw [if_pos (by omega), if_pos (by omega), Option.map_some, Int.toNat_natCast]
          exact congrArg some (set_LD o _ r)
        rw [e6]
        simp -implicitDefEqProofs only [Option.map_some, seqF_nx]
        refine ⟨_, rfl, _, rfl, by rw [List.length_set]; exact ho, fun k hk hkn => ?_⟩
        rw [List.getElem?_set]
        by_cases ek : pos ((cs.length + 1) / 2) i = pos ((cs.length + 1) / 2) k
        · have := pos_inj ek
          subst this
          rw [if_pos rfl, if_pos (by omega), hr]
        · rw [if_neg ek]
          have : k ≠ i := fun e => ek (by rw [e])
          exact hp k (by omega) hkn)
    simp -implicitDefEqProofs only [b2, iteM, nxt, Option.bind_some] at e
    rw [e]
    simp -implicitDefEqProofs only [seqF_nx, Option.bind_some, List.length_cons, List.length_nil]
    rw [fit_ok (by omega), Option.map_some, outD_rt]
    refine ⟨o, rfl, ?_⟩
    rw [List.length_map, List.length_zipIdx, List.length_map, hl] at hp
    have hv : ∀ p, p < cs.length → o[p]? = ((srt (rks cs)).map T3.c)[inv ((cs.length + 1) / 2) p]? := fun p hpn => by
      have := hp _ (inv_lt hpn) (inv_lt hpn)
      rwa [pos_inv hpn] at this
    have hnm : ∀ p, p < cs.length → ∃ t, (srt (rks cs))[inv ((cs.length + 1) / 2) p]? = some t ∧ o[p]? = some t.c ∧ nm cs o p = t.b := fun p hpn => by
      obtain ⟨t, t1, t2⟩ := hR _ (inv_lt hpn)
      have e := (hv p hpn).trans t2
      refine ⟨t, t1, e, ?_⟩
      unfold nm
      rw [List.getD_eq_getElem?_getD (l := o), e, List.getD_eq_getElem?_getD]
      have := (s_mem cs (List.mem_of_getElem? t1)).2.2.2
      show (cs[t.c.toNat]?).getD default = _
      rw [this]; rfl
    rw [okO_iff]
    constructor
    · have hnd : ((srt (rks cs)).map T3.c).Nodup := (s_nums cs).nodup_iff.mpr (ri_nodup _ _)
      refine perm_sub ?_ (fun x hx => ?_) (by rw [ri_len]; omega)
      · rw [List.Nodup, List.pairwise_iff_getElem]
        intro p q hpn hqn hpq e
        have a1 := hv p (by omega)
        have a2 := hv q (by omega)
        rw [List.getElem?_eq_getElem hpn] at a1
        rw [List.getElem?_eq_getElem hqn, ← e, a1] at a2
        have b1 : inv ((cs.length + 1) / 2) p < ((srt (rks cs)).map T3.c).length := by rw [List.length_map, hl]; exact inv_lt (by omega)
        have b2 : inv ((cs.length + 1) / 2) q < ((srt (rks cs)).map T3.c).length := by rw [List.length_map, hl]; exact inv_lt (by omega)
        have c := (List.getElem?_inj b1 hnd).mp a2
        have d1 := pos_inv (show p < cs.length by omega)
        have d2 := pos_inv (show q < cs.length by omega)
        rw [c, d2] at d1
        omega
      · obtain ⟨p, hpx⟩ := List.mem_iff_getElem?.mp hx
        have hpn := (List.getElem?_eq_some_iff.mp hpx).1
        rw [hv p (by omega)] at hpx
        exact (s_nums cs).mem_iff.mp (List.mem_of_getElem? hpx)
    · intro p hpn
      obtain ⟨t, t1, _, t3⟩ := hnm p (by omega)
      obtain ⟨u, u1, _, u3⟩ := hnm (p + 1) (by omega)
      rw [t3, u3]
      intro e
      have hfew := hmax t.b
      have hb : 2 * cs.count x0.b ≤ cs.length + 1 := by omega
      by_cases par : p % 2 = 0
      · have i1 : inv ((cs.length + 1) / 2) p = p / 2 := by unfold inv; rw [if_pos par]
        have i2 : inv ((cs.length + 1) / 2) (p + 1) = p / 2 + (cs.length + 1) / 2 := by unfold inv; rw [if_neg (by omega)]; omega
        rw [i1] at t1; rw [i2] at u1
        have := s_run cs t1 u1 e
        omega
      · have i1 : inv ((cs.length + 1) / 2) p = p / 2 + 1 + ((cs.length + 1) / 2 - 1) := by unfold inv; rw [if_neg par]; omega
        have i2 : inv ((cs.length + 1) / 2) (p + 1) = p / 2 + 1 := by unfold inv; rw [if_pos (by omega)]; omega
        rw [i1] at t1; rw [i2] at u1
        have hr := s_run cs u1 t1 e.symm
        rw [← e] at hr
        by_cases ex : x0.b = u.b
        · have hr2 := s_run cs (i := 0) (h := p / 2 + 1 + ((cs.length + 1) / 2 - 1)) hx0 (by rw [Nat.zero_add]; exact t1) (ex.trans e.symm)
          omega
        · have := two_count ex cs
          rw [← e] at this
          have hx0c := hmax t.b
          -- the first name's run ends before this one starts
          have hrun : cs.count x0.b ≤ p / 2 + 1 := by
            rw [← (s_names cs).count_eq]
            have e7 : (srt (rks cs)).map T3.b = ((srt (rks cs)).map T3.b).take (p / 2 + 1) ++ ((srt (rks cs)).map T3.b).drop (p / 2 + 1) := (List.take_append_drop _ _).symm
            rw [e7, List.count_append]
            have e8 : (((srt (rks cs)).map T3.b).drop (p / 2 + 1)).count x0.b = 0 := by
              apply List.count_eq_zero_of_not_mem
              intro hm
              obtain ⟨k, hk⟩ := List.mem_iff_getElem?.mp hm
              rw [List.getElem?_drop, List.getElem?_map] at hk
              obtain ⟨w, hw, hwb⟩ := Option.map_eq_some_iff.mp hk
              exact ex (s_group cs (Nat.zero_le _) (by omega) hx0 u1 hw hwb.symm).symm
            have e9 := List.count_le_length (a := x0.b) (l := ((srt (rks cs)).map T3.b).take (p / 2 + 1))
            rw [List.length_take] at e9
            omega
          omega
end Wk0

/-! The clean orders: one text for k48, k49, k50. -/
namespace Wk0
open PySem L2 PySem.Spec PyProof.Rows PySem.W PySem.SeqAt Dl
abbrev mayP (bs : List (Int × Int)) (a b : Int) : Prop := ((if b < a then b else a), (if b > a then b else a)) ∉ bs
theorem may_ok (bs : List (Int × Int)) (a b : Int) : d__law_may (.list (LD bs)) (.int a) (.int b) = some (.bool (decide (mayP bs a b))) := by
  unfold d__law_may b__law_may
  have h := notInD_t ((if b < a then b else a), (if b > a then b else a)) bs (by decide)
  rw [tD_pair, tD_int, tD_int] at h
  simp -implicitDefEqProofs only [b2, c2, Option.bind_some, minL, maxL, fit_ok, List.length_cons, List.length_nil, Nat.reduceAdd, Nat.reduceLeDiff, h, Option.map_some, outD_rt]
  exact congrArg (fun b => some (PyData.bool b)) (decide_eq_decide.mpr Iff.rfl)
def lastI (row : List Int) : Int := row.getD (row.length - 1) 0
def stepR (n : Nat) (bs : List (Int × Int)) (row : List Int) : List (List Int) := ((ri 0 n).filter fun k => decide (k ∉ row) && decide (mayP bs (lastI row) k)).map fun k => row ++ [k]
def rowsN (n : Nat) (bs : List (Int × Int)) : Nat → List (List Int)
  | 0 => (ri 0 n).map fun k => [k]
  | t + 1 => (rowsN n bs t).flatMap (stepR n bs)
structure OkRow (n : Nat) (bs : List (Int × Int)) (row : List Int) : Prop where
  nd : row.Nodup
  rg : ∀ x ∈ row, 0 ≤ x ∧ x < n
  ad : ∀ k a b, row[k]? = some a → row[k + 1]? = some b → mayP bs a b
theorem stepR_len (n : Nat) (bs : List (Int × Int)) (row : List Int) : (stepR n bs row).length ≤ n := by
  unfold stepR
  rw [List.length_map]
  have := List.length_filter_le (fun k => decide (k ∉ row) && decide (mayP bs (lastI row) k)) (ri 0 n)
  rwa [ri_len] at this
theorem flat_len {α β : Type} {f : α → List β} {m : Nat} (h : ∀ x, (f x).length ≤ m) : ∀ xs : List α, (xs.flatMap f).length ≤ xs.length * m
  | [] => by simp
  | x :: r => by
    have h1 := h x
    have h2 := flat_len h r
    rw [List.flatMap_cons, List.length_append, List.length_cons, Nat.add_mul]
    omega
theorem rows_len (n : Nat) (bs : List (Int × Int)) : ∀ t, (rowsN n bs t).length ≤ n ^ (t + 1)
  | 0 => by simp [rowsN]
  | t + 1 => by
    have h1 := flat_len (stepR_len n bs) (rowsN n bs t)
    have h2 := rows_len n bs t
    have h3 : (rowsN n bs t).length * n ≤ n ^ (t + 1) * n := Nat.mul_le_mul_right _ h2
    rw [Nat.pow_succ]
    exact Nat.le_trans h1 h3
theorem mem_rows {n : Nat} {bs : List (Int × Int)} : ∀ {t : Nat} {row : List Int}, row ∈ rowsN n bs t ↔ row.length = t + 1 ∧ OkRow n bs row
  | 0, row => by
    unfold rowsN
    rw [List.mem_map]
    constructor
    · rintro ⟨k, hk, rfl⟩
      have := mem_ri.mp hk
      refine ⟨rfl, by simp, ?_, ?_⟩
      · intro x hx
        rw [List.mem_singleton.mp hx]; omega
      · intro k a b _ hb
        simp at hb
    · rintro ⟨h1, h2⟩
      match row, h1, h2 with
      | [k], _, h2 =>
        have := h2.rg k (.head _)
        exact ⟨k, mem_ri.mpr (by omega), rfl⟩
  | t + 1, row => by
    unfold rowsN
    rw [List.mem_flatMap]
    constructor
    · rintro ⟨r, hr, hm⟩
      obtain ⟨h1, h2⟩ := mem_rows.mp hr
      unfold stepR at hm
      obtain ⟨k, hk, rfl⟩ := List.mem_map.mp hm
      obtain ⟨hk1, hk2⟩ := List.mem_filter.mp hk
      rw [Bool.and_eq_true, decide_eq_true_eq, decide_eq_true_eq] at hk2
      have := mem_ri.mp hk1
      refine ⟨by simp [h1], ?_, ?_, ?_⟩
      · rw [List.nodup_append]
        refine ⟨h2.nd, by simp, fun a ha b hb e => ?_⟩
        rw [List.mem_singleton.mp hb] at e
        exact hk2.1 (e ▸ ha)
      · intro x hx
        rcases List.mem_append.mp hx with hx | hx
        · exact h2.rg x hx
        · rw [List.mem_singleton.mp hx]; omega
      · intro j a b ha hb
        have hjl := (List.getElem?_eq_some_iff.mp hb).1
        rw [List.length_append, List.length_singleton] at hjl
        rw [List.getElem?_append_left (by omega)] at ha
        by_cases hj : j + 1 < r.length
        · rw [List.getElem?_append_left hj] at hb
          exact h2.ad j a b ha hb
        · have ej : j + 1 = r.length := by omega
          rw [List.getElem?_append_right (by omega), ej, Nat.sub_self] at hb
          cases hb
          have : lastI r = a := by
            unfold lastI
            rw [← ej, Nat.add_sub_cancel, List.getD_eq_getElem?_getD, ha]; rfl
          rw [← this]
          exact hk2.2
    · rintro ⟨h1, h2⟩
      have hne : row ≠ [] := by intro e; rw [e] at h1; simp at h1
      have e := List.dropLast_concat_getLast hne
      have hl : row.dropLast.length = t + 1 := by rw [List.length_dropLast, h1]; rfl
      have hat : ∀ i, i < t + 1 → row.dropLast[i]? = row[i]? := fun i hi => by
        have h3 : (row.dropLast ++ [row.getLast hne])[i]? = row.dropLast[i]? := List.getElem?_append_left (by omega)
        rw [e] at h3
        exact h3.symm
      have hlast : row[t + 1]? = some (row.getLast hne) := by
        have h3 : (row.dropLast ++ [row.getLast hne])[t + 1]? = some (row.getLast hne) := by
          rw [List.getElem?_append_right (by omega), hl, Nat.sub_self]; rfl
        rwa [e] at h3
      refine ⟨row.dropLast, mem_rows.mpr ⟨hl, h2.nd.sublist (List.dropLast_sublist _), fun x hx => h2.rg x (List.dropLast_subset _ hx), fun k a b ha hb => ?_⟩, ?_⟩
      · have hb1 := (List.getElem?_eq_some_iff.mp hb).1
        rw [hat _ (by omega)] at ha hb
        exact h2.ad k a b ha hb
      · unfold stepR
        rw [List.mem_map]
        refine ⟨row.getLast hne, List.mem_filter.mpr ⟨mem_ri.mpr (by have := h2.rg _ (List.getLast_mem hne); omega), ?_⟩, e⟩
        rw [Bool.and_eq_true, decide_eq_true_eq, decide_eq_true_eq]
        constructor
        · intro hm
          have := h2.nd
          rw [← e, List.nodup_append] at this
          exact this.2.2 _ hm _ (List.mem_singleton.mpr rfl) rfl
        · have h4 : row.dropLast[t]? = row[t]? := hat t (by omega)
          have h5 : t < row.dropLast.length := by omega
          have h6 : lastI row.dropLast = row.dropLast[t] := by
            unfold lastI
            rw [hl, Nat.add_sub_cancel, List.getD_eq_getElem?_getD, List.getElem?_eq_getElem h5]; rfl
          rw [h6]
          rw [List.getElem?_eq_getElem h5] at h4
          exact h2.ad t _ _ h4.symm hlast
theorem LD_sing (k : Int) : ([PyData.int k] : List D) = LD [k] := rfl
theorem clean_ok (n : Nat) (h1 : 1 ≤ n) (hn : n ≤ 8) (bs : List (Int × Int)) : d__law_clean_orders (.int (n : Int)) (.list (LD bs)) = some (.list (LD (rowsN n bs (n - 1)))) := by
  have hr : rng1D [.int (n : Int)] = some (LD (ri 0 n)) := rng1D_n n (by omega)
  have hr2 : rng1D [.int ((n : Int) - 1)] = some (LD (ri 0 (n - 1))) := by
    have := rng1D_n (n - 1) (by omega)
    rwa [show ((n - 1 : Nat) : Int) = (n : Int) - 1 by omega] at this
  have hp : ∀ t, t + 1 ≤ n → n ^ (t + 1) ≤ 16777216 := fun t ht => Nat.le_trans (Nat.pow_le_pow_right (by omega) ht) (by
    have : n ^ n ≤ 8 ^ 8 := Nat.le_trans (Nat.pow_le_pow_left hn n) (Nat.pow_le_pow_right (by omega) hn)
    exact this)
  unfold d__law_clean_orders b__law_clean_orders
  have e0 : compM (turnC (fun d => some d) (fun k2 => some true) fun k2 => some (PyData.list [k2])) (LD (ri 0 n)) = some (LD ((ri 0 n).map fun k => [k])) := compM_LDt fun x _ => rfl
  simp -implicitDefEqProofs only [b2, c2, nxt, Option.bind_some, hr, hr2, fit_ok, List.length_cons, List.length_nil, Nat.reduceAdd, Nat.reduceLeDiff, e0, Option.map_some, seqF_nx, subD_int]
  refine (congrArg outD (seqF_gv (gv_for (fun i l => l = .list (LD (rowsN n bs i))) rfl fun t x l hx e => ?_) fun l e => ?_)).trans (b := outD (some (.rt (.list (LD (rowsN n bs (n - 1))))))) rfl
  · subst e
    have ht : t < n - 1 := by have := (List.getElem?_eq_some_iff.mp hx).1; simpa using this
    have hlen := rows_len n bs t
    have hpt := hp t (by omega)
    have hpt' := hp (t + 1) (by omega)
    rw [Nat.pow_succ] at hpt'
    simp -implicitDefEqProofs only [Option.bind_some, seqF_nx, itemsD_L]
    refine gv_gv (gv_for (fun i l => l = .list (LD (((rowsN n bs t).take i).flatMap (stepR n bs)))) rfl fun i row l hrow e => ?_) fun l e => ?_
    · subst e
      obtain ⟨hrl, hok⟩ := mem_rows.mp (List.mem_of_getElem? hrow)
      have hil := (List.getElem?_eq_some_iff.mp hrow).1
      have hlast : idxD (.list (LD row)) (.int ((row.length : Int) - 1)) = some (.int (lastI row)) := by
        refine idxD_L (x := lastI row) (by omega) ?_
        have e : ((row.length : Int) - 1).toNat = row.length - 1 := by omega
        rw [e]
        unfold lastI
        rw [List.getD_eq_getElem?_getD, List.getElem?_eq_getElem (by omega)]; rfl
      simp -implicitDefEqProofs only [b2, c2, andB, Option.bind_some, Option.map_some, tD_list, lenL_L, LD_len, subD_int, hlast]
      rw [compM_LDf (p := fun k => decide (k ∉ row) && decide (mayP bs (lastI row) k)) (g := fun k => row ++ [k])]
      · have h7 := flat_len (stepR_len n bs) ((rowsN n bs t).take i)
        have h8 := stepR_len n bs row
        rw [List.length_take] at h7
        have h9 : (min i (rowsN n bs t).length) * n + n ≤ 16777216 := by
          have : min i (rowsN n bs t).length + 1 ≤ (rowsN n bs t).length := by omega
          have h10 : (min i (rowsN n bs t).length + 1) * n ≤ n ^ (t + 1) * n := Nat.mul_le_mul_right _ (Nat.le_trans this hlen)
          rw [Nat.add_mul, Nat.one_mul] at h10
          omega
        have e6 : addD (.list (LD (((rowsN n bs t).take i).flatMap (stepR n bs)))) (.list (LD (stepR n bs row))) = some (.list (LD (((rowsN n bs t).take (i + 1)).flatMap (stepR n bs)))) := by
          show fit _ (PyData.list (LD _ ++ LD _)) = _
          rw [fit_ok (by rw [LD_len, LD_len]; omega), LD_app, List.take_add_one, List.flatMap_append, hrow]
          simp
        unfold stepR at e6 ⊢
        rw [Option.map_some, Option.bind_some, e6, Option.map_some, seqF_nx]
        exact gv_nx rfl
      · intro k hk
        have e5 : addD (.list (LD row)) (.list [PyData.int k]) = some (.list (LD (row ++ [k]))) := by
          show fit _ (PyData.list (LD row ++ LD [k])) = _
          rw [fit_ok (by rw [LD_len]; simp; omega), LD_app]
        simp -implicitDefEqProofs only [turnC, Option.bind_some, tD_int, notInD_int, isB_b, f3_three, may_ok, truth_b, e5, Option.map_some, tD_list]
        by_cases a1 : k ∈ row <;> by_cases a2 : mayP bs (lastI row) k <;> simp [a1, a2]
    · subst e
      rw [List.take_length]
      exact gv_nx rfl
  · subst e
    rw [ri_len]
/-- an order of all is a row that is full -/
theorem full_row {n : Nat} {bs : List (Int × Int)} {row : List Int} (hn : 1 ≤ n) : row ∈ rowsN n bs (n - 1) ↔ row.length = n ∧ OkRow n bs row := by
  rw [mem_rows, show n - 1 + 1 = n by omega]
end Wk0

namespace Wk0
open PySem L2 PySem.Spec PyProof.Rows PySem.W PySem.SeqAt Dl
theorem cell_ok (ns : List Int) (k : Nat) (hk : k < 64) : cellD ns (.int (k : Int)) = some (.int (ns.getD k 0)) := by
  simp only [cellD]
  rw [if_pos (by omega), Int.toNat_natCast]
theorem compM_ex {α β : Type} [DecidableEq α] [Datum α] [DecidableEq β] [Datum β] {h : D → Option (Option D)} {P : β → Prop} : ∀ {xs : List α}, (∀ x ∈ xs, ∃ y : β, h (Datum.toD x) = some (some (Datum.toD y)) ∧ P y) → ∃ ys : List β, compM h (LD xs) = some (LD ys) ∧ ys.length = xs.length ∧ ∀ y ∈ ys, P y
  | [], _ => ⟨[], rfl, rfl, by simp⟩
  | x :: r, hs => by
    obtain ⟨y, h1, h2⟩ := hs x (.head _)
    obtain ⟨ys, h3, h4, h5⟩ := compM_ex (xs := r) fun z hz => hs z (.tail _ hz)
    refine ⟨y :: ys, ?_, by simp [h4], ?_⟩
    · show ((h (Datum.toD x)).bind fun o => (compM h (LD r)).bind fun ys => some (o.toList ++ ys)) = _
      rw [h1, h3]; rfl
    · intro z hz
      rcases List.mem_cons.mp hz with e | hz
      · rw [e]; exact h2
      · exact h5 z hz
/-- the fifth word of names -/
theorem names_ok (A B C E : Str) (m : Int) (h0 : 0 ≤ m) (h1 : m < 4) : ∃ nm : List Str, cutL [A, B, C, E] (some 0) (some (1 + m)) = nm ∧ nm.Sublist [A, B, C, E] ∧ 1 ≤ nm.length ∧ nm.length ≤ 4 := by
  refine ⟨_, rfl, (List.take_sublist _ _).trans (List.drop_sublist _ _), ?_, ?_⟩
  · obtain h | h | h | h : m = 0 ∨ m = 1 ∨ m = 2 ∨ m = 3 := by omega
    all_goals (subst h; simp [cutL, HT.sIx])
  · obtain h | h | h | h : m = 0 ∨ m = 1 ∨ m = 2 ∨ m = 3 := by omega
    all_goals (subst h; simp [cutL, HT.sIx])
theorem names_nd : (["Ada", "Bo", "", "ada"] : List Str).Nodup := by decide +kernel
theorem getD_at {α : Type} {xs : List α} {i : Nat} {d : α} (h : i < xs.length) : xs[i]? = some (xs.getD i d) := by
  rw [List.getD_eq_getElem?_getD, List.getElem?_eq_getElem h]; rfl
theorem freq_one {cs names : List Str} (hn : names.Nodup) (p : Str → Bool) (hp : ∀ x, p x = true → cs.length + 1 < 2 * cs.count x) : (names.filter p).length ≤ 1 := by
  have nd : (names.filter p).Nodup := hn.sublist List.filter_sublist
  match h : names.filter p with
  | [] => simp
  | [_] => simp
  | a :: b :: r =>
    rw [h] at nd
    have h1 : a ∈ names.filter p := by rw [h]; exact .head _
    have h2 : b ∈ names.filter p := by rw [h]; exact .tail _ (.head _)
    have hab : a ≠ b := by
      have := (List.nodup_cons.mp nd).1
      intro e
      exact this (e ▸ .head _)
    have := two_count hab cs
    have c1 := hp a (List.mem_filter.mp h1).2
    have c2 := hp b (List.mem_filter.mp h2).2
    omega
/-- a paper that the two judges answer alike, and only told's word is right -/
def Gd (cs : List Str) (w : Str) (d : D) : Prop := ∃ b : Bool, d_judge_mixed (LS cs) d = some (.bool b) ∧ d__law_accepts (LS cs) d = some (.bool b) ∧ (b = true → idxD d (.int 0) = some (.str w))
structure Tl (cs : List Str) (w : Str) : Prop where
  n1 : 1 ≤ cs.length
  n2 : cs.length ≤ 40
  o : ∀ p, okO cs p = true → w = "order"
  c : ∀ x, cs.length + 1 < 2 * cs.count x → w = "composer"
section
variable {cs : List Str} {w : Str}
theorem Tl.gO (t : Tl cs w) (p : List Int) : Gd cs w (.tuple [.str "order", .list (LD p)]) := ⟨_, judge_order cs p (by have := t.n2; omega), acc_order cs p (by have := t.n2; omega), fun h => by rw [t.o p h]; rfl⟩
theorem Tl.gC (t : Tl cs w) (x : Str) : Gd cs w (.tuple [.str "composer", .str x]) := ⟨_, judge_comp cs x, acc_comp cs x, fun h => by
  have := of_decide_eq_true h
  rw [t.c x (by omega)]; rfl⟩
theorem gS (ds : List D) (h : ds.length ≠ 2) : Gd cs w (.tuple ds) := ⟨false, judge_short cs ds h, acc_short cs ds h, fun h => by cases h⟩
theorem gW (x : Str) (d : D) (h1 : x ≠ "composer") (h2 : x ≠ "order") : Gd cs w (.tuple [.str x, d]) := ⟨false, judge_word cs x d h1 h2, acc_word cs x d h1 h2, fun h => by cases h⟩
end
theorem ri_zero (n : Nat) : List.replicate n (0 : Int) = (List.range n).map fun _ => 0 := by
  induction n with
  | zero => rfl
  | succ n ih => rw [List.range_succ, List.map_append, ← ih, List.replicate_succ']; rfl
theorem flat_zero (n : Nat) : (List.replicate n (LD [(0 : Int)])).flatten = LD (List.replicate n (0 : Int)) := by
  induction n with
  | zero => rfl
  | succ n ih => rw [List.replicate_succ, List.flatten_cons, ih, LD_app]; rfl
theorem fit_lit {α : Type} {n : Nat} (x : α) (h : n ≤ 16777216) : fit n x = some x := fit_ok h
theorem barred_len {n : Nat} {f : Int → Bool} (lo : Int) : ((ri lo n).filter f).length ≤ n := by
  have := List.length_filter_le f (ri lo n)
  rwa [ri_len] at this
/-- orders without barred neighbours, and right orders -/
theorem row_iff {cs : List Str} {bs : List (Int × Int)} (hb : ∀ a b : Int, (a, b) ∈ bs ↔ 0 ≤ a ∧ a < b ∧ b < cs.length ∧ cs[a.toNat]? = cs[b.toNat]?) (row : List Int) : (row.length = cs.length ∧ OkRow cs.length bs row) ↔ okO cs row = true := by
  have key : ∀ a b : Int, 0 ≤ a → a < cs.length → 0 ≤ b → b < cs.length → a ≠ b → (mayP bs a b ↔ cs.getD a.toNat default ≠ cs.getD b.toNat default) := by
    intro a b ha ha' hb' hb'' hab
    have ea := getD_at (xs := cs) (i := a.toNat) (d := default) (by omega)
    have eb := getD_at (xs := cs) (i := b.toNat) (d := default) (by omega)
    unfold mayP
    rw [hb]
    rcases Int.lt_or_lt_of_ne hab with h | h
    · rw [if_neg (by omega), if_pos (by omega), ea, eb, Option.some.injEq]
      exact ⟨fun q e => q ⟨ha, h, hb'', e⟩, fun q ⟨_, _, _, e⟩ => q e⟩
    · rw [if_pos (by omega), if_neg (by omega), ea, eb, Option.some.injEq]
      exact ⟨fun q e => q ⟨hb', h, ha', e.symm⟩, fun q ⟨_, _, _, e⟩ => q e.symm⟩
  rw [okO_iff]
  constructor
  · rintro ⟨h1, h2⟩
    refine ⟨perm_sub h2.nd (fun x hx => mem_ri.mpr (by have := h2.rg x hx; omega)) (by rw [ri_len]; omega), fun k hk => ?_⟩
    have ea := getD_at (xs := row) (i := k) (d := 0) (by omega)
    have eb := getD_at (xs := row) (i := k + 1) (d := 0) hk
    have ra := h2.rg _ (List.mem_of_getElem? ea)
    have rb := h2.rg _ (List.mem_of_getElem? eb)
    refine (key _ _ ra.1 ra.2 rb.1 rb.2 ?_).mp (h2.ad k _ _ ea eb)
    intro e
    rw [e, ← eb] at ea
    have := (List.getElem?_inj (by omega) h2.nd).mp ea
    omega
  · rintro ⟨h1, h2⟩
    have hl := h1.length_eq
    rw [ri_len] at hl
    have nd : row.Nodup := h1.nodup_iff.mpr (ri_nodup _ _)
    have rg : ∀ x ∈ row, 0 ≤ x ∧ x < cs.length := fun x hx => by have := mem_ri.mp (h1.mem_iff.mp hx); omega
    refine ⟨hl, nd, rg, fun k a b ha hb => ?_⟩
    have hk := (List.getElem?_eq_some_iff.mp hb).1
    have ra := rg _ (List.mem_of_getElem? ha)
    have rb := rg _ (List.mem_of_getElem? hb)
    refine (key a b ra.1 ra.2 rb.1 rb.2 ?_).mpr ?_
    · intro e
      rw [e, ← hb] at ha
      have := (List.getElem?_inj (by omega) nd).mp ha
      omega
    · have := h2 k hk
      unfold nm at this
      rwa [List.getD_eq_getElem?_getD (l := row), List.getD_eq_getElem?_getD (l := row), ha, hb] at this
theorem law_true (ns : List Int) (hns : ns.length ≤ 63) : d_law ns = some (.bool true) := by
  obtain ⟨zs, hz, hzl, hzb⟩ := numbers_ok (ns.getD 0 0) 60 5040 (by omega) (by omega) (by omega)
  obtain ⟨ms, hm, hml, hmb⟩ := numbers_ok (ns.getD 1 0) 10 5040 (by omega) (by omega) (by omega)
  have hc0 : cellD ns (.int 0) = some (.int (ns.getD 0 0)) := cell_ok ns 0 (by omega)
  have hc1 : cellD ns (.int 1) = some (.int (ns.getD 1 0)) := cell_ok ns 1 (by omega)
  have hz : d__law_numbers (.int (ns.getD 0 0)) (.int 60) (.int 5040) = some (LD zs) := hz
  have hm : d__law_numbers (.int (ns.getD 1 0)) (.int 10) (.int 5040) = some (LD ms) := hm
  have Z : ∀ k : Int, 0 ≤ k → k < 60 → idxD (.list (LD zs)) (.int k) = some (.int (zs.getD k.toNat 0)) := fun k h h' => idxD_L h (getD_at (by omega))
  have Z0 : idxD (.list (LD zs)) (.int 0) = some (.int (zs.getD 0 0)) := Z 0 (by omega) (by omega)
  have Z1 : idxD (.list (LD zs)) (.int 1) = some (.int (zs.getD 1 0)) := Z 1 (by omega) (by omega)
  have Z2 : idxD (.list (LD zs)) (.int 2) = some (.int (zs.getD 2 0)) := Z 2 (by omega) (by omega)
  have Zb : ∀ k : Nat, k < 60 → 0 ≤ zs.getD k 0 ∧ zs.getD k 0 < 5040 := fun k h => hzb _ (List.mem_of_getElem? (getD_at (by omega)))
  have Mz : ∀ k : Int, 0 ≤ k → k < 10 → idxD (.list (LD ms)) (.int k) = some (.int (ms.getD k.toNat 0)) := fun k h h' => idxD_L h (getD_at (by omega))
  have Mb : ∀ k : Nat, k < 10 → 0 ≤ ms.getD k 0 ∧ ms.getD k 0 < 5040 := fun k h => hmb _ (List.mem_of_getElem? (getD_at (by omega)))
  obtain ⟨n, hn⟩ : ∃ n : Nat, (n : Int) = if zs.getD 1 0 % 3 = 0 then 8 + zs.getD 0 0 % 33 else 1 + zs.getD 0 0 % 7 := ⟨_, Int.toNat_of_nonneg (by have := Zb 0 (by omega); split <;> omega)⟩
  have hn1 : 1 ≤ n := by have := Zb 0 (by omega); split at hn <;> omega
  have hn2 : n ≤ 40 := by have := Zb 0 (by omega); split at hn <;> omega
  obtain ⟨names, hnm, hsub, hnl, hnl4⟩ := names_ok "Ada" "Bo" "" "ada" (zs.getD 2 0 % 4) (by omega) (by omega)
  have hnd : names.Nodup := names_nd.sublist hsub
  unfold d_law b_law
  refine (congrArg outD (a₂ := some (.rt (.bool true))) ?_).trans rfl
  refine seqF_go (v := .list (LD zs)) (by simp -implicitDefEqProofs only [c2, Option.bind_some, hc0, f3_three, hz, Option.map_some]) ?_
  refine seqF_go (v := .int (1 + zs.getD 0 0 % 7)) (by simp -implicitDefEqProofs only [b2, Option.bind_some, Z0, modD_int _ 7 (by omega), addD_int]) ?_
  refine seqF_do (v := .int (n : Int)) ?_ ?_
  · simp -implicitDefEqProofs only [b2, iteM, Option.bind_some, Z0, Z1, modD_int _ 7 (by omega), modD_int _ 3 (by omega), modD_int _ 33 (by omega), addD_int, eqD_int, isB_b, Option.map_some, seqF_nx]
    by_cases h3 : zs.getD 1 0 % 3 = 0
    · rw [if_pos h3] at hn
      rw [if_pos (decide_eq_true h3), hn]
    · rw [if_neg h3] at hn
      rw [if_neg (by rw [decide_eq_true_eq]; exact h3), hn]
  refine seqF_go (v := .list (LD names)) ?_ ?_
  · simp -implicitDefEqProofs only [b2, b3, c2, Option.bind_some, Z2, modD_int _ 4 (by omega), addD_int, oI_int, fit_ok, List.length_cons, List.length_nil, Nat.reduceAdd, Nat.reduceLeDiff, Option.map_some, sliceD]
    have := cutL_LD (["Ada", "Bo", "", "ada"] : List Str) (some 0) (some (1 + zs.getD 2 0 % 4))
    rw [hnm] at this
    exact congrArg (fun x => some (PyData.list x)) this
  have hcs := compM_ex (α := Int) (β := Str) (P := fun y => y ∈ names) (xs := ri 0 n) (h := turnC (fun d => some d) (fun k7 => (some true)) (fun k7 => (b2 (some (.list (LD names))) (b2 (((c2 (b2 (b2 (some (.list (LD zs))) (b2 (some (.int 3)) (some k7) addD) idxD) ((c2 (some (.list (LD names))) (some [])).bind lenL) modD) (c2 (some (.int 0)) (some []))).bind fun xs => fit xs.length xs).map .list) ((c2 (b2 (b2 (b2 (some (.list (LD zs))) (b2 (some (.int 44)) (b2 (some k7) (some (.int 10)) modD) addD) idxD) (some (.int 3)) modD) (some (.int 0)) eqD) (some [])).bind intL) idxD) idxD))) (fun k hk => by
    obtain ⟨k0, k1⟩ := mem_ri.mp hk
    have hnp : (0 : Int) < names.length := by omega
    simp -implicitDefEqProofs only [turnC, b2, c2, tD_int, Option.bind_some, if_true, addD_int, Z (3 + k) (by omega) (by omega), lenL_L, LD_len, modD_int _ _ hnp, modD_int _ 10 (by omega), Z (44 + k % 10) (by omega) (by omega), modD_int _ 3 (by omega), eqD_int, intL_bool, fit_ok, List.length_cons, List.length_nil, Nat.reduceAdd, Nat.reduceLeDiff, Option.map_some]
    have hq : ∀ i : Int, 0 ≤ i → i < names.length → ∃ y : Str, Option.map some (idxD (.list (LD names)) (.int i)) = some (some (Datum.toD y)) ∧ y ∈ names := fun i h h' => by
      have := getD_at (xs := names) (i := i.toNat) (d := default) (by omega)
      exact ⟨_, by rw [idxD_L h this]; rfl, List.mem_of_getElem? this⟩
    have e : ∀ (i : Int) (b : Bool), idxD (.list [PyData.int i, .int 0]) (.int (if b = true then 1 else 0)) = some (.int (if b = true then 0 else i)) := by
      intro i b
      cases b <;> rfl
    rw [e, Option.bind_some]
    refine hq _ ?_ ?_
    · have := Int.emod_nonneg (zs.getD (3 + k).toNat 0) (b := (names.length : Int)) (by omega)
      split <;> omega
    · have := Int.emod_lt_of_pos (zs.getD (3 + k).toNat 0) hnp
      split <;> omega)
  obtain ⟨cs, hcs, hcl, hcm⟩ := hcs
  rw [ri_len] at hcl
  have hrn : rng1D [.int (n : Int)] = some (LD (ri 0 n)) := rng1D_n n (by omega)
  refine seqF_go (v := LS cs) ?_ ?_
  · rw [show ((c2 (some (PyData.int (n : Int))) (some [])).bind rng1D) = some (LD (ri 0 n)) from hrn, Option.bind_some, hcs, Option.map_some]
  refine seqF_go (v := LS cs) (by simp -implicitDefEqProofs only [c2, Option.bind_some, listF_L, Option.map_some]) ?_
  refine seqF_go (v := LD ((names.filter fun x => decide ((n : Int) + 1 < 2 * (cs.count x : Int))).map id)) ?_ ?_
  · simp -implicitDefEqProofs only [itemsD_L, Option.bind_some]
    refine compM_LDf fun x hx => ?_
    simp -implicitDefEqProofs only [turnC, b2, tD_str, Option.bind_some, countD_str, mulD_int 2 _ (.inl (by decide)), addD_int, gtD_int, isB_b, id]
    split <;> rfl
  rw [List.map_id]
  have hfm : ∀ x, x ∈ names.filter (fun x => decide ((n : Int) + 1 < 2 * (cs.count x : Int))) ↔ cs.length + 1 < 2 * cs.count x := fun x => by
    rw [List.mem_filter, decide_eq_true_eq]
    constructor
    · rintro ⟨_, h⟩; omega
    · intro h
      refine ⟨hcm x ?_, by omega⟩
      apply Classical.byContradiction
      intro hx
      rw [List.count_eq_zero_of_not_mem hx] at h
      omega
  have hf1 := freq_one (cs := cs) hnd (fun x => decide ((n : Int) + 1 < 2 * (cs.count x : Int))) (fun x h => by have := of_decide_eq_true h; omega)
  generalize hfq : names.filter (fun x => decide ((n : Int) + 1 < 2 * (cs.count x : Int))) = freq at hfm hf1 ⊢
  refine seqF_no (by simp -implicitDefEqProofs only [b2, c2, Option.bind_some, lenL_L, LD_len, gtD_int, isB_b]; exact congrArg some (decide_eq_false (by omega))) ?_
  obtain ⟨x0, hx0, hmax, hfind⟩ := find_ok cs (by omega) (by omega)
  -- told, its word, and what is known of it
  have htold : ∃ (w : Str) (part : D), d_find_mixed (LS cs) = some (.tuple [.str w, part]) ∧ Tl cs w ∧ d__law_accepts (LS cs) (.tuple [.str w, part]) = some (.bool true) ∧
      ((w = "composer" ∧ freq = [x0] ∧ part = .str x0) ∨ (w = "order" ∧ freq = [] ∧ ∃ o : List Int, part = .list (LD o) ∧ okO cs o = true)) := by
    rcases hfind with ⟨h, e⟩ | ⟨h, o, e, ho⟩
    · refine ⟨_, _, e, ⟨by omega, by omega, fun p hp => ?_, fun _ _ => rfl⟩, ?_, .inl ⟨rfl, ?_, rfl⟩⟩
      · have := okO_few hp x0; omega
      · rw [acc_comp, decide_eq_true (by omega)]
      · have hin := (hfm x0).mpr h
        match freq, hf1, hin with
        | [a], _, hin => rw [List.mem_singleton.mp hin]
    · refine ⟨_, _, e, ⟨by omega, by omega, fun p hp => rfl, fun x hx => ?_⟩, ?_, .inr ⟨rfl, ?_, o, rfl, ho⟩⟩
      · have := okO_few ho x; omega
      · rw [acc_order cs o (by omega), ho]
      · match hq : freq with
        | [] => rfl
        | a :: r =>
          have := (hfm a).mp (.head _)
          have := okO_few ho a
          omega
  obtain ⟨w, part, hfd, tl, hacc, hcase⟩ := htold
  refine seqF_go (v := .tuple [.str w, part]) (by simp -implicitDefEqProofs only [c2, Option.bind_some, f1_one, hfd]) ?_
  have hi0 : idxD (.tuple [.str w, part]) (.int 0) = some (.str w) := rfl
  have hins : insD "tuple" (.tuple [.str w, part]) = some (.bool true) := by
    have : kitB "tuple" "tuple" = some true := by decide +kernel
    simp only [insD, tyName, this, Option.map_some]
  refine seqF_no ?_ ?_
  · have ew : idxD (.list [PyData.str "order", .str "composer"]) (.int (if decide ((0 : Int) < freq.length) = true then 1 else 0)) = some (.str w) := by
      rcases hcase with ⟨rfl, rfl, _⟩ | ⟨rfl, rfl, _⟩ <;> rfl
    simp -implicitDefEqProofs only [b2, c2, orB, Option.bind_some, hins, truth_b, Option.map_some, Bool.not_true, Bool.false_eq_true, if_false, hi0, fit_ok, List.length_cons, List.length_nil, Nat.reduceAdd, Nat.reduceLeDiff, lenL_L, LD_len, gtD_int, intL_bool, ew, neD_self, isB_b, f2_two, hacc, neD_Ls, ne_eq, not_true_eq_false, decide_false]
  refine seqF_no ?_ ?_
  · rcases hcase with ⟨rfl, rfl, rfl⟩ | ⟨rfl, rfl, _⟩
    · have hs : d__law_same 12 (.tuple [.str "composer", .str x0]) (.tuple [.str "composer", .str x0]) = some (.bool true) := same_self 1 12 _ (.tuple (by simp) (by
        intro d hd
        simp only [List.mem_cons, List.not_mem_nil, or_false] at hd
        rcases hd with rfl | rfl <;> exact .str _)) (by omega)
      have hi : idxD (.list (LD [x0])) (.int 0) = some (.str x0) := rfl
      simp -implicitDefEqProofs only [b2, c2, andB, Option.bind_some, lenL_L, LD_len, gtD_int, isB_b, hi, fit_ok, List.length_cons, List.length_nil, Nat.reduceAdd, Nat.reduceLeDiff, f2_two, hs, truth_b, Option.map_some, Bool.not_true]
      split <;> rfl
    · simp -implicitDefEqProofs only [b2, c2, andB, Option.bind_some, lenL_L, LD_len, gtD_int, isB_b]
      rfl
  refine seqF_go (v := .list (LD ([] : List (Int × Int)))) (by simp -implicitDefEqProofs only [Option.bind_some, fit_ok, List.length_nil, Nat.zero_le, Option.map_some]; rfl) ?_
  rw [show ((c2 (some (PyData.int (n : Int))) (some [])).bind rng1D) = some (LD (ri 0 n)) from hrn, Option.bind_some]
  refine seqF_gv (gv_for (fun i l => ∃ bs : List (Int × Int), l = .list (LD bs) ∧ bs.length ≤ i * 40 ∧ ∀ a b : Int, (a, b) ∈ bs ↔ 0 ≤ a ∧ a < i ∧ a < b ∧ b < n ∧ cs[a.toNat]? = cs[b.toNat]?) ⟨[], rfl, by simp, fun a b => ⟨by simp, fun h => by omega⟩⟩ ?_) ?_
  · rintro i x l hx ⟨bs, rfl, hbl, hbm⟩
    have hi : i < n := by have := (List.getElem?_eq_some_iff.mp hx).1; simpa using this
    have ex : x = (i : Int) := by
      have := ri_at (lo := 0) hi
      rw [hx] at this
      cases this; omega
    subst ex
    have hci : ∀ k : Int, 0 ≤ k → k < n → idxD (LS cs) (.int k) = some (.str (cs.getD k.toNat default)) := fun k h h' => idxD_L h (getD_at (by omega))
    simp -implicitDefEqProofs only [b2, c2, tD_int, Option.bind_some, addD_int]
    rw [rng2D_i _ _ (by omega) (by omega) (by omega) (by omega) (by omega), Option.bind_some]
    rw [compM_LDf (p := fun j : Int => decide (cs.getD ((i : Nat) : Int).toNat default = cs.getD j.toNat default)) (g := fun j : Int => ((i : Int), j))]
    · rw [Option.map_some, Option.bind_some]
      have hl := barred_len (n := ((n : Int) - ((i : Int) + 1)).toNat) (f := fun j : Int => decide (cs.getD ((i : Nat) : Int).toNat default = cs.getD j.toNat default)) ((i : Int) + 1)
      have ea : ∀ ys : List (Int × Int), ys.length ≤ 40 → addD (.list (LD bs)) (.list (LD ys)) = some (.list (LD (bs ++ ys))) := fun ys hy => by
        show fit _ (PyData.list (LD _ ++ LD _)) = _
        rw [fit_ok (by rw [LD_len, LD_len]; omega), LD_app]
      rw [ea _ (by rw [List.length_map]; omega)]
      refine gv_go rfl (gv_nx ⟨_, rfl, by rw [List.length_append, List.length_map]; omega, fun a b => ?_⟩)
      rw [List.mem_append, hbm, List.mem_map]
      have hat : ∀ k : Int, 0 ≤ k → k < n → cs[k.toNat]? = some (cs.getD k.toNat default) := fun k h h' => getD_at (by omega)
      constructor
      · rintro (h | ⟨j, hj, e⟩)
        · exact ⟨h.1, by omega, h.2.2⟩
        · cases e
          obtain ⟨j1, j2⟩ := List.mem_filter.mp hj
          have j3 := mem_ri.mp j1
          have j4 := of_decide_eq_true j2
          refine ⟨by omega, by omega, by omega, by omega, ?_⟩
          rw [hat _ (by omega) (by omega), hat _ (by omega) (by omega), j4]
      · rintro ⟨h1, h2, h3, h4, h5⟩
        by_cases h6 : a < i
        · exact .inl ⟨h1, h6, h3, h4, h5⟩
        · have : a = i := by omega
          subst this
          refine .inr ⟨b, List.mem_filter.mpr ⟨mem_ri.mpr (by omega), ?_⟩, rfl⟩
          rw [decide_eq_true_eq]
          rw [hat _ (by omega) (by omega), hat _ (by omega) (by omega)] at h5
          exact Option.some.inj h5
    · intro j hj
      have j3 := mem_ri.mp hj
      simp -implicitDefEqProofs only [turnC, tD_int, Option.bind_some, hci i (by omega) (by omega), hci j (by omega) (by omega), eqD_str, isB_b, fit_ok, List.length_cons, List.length_nil, Nat.reduceAdd, Nat.reduceLeDiff, Option.map_some]
      split <;> rfl
  rintro l ⟨bs, rfl, hbl, hbm⟩
  rw [ri_len] at hbm
  have hrow := row_iff (cs := cs) (bs := bs) (fun a b => by
    rw [hbm, hcl]
    constructor
    · intro h; exact ⟨h.1, h.2.2⟩
    · intro h; exact ⟨h.1, by omega, h.2⟩)
  rw [hcl] at hrow
  refine seqF_no ?_ ?_
  · by_cases h7 : (n : Int) < 7
    · have hcln := clean_ok n hn1 (by omega) bs
      have hee : eqD (.str w) (.str "order") = some (.bool (decide (0 < (rowsN n bs (n - 1)).length))) := by
        rw [eqD_str]
        congr 2
        rw [decide_eq_decide]
        rcases hcase with ⟨rfl, hf, _⟩ | ⟨rfl, _, o, _, ho⟩
        · refine ⟨fun e => absurd e co, fun h => ?_⟩
          obtain ⟨r, hr⟩ := List.exists_mem_of_length_pos h
          have := (hrow r).mp ((full_row hn1).mp hr)
          exact tl.o r this
        · refine ⟨fun _ => ?_, fun _ => rfl⟩
          exact List.length_pos_of_mem ((full_row hn1).mpr ((hrow o).mpr ho))
      simp -implicitDefEqProofs only [b2, c2, andB, Option.bind_some, ltD_int, isB_b, decide_eq_true h7, if_true, f2_two, hcln, lenL_L, LD_len, gtD_int, hi0, hee, neD_bool]
      refine congrArg some (decide_eq_false ?_)
      rw [ne_eq, Classical.not_not, decide_eq_decide]
      omega
    · simp -implicitDefEqProofs only [b2, andB, Option.bind_some, ltD_int, isB_b, decide_eq_false h7, Bool.false_eq_true, if_false]
  refine seqF_go (v := .list (LD ms)) (by simp -implicitDefEqProofs only [c2, Option.bind_some, hc1, f3_three, hm, Option.map_some]) ?_
  have hrg : ∀ i j : Int, 0 ≤ i → i ≤ 50 → 0 ≤ j → j ≤ 50 → rngF (i, j) = some (LD (ri i (j - i).toNat)) := fun i j _ _ _ _ => rngF_i i j (by omega) (by omega) (by omega) (by omega) (by omega)
  have hcut : cutL [PyData.str w, part] (some 0) (some 1) = [PyData.str w] := rfl
  have hmul : mulD (.list [PyData.int 0]) (.int (n : Int)) = some (.list (LD (List.replicate n (0 : Int)))) := by
    simp only [mulD, List.length_cons, List.length_nil]
    rw [if_pos ⟨by omega, by omega, by omega⟩, Int.toNat_natCast]
    exact congrArg (fun x => some (PyData.list x)) (flat_zero n)
  have hadt : addD (.tuple [.str w, part]) (.tuple [.int 0]) = some (.tuple [.str w, part, .int 0]) := rfl
  have gtold : Gd cs w (.tuple [.str w, part]) := by
    rcases hcase with ⟨rfl, _, rfl⟩ | ⟨rfl, _, o, rfl, _⟩
    · exact tl.gC _
    · exact tl.gO _
  refine seqF_gv (R := fun ps : List D => (∀ d ∈ ps, Gd cs w d) ∧ ps.length ≤ 20) ?_ ?_
  · simp -implicitDefEqProofs only [b2, b3, c2, Option.bind_some, oI_int, sliceD, hcut, fit_ok, List.length_cons, List.length_nil, Nat.reduceAdd, Nat.reduceLeDiff, hadt, int1_int, hrg 0 n (by omega) (by omega) (by omega) (by omega), Option.map_some, hmul]
    refine gv_nx ⟨?_, by simp⟩
    intro d hd
    simp only [List.mem_cons, List.not_mem_nil, or_false] at hd
    rcases hd with rfl | rfl | rfl | rfl | rfl | rfl | rfl
    · exact gtold
    · exact gS _ (by simp)
    · exact gS _ (by simp)
    · exact gW _ _ sc so
    · exact tl.gO _
    · exact tl.gO []
    · exact tl.gO _
  rintro ps ⟨hps, hpl⟩
  have hcat : ∀ xs ys : List D, xs.length ≤ 1000 → ys.length ≤ 1000 → catF (.list xs) (.list ys) = some (xs ++ ys) := fun xs ys h h' => by
    show fit _ _ = _
    rw [fit_ok (by omega)]
  refine seqF_gv (R := fun ps : List D => (∀ d ∈ ps, Gd cs w d) ∧ ps.length ≤ 30) ?_ ?_
  · simp -implicitDefEqProofs only [b2, b2F, c2, Option.bind_some, addD_int, int2_int, hrg 1 ((n : Int) + 1) (by omega) (by omega) (by omega) (by omega), Option.map_some, fit_ok, List.length_cons, List.length_nil, Nat.reduceAdd, Nat.reduceLeDiff]
    rw [hcat _ _ (by omega) (by simp)]
    refine gv_nxt rfl ⟨?_, by simp; omega⟩
    intro d hd
    rcases List.mem_append.mp hd with hd | hd
    · exact hps d hd
    · simp only [List.mem_cons, List.not_mem_nil, or_false] at hd
      rcases hd with rfl | rfl
      · exact tl.gO _
      · exact tl.gC _
  rintro ps ⟨hps, hpl⟩
  refine seqF_gv (R := fun ps : List D => (∀ d ∈ ps, Gd cs w d) ∧ ps.length ≤ 40) ?_ ?_
  · simp -implicitDefEqProofs only [b2F, Option.bind_some, itemsD_L]
    rw [compM_LD (g := fun x : Str => PyData.tuple [.str "composer", .str x]) (fun x hx => by
      simp -implicitDefEqProofs only [turnC, c2, tD_str, Option.bind_some, if_true, fit_ok, List.length_cons, List.length_nil, Nat.reduceAdd, Nat.reduceLeDiff, Option.map_some]), Option.map_some, Option.bind_some, hcat _ _ (by omega) (by rw [List.length_map]; omega)]
    refine gv_nxt rfl ⟨?_, by rw [List.length_append, List.length_map]; omega⟩
    intro d hd
    rcases List.mem_append.mp hd with hd | hd
    · exact hps d hd
    · obtain ⟨x, _, rfl⟩ := List.mem_map.mp hd
      exact tl.gC _
  rintro ps ⟨hps, hpl⟩
  refine seqF_gv (R := fun ps : List D => (∀ d ∈ ps, Gd cs w d)) ?_ ?_
  · rcases hcase with ⟨rfl, _, rfl⟩ | ⟨rfl, _, o, rfl, ho⟩
    · simp -implicitDefEqProofs only [b2, iteM, Option.bind_some, hi0, eqD_apart co, isB_b, Bool.false_eq_true, if_false]
      exact gv_nx hps
    · simp -implicitDefEqProofs only [b2, iteM, Option.bind_some, hi0, eqD_self, isB_b, if_true]
      have hol : o.length = n := by
        have := (okO_iff.mp ho).1.length_eq
        rw [ri_len] at this; omega
      refine gv_go (v := .list (LD o)) rfl ?_
      have hr4 : rng1D [.int 4] = some (LD (ri 0 4)) := rng1D_n 4 (by omega)
      simp -implicitDefEqProofs only [c2, Option.bind_some, hr4]
      refine gv_gv (gv_for (fun i ps => (∀ d ∈ ps, Gd cs "order" d) ∧ ps.length ≤ 40 + i) ⟨hps, hpl⟩ ?_) ?_
      · rintro i x ps hx ⟨hps, hpl⟩
        have hi : i < 4 := by have := (List.getElem?_eq_some_iff.mp hx).1; simpa using this
        have ex : x = (i : Int) := by
          have := ri_at (lo := 0) hi
          rw [hx] at this
          cases this; omega
        subst ex
        have hnp : (0 : Int) < n := by omega
        have hgo : ∀ k : Int, 0 ≤ k → k < n → idxD (.list (LD o)) (.int k) = some (.int (o.getD k.toNat 0)) := fun k h h' => idxD_L h (getD_at (by omega))
        have hset : ∀ (p : List Int) (k v : Int), p.length = n → 0 ≤ k → k < n → setM (LD p) (some (.int v)) (some (.int k)) = some (LD (p.set k.toNat v)) := fun p k v hp h h' => by
          simp only [setM, Option.bind_some, ixN, LD_len, hp]
          rw [if_pos h, if_pos h', Option.map_some]
          exact congrArg some (set_LD p _ v)
        have hb1 := Int.emod_nonneg (ms.getD (2 * (i : Int)).toNat 0) (b := (n : Int)) (by omega)
        have hb2 := Int.emod_lt_of_pos (ms.getD (2 * (i : Int)).toNat 0) hnp
        have hb3 := Int.emod_nonneg (ms.getD (2 * (i : Int) + 1).toNat 0) (b := (n : Int)) (by omega)
        have hb4 := Int.emod_lt_of_pos (ms.getD (2 * (i : Int) + 1).toNat 0) hnp
        simp -implicitDefEqProofs only [b2, c2, tD_int, Option.bind_some, mulD_int 2 _ (.inl (by decide)), addD_int, Mz (2 * (i : Int)) (by omega) (by omega), Mz (2 * (i : Int) + 1) (by omega) (by omega), modD_int _ _ hnp, Option.map_some, seqF_nx, listF_L, setM2,
          hgo _ hb1 hb2, hgo _ hb3 hb4, fit_ok, List.length_cons, List.length_nil, Nat.reduceAdd, Nat.reduceLeDiff, un2_t, hset o _ _ hol hb1 hb2]
        rw [hset _ _ _ (by rw [List.length_set]; exact hol) hb3 hb4]
        refine gv_go rfl (gv_go (fit_ok (by omega)) (gv_nx ⟨?_, by rw [List.length_append, List.length_singleton]; omega⟩))
        intro d hd
        rcases List.mem_append.mp hd with hd | hd
        · exact hps d hd
        · rw [List.mem_singleton.mp hd]; exact tl.gO _
      · rintro ps ⟨hps, hpl⟩
        rw [ri_len] at hpl
        have hadd : ∀ a b : List Int, a.length ≤ 100 → b.length ≤ 100 → addD (.list (LD a)) (.list (LD b)) = some (.list (LD (a ++ b))) := fun a b h h' => by
          show fit _ (PyData.list (LD _ ++ LD _)) = _
          rw [fit_ok (by rw [LD_len, LD_len]; omega), LD_app]
        have hcl2 : ∀ lo hi, (cutL o lo hi).length ≤ 100 := fun lo hi => by
          unfold cutL
          rw [List.length_take, List.length_drop]; omega
        have hone : (PyData.list [PyData.int (-1)]) = .list (LD [(-1 : Int)]) := rfl
        simp -implicitDefEqProofs only [b2, b2F, b3, c2, Option.bind_some, oI_int, sliceD, cutL_LD, revD_L, LD_rev, negD_int, Option.map_some, fit_ok, List.length_cons, List.length_nil, Nat.reduceAdd, Nat.reduceLeDiff, hone, hadd o _ (by omega) (hcl2 _ _), hadd [-1] _ (by simp) (hcl2 _ _)]
        rw [hcat _ _ (by omega) (by simp)]
        refine gv_go rfl (gv_nx ?_)
        intro d hd
        rcases List.mem_append.mp hd with hd | hd
        · exact hps d hd
        · simp only [List.mem_cons, List.not_mem_nil, or_false] at hd
          rcases hd with rfl | rfl | rfl | rfl <;> exact tl.gO _
  intro ps hps
  simp -implicitDefEqProofs only [Option.bind_some, itemsD_L]
  rw [forF_all]
  · rw [seqF_nx]; rfl
  · intro d hd
    obtain ⟨b, g1, g2, g3⟩ := hps d hd
    simp -implicitDefEqProofs only [b2, c2, iteM, orB, andB, Option.bind_some, f2_two, g1, g2, same_bool, truth_b, Option.map_some, seqF_nx, Bool.not_true, Bool.false_eq_true, if_false]
    cases b with
    | false => rfl
    | true => simp -implicitDefEqProofs only [if_true, g3 rfl, hi0, Option.bind_some, neD_self, isB_b, Bool.false_eq_true, if_false]
end Wk0

namespace Wk0
open PySem L2 PySem.Spec PyProof.Rows PySem.W PySem.SeqAt Dl
theorem ok__law_cell {P : Program} {w : World} {K : PySem.W.Frag} {mg : Str → Option Value} {base : Heap} (z_len : mg "len" = none) (z_int : mg "int" = none) {f : Addr} {fd : FuncData} (F : Fun K "_law_cell" "_law_cell" s__law_cell f fd) : FnOk P w K mg base CX0 1 f fd ["script", "k"] (spCell K) := by
  refine F.ok sc__law_cell (fun vs H Q E ⟨a, k, ns, B, e, _⟩ => by rw [e]; rfl) (fun cdv A outer s H vs Q E hr ⟨a, k, ns, B, e, ex, hs, hl, h0, h1, q⟩ => ?_)
  subst e
  refine ⟨_, pss_cons (ps_if (pt_cmpR op_lt (pv 1) (pe_callB call_len_seq (by rfl) z_len PySem.boot_len (pa_cons (pv 0) pa_nil)) (nomark _)) (pss_one (ps_ret (pe_callTy call_int1 (by rfl) z_int (by decide +kernel) (pa_cons (pe_ix ix_list (pv 0) (pv 1) (fun _ _ => rfl)) pa_nil)))) pss_nil) (pss_one (ps_ret pe_int)), ?_⟩
  have hS := Evl.ex_l ex hs
  refine ⟨_, rfl, _, rfl, a, _, rfl, .inl hS, _, _, rfl, rfl, _, rfl, ite2 (fun e => ?_) (fun e => ?_)⟩
  · have hk : k.toNat < ns.length := by
      have := of_decide_eq_true e
      rw [List.length_map] at this
      omega
    have e1 : (ns.map V.int)[k.toNat]? = some (.int (ns.getD k.toNat 0)) := by
      rw [List.getElem?_map, List.getElem?_eq_getElem hk, List.getD_eq_getElem?_getD, List.getElem?_eq_getElem hk]; rfl
    have e2 : atI (ns.map V.int) k = some (.int (ns.getD k.toNat 0)) := by
      have := atI_nat e1
      rwa [Int.toNat_of_nonneg h0] at this
    exact ⟨_, rfl, _, rfl, a, _, k, _, rfl, rfl, hS, e2, .inl ⟨_, rfl, q B H (Nx.refl ex)⟩⟩
  · have hk : ns.length ≤ k.toNat := by
      have : ¬ (k < ((ns.map V.int).length : Int)) := fun h => e (decide_eq_true h)
      rw [List.length_map] at this
      omega
    have e1 : ns.getD k.toNat 0 = 0 := by rw [List.getD_eq_getElem?_getD, List.getElem?_eq_none hk]; rfl
    have := q B H (Nx.refl ex)
    rw [e1] at this
    exact this
theorem all_mk {P : Program} {w : World} {K : PySem.W.Frag} {h : Heap} {mg : Str → Option Value} {fa : Addr} (X : K.In h) (G : h.Ns mainGlobals mg) (hfa : mg "law" = some (.ref fa))
    {od0 an0 : Option Addr} {sl0 : Array (Option Value)} {oc0 kV0 dc0 pm0 cd0 ct0 : Value} {ad0 : Addr} (a0 : PySem.W.nsIn K mainGlobals "_law_numbers" = some (some (.ref ad0))) (l0 : K.lookup ad0 = some ⟨oc0, od0, .func (PySem.W.fnOf "_law_numbers" "_law_numbers" (defArgs s__law_numbers) (defBody s__law_numbers) (defScope s__law_numbers) .none kV0 dc0 pm0 an0 cd0 ct0), sl0⟩) (c0 : PySem.W.codeIn K cd0 "_law_numbers" = true) (k0 : PySem.W.keepIn K (.ref ad0) = true)
    {od1 an1 : Option Addr} {sl1 : Array (Option Value)} {oc1 kV1 dc1 pm1 cd1 ct1 : Value} {ad1 : Addr} (a1 : PySem.W.nsIn K mainGlobals "ranked_pieces" = some (some (.ref ad1))) (l1 : K.lookup ad1 = some ⟨oc1, od1, .func (PySem.W.fnOf "ranked_pieces" "ranked_pieces" (defArgs s_ranked_pieces) (defBody s_ranked_pieces) (defScope s_ranked_pieces) .none kV1 dc1 pm1 an1 cd1 ct1), sl1⟩) (c1 : PySem.W.codeIn K cd1 "ranked_pieces" = true) (k1 : PySem.W.keepIn K (.ref ad1) = true)
    {od2 an2 : Option Addr} {sl2 : Array (Option Value)} {oc2 kV2 dc2 pm2 cd2 ct2 : Value} {ad2 : Addr} (a2 : PySem.W.nsIn K mainGlobals "find_mixed" = some (some (.ref ad2))) (l2 : K.lookup ad2 = some ⟨oc2, od2, .func (PySem.W.fnOf "find_mixed" "find_mixed" (defArgs s_find_mixed) (defBody s_find_mixed) (defScope s_find_mixed) .none kV2 dc2 pm2 an2 cd2 ct2), sl2⟩) (c2 : PySem.W.codeIn K cd2 "find_mixed" = true) (k2 : PySem.W.keepIn K (.ref ad2) = true)
    {od3 an3 : Option Addr} {sl3 : Array (Option Value)} {oc3 kV3 dc3 pm3 cd3 ct3 : Value} {ad3 : Addr} (a3 : PySem.W.nsIn K mainGlobals "_law_cell" = some (some (.ref ad3))) (l3 : K.lookup ad3 = some ⟨oc3, od3, .func (PySem.W.fnOf "_law_cell" "_law_cell" (defArgs s__law_cell) (defBody s__law_cell) (defScope s__law_cell) .none kV3 dc3 pm3 an3 cd3 ct3), sl3⟩) (c3 : PySem.W.codeIn K cd3 "_law_cell" = true) (k3 : PySem.W.keepIn K (.ref ad3) = true)
    {od4 an4 : Option Addr} {sl4 : Array (Option Value)} {oc4 kV4 dc4 pm4 cd4 ct4 : Value} {ad4 : Addr} (a4 : PySem.W.nsIn K mainGlobals "judge_mixed" = some (some (.ref ad4))) (l4 : K.lookup ad4 = some ⟨oc4, od4, .func (PySem.W.fnOf "judge_mixed" "judge_mixed" (defArgs s_judge_mixed) (defBody s_judge_mixed) (defScope s_judge_mixed) .none kV4 dc4 pm4 an4 cd4 ct4), sl4⟩) (c4 : PySem.W.codeIn K cd4 "judge_mixed" = true) (k4 : PySem.W.keepIn K (.ref ad4) = true)
    {od5 an5 : Option Addr} {sl5 : Array (Option Value)} {oc5 kV5 dc5 pm5 cd5 ct5 : Value} {ad5 : Addr} (a5 : PySem.W.nsIn K mainGlobals "_law_accepts" = some (some (.ref ad5))) (l5 : K.lookup ad5 = some ⟨oc5, od5, .func (PySem.W.fnOf "_law_accepts" "_law_accepts" (defArgs s__law_accepts) (defBody s__law_accepts) (defScope s__law_accepts) .none kV5 dc5 pm5 an5 cd5 ct5), sl5⟩) (c5 : PySem.W.codeIn K cd5 "_law_accepts" = true) (k5 : PySem.W.keepIn K (.ref ad5) = true)
    {od6 an6 : Option Addr} {sl6 : Array (Option Value)} {oc6 kV6 dc6 pm6 cd6 ct6 : Value} {ad6 : Addr} (a6 : PySem.W.nsIn K mainGlobals "_law_same" = some (some (.ref ad6))) (l6 : K.lookup ad6 = some ⟨oc6, od6, .func (PySem.W.fnOf "_law_same" "_law_same" (defArgs s__law_same) (defBody s__law_same) (defScope s__law_same) .none kV6 dc6 pm6 an6 cd6 ct6), sl6⟩) (c6 : PySem.W.codeIn K cd6 "_law_same" = true) (k6 : PySem.W.keepIn K (.ref ad6) = true)
    {od7 an7 : Option Addr} {sl7 : Array (Option Value)} {oc7 kV7 dc7 pm7 cd7 ct7 : Value} {ad7 : Addr} (a7 : PySem.W.nsIn K mainGlobals "_law_may" = some (some (.ref ad7))) (l7 : K.lookup ad7 = some ⟨oc7, od7, .func (PySem.W.fnOf "_law_may" "_law_may" (defArgs s__law_may) (defBody s__law_may) (defScope s__law_may) .none kV7 dc7 pm7 an7 cd7 ct7), sl7⟩) (c7 : PySem.W.codeIn K cd7 "_law_may" = true) (k7 : PySem.W.keepIn K (.ref ad7) = true)
    {od8 an8 : Option Addr} {sl8 : Array (Option Value)} {oc8 kV8 dc8 pm8 cd8 ct8 : Value} {ad8 : Addr} (a8 : PySem.W.nsIn K mainGlobals "_law_clean_orders" = some (some (.ref ad8))) (l8 : K.lookup ad8 = some ⟨oc8, od8, .func (PySem.W.fnOf "_law_clean_orders" "_law_clean_orders" (defArgs s__law_clean_orders) (defBody s__law_clean_orders) (defScope s__law_clean_orders) .none kV8 dc8 pm8 an8 cd8 ct8), sl8⟩) (c8 : PySem.W.codeIn K cd8 "_law_clean_orders" = true) (k8 : PySem.W.keepIn K (.ref ad8) = true)
    {od9 an9 : Option Addr} {sl9 : Array (Option Value)} {oc9 kV9 dc9 pm9 cd9 ct9 : Value} {ad9 : Addr} (a9 : PySem.W.nsIn K mainGlobals "law" = some (some (.ref ad9))) (l9 : K.lookup ad9 = some ⟨oc9, od9, .func (PySem.W.fnOf "law" "law" (defArgs s_law) (defBody s_law) (defScope s_law) .none kV9 dc9 pm9 an9 cd9 ct9), sl9⟩) (c9 : PySem.W.codeIn K cd9 "law" = true) (k9 : PySem.W.keepIn K (.ref ad9) = true)
    (y_all : PySem.W.nsIn K mainGlobals "all" = some none)
    (y_bool : PySem.W.nsIn K mainGlobals "bool" = some none)
    (y_enumerate : PySem.W.nsIn K mainGlobals "enumerate" = some none)
    (y_int : PySem.W.nsIn K mainGlobals "int" = some none)
    (y_isinstance : PySem.W.nsIn K mainGlobals "isinstance" = some none)
    (y_len : PySem.W.nsIn K mainGlobals "len" = some none)
    (y_list : PySem.W.nsIn K mainGlobals "list" = some none)
    (y_max : PySem.W.nsIn K mainGlobals "max" = some none)
    (y_min : PySem.W.nsIn K mainGlobals "min" = some none)
    (y_range : PySem.W.nsIn K mainGlobals "range" = some none)
    (y_sorted : PySem.W.nsIn K mainGlobals "sorted" = some none)
    (y_str : PySem.W.nsIn K mainGlobals "str" = some none)
    (y_tuple : PySem.W.nsIn K mainGlobals "tuple" = some none)
    : ∃ fd : FuncData, (∀ (s : Shared) (v : Value), BindsTo s fd ⟨[v], []⟩ [("script", v)]) ∧ ∀ base : Heap, K.In base → base.Ns mainGlobals mg → FnOk P w K mg base CX0 13 fa fd ["script"] (spLaw K d_law) := by
  have e := hfa.symm.trans (PySem.W.mg_of X G a9)
  cases e
  have z_all := PySem.W.mg_none_of X G y_all
  have z_bool := PySem.W.mg_none_of X G y_bool
  have z_enumerate := PySem.W.mg_none_of X G y_enumerate
  have z_int := PySem.W.mg_none_of X G y_int
  have z_isinstance := PySem.W.mg_none_of X G y_isinstance
  have z_len := PySem.W.mg_none_of X G y_len
  have z_list := PySem.W.mg_none_of X G y_list
  have z_max := PySem.W.mg_none_of X G y_max
  have z_min := PySem.W.mg_none_of X G y_min
  have z_range := PySem.W.mg_none_of X G y_range
  have z_sorted := PySem.W.mg_none_of X G y_sorted
  have z_str := PySem.W.mg_none_of X G y_str
  have z_tuple := PySem.W.mg_none_of X G y_tuple
  have F0 := fun_mk (st := s__law_numbers) l0 c0 k0
  have b0 := F0.binds (ps := ["cell", "count", "limit"]) fun _ _ _ _ _ _ us hl => match us, hl with | [_, _, _], _ => rfl
  have g0 := PySem.W.mg_of X G a0
  have F1 := fun_mk (st := s_ranked_pieces) l1 c1 k1
  have b1 := F1.binds (ps := ["composers"]) fun _ _ _ _ _ _ us hl => match us, hl with | [_], _ => rfl
  have g1 := PySem.W.mg_of X G a1
  have F2 := fun_mk (st := s_find_mixed) l2 c2 k2
  have b2 := F2.binds (ps := ["composers"]) fun _ _ _ _ _ _ us hl => match us, hl with | [_], _ => rfl
  have g2 := PySem.W.mg_of X G a2
  have F3 := fun_mk (st := s__law_cell) l3 c3 k3
  have b3 := F3.binds (ps := ["script", "k"]) fun _ _ _ _ _ _ us hl => match us, hl with | [_, _], _ => rfl
  have g3 := PySem.W.mg_of X G a3
  have F4 := fun_mk (st := s_judge_mixed) l4 c4 k4
  have b4 := F4.binds (ps := ["composers", "verdict"]) fun _ _ _ _ _ _ us hl => match us, hl with | [_, _], _ => rfl
  have g4 := PySem.W.mg_of X G a4
  have F5 := fun_mk (st := s__law_accepts) l5 c5 k5
  have b5 := F5.binds (ps := ["composers", "paper"]) fun _ _ _ _ _ _ us hl => match us, hl with | [_, _], _ => rfl
  have g5 := PySem.W.mg_of X G a5
  have F6 := fun_mk (st := s__law_same) l6 c6 k6
  have b6 := F6.binds (ps := ["told", "due"]) fun _ _ _ _ _ _ us hl => match us, hl with | [_, _], _ => rfl
  have g6 := PySem.W.mg_of X G a6
  have F7 := fun_mk (st := s__law_may) l7 c7 k7
  have b7 := F7.binds (ps := ["barred", "one", "other"]) fun _ _ _ _ _ _ us hl => match us, hl with | [_, _, _], _ => rfl
  have g7 := PySem.W.mg_of X G a7
  have F8 := fun_mk (st := s__law_clean_orders) l8 c8 k8
  have b8 := F8.binds (ps := ["count", "barred"]) fun _ _ _ _ _ _ us hl => match us, hl with | [_, _], _ => rfl
  have g8 := PySem.W.mg_of X G a8
  have F9 := fun_mk (st := s_law) l9 c9 k9
  refine ⟨PySem.W.fnOf "law" "law" (defArgs s_law) (defBody s_law) (defScope s_law) .none kV9 dc9 pm9 an9 cd9 ct9, fun s v => .of_eq rfl, fun base _ _ => ?_⟩
  have C__law_numbers : Dl.Callee P w K mg base "_law_numbers" ["cell", "count", "limit"] 1 (spF K (f3 d__law_numbers)) := ⟨_, _, ok__law_numbers z_all z_bool z_enumerate z_int z_isinstance z_len z_list z_max z_min z_range z_sorted z_str z_tuple F0 , g0, F0.kp, b0⟩
  have C_ranked_pieces : Dl.Callee P w K mg base "ranked_pieces" ["composers"] 1 (spF K (f1 d_ranked_pieces)) := ⟨_, _, ok_ranked_pieces z_all z_bool z_enumerate z_int z_isinstance z_len z_list z_max z_min z_range z_sorted z_str z_tuple F1 , g1, F1.kp, b1⟩
  have C_find_mixed : Dl.Callee P w K mg base "find_mixed" ["composers"] 2 (spD K (f1 d_find_mixed)) := ⟨_, _, ok_find_mixed z_all z_bool z_enumerate z_int z_isinstance z_len z_list z_max z_min z_range z_sorted z_str z_tuple F2 C_ranked_pieces, g2, F2.kp, b2⟩
  have C__law_cell : Dl.Callee P w K mg base "_law_cell" ["script", "k"] 1 (spCell K) := ⟨_, _, ok__law_cell z_len z_int F3, g3, F3.kp, b3⟩
  have C_judge_mixed : Dl.Callee P w K mg base "judge_mixed" ["composers", "verdict"] 1 (spD K (f2 d_judge_mixed)) := ⟨_, _, ok_judge_mixed z_all z_bool z_enumerate z_int z_isinstance z_len z_list z_max z_min z_range z_sorted z_str z_tuple F4 , g4, F4.kp, b4⟩
  have C__law_accepts : Dl.Callee P w K mg base "_law_accepts" ["composers", "paper"] 1 (spD K (f2 d__law_accepts)) := ⟨_, _, ok__law_accepts z_all z_bool z_enumerate z_int z_isinstance z_len z_list z_max z_min z_range z_sorted z_str z_tuple F5 , g5, F5.kp, b5⟩
  have C__law_same : Dl.Callee P w K mg base "_law_same" ["told", "due"] 12 (spD K (f2 (d__law_same 12))) := ⟨_, _, ok__law_same z_all z_bool z_enumerate z_int z_isinstance z_len z_list z_max z_min z_range z_sorted z_str z_tuple F6 g6 b6  12, g6, F6.kp, b6⟩
  have C__law_may : Dl.Callee P w K mg base "_law_may" ["barred", "one", "other"] 1 (spD K (f3 d__law_may)) := ⟨_, _, ok__law_may z_all z_bool z_enumerate z_int z_isinstance z_len z_list z_max z_min z_range z_sorted z_str z_tuple F7 , g7, F7.kp, b7⟩
  have C__law_clean_orders : Dl.Callee P w K mg base "_law_clean_orders" ["count", "barred"] 2 (spD K (f2 d__law_clean_orders)) := ⟨_, _, ok__law_clean_orders z_all z_bool z_enumerate z_int z_isinstance z_len z_list z_max z_min z_range z_sorted z_str z_tuple F8 C__law_may, g8, F8.kp, b8⟩
  exact ok_law z_all z_bool z_enumerate z_int z_isinstance z_len z_list z_max z_min z_range z_sorted z_str z_tuple F9 C__law_accepts C__law_cell C__law_clean_orders C__law_numbers C__law_same C_find_mixed C_judge_mixed
end Wk0
open PySem PySem.W PyProof.Rows
set_option maxHeartbeats 0 in
theorem PySem.Challenge.cw_nobodywaits_k49_whole_orders_of_mixed_co_holds : PySem.Challenge.rw_nobodywaits_k49_whole_orders_of_mixed_co.Holds := by
  w_on; o_law; k_head; (case hw => w_witness2)
  k_fill
  refine L2.walk_of (l := PySem.Challenge.rw_nobodywaits_k49_whole_orders_of_mixed_co) (n := 63) (k := 13) (x := "script") (CX := fun _ => L2.CX0) (sp := fun w => Dl.spLaw _ Wk0.d_law) rfl (by decide) rfl ⟨rfl, by decide, by decide⟩ (fun w h Y => PySem.W.kIn_of Y) ?F (fun _ _ a ns hl _ hS => ⟨a, ns, rfl, hS, hl, Wk0.law_true ns hl, fun _ => rfl⟩) (fun _ _ _ _ _ h => h)
  case F =>
    intro w mg fa h KX G hmg
    refine' Wk0.all_mk KX G hmg ?a0 ?l0 ?c0 ?k0 ?a1 ?l1 ?c1 ?k1 ?a2 ?l2 ?c2 ?k2 ?a3 ?l3 ?c3 ?k3 ?a4 ?l4 ?c4 ?k4 ?a5 ?l5 ?c5 ?k5 ?a6 ?l6 ?c6 ?k6 ?a7 ?l7 ?c7 ?k7 ?a8 ?l8 ?c8 ?k8 ?a9 ?l9 ?c9 ?k9 ?y_all ?y_bool ?y_enumerate ?y_int ?y_isinstance ?y_len ?y_list ?y_max ?y_min ?y_range ?y_sorted ?y_str ?y_tuple
    (case a0 => k_is)
    (case l0 => k_is)
    (case c0 => k_is)
    (case k0 => k_is)
    (case a1 => k_is)
    (case l1 => k_is)
    (case c1 => k_is)
    (case k1 => k_is)
    (case a2 => k_is)
    (case l2 => k_is)
    (case c2 => k_is)
    (case k2 => k_is)
    (case a3 => k_is)
    (case l3 => k_is)
    (case c3 => k_is)
    (case k3 => k_is)
    (case a4 => k_is)
    (case l4 => k_is)
    (case c4 => k_is)
    (case k4 => k_is)
    (case a5 => k_is)
    (case l5 => k_is)
    (case c5 => k_is)
    (case k5 => k_is)
    (case a6 => k_is)
    (case l6 => k_is)
    (case c6 => k_is)
    (case k6 => k_is)
    (case a7 => k_is)
    (case l7 => k_is)
    (case c7 => k_is)
    (case k7 => k_is)
    (case a8 => k_is)
    (case l8 => k_is)
    (case c8 => k_is)
    (case k8 => k_is)
    (case a9 => k_is)
    (case l9 => k_is)
    (case c9 => k_is)
    (case k9 => k_is)
    (case y_all => k_is)
    (case y_bool => k_is)
    (case y_enumerate => k_is)
    (case y_int => k_is)
    (case y_isinstance => k_is)
    (case y_len => k_is)
    (case y_list => k_is)
    (case y_max => k_is)
    (case y_min => k_is)
    (case y_range => k_is)
    (case y_sorted => k_is)
    (case y_str => k_is)
    (case y_tuple => k_is)

