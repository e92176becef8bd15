import PyProof.Rows.All
import Wide.All
import OpenK.AllK
import Wide.FinOn
import HandS.ForMost
import HandS.Walk
import HandS.IsInst
import HandS.Gcd
import HandS.TupAny
import HandS.Wide
import HandS.Flow
import HandS.Style
import KE.KMathGC
import PyProof.Rows.SumAny
import HandS.Zip
import KE.GoesMore
import KE.GoesEnum
import PySem.Challenge.RW_codesweighed_k14_spread_numbers_by_polyn
set_option Elab.async false
set_option linter.all false
set_option maxRecDepth 100000
set_option maxHeartbeats 4000000
/-! FD: defs as functions on plain data. Part 1: data, what bears it in the abstract heap, the frame's relation. -/
namespace FD
open PySem PySem.Spec PyProof.Rows L2

/-- data: lst is a list that is not changed any more; sls one that may stand anywhere (the script) -/
inductive D where
  | non | bl (b : Bool) | int (i : Int) | str (x : Str) | tup (l : List D) | lst (l : List D) | sls (l : List D)
  deriving Inhabited

abbrev Zs := Addr → Prop
def KTup (K : PySem.W.Frag) (a : Addr) (xs : List V) : Prop :=
  ∃ (o : Obj) (its : Array Value) (n : Nat), K.lookup a = some o ∧ o.cls = .type "tuple" ∧ o.data = .seq its n ∧ its.size ≤ sizeLine ∧ Vals xs its.toList
def KLst (K : PySem.W.Frag) (a : Addr) (xs : List V) : Prop :=
  ∃ (o : Obj) (its : Array Value) (n : Nat), K.lookup a = some o ∧ o.cls = .type "list" ∧ o.dict = none ∧ o.data = .seq its n ∧ its.size ≤ sizeLine ∧ Vals xs its.toList
/-- a tuple, a list, any list at a, none of Z's -/
def PTu (K : PySem.W.Frag) (H : Hp) (Z : Zs) (a : Addr) (vs : List V) : Prop := (H a = some (.tup vs) ∧ ¬ Z a) ∨ KTup K a vs
def PLi (H : Hp) (Z : Zs) (a : Addr) (vs : List V) : Prop := H a = some (.lst vs) ∧ ¬ Z a
def PSl (K : PySem.W.Frag) (H : Hp) (Z : Zs) (a : Addr) (vs : List V) : Prop := (H a = some (.lst vs) ∧ ¬ Z a) ∨ (∃ o, H a = some (.frz o (.lst vs)) ∧ ¬ Z a) ∨ KLst K a vs

mutual
/-- v bears d in H, by things that are not Z's -/
def RD (K : PySem.W.Frag) (H : Hp) (Z : Zs) : D → V → Prop
  | .non, v => v = .non
  | .bl b, v => v = .bl b
  | .int i, v => v = .int i
  | .str x, v => v = .str x
  | .tup l, v => ∃ a vs, v = .ref a ∧ PTu K H Z a vs ∧ RDs K H Z l vs
  | .lst l, v => ∃ a vs, v = .ref a ∧ PLi H Z a vs ∧ RDs K H Z l vs
  | .sls l, v => ∃ a vs, v = .ref a ∧ PSl K H Z a vs ∧ RDs K H Z l vs
def RDs (K : PySem.W.Frag) (H : Hp) (Z : Zs) : List D → List V → Prop
  | [], vs => vs = []
  | d :: l, vs => ∃ v r, vs = v :: r ∧ RD K H Z d v ∧ RDs K H Z l r
end

section
variable {K : PySem.W.Frag} {H H' : Hp} {Z Z' : Zs}
theorem RDs.p : ∀ {l : List D} {vs : List V}, RDs K H Z l vs → Paired (RD K H Z) l vs
  | [], _, h => by
    rw [RDs] at h
    subst h
    exact .nil
  | d :: l, _, h => by
    rw [RDs] at h
    obtain ⟨v, r, rfl, h1, h2⟩ := h
    exact .cons h1 (RDs.p h2)
theorem RDs.of : ∀ {l : List D} {vs : List V}, Paired (RD K H Z) l vs → RDs K H Z l vs
  | [], _, .nil => by rw [RDs]
  | d :: l, _, .cons h1 h2 => by
    rw [RDs]
    exact ⟨_, _, rfl, h1, RDs.of h2⟩
theorem RDs.nil : RDs K H Z [] [] := by rw [RDs]
theorem RDs.cons {d : D} {v : V} {l : List D} {vs : List V} (h : RD K H Z d v) (t : RDs K H Z l vs) : RDs K H Z (d :: l) (v :: vs) := by
  rw [RDs]
  exact ⟨_, _, rfl, h, t⟩
theorem RDs.length {l : List D} {vs : List V} (h : RDs K H Z l vs) : l.length = vs.length := h.p.length

mutual
theorem RD.mono (hm : ∀ b o, H b = some o → ¬ Z b → H' b = some o ∧ ¬ Z' b) : ∀ {d : D} {v : V}, RD K H Z d v → RD K H' Z' d v
  | .non, v, h => by rw [RD] at h ⊢; exact h
  | .bl _, v, h => by rw [RD] at h ⊢; exact h
  | .int _, v, h => by rw [RD] at h ⊢; exact h
  | .str _, v, h => by rw [RD] at h ⊢; exact h
  | .tup l, v, h => by
    rw [RD] at h ⊢
    obtain ⟨a, vs, e, p, r⟩ := h
    refine ⟨a, vs, e, ?_, RDs.mono hm r⟩
    rcases p with ⟨p1, p2⟩ | p
    · exact .inl (hm a _ p1 p2)
    · exact .inr p
  | .lst l, v, h => by
    rw [RD] at h ⊢
    obtain ⟨a, vs, e, p, r⟩ := h
    exact ⟨a, vs, e, hm a _ p.1 p.2, RDs.mono hm r⟩
  | .sls l, v, h => by
    rw [RD] at h ⊢
    obtain ⟨a, vs, e, p, r⟩ := h
    refine ⟨a, vs, e, ?_, RDs.mono hm r⟩
    rcases p with ⟨p1, p2⟩ | ⟨o, p1, p2⟩ | p
    · exact .inl (hm a _ p1 p2)
    · exact .inr (.inl ⟨o, hm a _ p1 p2⟩)
    · exact .inr (.inr p)
theorem RDs.mono (hm : ∀ b o, H b = some o → ¬ Z b → H' b = some o ∧ ¬ Z' b) : ∀ {l : List D} {vs : List V}, RDs K H Z l vs → RDs K H' Z' l vs
  | [], _, h => by rw [RDs] at h ⊢; exact h
  | d :: l, _, h => by
    rw [RDs] at h ⊢
    obtain ⟨v, r, e, h1, h2⟩ := h
    exact ⟨v, r, e, RD.mono hm h1, RDs.mono hm h2⟩
end

mutual
/-- no list in it -/
def noL : D → Bool
  | .lst _ => false
  | .sls _ => false
  | .tup l => noLs l
  | _ => true
def noLs : List D → Bool
  | [] => true
  | d :: l => noL d && noLs l
end
def isLst : HO → Bool
  | .lst _ => true
  | _ => false
mutual
theorem RD.monoT (hm : ∀ b o, H b = some o → isLst o = false → ¬ Z b → H' b = some o ∧ ¬ Z' b) : ∀ {d : D} {v : V}, noL d = true → RD K H Z d v → RD K H' Z' d v
  | .non, v, _, h => by rw [RD] at h ⊢; exact h
  | .bl _, v, _, h => by rw [RD] at h ⊢; exact h
  | .int _, v, _, h => by rw [RD] at h ⊢; exact h
  | .str _, v, _, h => by rw [RD] at h ⊢; exact h
  | .tup l, v, n, h => by
    rw [noL] at n
    rw [RD] at h ⊢
    obtain ⟨a, vs, e, p, r⟩ := h
    refine ⟨a, vs, e, ?_, RDs.monoT hm n r⟩
    rcases p with ⟨p1, p2⟩ | p
    · exact .inl (hm a _ p1 rfl p2)
    · exact .inr p
  | .lst l, v, n, h => by rw [noL] at n; cases n
  | .sls l, v, n, h => by rw [noL] at n; cases n
theorem RDs.monoT (hm : ∀ b o, H b = some o → isLst o = false → ¬ Z b → H' b = some o ∧ ¬ Z' b) : ∀ {l : List D} {vs : List V}, noLs l = true → RDs K H Z l vs → RDs K H' Z' l vs
  | [], _, _, h => by rw [RDs] at h ⊢; exact h
  | d :: l, _, n, h => by
    rw [noLs, Bool.and_eq_true] at n
    rw [RDs] at h ⊢
    obtain ⟨v, r, e, h1, h2⟩ := h
    exact ⟨v, r, e, RD.monoT hm n.1 h1, RDs.monoT hm n.2 h2⟩
end

theorem rd_non : RD K H Z .non .non := by rw [RD]
theorem rd_bl {b : Bool} : RD K H Z (.bl b) (.bl b) := by rw [RD]
theorem rd_int {i : Int} : RD K H Z (.int i) (.int i) := by rw [RD]
theorem rd_str {x : Str} : RD K H Z (.str x) (.str x) := by rw [RD]
theorem RD.int_inv {i : Int} {v : V} (h : RD K H Z (.int i) v) : v = .int i := by rw [RD] at h; exact h
theorem RD.bl_inv {i : Bool} {v : V} (h : RD K H Z (.bl i) v) : v = .bl i := by rw [RD] at h; exact h
theorem RD.str_inv {i : Str} {v : V} (h : RD K H Z (.str i) v) : v = .str i := by rw [RD] at h; exact h
theorem RD.non_inv {v : V} (h : RD K H Z .non v) : v = .non := by rw [RD] at h; exact h
theorem RD.tup_inv {l : List D} {v : V} (h : RD K H Z (.tup l) v) : ∃ a vs, v = .ref a ∧ PTu K H Z a vs ∧ RDs K H Z l vs := by rw [RD] at h; exact h
theorem RD.lst_inv {l : List D} {v : V} (h : RD K H Z (.lst l) v) : ∃ a vs, v = .ref a ∧ PLi H Z a vs ∧ RDs K H Z l vs := by rw [RD] at h; exact h
theorem RD.sls_inv {l : List D} {v : V} (h : RD K H Z (.sls l) v) : ∃ a vs, v = .ref a ∧ PSl K H Z a vs ∧ RDs K H Z l vs := by rw [RD] at h; exact h
theorem rd_tup {l : List D} {a : Addr} {vs : List V} (h : PTu K H Z a vs) (r : RDs K H Z l vs) : RD K H Z (.tup l) (.ref a) := by rw [RD]; exact ⟨a, vs, rfl, h, r⟩
theorem rd_lst {l : List D} {a : Addr} {vs : List V} (h : PLi H Z a vs) (r : RDs K H Z l vs) : RD K H Z (.lst l) (.ref a) := by rw [RD]; exact ⟨a, vs, rfl, h, r⟩
theorem rd_sls {l : List D} {a : Addr} {vs : List V} (h : PSl K H Z a vs) (r : RDs K H Z l vs) : RD K H Z (.sls l) (.ref a) := by rw [RD]; exact ⟨a, vs, rfl, h, r⟩
theorem PTu.sq {a : Addr} {vs : List V} (h : PTu K H Z a vs) : SqT K H a vs := by
  rcases h with h | h
  · exact .inl (.inl h.1)
  · exact .inr h
theorem PLi.sq {a : Addr} {vs : List V} (h : PLi H Z a vs) : SqL K H a vs := .inl (.inl h.1)
theorem PSl.sq {a : Addr} {vs : List V} (h : PSl K H Z a vs) : SqL K H a vs := by
  rcases h with h | ⟨o, h, _⟩ | h
  · exact .inl (.inl h.1)
  · exact .inl (.inr ⟨o, h⟩)
  · exact .inr h

/-! pairs of lists -/
theorem pr_get {α β : Type} {F : α → β → Prop} : ∀ {l : List α} {m : List β} {i : Nat} {x : α}, Paired F l m → l[i]? = some x → ∃ y, m[i]? = some y ∧ F x y
  | _, _, _, _, .nil, e => by simp at e
  | _, _, 0, x, .cons r _, e => by simp at e; subst e; exact ⟨_, rfl, r⟩
  | _, _, i + 1, x, .cons _ t, e => by
    obtain ⟨y, h1, h2⟩ := pr_get (i := i) (x := x) t (by simpa using e)
    exact ⟨y, by simpa using h1, h2⟩
theorem pr_append {α β : Type} {F : α → β → Prop} : ∀ {l l' : List α} {m m' : List β}, Paired F l m → Paired F l' m' → Paired F (l ++ l') (m ++ m')
  | _, _, _, _, .nil, s => s
  | _, _, _, _, .cons r t, s => .cons r (pr_append t s)
theorem pr_set {α β : Type} {F : α → β → Prop} {x : α} {y : β} (h : F x y) : ∀ {l : List α} {m : List β} (i : Nat), Paired F l m → Paired F (l.set i x) (m.set i y)
  | _, _, _, .nil => .nil
  | _, _, 0, .cons _ t => .cons h t
  | _, _, i + 1, .cons q t => .cons q (pr_set h i t)
theorem pr_take {α β : Type} {F : α → β → Prop} : ∀ {l : List α} {m : List β} (n : Nat), Paired F l m → Paired F (l.take n) (m.take n)
  | _, _, 0, _ => by simpa using Paired.nil
  | _, _, _ + 1, .nil => .nil
  | _, _, n + 1, .cons r t => .cons r (pr_take n t)
theorem pr_drop {α β : Type} {F : α → β → Prop} : ∀ {l : List α} {m : List β} (n : Nat), Paired F l m → Paired F (l.drop n) (m.drop n)
  | _, _, 0, r => r
  | _, _, _ + 1, .nil => .nil
  | _, _, n + 1, .cons _ t => pr_drop n t
theorem pr_reverse {α β : Type} {F : α → β → Prop} : ∀ {l : List α} {m : List β}, Paired F l m → Paired F l.reverse m.reverse
  | _, _, .nil => .nil
  | _, _, .cons r t => by
    rw [List.reverse_cons, List.reverse_cons]
    exact pr_append (pr_reverse t) (.cons r .nil)
theorem pr_rep {α β : Type} {F : α → β → Prop} {l : List α} {m : List β} (h : Paired F l m) : ∀ k : Nat, Paired F (List.replicate k l).flatten (List.replicate k m).flatten
  | 0 => .nil
  | k + 1 => by
    rw [List.replicate_succ, List.replicate_succ, List.flatten_cons, List.flatten_cons]
    exact pr_append h (pr_rep h k)
theorem pr_erase {α β : Type} {F : α → β → Prop} : ∀ {l : List α} {m : List β} (i : Nat), Paired F l m → Paired F (l.eraseIdx i) (m.eraseIdx i)
  | _, _, _, .nil => .nil
  | _, _, 0, .cons _ t => t
  | _, _, i + 1, .cons q t => .cons q (pr_erase i t)
end

/-! ### the frame -/
/-- a slot: nothing known | plain data | a list of its own, that only this slot holds | the same, a parameter's | -/
inductive S where
  | off | val (d : D) | own (l : List D) | io (l : List D)
  deriving Inhabited
/-- the frame's fixed part: the heap at entry; the lists that came in to be changed; others' lists; lists under work; data that is held -/
structure R where
  H0 : Hp
  P : Nat → Option Addr
  Y : Addr → Prop
  U : List (Addr × List D)
  T : List (D × V)
def Zw (r : R) (W : Nat → Option Addr) : Zs := fun a => r.Y a ∨ a ∈ r.U.map (·.1) ∨ ∃ i, W i = some a
def R.t (r : R) (d : D) (v : V) : R := { r with T := (d, v) :: r.T }
def R.u (r : R) (a : Addr) (l : List D) : R := { r with U := (a, l) :: r.U }
def LstAt (K : PySem.W.Frag) (H : Hp) (Z : Zs) (a : Addr) (l : List D) : Prop := ∃ vs, H a = some (.lst vs) ∧ RDs K H Z l vs
def RSlot (K : PySem.W.Frag) (H : Hp) (Z : Zs) (w : Option Addr) (s : S) (o : Option (Option V)) : Prop :=
  match s with
  | .off => w = none
  | .val d => w = none ∧ ∃ v, o = some (some v) ∧ RD K H Z d v
  | .own l => ∃ a, w = some a ∧ o = some (some (.ref a)) ∧ LstAt K H Z a l
  | .io l => ∃ a, w = some a ∧ o = some (some (.ref a)) ∧ LstAt K H Z a l
structure Rep (K : PySem.W.Frag) (r : R) (W : Nat → Option Addr) (ss : List S) (σ : L2.St) (H : Hp) : Prop where
  len : ss.length = σ.length
  slot : ∀ (i : Nat) s, ss[i]? = some s → RSlot K H (Zw r W) (W i) s σ[i]?
  wlt : ∀ i a, W i = some a → i < ss.length
  inj : ∀ i j a, W i = some a → W j = some a → i = j
  wok : ∀ i a, W i = some a → ¬ r.Y a ∧ (r.P i = some a ∨ r.H0 a = none)
  pok : ∀ i a, r.P i = some a → W i = some a ∧ ∃ l, ss[i]? = some (.io l)
  iop : ∀ (i : Nat) l, ss[i]? = some (.io l) → r.P i = W i
  uok : ∀ p ∈ r.U, r.H0 p.1 = none ∧ ¬ r.Y p.1 ∧ (∀ i, W i ≠ some p.1) ∧ LstAt K H (Zw r W) p.1 p.2
  und : (r.U.map (·.1)).Nodup
  tok : ∀ p ∈ r.T, RD K H (Zw r W) p.1 p.2
  yok : ∀ a, r.Y a → ∃ o, r.H0 a = some o
  keep : ∀ a o, r.H0 a = some o → (∀ i, r.P i ≠ some a) → H a = some o

section
variable {K : PySem.W.Frag} {r : R} {W : Nat → Option Addr} {ss : List S} {σ : L2.St} {H H' : Hp} {Z Z' : Zs}
theorem LstAt.mono {a : Addr} {l : List D} (h : LstAt K H Z a l) (hm : ∀ b o, H b = some o → ¬ Z b → H' b = some o ∧ ¬ Z' b) (ha : ∀ vs, H a = some (.lst vs) → H' a = some (.lst vs)) : LstAt K H' Z' a l :=
  let ⟨vs, h1, h2⟩ := h
  ⟨vs, ha vs h1, h2.mono hm⟩
theorem RSlot.mono {w : Option Addr} {s : S} {o : Option (Option V)} (h : RSlot K H Z w s o) (hm : ∀ b o, H b = some o → ¬ Z b → H' b = some o ∧ ¬ Z' b) (ha : ∀ a, w = some a → ∀ vs, H a = some (.lst vs) → H' a = some (.lst vs)) :
    RSlot K H' Z' w s o := by
  cases s with
  | off => exact h
  | val d =>
    obtain ⟨h1, v, h2, h3⟩ := h
    exact ⟨h1, v, h2, h3.mono hm⟩
  | own l =>
    obtain ⟨a, h1, h2, h3⟩ := h
    exact ⟨a, h1, h2, h3.mono hm (ha a h1)⟩
  | io l =>
    obtain ⟨a, h1, h2, h3⟩ := h
    exact ⟨a, h1, h2, h3.mono hm (ha a h1)⟩
/-- an owned list stands -/
theorem Rep.at (I : Rep K r W ss σ H) {i : Nat} {a : Addr} (h : W i = some a) : ∃ l, (ss[i]? = some (.own l) ∨ ss[i]? = some (.io l)) ∧ σ[i]? = some (some (.ref a)) ∧ LstAt K H (Zw r W) a l := by
  have hi := I.wlt i a h
  have q := I.slot i ss[i] (by simp [hi])
  cases e : ss[i] with
  | off =>
    rw [e] at q
    have q : W i = none := q
    rw [h] at q; cases q
  | val d =>
    rw [e] at q
    have q : W i = none := q.1
    rw [h] at q; cases q
  | own l =>
    rw [e] at q
    obtain ⟨b, h1, h2, h3⟩ := q
    rw [h] at h1
    cases h1
    exact ⟨l, .inl (by rw [List.getElem?_eq_getElem hi, e]), h2, h3⟩
  | io l =>
    rw [e] at q
    obtain ⟨b, h1, h2, h3⟩ := q
    rw [h] at h1
    cases h1
    exact ⟨l, .inr (by rw [List.getElem?_eq_getElem hi, e]), h2, h3⟩
theorem Rep.trk (I : Rep K r W ss σ H) {a : Addr} (h : Zw r W a) : ∃ o, H a = some o := by
  rcases h with h | h | ⟨i, h⟩
  · obtain ⟨o, e⟩ := I.yok a h
    refine ⟨o, I.keep a o e fun i hi => ?_⟩
    exact (I.wok i a (I.pok i a hi).1).1 h
  · obtain ⟨p, hp, e⟩ := List.mem_map.mp h
    obtain ⟨_, _, _, vs, q, _⟩ := I.uok p hp
    exact ⟨_, by rw [← e]; exact q⟩
  · obtain ⟨_, _, _, vs, q, _⟩ := I.at h
    exact ⟨_, q⟩
theorem Rep.fresh (I : Rep K r W ss σ H) {a : Addr} (h : H a = none) : ¬ Zw r W a ∧ r.H0 a = none := by
  have nz : ¬ Zw r W a := fun z => by
    obtain ⟨o, e⟩ := I.trk z
    rw [h] at e; cases e
  refine ⟨nz, ?_⟩
  cases e : r.H0 a with
  | none => rfl
  | some o =>
    have q := I.keep a o e fun i hi => nz (.inr (.inr ⟨i, (I.pok i a hi).1⟩))
    rw [h] at q; cases q
/-- all that was tracked is kept -/
theorem Rep.same (I : Rep K r W ss σ H) (k : ∀ b o, H b = some o → H' b = some o) : Rep K r W ss σ H' :=
  ⟨I.len, fun i s e => (I.slot i s e).mono (fun b o h z => ⟨k b o h, z⟩) fun a _ vs h => k a _ h, I.wlt, I.inj, I.wok, I.pok, I.iop,
    fun p hp => let ⟨h1, h2, h3, h4⟩ := I.uok p hp; ⟨h1, h2, h3, h4.mono (fun b o h z => ⟨k b o h, z⟩) fun vs h => k _ _ h⟩, I.und,
    fun p hp => (I.tok p hp).mono fun b o h z => ⟨k b o h, z⟩, I.yok, fun a o e n => k a o (I.keep a o e n)⟩
theorem keeps_upd {a : Addr} {o : HO} (n : H a = none) : ∀ b u, H b = some u → upd H a o b = some u := fun b u e => by
  rw [upd_ne (ne_of_none e n)]
  exact e
theorem Rep.alloc (I : Rep K r W ss σ H) {a : Addr} {o : HO} (n : H a = none) : Rep K r W ss σ (upd H a o) := I.same (keeps_upd n)
theorem RD.same {d : D} {v : V} (h : RD K H Z d v) (k : ∀ b o, H b = some o → H' b = some o) : RD K H' Z d v := h.mono fun b o q z => ⟨k b o q, z⟩
theorem RDs.same {d : List D} {v : List V} (h : RDs K H Z d v) (k : ∀ b o, H b = some o → H' b = some o) : RDs K H' Z d v := h.mono fun b o q z => ⟨k b o q, z⟩
theorem RD.fewer {d : D} {v : V} (h : RD K H Z d v) (k : ∀ b, Z' b → Z b) : RD K H Z' d v := h.mono fun b o q z => ⟨q, fun y => z (k b y)⟩
theorem RDs.fewer {d : List D} {v : List V} (h : RDs K H Z d v) (k : ∀ b, Z' b → Z b) : RDs K H Z' d v := h.mono fun b o q z => ⟨q, fun y => z (k b y)⟩
theorem LstAt.fewer {a : Addr} {l : List D} (h : LstAt K H Z a l) (k : ∀ b, Z' b → Z b) : LstAt K H Z' a l := h.mono (fun b o q z => ⟨q, fun y => z (k b y)⟩) fun _ q => q
theorem RSlot.fewer {w : Option Addr} {s : S} {o : Option (Option V)} (h : RSlot K H Z w s o) (k : ∀ b, Z' b → Z b) : RSlot K H Z' w s o := h.mono (fun b o q z => ⟨q, fun y => z (k b y)⟩) fun _ _ _ q => q
/-- a new tuple -/
theorem Rep.newTup (I : Rep K r W ss σ H) {a : Addr} {l : List D} {vs : List V} (n : H a = none) (h : RDs K H (Zw r W) l vs) :
    Rep K r W ss σ (upd H a (.tup vs)) ∧ RD K (upd H a (.tup vs)) (Zw r W) (.tup l) (.ref a) :=
  ⟨I.alloc n, rd_tup (.inl ⟨upd_same, (I.fresh n).1⟩) (h.same (keeps_upd n))⟩
/-- data is held -/
theorem Rep.hold (I : Rep K r W ss σ H) {d : D} {v : V} (h : RD K H (Zw r W) d v) : Rep K (r.t d v) W ss σ H :=
  ⟨I.len, I.slot, I.wlt, I.inj, I.wok, I.pok, I.iop, I.uok, I.und, fun p hp => (List.mem_cons.mp hp).elim (fun e => by rw [e]; exact h) (I.tok p), I.yok, I.keep⟩
theorem Rep.drop {d : D} {v : V} (I : Rep K (r.t d v) W ss σ H) : Rep K r W ss σ H ∧ RD K H (Zw r W) d v :=
  ⟨⟨I.len, I.slot, I.wlt, I.inj, I.wok, I.pok, I.iop, I.uok, I.und, fun p hp => I.tok p (List.mem_cons_of_mem _ hp), I.yok, I.keep⟩, I.tok _ List.mem_cons_self⟩
theorem Zw_u {a b : Addr} {l : List D} : Zw (r.u a l) W b ↔ b = a ∨ Zw r W b := by
  unfold Zw R.u
  simp only [List.map_cons, List.mem_cons]
  constructor
  · rintro (h | (h | h) | h)
    · exact .inr (.inl h)
    · exact .inl h
    · exact .inr (.inr (.inl h))
    · exact .inr (.inr (.inr h))
  · rintro (h | h | h | h)
    · exact .inr (.inl (.inl h))
    · exact .inl h
    · exact .inr (.inl (.inr h))
    · exact .inr (.inr h)
/-- a new list under work -/
theorem Rep.newLst (I : Rep K r W ss σ H) {a : Addr} {l : List D} {vs : List V} (n : H a = none) (h : RDs K H (Zw r W) l vs) : Rep K (r.u a l) W ss σ (upd H a (.lst vs)) := by
  obtain ⟨nz, n0⟩ := I.fresh n
  have k := keeps_upd (o := .lst vs) n
  have hm : ∀ b o, H b = some o → ¬ Zw r W b → upd H a (.lst vs) b = some o ∧ ¬ Zw (r.u a l) W b := fun b o e z => ⟨k b o e, fun y => by
    rcases Zw_u.mp y with y | y
    · subst y; rw [n] at e; cases e
    · exact z y⟩
  refine ⟨I.len, fun i s e => (I.slot i s e).mono hm fun b _ vs h => k b _ h, I.wlt, I.inj, I.wok, I.pok, I.iop, fun p hp => ?_, ?_, fun p hp => (I.tok p hp).mono hm, I.yok, fun b o e q => k b o (I.keep b o e q)⟩
  · rcases List.mem_cons.mp hp with e | hp
    · subst e
      exact ⟨n0, fun y => nz (.inl y), fun i e => nz (.inr (.inr ⟨i, e⟩)), vs, upd_same, h.mono hm⟩
    · obtain ⟨h1, h2, h3, h4⟩ := I.uok p hp
      exact ⟨h1, h2, h3, h4.mono hm fun _ q => k _ _ q⟩
  · show ((a :: r.U.map (·.1))).Nodup
    exact List.nodup_cons.mpr ⟨fun m => nz (.inr (.inl m)), I.und⟩
/-- it is left as it is from here on -/
theorem Rep.freeze {a : Addr} {l : List D} (I : Rep K (r.u a l) W ss σ H) : Rep K r W ss σ H ∧ RD K H (Zw r W) (.lst l) (.ref a) := by
  have k : ∀ b, Zw r W b → Zw (r.u a l) W b := fun b y => Zw_u.mpr (.inr y)
  have nd : a ∉ r.U.map (·.1) := (List.nodup_cons.mp I.und).1
  obtain ⟨h1, h2, h3, vs, h4, h5⟩ := I.uok (a, l) List.mem_cons_self
  refine ⟨⟨I.len, fun i s e => (I.slot i s e).fewer k, I.wlt, I.inj, I.wok, I.pok, I.iop, fun p hp => ?_, (List.nodup_cons.mp I.und).2, fun p hp => (I.tok p hp).fewer k, I.yok, I.keep⟩, rd_lst ⟨h4, ?_⟩ (h5.fewer k)⟩
  · obtain ⟨q1, q2, q3, q4⟩ := I.uok p (List.mem_cons_of_mem _ hp)
    exact ⟨q1, q2, q3, q4.fewer k⟩
  · rintro (z | z | ⟨i, z⟩)
    · exact h2 z
    · exact nd z
    · exact h3 i z
/-- the list under work is changed -/
theorem Rep.work {a : Addr} {l l' : List D} {vs : List V} (I : Rep K (r.u a l) W ss σ H) (h : RDs K H (Zw (r.u a l) W) l' vs) : Rep K (r.u a l') W ss σ (upd H a (.lst vs)) := by
  have ez : Zw (r.u a l') W = Zw (r.u a l) W := rfl
  obtain ⟨h1, h2, h3, vs0, h4, h5⟩ := I.uok (a, l) List.mem_cons_self
  have za : Zw (r.u a l) W a := Zw_u.mpr (.inl rfl)
  have k : ∀ b o, H b = some o → ¬ Zw (r.u a l) W b → upd H a (.lst vs) b = some o ∧ ¬ Zw (r.u a l') W b := fun b o e z => ⟨by
    rw [upd_ne (fun q => z (by rw [q]; exact za))]
    exact e, z⟩
  have nd : a ∉ r.U.map (·.1) := (List.nodup_cons.mp I.und).1
  refine ⟨I.len, fun i s e => (I.slot i s e).mono k fun b hb vs q => ?_, I.wlt, I.inj, I.wok, I.pok, I.iop, fun p hp => ?_, I.und, fun p hp => (I.tok p hp).mono k, I.yok, fun b o e n => ?_⟩
  · rw [upd_ne (fun z => h3 i (by rw [← z]; exact hb))]
    exact q
  · rcases List.mem_cons.mp hp with e | hp
    · subst e
      exact ⟨h1, h2, h3, vs, upd_same, h.mono k⟩
    · obtain ⟨q1, q2, q3, q4⟩ := I.uok p (List.mem_cons_of_mem _ hp)
      refine ⟨q1, q2, q3, q4.mono k fun vs q => ?_⟩
      rw [upd_ne (fun z => nd (by rw [← z]; exact List.mem_map.mpr ⟨p, hp, rfl⟩))]
      exact q
  · have e' : r.H0 b = some o := e
    have h1' : r.H0 a = none := h1
    rw [upd_ne (fun z => by rw [z, h1'] at e'; cases e')]
    exact I.keep b o e n
end

/-! ### slots are stored -/
section
variable {K : PySem.W.Frag} {r : R} {W : Nat → Option Addr} {ss : List S} {σ : L2.St} {H H' : Hp}
def noIo (ss : List S) (i : Nat) : Prop := ∀ l, ss[i]? ≠ some (.io l)
def wset (W : Nat → Option Addr) (i : Nat) (o : Option Addr) : Nat → Option Addr := fun j => if j = i then o else W j
theorem wset_same {i : Nat} {o : Option Addr} : wset W i o i = o := by unfold wset; rw [if_pos rfl]
theorem wset_ne {i j : Nat} {o : Option Addr} (h : j ≠ i) : wset W i o j = W j := by unfold wset; rw [if_neg h]
theorem wset_none {i j : Nat} {a : Addr} (h : wset W i none j = some a) : j ≠ i ∧ W j = some a := by
  by_cases e : j = i
  · subst e; rw [wset_same] at h; cases h
  · rw [wset_ne e] at h; exact ⟨e, h⟩
theorem Zw_none {i : Nat} : ∀ b, Zw r (wset W i none) b → Zw r W b := fun b h => by
  rcases h with h | h | ⟨j, h⟩
  · exact .inl h
  · exact .inr (.inl h)
  · exact .inr (.inr ⟨j, (wset_none h).2⟩)
theorem set_get {α : Type} {l : List α} {i j : Nat} {x y : α} (h : (l.set i x)[j]? = some y) : (j = i ∧ y = x ∧ i < l.length) ∨ (j ≠ i ∧ l[j]? = some y) := by
  by_cases e : i = j
  · subst e
    by_cases hl : i < l.length
    · rw [List.getElem?_set_self hl] at h
      exact .inl ⟨rfl, (Option.some.inj h).symm, hl⟩
    · rw [List.getElem?_eq_none (by simpa using hl)] at h; cases h
  · rw [List.getElem?_set_ne e] at h
    exact .inr ⟨fun q => e q.symm, h⟩
/-- slot i gets another content, of no own -/
theorem Rep.clear (I : Rep K r W ss σ H) {i : Nat} {s : S} {σ' : L2.St} (n : noIo ss i) (hs : s = .off ∨ ∃ d, s = .val d) (hl : σ'.length = σ.length) (hσ : ∀ j, j ≠ i → σ'[j]? = σ[j]?)
    (h : i < ss.length → RSlot K H (Zw r W) none s σ'[i]?) : Rep K r (wset W i none) (ss.set i s) σ' H := by
  refine ⟨by rw [List.length_set, I.len, hl], fun j s' e => ?_, fun j a e => ?_, fun j k a h1 h2 => I.inj j k a (wset_none h1).2 (wset_none h2).2, fun j a e => I.wok j a (wset_none e).2, fun j a e => ?_, fun j l e => ?_,
    fun p hp => ?_, I.und, fun p hp => (I.tok p hp).fewer Zw_none, I.yok, I.keep⟩
  · rcases set_get e with ⟨rfl, rfl, hj⟩ | ⟨hj, e⟩
    · rw [wset_same]
      exact (h hj).fewer Zw_none
    · rw [wset_ne hj, hσ j hj]
      exact (I.slot j s' e).fewer Zw_none
  · rw [List.length_set]
    exact I.wlt j a (wset_none e).2
  · obtain ⟨h1, l, h2⟩ := I.pok j a e
    have hj : j ≠ i := fun q => n l (by rw [← q]; exact h2)
    exact ⟨by rw [wset_ne hj]; exact h1, l, by rw [List.getElem?_set_ne (Ne.symm hj)]; exact h2⟩
  · rcases set_get e with ⟨_, q, _⟩ | ⟨hj, e⟩
    · rcases hs with z | ⟨d, z⟩ <;> (rw [z] at q; cases q)
    · rw [wset_ne hj]
      exact I.iop j l e
  · obtain ⟨q1, q2, q3, q4⟩ := I.uok p hp
    exact ⟨q1, q2, fun j e => q3 j (wset_none e).2, q4.fewer Zw_none⟩
theorem Rep.setVal (I : Rep K r W ss σ H) {i : Nat} {d : D} {v : V} (n : noIo ss i) (h : RD K H (Zw r W) d v) : Rep K r (wset W i none) (ss.set i (.val d)) (σ.set i (some v)) H :=
  I.clear n (.inr ⟨d, rfl⟩) (by simp) (fun j hj => List.getElem?_set_ne (Ne.symm hj)) fun hi => ⟨rfl, v, by rw [List.getElem?_set_self (by rw [← I.len]; exact hi)], h⟩
theorem Rep.know (I : Rep K r W ss σ H) {i : Nat} {d : D} {v : V} (n : noIo ss i) (e : σ[i]? = some (some v)) (h : RD K H (Zw r W) d v) : Rep K r (wset W i none) (ss.set i (.val d)) σ H :=
  I.clear n (.inr ⟨d, rfl⟩) rfl (fun _ _ => rfl) fun _ => ⟨rfl, v, e, h⟩
theorem Rep.forget (I : Rep K r W ss σ H) {i : Nat} {o : Option V} (n : noIo ss i) : Rep K r (wset W i none) (ss.set i .off) (σ.set i o) H :=
  I.clear n (.inl rfl) (by simp) (fun j hj => List.getElem?_set_ne (Ne.symm hj)) fun _ => rfl
theorem Rep.off (I : Rep K r W ss σ H) {i : Nat} (n : noIo ss i) : Rep K r (wset W i none) (ss.set i .off) σ H :=
  I.clear n (.inl rfl) rfl (fun _ _ => rfl) fun _ => rfl
/-- a list under work becomes slot i's own -/
theorem Rep.setOwn {a : Addr} {l : List D} (I : Rep K (r.u a l) W ss σ H) {i : Nat} (n : noIo ss i) (hi : i < ss.length) : Rep K r (wset W i (some a)) (ss.set i (.own l)) (σ.set i (some (.ref a))) H := by
  obtain ⟨h1, h2, h3, h4⟩ := I.uok (a, l) List.mem_cons_self
  have nd : a ∉ r.U.map (·.1) := (List.nodup_cons.mp I.und).1
  have k : ∀ b, Zw r (wset W i (some a)) b → Zw (r.u a l) W b := fun b z => by
    rcases z with z | z | ⟨j, z⟩
    · exact Zw_u.mpr (.inr (.inl z))
    · exact Zw_u.mpr (.inr (.inr (.inl z)))
    · by_cases e : j = i
      · subst e
        rw [wset_same] at z
        cases z
        exact Zw_u.mpr (.inl rfl)
      · rw [wset_ne e] at z
        exact Zw_u.mpr (.inr (.inr (.inr ⟨j, z⟩)))
  refine ⟨by rw [List.length_set, List.length_set, I.len], fun j s' e => ?_, fun j b e => ?_, fun j m b q1 q2 => ?_, fun j b e => ?_, fun j b e => ?_, fun j l' e => ?_, fun p hp => ?_, (List.nodup_cons.mp I.und).2, fun p hp => (I.tok p hp).fewer k, I.yok, I.keep⟩
  · rcases set_get e with ⟨rfl, rfl, hj⟩ | ⟨hj, e⟩
    · rw [wset_same]
      exact ⟨a, rfl, by rw [List.getElem?_set_self (by rw [← I.len]; exact hi)], h4.fewer k⟩
    · rw [wset_ne hj, List.getElem?_set_ne (Ne.symm hj)]
      exact (I.slot j s' e).fewer k
  · rw [List.length_set]
    by_cases q : j = i
    · rw [q]; exact hi
    · rw [wset_ne q] at e; exact I.wlt j b e
  · by_cases e1 : j = i
    · by_cases e2 : m = i
      · rw [e1, e2]
      · rw [e1, wset_same] at q1
        cases q1
        rw [wset_ne e2] at q2
        exact absurd q2 (h3 m)
    · rw [wset_ne e1] at q1
      by_cases e2 : m = i
      · rw [e2, wset_same] at q2
        cases q2
        exact absurd q1 (h3 j)
      · rw [wset_ne e2] at q2
        exact I.inj j m b q1 q2
  · by_cases q : j = i
    · rw [q, wset_same] at e
      cases e
      exact ⟨h2, .inr h1⟩
    · rw [wset_ne q] at e; exact I.wok j b e
  · obtain ⟨q1, l', q2⟩ := I.pok j b e
    have hj : j ≠ i := fun q => n l' (by rw [← q]; exact q2)
    exact ⟨by rw [wset_ne hj]; exact q1, l', by rw [List.getElem?_set_ne (Ne.symm hj)]; exact q2⟩
  · rcases set_get e with ⟨_, q, _⟩ | ⟨hj, e⟩
    · cases q
    · rw [wset_ne hj]
      exact I.iop j l' e
  · obtain ⟨q1, q2, q3, q4⟩ := I.uok p (List.mem_cons_of_mem _ hp)
    refine ⟨q1, q2, fun j e => ?_, q4.fewer k⟩
    by_cases q : j = i
    · rw [q, wset_same] at e
      injection e with e
      exact nd (by rw [e]; exact List.mem_map.mpr ⟨p, hp, rfl⟩)
    · rw [wset_ne q] at e
      exact q3 j e
/-- slot i's own list comes out -/
theorem Rep.takeOut (I : Rep K r W ss σ H) {i : Nat} {l : List D} (e : ss[i]? = some (.own l)) : ∃ a, σ[i]? = some (some (.ref a)) ∧ Rep K (r.u a l) (wset W i none) (ss.set i .off) σ H := by
  obtain ⟨a, wa, ea, la⟩ := I.slot i _ e
  have n : noIo ss i := fun l' q => by rw [e] at q; cases q
  have h0 : r.H0 a = none := by
    rcases (I.wok i a wa).2 with q | q
    · obtain ⟨_, l', q⟩ := I.pok i a q
      exact absurd q (n l')
    · exact q
  have k : ∀ b, Zw (r.u a l) (wset W i none) b → Zw r W b := fun b z => by
    rcases Zw_u.mp z with z | z
    · rw [z]; exact .inr (.inr ⟨i, wa⟩)
    · exact Zw_none b z
  refine ⟨a, ea, by rw [List.length_set]; exact I.len, fun j s' e => ?_, fun j b q => by rw [List.length_set]; exact I.wlt j b (wset_none q).2, fun j m b q1 q2 => I.inj j m b (wset_none q1).2 (wset_none q2).2, fun j b q => I.wok j b (wset_none q).2, fun j b q => ?_, fun j l' q => ?_, fun p hp => ?_, ?_, fun p hp => (I.tok p hp).fewer k, I.yok, I.keep⟩
  · rcases set_get e with ⟨rfl, rfl, hj⟩ | ⟨hj, e⟩
    · rw [wset_same]; rfl
    · rw [wset_ne hj]
      exact (I.slot j s' e).fewer k
  · obtain ⟨q1, l', q2⟩ := I.pok j b q
    have hj : j ≠ i := fun q => n l' (by rw [← q]; exact q2)
    exact ⟨by rw [wset_ne hj]; exact q1, l', by rw [List.getElem?_set_ne (Ne.symm hj)]; exact q2⟩
  · rcases set_get q with ⟨_, q, _⟩ | ⟨hj, q⟩
    · cases q
    · rw [wset_ne hj]
      exact I.iop j l' q
  · rcases List.mem_cons.mp hp with q | hp
    · subst q
      exact ⟨h0, (I.wok i a wa).1, fun j q => (wset_none q).1 (I.inj j i a (wset_none q).2 wa), la.fewer k⟩
    · obtain ⟨q1, q2, q3, q4⟩ := I.uok p hp
      exact ⟨q1, q2, fun j q => q3 j (wset_none q).2, q4.fewer k⟩
  · refine List.nodup_cons.mpr ⟨fun m => ?_, I.und⟩
    obtain ⟨p, hp, q⟩ := List.mem_map.mp m
    exact (I.uok p hp).2.2.1 i (by rw [q]; exact wa)
/-- .. stays in its slot, unchanged from here on -/
theorem Rep.freezeSlot (I : Rep K r W ss σ H) {i : Nat} {l : List D} (e : ss[i]? = some (.own l)) : Rep K r (wset W i none) (ss.set i (.val (.lst l))) σ H := by
  obtain ⟨a, ea, J⟩ := I.takeOut e
  obtain ⟨J1, h⟩ := J.freeze
  have q := J1.know (i := i) (fun l' q => by
    rcases set_get q with ⟨_, q, _⟩ | ⟨q, _⟩
    · cases q
    · exact q rfl) ea h
  rw [List.set_set] at q
  have w2 : wset (wset W i none) i none = wset W i none := by
    funext j
    unfold wset
    split <;> rfl
  rw [w2] at q
  exact q
/-- a slot's own list is changed -/
inductive OwnAt (ss : List S) (i : Nat) (l : List D) : (List D → S) → Prop where
  | own : ss[i]? = some (.own l) → OwnAt ss i l S.own
  | io : ss[i]? = some (.io l) → OwnAt ss i l S.io
theorem Rep.ownAt (I : Rep K r W ss σ H) {i : Nat} {l : List D} {c : List D → S} (h : OwnAt ss i l c) : ∃ a, W i = some a ∧ σ[i]? = some (some (.ref a)) ∧ LstAt K H (Zw r W) a l := by
  cases h with
  | own e => exact I.slot i _ e
  | io e => exact I.slot i _ e
theorem Rep.put (I : Rep K r W ss σ H) {i : Nat} {a : Addr} {l l' : List D} {vs : List V} {c : List D → S} (h : OwnAt ss i l c) (wa : W i = some a) (q : RDs K H (Zw r W) l' vs) : Rep K r W (ss.set i (c l')) σ (upd H a (.lst vs)) := by
  have za : Zw r W a := .inr (.inr ⟨i, wa⟩)
  have k : ∀ b o, H b = some o → ¬ Zw r W b → upd H a (.lst vs) b = some o ∧ ¬ Zw r W b := fun b o e z => ⟨by
    rw [upd_ne (fun q => z (by rw [q]; exact za))]
    exact e, z⟩
  have hi : i < ss.length := I.wlt i a wa
  have q' := q.mono k
  refine ⟨by rw [List.length_set]; exact I.len, fun j s' e => ?_, fun j b e => by rw [List.length_set]; exact I.wlt j b e, I.inj, I.wok, fun j b e => ?_, fun j m e => ?_, fun p hp => ?_, I.und, fun p hp => (I.tok p hp).mono k, I.yok, fun b o e n => ?_⟩
  · rcases set_get e with ⟨rfl, rfl, hj⟩ | ⟨hj, e⟩
    · obtain ⟨b, wb, eb, _⟩ := I.ownAt h
      rw [wa] at wb
      cases wb
      cases h with
      | own _ => exact ⟨a, wa, eb, vs, upd_same, q'⟩
      | io _ => exact ⟨a, wa, eb, vs, upd_same, q'⟩
    · refine (I.slot j s' e).mono k fun b hb vs' z => ?_
      rw [upd_ne (fun z' => hj (I.inj j i a (by rw [← z']; exact hb) wa))]
      exact z
  · obtain ⟨q1, l2, q2⟩ := I.pok j b e
    refine ⟨q1, ?_⟩
    by_cases hj : j = i
    · subst hj
      cases h with
      | own e' => rw [e'] at q2; cases q2
      | io e' => exact ⟨l', List.getElem?_set_self hi⟩
    · exact ⟨l2, by rw [List.getElem?_set_ne (Ne.symm hj)]; exact q2⟩
  · rcases set_get e with ⟨rfl, q, hj⟩ | ⟨hj, e⟩
    · cases h with
      | own e' => cases q
      | io e' => exact I.iop _ l e'
    · exact I.iop j m e
  · obtain ⟨q1, q2, q3, q4⟩ := I.uok p hp
    refine ⟨q1, q2, q3, q4.mono k fun vs' z => ?_⟩
    rw [upd_ne (fun z' => q3 i (by rw [z']; exact wa))]
    exact z
  · rw [upd_ne (fun z => ?_)]
    · exact I.keep b o e n
    · rcases (I.wok i a wa).2 with q | q
      · exact n i (by rw [z]; exact q)
      · rw [z, q] at e; cases e
end
end FD
/-! FD, part 2: what an expression is worth. -/
namespace FD
open PySem PySem.Spec PyProof.Rows L2

abbrev SE := List S → Option (D × List S)
abbrev SL := List S → Option (List D × List S)
abbrev ST := List S → Option (Bool × List S)
/-- a list or tuple, one level deep -/
inductive C where
  | lst (l : List D) | tup (l : List D) | sls (l : List D)
  deriving Inhabited
abbrev SV := List S → Option (C × List S)
def C.items : C → List D
  | .lst l => l
  | .tup l => l
  | .sls l => l
section
variable (K : PySem.W.Frag)
def CV (H : Hp) (Z : Zs) : C → V → Prop
  | .lst l, v => ∃ a vs, v = .ref a ∧ H a = some (.lst vs) ∧ RDs K H Z l vs
  | .tup l, v => ∃ a vs, v = .ref a ∧ PTu K H Z a vs ∧ RDs K H Z l vs
  | .sls l, v => ∃ a vs, v = .ref a ∧ SqL K H a vs ∧ RDs K H Z l vs
def tF (f : SE) : TE := fun σ H Q => ∃ r W ss, Rep K r W ss σ H ∧ ∃ d ss', f ss = some (d, ss') ∧ ∀ v H', Rep K r W ss' σ H' → RD K H' (Zw r W) d v → Q v H'
def tFL (f : SL) : TE := fun σ H Q => ∃ r W ss, Rep K r W ss σ H ∧ ∃ l ss', f ss = some (l, ss') ∧ ∀ a H', Rep K (r.u a l) W ss' σ H' → Q (.ref a) H'
def tFT (f : ST) : TT := fun σ H Q => ∃ r W ss, Rep K r W ss σ H ∧ ∃ b ss', f ss = some (b, ss') ∧ ∀ H', Rep K r W ss' σ H' → Q b H'
def tFV (f : SV) : TE := fun σ H Q => ∃ r W ss, Rep K r W ss σ H ∧ ∃ c ss', f ss = some (c, ss') ∧ ∀ v H', Rep K r W ss' σ H' → CV K H' (Zw r W) c v → Q v H'
def tFA (f : SL) : TA := fun σ H Q => ∃ r W ss, Rep K r W ss σ H ∧ ∃ l ss', f ss = some (l, ss') ∧ ∀ vs H', Rep K r W ss' σ H' → RDs K H' (Zw r W) l vs → Q vs H'
end
structure FE (X : Cx) (e : Expr) (f : SE) : Prop where
  pe : PE X e (tF X.K f)
structure FL (X : Cx) (e : Expr) (f : SL) : Prop where
  pe : PE X e (tFL X.K f)
structure FT (X : Cx) (e : Expr) (f : ST) : Prop where
  pt : PT X e (tFT X.K f)
structure FV (X : Cx) (e : Expr) (f : SV) : Prop where
  pe : PE X e (tFV X.K f)
structure FA (X : Cx) (es : List Expr) (f : SL) : Prop where
  pa : PA X es (tFA X.K f)
theorem _root_.L2.PE.imp {X : Cx} {e : Expr} {t t' : TE} (h : PE X e t) (w : ∀ σ H Q, t' σ H Q → t σ H Q) : PE X e t' := ⟨fun pins s σ H Q I q => h.run pins s σ H Q I (w σ H Q q)⟩
theorem _root_.L2.PT.imp {X : Cx} {e : Expr} {t t' : TT} (h : PT X e t) (w : ∀ σ H Q, t' σ H Q → t σ H Q) : PT X e t' := ⟨fun pins s σ H Q I q => h.run pins s σ H Q I (w σ H Q q)⟩
theorem _root_.L2.PA.imp {X : Cx} {e : List Expr} {t t' : TA} (h : PA X e t) (w : ∀ σ H Q, t' σ H Q → t σ H Q) : PA X e t' := ⟨fun pos pins s σ H Q I q => h.run pos pins s σ H Q I (w σ H Q q)⟩

/-! ### what the functions are put together of -/
def cVar (i : Nat) : SE := fun ss => match ss[i]? with
  | some (.val d) => some (d, ss)
  | _ => none
def cC (d : D) : SE := fun ss => some (d, ss)
def cUn (g : D → Option D) (f : SE) : SE := fun ss => (f ss).bind fun p => (g p.1).bind fun d => some (d, p.2)
def cBin (g : D → D → Option D) (fa fb : SE) : SE := fun ss => (fa ss).bind fun p => (fb p.2).bind fun q => (g p.1 q.1).bind fun d => some (d, q.2)
def cBinL (g : D → D → Option (List D)) (fa fb : SE) : SL := fun ss => (fa ss).bind fun p => (fb p.2).bind fun q => (g p.1 q.1).bind fun d => some (d, q.2)
def cBinT (g : D → D → Option Bool) (fa fb : SE) : ST := fun ss => (fa ss).bind fun p => (fb p.2).bind fun q => (g p.1 q.1).bind fun d => some (d, q.2)
def cBl (f : ST) : SE := fun ss => (f ss).map fun p => (.bl p.1, p.2)
def cFrz (f : SL) : SE := fun ss => (f ss).map fun p => (.lst p.1, p.2)
def cIf {α : Type} (t : ST) (a b : List S → Option α) : List S → Option α := fun ss => (t ss).bind fun p => if p.1 = true then a p.2 else b p.2
def cNil : SL := fun ss => some ([], ss)
def cCons (f : SE) (g : SL) : SL := fun ss => (f ss).bind fun p => (g p.2).bind fun q => some (p.1 :: q.1, q.2)
def cTup (f : SL) : SE := fun ss => (f ss).bind fun p => if p.1.length ≤ sizeLine then some (.tup p.1, p.2) else none
def cLst (f : SL) : SL := fun ss => (f ss).bind fun p => if p.1.length ≤ sizeLine then some p else none
def cArgs (g : List D → Option D) (f : SL) : SE := fun ss => (f ss).bind fun p => (g p.1).bind fun d => some (d, p.2)
/-- an own list, seen -/
def cOwn (i : Nat) : SV := fun ss => match ss[i]? with
  | some (.own l) => some (.lst l, ss)
  | some (.io l) => some (.lst l, ss)
  | _ => none
def cSee (f : SE) : SV := fun ss => (f ss).bind fun p => match p.1 with
  | .lst l => some (.lst l, p.2)
  | .tup l => some (.tup l, p.2)
  | .sls l => some (.sls l, p.2)
  | _ => none
def cSeeL (f : SL) : SV := fun ss => (f ss).map fun p => (.lst p.1, p.2)
def cV1 (g : C → Option D) (f : SV) : SE := fun ss => (f ss).bind fun p => (g p.1).bind fun d => some (d, p.2)
def cV1L (g : C → Option (List D)) (f : SV) : SL := fun ss => (f ss).bind fun p => (g p.1).bind fun d => some (d, p.2)
def cAnd (a b : ST) : ST := fun ss => (a ss).bind fun p => if p.1 = true then b p.2 else some (false, p.2)
def cOr (a b : ST) : ST := fun ss => (a ss).bind fun p => if p.1 = true then some (true, p.2) else b p.2
def cNot (a : ST) : ST := fun ss => (a ss).map fun p => (!p.1, p.2)
def cAsB (f : SE) : ST := fun ss => (f ss).bind fun p => match p.1 with
  | .bl b => some (b, p.2)
  | _ => none

theorem bind_some {α β : Type} {o : Option α} {f : α → Option β} {b : β} (h : o.bind f = some b) : ∃ a, o = some a ∧ f a = some b := Option.bind_eq_some_iff.mp h
theorem map_some {α β : Type} {o : Option α} {f : α → β} {b : β} (h : o.map f = some b) : ∃ a, o = some a ∧ f a = b := Option.map_eq_some_iff.mp h

section
variable {X : Cx} {e a b c : Expr} {es : List Expr} {pos : Pos}
/-- how an own list is left behind -/
theorem FL.fe {f : SL} (h : FL X e f) : FE X e (cFrz f) := ⟨h.pe.imp fun σ H Q ⟨r, W, ss, I, d, ss', ef, q⟩ => by
  obtain ⟨p, e1, e2⟩ := map_some ef
  cases e2
  exact ⟨r, W, ss, I, p.1, p.2, e1, fun a H' J => q _ _ J.freeze.1 J.freeze.2⟩⟩
theorem fe_var (i : Nat) {x : Str} (hN : X.N[i]? = some x := by rfl) (hv : Vis X.env.scope x := by first | exact Or.inl rfl | exact Or.inr (Or.inl rfl) | exact Or.inr (Or.inr rfl)) (hd : (x == ("__debug__" : Str)) = false := by decide)
    (hcd : (x == ("__classdict__" : Str)) = false := by decide) : FE X (.Name x pos) (cVar i) := ⟨(pe_var hN hv hd hcd).imp fun σ H Q ⟨r, W, ss, I, d, ss', ef, q⟩ => by
  unfold cVar at ef
  split at ef
  · rename_i d' e1
    cases ef
    obtain ⟨_, v, ev, rv⟩ := I.slot i _ e1
    exact ⟨v, ev, q v H I rv⟩
  · cases ef⟩
theorem fv_own (i : Nat) {x : Str} (hN : X.N[i]? = some x := by rfl) (hv : Vis X.env.scope x := by first | exact Or.inl rfl | exact Or.inr (Or.inl rfl) | exact Or.inr (Or.inr rfl)) (hd : (x == ("__debug__" : Str)) = false := by decide)
    (hcd : (x == ("__classdict__" : Str)) = false := by decide) : FV X (.Name x pos) (cOwn i) := ⟨(pe_var hN hv hd hcd).imp fun σ H Q ⟨r, W, ss, I, c, ss', ef, q⟩ => by
  unfold cOwn at ef
  split at ef
  · rename_i l e1
    cases ef
    obtain ⟨a, _, ea, vs, h1, h2⟩ := I.slot i _ e1
    exact ⟨.ref a, ea, q _ H I ⟨a, vs, rfl, h1, h2⟩⟩
  · rename_i l e1
    cases ef
    obtain ⟨a, _, ea, vs, h1, h2⟩ := I.slot i _ e1
    exact ⟨.ref a, ea, q _ H I ⟨a, vs, rfl, h1, h2⟩⟩
  · cases ef⟩
theorem FE.fv {f : SE} (h : FE X e f) : FV X e (cSee f) := ⟨h.pe.imp fun σ H Q ⟨r, W, ss, I, c, ss', ef, q⟩ => by
  obtain ⟨p, e1, e2⟩ := bind_some ef
  refine ⟨r, W, ss, I, p.1, p.2, e1, fun v H' J rv => ?_⟩
  split at e2
  · rename_i l el
    cases e2
    rw [el] at rv
    obtain ⟨a, vs, rfl, h1, h2⟩ := rv.lst_inv
    exact q _ _ J ⟨a, vs, rfl, h1.1, h2⟩
  · rename_i l el
    cases e2
    rw [el] at rv
    obtain ⟨a, vs, rfl, h1, h2⟩ := rv.tup_inv
    exact q _ _ J ⟨a, vs, rfl, h1, h2⟩
  · rename_i l el
    cases e2
    rw [el] at rv
    obtain ⟨a, vs, rfl, h1, h2⟩ := rv.sls_inv
    exact q _ _ J ⟨a, vs, rfl, h1.sq, h2⟩
  · cases e2⟩
theorem FL.fv {f : SL} (h : FL X e f) : FV X e (cSeeL f) := ⟨h.pe.imp fun σ H Q ⟨r, W, ss, I, c, ss', ef, q⟩ => by
  obtain ⟨p, e1, e2⟩ := map_some ef
  cases e2
  refine ⟨r, W, ss, I, p.1, p.2, e1, fun a H' J => ?_⟩
  obtain ⟨J1, h⟩ := J.freeze
  obtain ⟨a', vs, ea, h1, h2⟩ := h.lst_inv
  exact q _ _ J1 ⟨a', vs, ea, h1.1, h2⟩⟩
/-- a constant -/
theorem fe_c {d : D} {v : V} (h : PE X e (tC v)) (hd : ∀ K H Z, RD K H Z d v) : FE X e (cC d) := ⟨h.imp fun σ H Q ⟨r, W, ss, I, d', ss', ef, q⟩ => by
  cases ef
  exact q v H I (hd _ _ _)⟩
theorem fe_int {i : Int} {j : Nat} : FE X (.Constant (.int i) j pos) (cC (.int i)) := fe_c pe_int fun _ _ _ => rd_int
theorem fe_bl {i : Bool} {j : Nat} : FE X (.Constant (.bool i) j pos) (cC (.bl i)) := fe_c pe_bl fun _ _ _ => rd_bl
theorem fe_non {j : Nat} : FE X (.Constant .none j pos) (cC .non) := fe_c pe_non fun _ _ _ => rd_non
theorem fe_str {x : Str} {j : Nat} : FE X (.Constant (.str x) j pos) (cC (.str x)) := fe_c pe_str fun _ _ _ => rd_str

/-! ### operators -/
def SoB (K : PySem.W.Frag) (g : D → D → Option D) (rr : R2) : Prop := ∀ (r : R) W ss σ H x y vx vy d Q, Rep K r W ss σ H → RD K H (Zw r W) x vx → RD K H (Zw r W) y vy → g x y = some d →
  (∀ v H', Rep K r W ss σ H' → RD K H' (Zw r W) d v → Q v H') → rr vx vy H Q
def SoBL (K : PySem.W.Frag) (g : D → D → Option (List D)) (rr : R2) : Prop := ∀ (r : R) W ss σ H x y vx vy l Q, Rep K r W ss σ H → RD K H (Zw r W) x vx → RD K H (Zw r W) y vy → g x y = some l →
  (∀ a H', Rep K (r.u a l) W ss σ H' → Q (.ref a) H') → rr vx vy H Q
def SoBT (K : PySem.W.Frag) (g : D → D → Option Bool) (rr : R2) : Prop := ∀ (r : R) W ss σ H x y vx vy b Q, Rep K r W ss σ H → RD K H (Zw r W) x vx → RD K H (Zw r W) y vy → g x y = some b →
  Q (.bl b) H → rr vx vy H Q
def SoU (K : PySem.W.Frag) (g : D → Option D) (rr : V → Hp → VK → Prop) : Prop := ∀ (r : R) W ss σ H x vx d Q, Rep K r W ss σ H → RD K H (Zw r W) x vx → g x = some d →
  (∀ v H', Rep K r W ss σ H' → RD K H' (Zw r W) d v → Q v H') → rr vx H Q
variable {fa fb : SE}
theorem bin_run {K : PySem.W.Frag} {α : Type} {g : D → D → Option α} {σ : L2.St} {H : Hp} {RR : V → V → Hp → Prop} {r : R} {W : Nat → Option Addr} {ss : List S} (I : Rep K r W ss σ H) {d : α} {ss' : List S}
    (ef : ((fa ss).bind fun p => (fb p.2).bind fun q => (g p.1 q.1).bind fun d => some (d, q.2)) = some (d, ss'))
    (h : ∀ x y vx vy H', Rep K r W ss' σ H' → RD K H' (Zw r W) x vx → RD K H' (Zw r W) y vy → g x y = some d → RR vx vy H') : tF K fa σ H fun x H1 => tF K fb σ H1 fun y H2 => RR x y H2 := by
  obtain ⟨p, e1, e2⟩ := bind_some ef
  obtain ⟨q, e3, e4⟩ := bind_some e2
  obtain ⟨d', e5, e6⟩ := bind_some e4
  cases e6
  refine ⟨r, W, ss, I, p.1, p.2, e1, fun vx H1 I1 r1 => ?_⟩
  refine ⟨r.t p.1 vx, W, p.2, I1.hold r1, q.1, q.2, e3, fun vy H2 I2 r2 => ?_⟩
  obtain ⟨I3, r1'⟩ := I2.drop
  exact h _ _ _ _ _ I3 r1' r2 e5
theorem fe_op {op : Operator} {rr : R2} {g : D → D → Option D} (ho : OpR X (binaryOp op) rr) (hg : SoB X.K g rr) (ha : FE X a fa) (hb : FE X b fb) : FE X (.BinOp a op b pos) (cBin g fa fb) :=
  ⟨(pe_op ho ha.pe hb.pe).imp fun σ H Q ⟨r, W, ss, I, d, ss', ef, q⟩ => bin_run I ef fun x y vx vy H' I' rx ry eg => hg r W _ σ H' x y vx vy d Q I' rx ry eg q⟩
theorem fl_op {op : Operator} {rr : R2} {g : D → D → Option (List D)} (ho : OpR X (binaryOp op) rr) (hg : SoBL X.K g rr) (ha : FE X a fa) (hb : FE X b fb) : FL X (.BinOp a op b pos) (cBinL g fa fb) :=
  ⟨(pe_op ho ha.pe hb.pe).imp fun σ H Q ⟨r, W, ss, I, d, ss', ef, q⟩ => bin_run I ef fun x y vx vy H' I' rx ry eg => hg r W _ σ H' x y vx vy d Q I' rx ry eg q⟩
theorem ft_cmp {op : CmpOp} {rr : R2} {g : D → D → Option Bool} (ho : OpR X (compareOp op) rr) (hg : SoBT X.K g rr) (ha : FE X a fa) (hb : FE X b fb) (hm : behindInMarks op b = false) : FT X (.Compare a [op] [b] pos) (cBinT g fa fb) :=
  ⟨(pt_cmpR ho ha.pe hb.pe hm).imp fun σ H Q ⟨r, W, ss, I, d, ss', ef, q⟩ => bin_run I ef fun x y vx vy H' I' rx ry eg => hg r W _ σ H' x y vx vy d _ I' rx ry eg ⟨d, rfl, q _ I'⟩⟩
theorem fe_cmp {op : CmpOp} {rr : R2} {g : D → D → Option Bool} (ho : OpR X (compareOp op) rr) (hg : SoBT X.K g rr) (ha : FE X a fa) (hb : FE X b fb) (hm : behindInMarks op b = false) : FE X (.Compare a [op] [b] pos) (cBl (cBinT g fa fb)) :=
  ⟨(pe_cmpR ho ha.pe hb.pe hm).imp fun σ H Q ⟨r, W, ss, I, d, ss', ef, q⟩ => by
    obtain ⟨p, e1, e2⟩ := map_some ef
    cases e2
    exact bin_run I e1 fun x y vx vy H' I' rx ry eg => hg r W _ σ H' x y vx vy p.1 _ I' rx ry eg (q _ _ I' rd_bl)⟩
theorem fe_un {op : UnaryOp} {rr : V → Hp → VK → Prop} {g : D → Option D} (ho : UnR X (unaryOp op) rr) (hg : SoU X.K g rr) (ha : FE X a fa) : FE X (.UnaryOp op a pos) (cUn g fa) :=
  ⟨(pe_un ho ha.pe).imp fun σ H Q ⟨r, W, ss, I, d, ss', ef, q⟩ => by
    obtain ⟨p, e1, e2⟩ := bind_some ef
    obtain ⟨d', e3, e4⟩ := bind_some e2
    cases e4
    exact ⟨r, W, ss, I, p.1, p.2, e1, fun vx H1 I1 r1 => hg r W _ σ H1 _ _ _ Q I1 r1 e3 q⟩⟩

/-! the operators themselves -/
def iOk (i j : Int) : Bool := decide (i.natAbs.log2 + j.natAbs.log2 < 1000000)
def dOk (j : Int) : Bool := decide (j ≠ 0) && decide (j.natAbs.log2 < 9000)
def pOk (i j : Int) : Bool := decide (0 ≤ j) && decide (j ≤ 1000000) && decide (i.natAbs < 2 ^ 64)
def gAdd : D → D → Option D
  | .int i, .int j => some (.int (i + j))
  | .int i, .bl k => some (.int (i + b2i k))
  | .str x, .str y => if x.length + y.length ≤ sizeLine then some (.str (x ++ y)) else none
  | .tup l, .tup m => if l.length + m.length ≤ sizeLine then some (.tup (l ++ m)) else none
  | _, _ => none
def gSub : D → D → Option D
  | .int i, .int j => some (.int (i - j))
  | _, _ => none
def gMul : D → D → Option D
  | .int i, .int j => if iOk i j then some (.int (i * j)) else none
  | _, _ => none
def gFdiv : D → D → Option D
  | .int i, .int j => if dOk j then some (.int (i.fdiv j)) else none
  | _, _ => none
def gMod : D → D → Option D
  | .int i, .int j => if j ≠ 0 then some (.int (i.fmod j)) else none
  | _, _ => none
def gPow : D → D → Option D
  | .int i, .int j => if pOk i j then some (.int (i ^ j.toNat)) else none
  | _, _ => none
def gShl : D → D → Option D
  | .int i, .int j => if pOk i j then some (.int (i * 2 ^ j.toNat)) else none
  | _, _ => none
def gShr : D → D → Option D
  | .int i, .int j => if 0 ≤ j then some (.int (i / 2 ^ j.toNat)) else none
  | _, _ => none
def gBand : D → D → Option D
  | .int i, .int j => some (.int (Builtin.bitAnd i j))
  | _, _ => none
def gBor : D → D → Option D
  | .int i, .int j => some (.int (Builtin.bitOr i j))
  | _, _ => none
def gBxor : D → D → Option D
  | .int i, .int j => some (.int (Builtin.bitXor i j))
  | _, _ => none
def gNeg : D → Option D
  | .int i => some (.int (-i))
  | _ => none
/-- lists: + and * make a new one -/
def gCat : D → D → Option (List D)
  | .lst l, .lst m => if l.length + m.length ≤ sizeLine then some (l ++ m) else none
  | _, _ => none
def gRep : D → D → Option (List D)
  | .lst l, .int k => if k.natAbs.log2 < 62 ∧ l.length * k.toNat ≤ sizeLine then some (List.replicate k.toNat l).flatten else none
  | _, _ => none
def rAddAll (K : PySem.W.Frag) : R2 := fun x y H Q => (rI0 (fun i j => .int (i + j)) x y H Q ∨ (∃ i k, x = .int i ∧ y = .bl k ∧ Q (.int (i + b2i k)) H)) ∨ ((∃ i j, x = .str i ∧ y = .str j ∧ i.length + j.length ≤ sizeLine ∧ Q (.str (i ++ j)) H) ∨ rCatA K x y H Q)
theorem op_addAll : OpR X (binaryOp .Add) (rAddAll X.K) := (op_add.or op_add_ib).or (op_add_str.or op_catA)
def CDivZ (_ j : Int) : Prop := j ≠ 0 ∧ j.natAbs.log2 < 9000
theorem op_fdivZ : OpR X (binaryOp .FloorDiv) (rI CDivZ fun i j => .int (i.fdiv j)) := opI fun i j _ _ _ _ _ hc q => floordiv_int hc.1 q (.inl (PyProof.noPylong_of_log2 hc.2))
theorem noTup (K : PySem.W.Frag) {H : Hp} {Z : Zs} {x : V} {l : List D} (h : RD K H Z (.tup l) x) : ∃ a vs, x = .ref a ∧ SqT K H a vs ∧ RDs K H Z l vs := by
  obtain ⟨a, vs, e, h1, h2⟩ := h.tup_inv
  exact ⟨a, vs, e, h1.sq, h2⟩
theorem so_add (K : PySem.W.Frag) : SoB K gAdd (rAddAll K) := by
  intro r W ss σ H x y vx vy d Q I rx ry eg q
  unfold gAdd at eg
  split at eg
  · cases eg
    obtain rfl := rx.int_inv
    obtain rfl := ry.int_inv
    exact .inl (.inl ⟨_, _, rfl, rfl, q _ _ I rd_int⟩)
  · cases eg
    obtain rfl := rx.int_inv
    obtain rfl := ry.bl_inv
    exact .inl (.inr ⟨_, _, rfl, rfl, q _ _ I rd_int⟩)
  · split at eg
    · cases eg
      obtain rfl := rx.str_inv
      obtain rfl := ry.str_inv
      exact .inr (.inl ⟨_, _, rfl, rfl, by assumption, q _ _ I rd_str⟩)
    · cases eg
  · split at eg
    · rename_i l m hz
      cases eg
      obtain ⟨a, vs, rfl, p1, r1⟩ := rx.tup_inv
      obtain ⟨b, ws, rfl, p2, r2⟩ := ry.tup_inv
      have e1 := r1.length
      have e2 := r2.length
      refine .inr (.inr ⟨a, b, vs, ws, rfl, rfl, p1.sq, p2.sq, by omega, fun e => ?_, fun n e => ?_, fun n1 n2 p np => ?_⟩)
      · subst e
        have : l = [] := by cases l with
          | nil => rfl
          | cons _ _ => cases e1
        subst this
        exact q _ _ I (rd_tup p2 r2)
      · subst e
        have : m = [] := by cases m with
          | nil => rfl
          | cons _ _ => cases e2
        subst this
        rw [List.append_nil] at q
        exact q _ _ I (rd_tup p1 r1)
      · obtain ⟨J, h⟩ := I.newTup np (RDs.of (pr_append r1.p r2.p))
        exact q _ _ J h
    · cases eg
  · cases eg
theorem so_I {K : PySem.W.Frag} {Cc : Int → Int → Prop} {h : Int → Int → Int} {g : D → D → Option D} (hg : ∀ x y d, g x y = some d → ∃ i j, x = .int i ∧ y = .int j ∧ Cc i j ∧ d = .int (h i j)) : SoB K g (rI Cc fun i j => .int (h i j)) := by
  intro r W ss σ H x y vx vy d Q I rx ry eg q
  obtain ⟨i, j, rfl, rfl, c, rfl⟩ := hg x y d eg
  obtain rfl := rx.int_inv
  obtain rfl := ry.int_inv
  exact ⟨i, j, rfl, rfl, c, q _ _ I rd_int⟩
theorem so_I0 {K : PySem.W.Frag} {h : Int → Int → Int} {g : D → D → Option D} (hg : ∀ x y d, g x y = some d → ∃ i j, x = .int i ∧ y = .int j ∧ d = .int (h i j)) : SoB K g (rI0 fun i j => .int (h i j)) := by
  intro r W ss σ H x y vx vy d Q I rx ry eg q
  obtain ⟨i, j, rfl, rfl, rfl⟩ := hg x y d eg
  obtain rfl := rx.int_inv
  obtain rfl := ry.int_inv
  exact ⟨i, j, rfl, rfl, q _ _ I rd_int⟩
theorem so_sub (K : PySem.W.Frag) : SoB K gSub (rI0 fun i j => .int (i - j)) := so_I0 fun x y d h => by
  unfold gSub at h
  split at h
  · cases h
    exact ⟨_, _, rfl, rfl, rfl⟩
  · cases h
theorem iOk_of {i j : Int} (q : iOk i j = true) : CMulW i j := by
  unfold iOk at q
  have h := of_decide_eq_true q
  exact h
theorem so_mul (K : PySem.W.Frag) : SoB K gMul (rI CMulW fun i j => .int (i * j)) := so_I fun x y d h => by
  unfold gMul at h
  split at h
  · split at h
    · rename_i q
      cases h
      exact ⟨_, _, rfl, rfl, iOk_of q, rfl⟩
    · cases h
  · cases h
theorem so_fdiv (K : PySem.W.Frag) : SoB K gFdiv (rI CDivZ fun i j => .int (i.fdiv j)) := so_I fun x y d h => by
  unfold gFdiv at h
  split at h
  · split at h
    · rename_i q
      cases h
      rw [dOk, Bool.and_eq_true] at q
      exact ⟨_, _, rfl, rfl, ⟨of_decide_eq_true q.1, of_decide_eq_true q.2⟩, rfl⟩
    · cases h
  · cases h
theorem so_mod (K : PySem.W.Frag) : SoB K gMod (rI (fun _ j => j ≠ 0) fun i j => .int (i.fmod j)) := so_I fun x y d h => by
  unfold gMod at h
  split at h
  · split at h
    · rename_i q
      cases h
      exact ⟨_, _, rfl, rfl, q, rfl⟩
    · cases h
  · cases h
theorem pOk_of {i j : Int} (q : pOk i j = true) : CPow i j := by
  rw [pOk, Bool.and_eq_true, Bool.and_eq_true] at q
  exact ⟨of_decide_eq_true q.1.1, of_decide_eq_true q.1.2, of_decide_eq_true q.2⟩
theorem so_pow (K : PySem.W.Frag) : SoB K gPow (rI CPow fun i j => .int (i ^ j.toNat)) := so_I fun x y d h => by
  unfold gPow at h
  split at h
  · split at h
    · rename_i q
      cases h
      exact ⟨_, _, rfl, rfl, pOk_of q, rfl⟩
    · cases h
  · cases h
theorem so_shl (K : PySem.W.Frag) : SoB K gShl (rI CPow fun i j => .int (i * 2 ^ j.toNat)) := so_I fun x y d h => by
  unfold gShl at h
  split at h
  · split at h
    · rename_i q
      cases h
      exact ⟨_, _, rfl, rfl, pOk_of q, rfl⟩
    · cases h
  · cases h
theorem so_shr (K : PySem.W.Frag) : SoB K gShr (rI (fun _ j => 0 ≤ j) fun i j => .int (i / 2 ^ j.toNat)) := so_I fun x y d h => by
  unfold gShr at h
  split at h
  · split at h
    · rename_i q
      cases h
      exact ⟨_, _, rfl, rfl, q, rfl⟩
    · cases h
  · cases h
theorem so_band (K : PySem.W.Frag) : SoB K gBand (rI0 fun i j => .int (Builtin.bitAnd i j)) := so_I0 fun x y d h => by
  unfold gBand at h
  split at h
  · cases h
    exact ⟨_, _, rfl, rfl, rfl⟩
  · cases h
theorem so_bor (K : PySem.W.Frag) : SoB K gBor (rI0 fun i j => .int (Builtin.bitOr i j)) := so_I0 fun x y d h => by
  unfold gBor at h
  split at h
  · cases h
    exact ⟨_, _, rfl, rfl, rfl⟩
  · cases h
theorem so_bxor (K : PySem.W.Frag) : SoB K gBxor (rI0 fun i j => .int (Builtin.bitXor i j)) := so_I0 fun x y d h => by
  unfold gBxor at h
  split at h
  · cases h
    exact ⟨_, _, rfl, rfl, rfl⟩
  · cases h
theorem so_neg (K : PySem.W.Frag) : SoU K gNeg (rU fun i => .int (-i)) := by
  intro r W ss σ H x vx d Q I rx h q
  unfold gNeg at h
  split at h
  · cases h
    obtain rfl := rx.int_inv
    exact ⟨_, rfl, q _ _ I rd_int⟩
  · cases h
theorem so_cat (K : PySem.W.Frag) : SoBL K gCat rCat := by
  intro r W ss σ H x y vx vy l Q I rx ry h q
  unfold gCat at h
  split at h
  · split at h
    · rename_i hz
      cases h
      obtain ⟨a, vs, rfl, p1, r1⟩ := rx.lst_inv
      obtain ⟨b, ws, rfl, p2, r2⟩ := ry.lst_inv
      have e1 := r1.length
      have e2 := r2.length
      exact ⟨a, b, vs, ws, rfl, rfl, p1.1, p2.1, by omega, fun p np => q _ _ (I.newLst np (RDs.of (pr_append r1.p r2.p)))⟩
    · cases h
  · cases h
theorem log_holds {i : Int} (h1 : i.natAbs.log2 < 62) : -(2 ^ 63) ≤ i ∧ i < 2 ^ 63 := by
  have h2 : i.natAbs < 2 ^ (i.natAbs.log2 + 1) := Nat.lt_log2_self
  have h3 : i.natAbs < 2 ^ 62 := Nat.lt_of_lt_of_le h2 (Nat.pow_le_pow_right (by decide) h1)
  omega
theorem so_rep (K : PySem.W.Frag) : SoBL K gRep rRep := by
  intro r W ss σ H x y vx vy l Q I rx ry h q
  unfold gRep at h
  split at h
  · split at h
    · rename_i hz
      cases h
      obtain ⟨a, vs, rfl, p1, r1⟩ := rx.lst_inv
      obtain rfl := ry.int_inv
      have e1 := r1.length
      have hw := log_holds hz.1
      exact ⟨a, _, vs, rfl, rfl, p1.1, hw.1, hw.2, by rw [← e1]; exact hz.2, fun p np => q _ _ (I.newLst np (RDs.of (pr_rep r1.p _)))⟩
    · cases h
  · cases h
end
end FD
/-! FD, part 3: comparisons, displays, items, built-in functions. -/
namespace FD
open PySem PySem.Spec PyProof.Rows L2

/-! ### == at any depth -/
mutual
def py : D → PyData
  | .non => .none
  | .bl b => .bool b
  | .int i => .int i
  | .str x => .str x
  | .tup l => .tuple (pys l)
  | .lst l => .list (pys l)
  | .sls l => .list (pys l)
def pys : List D → List PyData
  | [] => []
  | d :: l => py d :: pys l
end
section
variable {K : PySem.W.Frag} {H : Hp} {Z : Zs}
mutual
theorem RD.dp : ∀ {d : D} {v : V}, RD K H Z d v → Dp K H v (py d)
  | .non, v, h => by rw [RD] at h; subst h; rw [py]; exact .non
  | .bl _, v, h => by rw [RD] at h; subst h; rw [py]; exact .bl _
  | .int _, v, h => by rw [RD] at h; subst h; rw [py]; exact .int _
  | .str _, v, h => by rw [RD] at h; subst h; rw [py]; exact .str _
  | .tup l, v, h => by
    rw [RD] at h
    obtain ⟨a, vs, rfl, p, r⟩ := h
    rw [py]
    exact .tup p.sq (RDs.dp r)
  | .lst l, v, h => by
    rw [RD] at h
    obtain ⟨a, vs, rfl, p, r⟩ := h
    rw [py]
    exact .lst p.sq (RDs.dp r)
  | .sls l, v, h => by
    rw [RD] at h
    obtain ⟨a, vs, rfl, p, r⟩ := h
    rw [py]
    exact .lst p.sq (RDs.dp r)
theorem RDs.dp : ∀ {l : List D} {vs : List V}, RDs K H Z l vs → DpAll K H vs (pys l)
  | [], _, h => by rw [RDs] at h; subst h; rw [pys]; exact .nil
  | d :: l, _, h => by
    rw [RDs] at h
    obtain ⟨v, r, rfl, h1, h2⟩ := h
    rw [pys]
    exact .cons (RD.dp h1) (RDs.dp h2)
end
end
/-- equality that needs no room -/
def eq0 : D → D → Option Bool
  | .non, .non => some true
  | .non, .int _ => some false
  | .int _, .non => some false
  | .non, .bl _ => some false
  | .bl _, .non => some false
  | .non, .str _ => some false
  | .str _, .non => some false
  | .int i, .int j => some (decide (i = j))
  | .bl i, .bl j => some (decide (i = j))
  | .str i, .str j => some (decide (i = j))
  | .int _, .str _ => some false
  | .str _, .int _ => some false
  | .bl _, .str _ => some false
  | .str _, .bl _ => some false
  | _, _ => none
def gEq (x y : D) : Option Bool := match eq0 x y with
  | some b => some b
  | none => if SeqAt.shaped (py x) = true ∧ SeqAt.shaped (py y) = true then some (PyData.eqv (py x) (py y)) else none
def gNe (x y : D) : Option Bool := (gEq x y).map fun b => !b
def rEqAll (K : PySem.W.Frag) : R2 := fun x y H Q => rEq x y H Q ∨ rEqD K x y H Q
def rNeAll (K : PySem.W.Frag) : R2 := fun x y H Q => rNe x y H Q ∨ rNeD K x y H Q
section
variable {X : Cx} {K : PySem.W.Frag}
theorem op_eqAll (hu : X.A.units + 64 < cLine) : OpR X (compareOp .Eq) (rEqAll X.K) := op_eq.or (op_eqD hu)
theorem op_neAll (hu : X.A.units + 64 < cLine) : OpR X (compareOp .NotEq) (rNeAll X.K) := op_ne.or (op_neD hu)
theorem eq0_ok {H : Hp} {Z : Zs} {x y : D} {b : Bool} {v u : V} (h : eq0 x y = some b) (rx : RD K H Z x v) (ry : RD K H Z y u) : scal v u = true ∧ decide (v = u) = b := by
  unfold eq0 at h
  split at h <;> first
    | (cases h; done)
    | (cases h
       first
         | (obtain rfl := rx.non_inv)
         | (obtain rfl := rx.int_inv)
         | (obtain rfl := rx.bl_inv)
         | (obtain rfl := rx.str_inv)
       first
         | (obtain rfl := ry.non_inv)
         | (obtain rfl := ry.int_inv)
         | (obtain rfl := ry.bl_inv)
         | (obtain rfl := ry.str_inv)
       refine ⟨rfl, ?_⟩
       first
         | rfl
         | (apply decide_eq_decide.mpr; simp))
theorem so_eq : SoBT K gEq (rEqAll K) := by
  intro r W ss σ H x y vx vy b Q I rx ry h q
  unfold gEq at h
  split at h
  · rename_i b' e
    cases h
    obtain ⟨h1, h2⟩ := eq0_ok e rx ry
    exact .inl ⟨h1, by rw [h2]; exact q⟩
  · split at h
    · rename_i hs
      cases h
      exact .inr ⟨_, _, rx.dp, ry.dp, hs.1, hs.2, q⟩
    · cases h
theorem so_ne : SoBT K gNe (rNeAll K) := by
  intro r W ss σ H x y vx vy b Q I rx ry h q
  obtain ⟨b', h', hb⟩ := map_some h
  clear h
  subst hb
  unfold gEq at h'
  split at h'
  · rename_i b'' e
    cases h'
    obtain ⟨h1, h2⟩ := eq0_ok e rx ry
    exact .inl ⟨h1, by rw [h2]; exact q⟩
  · split at h'
    · rename_i hs
      cases h'
      exact .inr ⟨_, _, rx.dp, ry.dp, hs.1, hs.2, q⟩
    · cases h'
/-- order of ints -/
def gCmp (p : Int → Int → Bool) : D → D → Option Bool
  | .int i, .int j => some (p i j)
  | _, _ => none
abbrev gLt := gCmp fun i j => decide (i < j)
abbrev gLe := gCmp fun i j => decide (i ≤ j)
abbrev gGt := gCmp fun i j => decide (j < i)
abbrev gGe := gCmp fun i j => decide (j ≤ i)
theorem so_cmp (p : Int → Int → Bool) : SoBT K (gCmp p) (rI0 fun i j => .bl (p i j)) := by
  intro r W ss σ H x y vx vy b Q I rx ry h q
  unfold gCmp at h
  split at h
  · cases h
    obtain rfl := rx.int_inv
    obtain rfl := ry.int_inv
    exact ⟨_, _, rfl, rfl, q⟩
  · cases h
/-- is None -/
def gIsN : D → D → Option Bool
  | .non, .non => some true
  | _, .non => some false
  | _, _ => none
def gNotN (x y : D) : Option Bool := (gIsN x y).map fun b => !b
theorem isN_ok {H : Hp} {Z : Zs} {x y : D} {b : Bool} {v u : V} (h : gIsN x y = some b) (rx : RD K H Z x v) (ry : RD K H Z y u) : u = .non ∧ decide (v = .non) = b := by
  unfold gIsN at h
  split at h
  · cases h
    exact ⟨ry.non_inv, by rw [rx.non_inv]; rfl⟩
  · rename_i hn
    cases h
    refine ⟨ry.non_inv, ?_⟩
    cases x with
    | non => exact (hn rfl).elim
    | bl _ => rw [rx.bl_inv]; rfl
    | int _ => rw [rx.int_inv]; rfl
    | str _ => rw [rx.str_inv]; rfl
    | tup _ => obtain ⟨a, vs, rfl, _⟩ := rx.tup_inv; rfl
    | lst _ => obtain ⟨a, vs, rfl, _⟩ := rx.lst_inv; rfl
    | sls _ => obtain ⟨a, vs, rfl, _⟩ := rx.sls_inv; rfl
  · cases h
theorem so_isN : SoBT K gIsN (fun x y H Q => y = .non ∧ Q (.bl (decide (x = .non))) H) := by
  intro r W ss σ H x y vx vy b Q I rx ry h q
  obtain ⟨h1, h2⟩ := isN_ok h rx ry
  exact ⟨h1, by rw [h2]; exact q⟩
theorem so_notN : SoBT K gNotN (fun x y H Q => y = .non ∧ Q (.bl (!decide (x = .non))) H) := by
  intro r W ss σ H x y vx vy b Q I rx ry h q
  obtain ⟨b', h', hb⟩ := map_some h
  clear h
  subst hb
  obtain ⟨h1, h2⟩ := isN_ok h' rx ry
  exact ⟨h1, by rw [h2]; exact q⟩
end

/-! ### tests -/
section
variable {X : Cx} {e a b c : Expr} {es rest : List Expr} {pos : Pos} {ta tb tc : ST} {fa fb : SE}
/-- a test as a value; a value that is a bool as a test -/
theorem FE.ft {f : SE} (h : FE X e f) (he : ∀ whole, isTrue e X.env whole = (do let v ← whole; standAt e.pos; holding [v] (truthy v)) := by intro _; rfl) : FT X e (cAsB f) := ⟨(pt_val h.pe he).imp fun σ H Q ⟨r, W, ss, I, b, ss', ef, q⟩ => by
  obtain ⟨p, e1, e2⟩ := bind_some ef
  split at e2
  · rename_i b' eb
    cases e2
    refine ⟨r, W, ss, I, p.1, p.2, e1, fun v H' J rv => ?_⟩
    rw [eb] at rv
    exact ⟨_, rv.bl_inv, q H' J⟩
  · cases e2⟩
structure FW (X : Cx) (e : Expr) (f : ST) : Prop where
  pw : PW X e (tFT X.K f)
theorem _root_.L2.PW.imp {t t' : TT} (h : PW X e t) (w : ∀ σ H Q, t' σ H Q → t σ H Q) : PW X e t' := ⟨fun wh pins s σ H Q I q => h.run wh pins s σ H Q I (w σ H Q q)⟩
theorem FW.ft {f : ST} (h : FW X e f) : FT X e f := ⟨h.pw.pt⟩
theorem fw_and1 (ha : FT X a ta) : FW X (.BoolOp .And [a] pos) ta := ⟨pw_and1 ha.pt⟩
theorem fw_or1 (ha : FT X a ta) : FW X (.BoolOp .Or [a] pos) ta := ⟨pw_or1 ha.pt⟩
theorem fw_and (ha : FT X a ta) (hb : FW X (.BoolOp .And (b :: rest) pos) tb) : FW X (.BoolOp .And (a :: b :: rest) pos) (cAnd ta tb) := ⟨(pw_and ha.pt hb.pw).imp fun σ H Q ⟨r, W, ss, I, k, ss', ef, q⟩ => by
  obtain ⟨p, e1, e2⟩ := bind_some ef
  refine ⟨r, W, ss, I, p.1, p.2, e1, fun H' J => ?_⟩
  split at e2
  · rename_i h
    rw [if_pos h]
    exact ⟨r, W, p.2, J, k, ss', e2, q⟩
  · rename_i h
    cases e2
    rw [if_neg h]
    exact q H' J⟩
theorem fw_or (ha : FT X a ta) (hb : FW X (.BoolOp .Or (b :: rest) pos) tb) : FW X (.BoolOp .Or (a :: b :: rest) pos) (cOr ta tb) := ⟨(pw_or ha.pt hb.pw).imp fun σ H Q ⟨r, W, ss, I, k, ss', ef, q⟩ => by
  obtain ⟨p, e1, e2⟩ := bind_some ef
  refine ⟨r, W, ss, I, p.1, p.2, e1, fun H' J => ?_⟩
  split at e2
  · rename_i h
    cases e2
    rw [if_pos h]
    exact q H' J
  · rename_i h
    rw [if_neg h]
    exact ⟨r, W, p.2, J, k, ss', e2, q⟩⟩
theorem ft_not (ha : FT X a ta) : FT X (.UnaryOp .Not a pos) (cNot ta) := ⟨(pt_not ha.pt).imp fun σ H Q ⟨r, W, ss, I, k, ss', ef, q⟩ => by
  obtain ⟨p, e1, e2⟩ := map_some ef
  cases e2
  exact ⟨r, W, ss, I, p.1, p.2, e1, q⟩⟩
/-- the same as values -/
def cAndV (f g : SE) : SE := fun ss => (f ss).bind fun p => match p.1 with
  | .bl true => g p.2
  | .bl false => some (.bl false, p.2)
  | _ => none
def cOrV (f g : SE) : SE := fun ss => (f ss).bind fun p => match p.1 with
  | .bl false => g p.2
  | .bl true => some (.bl true, p.2)
  | _ => none
def cNotV (f : SE) : SE := fun ss => (f ss).bind fun p => match p.1 with
  | .bl k => some (.bl (!k), p.2)
  | _ => none
theorem fe_one {op : BoolOp} {f : SE} (h : FE X a f) : FE X (.BoolOp op [a] pos) f := ⟨pe_one h.pe⟩
theorem fe_and (ha : FE X a fa) (hb : FE X (.BoolOp .And (b :: rest) pos) fb) : FE X (.BoolOp .And (a :: b :: rest) pos) (cAndV fa fb) := ⟨(pe_and ha.pe hb.pe).imp fun σ H Q ⟨r, W, ss, I, k, ss', ef, q⟩ => by
  obtain ⟨p, e1, e2⟩ := bind_some ef
  refine ⟨r, W, ss, I, p.1, p.2, e1, fun v H' J rv => ?_⟩
  split at e2
  · rename_i h
    rw [h] at rv
    exact ⟨true, rv.bl_inv, by rw [if_pos rfl]; exact ⟨r, W, p.2, J, k, ss', e2, q⟩⟩
  · rename_i h
    cases e2
    rw [h] at rv
    exact ⟨false, rv.bl_inv, by rw [if_neg (by decide)]; exact q _ H' J rd_bl⟩
  · cases e2⟩
theorem fe_or (ha : FE X a fa) (hb : FE X (.BoolOp .Or (b :: rest) pos) fb) : FE X (.BoolOp .Or (a :: b :: rest) pos) (cOrV fa fb) := ⟨(pe_or ha.pe hb.pe).imp fun σ H Q ⟨r, W, ss, I, k, ss', ef, q⟩ => by
  obtain ⟨p, e1, e2⟩ := bind_some ef
  refine ⟨r, W, ss, I, p.1, p.2, e1, fun v H' J rv => ?_⟩
  split at e2
  · rename_i h
    rw [h] at rv
    exact ⟨false, rv.bl_inv, by rw [if_neg (by decide)]; exact ⟨r, W, p.2, J, k, ss', e2, q⟩⟩
  · rename_i h
    cases e2
    rw [h] at rv
    exact ⟨true, rv.bl_inv, by rw [if_pos rfl]; exact q _ H' J rd_bl⟩
  · cases e2⟩
theorem fe_not (ha : FE X a fa) : FE X (.UnaryOp .Not a pos) (cNotV fa) := ⟨(pe_not ha.pe).imp fun σ H Q ⟨r, W, ss, I, k, ss', ef, q⟩ => by
  obtain ⟨p, e1, e2⟩ := bind_some ef
  refine ⟨r, W, ss, I, p.1, p.2, e1, fun v H' J rv => ?_⟩
  split at e2
  · rename_i h
    cases e2
    rw [h] at rv
    exact ⟨_, rv.bl_inv, q _ H' J rd_bl⟩
  · cases e2⟩
theorem fe_if (hc : FT X c tc) (ha : FE X a fa) (hb : FE X b fb) : FE X (.IfExp c a b pos) (cIf tc fa fb) := ⟨(pe_ifExp hc.pt ha.pe hb.pe).imp fun σ H Q ⟨r, W, ss, I, k, ss', ef, q⟩ => by
  obtain ⟨p, e1, e2⟩ := bind_some ef
  refine ⟨r, W, ss, I, p.1, p.2, e1, fun H' J => ?_⟩
  split at e2
  · rename_i h
    rw [if_pos h]
    exact ⟨r, W, p.2, J, k, ss', e2, q⟩
  · rename_i h
    rw [if_neg h]
    exact ⟨r, W, p.2, J, k, ss', e2, q⟩⟩

/-! ### argument lists, displays -/
variable {f : SE} {g : SL}
theorem fa_nil : FA X [] cNil := ⟨pa_nil.imp fun σ H Q ⟨r, W, ss, I, l, ss', ef, q⟩ => by
  cases ef
  exact q [] H I RDs.nil⟩
theorem fa_cons (ha : FE X e f) (hr : FA X es g) (hs : starEach (e :: es) X.env = (false, eval e X.env) :: starEach es X.env := by rfl) : FA X (e :: es) (cCons f g) := ⟨(pa_cons ha.pe hr.pa hs).imp fun σ H Q ⟨r, W, ss, I, l, ss', ef, q⟩ => by
  obtain ⟨p, e1, e2⟩ := bind_some ef
  obtain ⟨p2, e3, e4⟩ := bind_some e2
  cases e4
  refine ⟨r, W, ss, I, p.1, p.2, e1, fun v H1 I1 r1 => ?_⟩
  refine ⟨r.t p.1 v, W, p.2, I1.hold r1, p2.1, p2.2, e3, fun vs H2 I2 r2 => ?_⟩
  obtain ⟨I3, r1'⟩ := I2.drop
  exact q _ H2 I3 (RDs.cons r1' r2)⟩
theorem fe_tup {x1 : Nat} (h : FA X es g) : FE X (.Tuple es x1 pos) (cTup g) := ⟨(pe_tup h.pa).imp fun σ H Q ⟨r, W, ss, I, d, ss', ef, q⟩ => by
  obtain ⟨p, e1, e2⟩ := bind_some ef
  split at e2
  · rename_i hz
    cases e2
    refine ⟨r, W, ss, I, p.1, p.2, e1, fun vs H1 I1 r1 => ⟨by rw [← r1.length]; exact hz, fun a na => ?_⟩⟩
    obtain ⟨J, h⟩ := I1.newTup na r1
    exact q _ _ J h
  · cases e2⟩
theorem fl_lst (h : FA X es g) : FL X (.List es pos) (cLst g) := ⟨(pe_lst h.pa).imp fun σ H Q ⟨r, W, ss, I, d, ss', ef, q⟩ => by
  obtain ⟨p, e1, e2⟩ := bind_some ef
  split at e2
  · rename_i hz
    cases e2
    exact ⟨r, W, ss, I, _, _, e1, fun vs H1 I1 r1 => ⟨by rw [← r1.length]; exact hz, fun a na => q _ _ (I1.newLst na r1)⟩⟩
  · cases e2⟩

/-! ### built-in functions -/
def SoC (K : PySem.W.Frag) (g : List D → Option D) (rr : List V → Hp → VK → Prop) : Prop := ∀ (r : R) W ss σ H l vs d Q, Rep K r W ss σ H → RDs K H (Zw r W) l vs → g l = some d →
  (∀ v H', Rep K r W ss σ H' → RD K H' (Zw r W) d v → Q v H') → rr vs H Q
def SoV (K : PySem.W.Frag) (g : C → Option D) (rr : List V → Hp → VK → Prop) : Prop := ∀ (r : R) W ss σ H c v d Q, Rep K r W ss σ H → CV K H (Zw r W) c v → g c = some d →
  (∀ v H', Rep K r W ss σ H' → RD K H' (Zw r W) d v → Q v H') → rr [v] H Q
def SoVL (K : PySem.W.Frag) (g : C → Option (List D)) (rr : List V → Hp → VK → Prop) : Prop := ∀ (r : R) W ss σ H c v l Q, Rep K r W ss σ H → CV K H (Zw r W) c v → g c = some l →
  (∀ a H', Rep K (r.u a l) W ss σ H' → Q (.ref a) H') → rr [v] H Q
variable {rr : List V → Hp → VK → Prop} {gc : List D → Option D} {gv : C → Option D} {gl : C → Option (List D)} {fv : SV}
theorem args_run (h : FA X es g) (hg : SoC X.K gc rr) : ∀ σ H Q, tF X.K (cArgs gc g) σ H Q → tCB rr (tFA X.K g) σ H Q := fun σ H Q ⟨r, W, ss, I, d, ss', ef, q⟩ => by
  obtain ⟨p, e1, e2⟩ := bind_some ef
  obtain ⟨d', e3, e4⟩ := bind_some e2
  cases e4
  exact ⟨r, W, ss, I, p.1, p.2, e1, fun vs H1 I1 r1 => hg r W _ σ H1 _ _ _ Q I1 r1 e3 q⟩
theorem view_run (hg : SoV X.K gv rr) : ∀ σ H Q, tF X.K (cV1 gv fv) σ H Q → tCB rr (tCons (tFV X.K fv) tNil) σ H Q := fun σ H Q ⟨r, W, ss, I, d, ss', ef, q⟩ => by
  obtain ⟨p, e1, e2⟩ := bind_some ef
  obtain ⟨d', e3, e4⟩ := bind_some e2
  cases e4
  exact ⟨r, W, ss, I, p.1, p.2, e1, fun v H1 I1 r1 => hg r W _ σ H1 _ _ _ Q I1 r1 e3 q⟩
theorem viewL_run (hg : SoVL X.K gl rr) : ∀ σ H Q, tFL X.K (cV1L gl fv) σ H Q → tCB rr (tCons (tFV X.K fv) tNil) σ H Q := fun σ H Q ⟨r, W, ss, I, d, ss', ef, q⟩ => by
  obtain ⟨p, e1, e2⟩ := bind_some ef
  obtain ⟨d', e3, e4⟩ := bind_some e2
  cases e4
  exact ⟨r, W, ss, I, p.1, p.2, e1, fun v H1 I1 r1 => hg r W _ σ H1 _ _ _ Q I1 r1 e3 q⟩
variable {x : Str} {p : Pos} {id T : String}
theorem fe_callB (hc : CallR X (.builtin id) rr) (hs : SoC X.K gc rr) (hg : Gl X x) (hm : X.mg x = none) (hv : bootBuiltins x = some (.builtin id)) (ha : FA X (e :: es) g) (hn : x ≠ "__name__" := by decide) (hdb : (x == ("__debug__" : Str)) = false := by decide)
    (he : starEach (e :: es) X.env = (false, eval e X.env) :: starEach es X.env := by rfl) (hpl : (backTo pos (starEach es X.env)).any (·.1) = false := by rfl) : FE X (.Call (.Name x p) (e :: es) [] pos) (cArgs gc g) :=
  ⟨(pe_callB hc hg hm hv ha.pa hn hdb he hpl).imp (args_run ha hs)⟩
theorem fe_callTy (hc : CallR X (.type T) rr) (hs : SoC X.K gc rr) (hg : Gl X x) (hm : X.mg x = none) (hv : bootBuiltins x = some (.type T)) (ha : FA X (e :: es) g) (hn : x ≠ "__name__" := by decide) (hdb : (x == ("__debug__" : Str)) = false := by decide)
    (he : starEach (e :: es) X.env = (false, eval e X.env) :: starEach es X.env := by rfl) (hpl : (backTo pos (starEach es X.env)).any (·.1) = false := by rfl) : FE X (.Call (.Name x p) (e :: es) [] pos) (cArgs gc g) :=
  ⟨(pe_callTy hc hg hm hv ha.pa hn hdb he hpl).imp (args_run ha hs)⟩
theorem fe_callBfun (hc : CallR X (.builtin id) rr) (hs : SoC X.K gc rr) (hg : Gl X x) (hm : X.mg x = some (.builtin id)) (ha : FA X (e :: es) g) (hdb : (x == ("__debug__" : Str)) = false := by decide)
    (he : starEach (e :: es) X.env = (false, eval e X.env) :: starEach es X.env := by rfl) (hpl : (backTo pos (starEach es X.env)).any (·.1) = false := by rfl) : FE X (.Call (.Name x p) (e :: es) [] pos) (cArgs gc g) :=
  ⟨(pe_callBfun hc hg hm ha.pa hdb he hpl).imp (args_run ha hs)⟩
theorem fe_viewB (hc : CallR X (.builtin id) rr) (hs : SoV X.K gv rr) (hg : Gl X x) (hm : X.mg x = none) (hv : bootBuiltins x = some (.builtin id)) (ha : FV X e fv) (hn : x ≠ "__name__" := by decide) (hdb : (x == ("__debug__" : Str)) = false := by decide)
    (he : starEach [e] X.env = (false, eval e X.env) :: starEach [] X.env := by rfl) (hpl : (backTo pos (starEach [] X.env)).any (·.1) = false := by rfl) : FE X (.Call (.Name x p) [e] [] pos) (cV1 gv fv) :=
  ⟨(pe_callB hc hg hm hv (pa_cons ha.pe pa_nil he) hn hdb he hpl).imp (view_run hs)⟩
theorem fe_viewTy (hc : CallR X (.type T) rr) (hs : SoV X.K gv rr) (hg : Gl X x) (hm : X.mg x = none) (hv : bootBuiltins x = some (.type T)) (ha : FV X e fv) (hn : x ≠ "__name__" := by decide) (hdb : (x == ("__debug__" : Str)) = false := by decide)
    (he : starEach [e] X.env = (false, eval e X.env) :: starEach [] X.env := by rfl) (hpl : (backTo pos (starEach [] X.env)).any (·.1) = false := by rfl) : FE X (.Call (.Name x p) [e] [] pos) (cV1 gv fv) :=
  ⟨(pe_callTy hc hg hm hv (pa_cons ha.pe pa_nil he) hn hdb he hpl).imp (view_run hs)⟩
theorem fl_viewB (hc : CallR X (.builtin id) rr) (hs : SoVL X.K gl rr) (hg : Gl X x) (hm : X.mg x = none) (hv : bootBuiltins x = some (.builtin id)) (ha : FV X e fv) (hn : x ≠ "__name__" := by decide) (hdb : (x == ("__debug__" : Str)) = false := by decide)
    (he : starEach [e] X.env = (false, eval e X.env) :: starEach [] X.env := by rfl) (hpl : (backTo pos (starEach [] X.env)).any (·.1) = false := by rfl) : FL X (.Call (.Name x p) [e] [] pos) (cV1L gl fv) :=
  ⟨(pe_callB hc hg hm hv (pa_cons ha.pe pa_nil he) hn hdb he hpl).imp (viewL_run hs)⟩
theorem fl_viewTy (hc : CallR X (.type T) rr) (hs : SoVL X.K gl rr) (hg : Gl X x) (hm : X.mg x = none) (hv : bootBuiltins x = some (.type T)) (ha : FV X e fv) (hn : x ≠ "__name__" := by decide) (hdb : (x == ("__debug__" : Str)) = false := by decide)
    (he : starEach [e] X.env = (false, eval e X.env) :: starEach [] X.env := by rfl) (hpl : (backTo pos (starEach [] X.env)).any (·.1) = false := by rfl) : FL X (.Call (.Name x p) [e] [] pos) (cV1L gl fv) :=
  ⟨(pe_callTy hc hg hm hv (pa_cons ha.pe pa_nil he) hn hdb he hpl).imp (viewL_run hs)⟩
end
end FD
/-! FD, part 4: built-in functions, items, cuts. -/
namespace FD
open PySem PySem.Spec PyProof.Rows L2

section
variable {K : PySem.W.Frag} {H : Hp} {Z : Zs}
theorem rds_1 {d : D} {vs : List V} (h : RDs K H Z [d] vs) : ∃ v, vs = [v] ∧ RD K H Z d v := by
  rw [RDs] at h
  obtain ⟨v, r, rfl, h1, h2⟩ := h
  rw [RDs] at h2
  subst h2
  exact ⟨v, rfl, h1⟩
theorem rds_2 {d e : D} {vs : List V} (h : RDs K H Z [d, e] vs) : ∃ v u, vs = [v, u] ∧ RD K H Z d v ∧ RD K H Z e u := by
  rw [RDs] at h
  obtain ⟨v, r, rfl, h1, h2⟩ := h
  obtain ⟨u, rfl, h3⟩ := rds_1 h2
  exact ⟨v, u, rfl, h1, h3⟩
/-- ints alone -/
def intsOf : List D → Option (List Int)
  | [] => some []
  | .int i :: l => (intsOf l).map fun r => i :: r
  | _ => none
theorem ints_v : ∀ {l : List D} {ns : List Int} {vs : List V}, intsOf l = some ns → RDs K H Z l vs → vs = ns.map V.int
  | [], _, _, h, r => by
    cases h
    rw [RDs] at r
    exact r
  | .int i :: l, _, _, h, r => by
    obtain ⟨ns, h1, rfl⟩ := map_some h
    rw [RDs] at r
    obtain ⟨v, vr, rfl, r1, r2⟩ := r
    rw [r1.int_inv, ints_v h1 r2]
    rfl
  | .non :: l, _, _, h, r => by cases h
  | .bl _ :: l, _, _, h, r => by cases h
  | .str _ :: l, _, _, h, r => by cases h
  | .tup _ :: l, _, _, h, r => by cases h
  | .lst _ :: l, _, _, h, r => by cases h
  | .sls _ :: l, _, _, h, r => by cases h
theorem intsOf_map : ∀ ns : List Int, intsOf (ns.map D.int) = some ns
  | [] => rfl
  | n :: ns => by
    show (intsOf (ns.map D.int)).map _ = _
    rw [intsOf_map ns]
    rfl
theorem intsOf_eq : ∀ {l : List D} {ns : List Int}, intsOf l = some ns → l = ns.map D.int
  | [], _, h => by cases h; rfl
  | .int i :: l, _, h => by
    obtain ⟨ns, h1, rfl⟩ := map_some h
    rw [intsOf_eq h1]
    rfl
  | .non :: l, _, h => by cases h
  | .bl _ :: l, _, h => by cases h
  | .str _ :: l, _, h => by cases h
  | .tup _ :: l, _, h => by cases h
  | .lst _ :: l, _, h => by cases h
  | .sls _ :: l, _, h => by cases h
def blsOf : List D → Option (List Bool)
  | [] => some []
  | .bl i :: l => (blsOf l).map fun r => i :: r
  | _ => none
theorem bls_v : ∀ {l : List D} {ns : List Bool} {vs : List V}, blsOf l = some ns → RDs K H Z l vs → vs = ns.map V.bl
  | [], _, _, h, r => by
    cases h
    rw [RDs] at r
    exact r
  | .bl i :: l, _, _, h, r => by
    obtain ⟨ns, h1, rfl⟩ := map_some h
    rw [RDs] at r
    obtain ⟨v, vr, rfl, r1, r2⟩ := r
    rw [r1.bl_inv, bls_v h1 r2]
    rfl
  | .non :: l, _, _, h, r => by cases h
  | .int _ :: l, _, _, h, r => by cases h
  | .str _ :: l, _, _, h, r => by cases h
  | .tup _ :: l, _, _, h, r => by cases h
  | .lst _ :: l, _, _, h, r => by cases h
  | .sls _ :: l, _, _, h, r => by cases h
theorem blsOf_map : ∀ ns : List Bool, blsOf (ns.map D.bl) = some ns
  | [] => rfl
  | n :: ns => by
    show (blsOf (ns.map D.bl)).map _ = _
    rw [blsOf_map ns]
    rfl
end

section
variable {X : Cx} {K : PySem.W.Frag}
/-! ints in, an int out -/
def gcGcd : List D → Option D
  | [.int a, .int b] => some (.int ((Nat.gcd a.natAbs b.natAbs : Nat) : Int))
  | _ => none
theorem so_gcd : SoC K gcGcd rGcd := by
  intro r W ss σ H l vs d Q I rl h q
  unfold gcGcd at h
  split at h
  · cases h
    obtain ⟨v, u, rfl, r1, r2⟩ := rds_2 rl
    rw [r1.int_inv, r2.int_inv]
    exact ⟨_, _, rfl, q _ _ I rd_int⟩
  · cases h
def rComb : List V → Hp → VK → Prop := fun vs H Q => ∃ a b : Int, vs = [.int a, .int b] ∧ 0 ≤ a ∧ 0 ≤ b ∧ a ≤ 18000 ∧ Q (.int (PySem.W.mcComb a b)) H
theorem cr_comb : CallR X (.builtin "math.comb") rComb := by
  intro pins s σ H vs us Q I r h
  obtain ⟨a, b, rfl, h1, h2, h3, q⟩ := h
  obtain ⟨t, u, rfl⟩ := Vals.int2 r
  exact PySem.W.mc_comb h1 h2 (by omega) (.inr h3) fun _ => ⟨.int _, H, I.tok _, ⟨_, rfl⟩, q⟩
def gcComb : List D → Option D
  | [.int a, .int b] => if 0 ≤ a ∧ 0 ≤ b ∧ a.natAbs.log2 < 14 then some (.int (PySem.W.mcComb a b)) else none
  | _ => none
theorem log14 {i : Int} (h1 : i.natAbs.log2 < 14) : i ≤ 18000 := by
  have h2 : i.natAbs < 2 ^ (i.natAbs.log2 + 1) := Nat.lt_log2_self
  have h3 : i.natAbs < 2 ^ 14 := Nat.lt_of_lt_of_le h2 (Nat.pow_le_pow_right (by decide) h1)
  omega
theorem so_comb : SoC K gcComb rComb := by
  intro r W ss σ H l vs d Q I rl h q
  unfold gcComb at h
  split at h
  · split at h
    · rename_i hz
      cases h
      obtain ⟨v, u, rfl, r1, r2⟩ := rds_2 rl
      rw [r1.int_inv, r2.int_inv]
      exact ⟨_, _, rfl, hz.1, hz.2.1, log14 hz.2.2, q _ _ I rd_int⟩
    · cases h
  · cases h
def gcAbs : List D → Option D
  | [.int i] => some (.int (if i < 0 then -i else i))
  | _ => none
theorem so_abs : SoC K gcAbs (fun xs H Q => ∃ i, xs = [.int i] ∧ Q (.int (if i < 0 then -i else i)) H) := by
  intro r W ss σ H l vs d Q I rl h q
  unfold gcAbs at h
  split at h
  · cases h
    obtain ⟨v, rfl, r1⟩ := rds_1 rl
    rw [r1.int_inv]
    exact ⟨_, rfl, q _ _ I rd_int⟩
  · cases h
def gcInt : List D → Option D
  | [.int i] => some (.int i)
  | [.bl k] => some (.int (if k then 1 else 0))
  | _ => none
theorem so_int : SoC K gcInt (fun xs H Q => (∃ i, xs = [.int i] ∧ Q (.int i) H) ∨ ∃ k, xs = [.bl k] ∧ Q (.int (if k then 1 else 0)) H) := by
  intro r W ss σ H l vs d Q I rl h q
  unfold gcInt at h
  split at h
  · cases h
    obtain ⟨v, rfl, r1⟩ := rds_1 rl
    rw [r1.int_inv]
    exact .inl ⟨_, rfl, q _ _ I rd_int⟩
  · cases h
    obtain ⟨v, rfl, r1⟩ := rds_1 rl
    rw [r1.bl_inv]
    exact .inr ⟨_, rfl, q _ _ I rd_int⟩
  · cases h
def gcMax2 : List D → Option D
  | [.int i, .int j] => some (.int (if j > i then j else i))
  | _ => none
theorem so_max2 : SoC K gcMax2 (fun xs H Q => ∃ i j, xs = [.int i, .int j] ∧ Q (.int (if j > i then j else i)) H) := by
  intro r W ss σ H l vs d Q I rl h q
  unfold gcMax2 at h
  split at h
  · cases h
    obtain ⟨v, u, rfl, r1, r2⟩ := rds_2 rl
    rw [r1.int_inv, r2.int_inv]
    exact ⟨_, _, rfl, q _ _ I rd_int⟩
  · cases h
def gcMin2 : List D → Option D
  | [.int i, .int j] => some (.int (if j < i then j else i))
  | _ => none
theorem so_min2 : SoC K gcMin2 (fun xs H Q => ∃ i j, xs = [.int i, .int j] ∧ Q (.int (if j < i then j else i)) H) := by
  intro r W ss σ H l vs d Q I rl h q
  unfold gcMin2 at h
  split at h
  · cases h
    obtain ⟨v, u, rfl, r1, r2⟩ := rds_2 rl
    rw [r1.int_inv, r2.int_inv]
    exact ⟨_, _, rfl, q _ _ I rd_int⟩
  · cases h

/-! a list or a tuple in -/
theorem CV.seq {H : Hp} {Z : Zs} {c : C} {v : V} (h : CV K H Z c v) : ∃ a vs, v = .ref a ∧ RDs K H Z c.items vs ∧ (SqL K H a vs ∨ SqT K H a vs) := by
  cases c with
  | lst l =>
    obtain ⟨a, vs, e, h1, h2⟩ := h
    exact ⟨a, vs, e, h2, .inl (SqL.of h1)⟩
  | tup l =>
    obtain ⟨a, vs, e, h1, h2⟩ := h
    exact ⟨a, vs, e, h2, .inr h1.sq⟩
  | sls l =>
    obtain ⟨a, vs, e, h1, h2⟩ := h
    exact ⟨a, vs, e, h2, .inl h1⟩
def gvLen (c : C) : Option D := some (.int c.items.length)
theorem so_len : SoV K gvLen (fun xs H Q => ∃ p ys, xs = [.ref p] ∧ (SqL K H p ys ∨ SqT K H p ys) ∧ Q (.int ys.length) H) := by
  intro r W ss σ H c v d Q I rc h q
  cases h
  obtain ⟨a, vs, rfl, h1, h2⟩ := rc.seq
  refine ⟨a, vs, rfl, h2, ?_⟩
  rw [← h1.length]
  exact q _ _ I rd_int
/-- sum of a list or a tuple of ints -/
def rSumA (K : PySem.W.Frag) : List V → Hp → VK → Prop := fun vs H Q => ∃ (a : Addr) (ns : List Int), vs = [V.ref a] ∧ (SqL K H a (ns.map V.int) ∨ SqT K H a (ns.map V.int)) ∧ Q (.int ns.sum) H
theorem tup_sum_raw {prog : Program} {w : World} {A : Around} {E : Value → Shared → Prop} {s : Shared} {l : Addr} {its : List Value} {ns : List Int} {Q : Value → Shared → Prop} (hh : A.handled = none) (hl : s.heap.IsTuple l its.toArray) (hi : IntsAre its ns)
    (h : ∀ h' tk t', (∀ b o, s.heap.get? b = some o → h'.get? b = some o) → Q (.int ns.sum t') { s with heap := h', toks := tk }) : wpAny (model prog w) A (call (.builtin "sum") [.ref l]) Q E s := by
  obtain ⟨xs, e⟩ := hi.allInts.items
  have hn : numsOf (intItems xs).toList = ns := by rw [← e]; exact hi.numsOf
  rw [nums_intItems] at hn
  rw [e] at hl
  refine PySem.W.ktm_sumG hh hl fun h' tk t' hk => ?_
  have := h h' tk t' hk
  rw [preSum_eq, List.take_of_length_le (by simp), hn]; exact this
theorem cr_sumA (hc : X.calm = true) : CallR X (.builtin "sum") (rSumA X.K) := by
  intro pins s σ H vs us Q I r h
  obtain ⟨a, ns, rfl, hs | hs, q⟩ := h
  · obtain ⟨its, rv, hl, _⟩ := I.list hs
    rw [Vals.ref1 r]
    exact sum_raw (I.ok.hd hc) hl.isList rv.ints fun h' tk t' hk => ⟨.int _, H, I.kept hk, ⟨_, rfl⟩, q⟩
  · obtain ⟨its, rv, hl, _⟩ := I.tuple hs
    rw [Vals.ref1 r]
    exact tup_sum_raw (I.ok.hd hc) (show s.heap.IsTuple a its.toArray from hl) rv.ints fun h' tk t' hk => ⟨.int _, H, I.kept hk, ⟨_, rfl⟩, q⟩
def gvSum (c : C) : Option D := (intsOf c.items).map fun ns => .int ns.sum
theorem so_sum : SoV K gvSum (rSumA K) := by
  intro r W ss σ H c v d Q I rc h q
  obtain ⟨ns, h1, rfl⟩ := map_some h
  obtain ⟨a, vs, rfl, h2, h3⟩ := rc.seq
  have e := ints_v h1 h2
  subst e
  exact ⟨a, ns, rfl, h3, q _ _ I rd_int⟩
/-- greatest, least of a list of ints -/
def maxI : List Int → Int
  | [] => 0
  | [x] => x
  | x :: y :: r => max x (maxI (y :: r))
def minI : List Int → Int
  | [] => 0
  | [x] => x
  | x :: y :: r => min x (minI (y :: r))
theorem maxI_ge : ∀ (l : List Int) y, y ∈ l → y ≤ maxI l
  | [], _, h => by cases h
  | [x], y, h => by
    obtain rfl := List.mem_singleton.mp h
    exact Int.le_refl _
  | x :: z :: r, y, h => by
    unfold maxI
    rcases List.mem_cons.mp h with rfl | h
    · exact Int.le_max_left _ _
    · exact Int.le_trans (maxI_ge (z :: r) y h) (Int.le_max_right _ _)
theorem minI_le : ∀ (l : List Int) y, y ∈ l → minI l ≤ y
  | [], _, h => by cases h
  | [x], y, h => by
    obtain rfl := List.mem_singleton.mp h
    exact Int.le_refl _
  | x :: z :: r, y, h => by
    unfold minI
    rcases List.mem_cons.mp h with rfl | h
    · exact Int.min_le_left _ _
    · exact Int.le_trans (Int.min_le_right _ _) (minI_le (z :: r) y h)
theorem maxI_mem : ∀ l : List Int, 0 < l.length → maxI l ∈ l
  | [], h => by cases h
  | [x], _ => List.mem_singleton.mpr rfl
  | x :: z :: r, _ => by
    unfold maxI
    by_cases h : x ≤ maxI (z :: r)
    · rw [Int.max_eq_right h]
      exact List.mem_cons_of_mem _ (maxI_mem (z :: r) (by simp))
    · rw [Int.max_eq_left (by omega)]
      exact List.mem_cons_self
theorem minI_mem : ∀ l : List Int, 0 < l.length → minI l ∈ l
  | [], h => by cases h
  | [x], _ => List.mem_singleton.mpr rfl
  | x :: z :: r, _ => by
    unfold minI
    by_cases h : x ≤ minI (z :: r)
    · rw [Int.min_eq_left h]
      exact List.mem_cons_self
    · rw [Int.min_eq_right (by omega)]
      exact List.mem_cons_of_mem _ (minI_mem (z :: r) (by simp))
def lstItems : C → Option (List D)
  | .lst l => some l
  | .sls l => some l
  | .tup _ => none
theorem CV.lstq {H : Hp} {Z : Zs} {c : C} {v : V} {l : List D} (h : CV K H Z c v) (e : lstItems c = some l) : ∃ a vs, v = .ref a ∧ SqL K H a vs ∧ RDs K H Z l vs := by
  cases c with
  | lst l' =>
    cases e
    obtain ⟨a, vs, e, h1, h2⟩ := h
    exact ⟨a, vs, e, SqL.of h1, h2⟩
  | tup l' => cases e
  | sls l' =>
    cases e
    exact h
def gvMax (c : C) : Option D := (lstItems c).bind fun l => (intsOf l).bind fun ns => if 0 < ns.length then some (.int (maxI ns)) else none
def gvMin (c : C) : Option D := (lstItems c).bind fun l => (intsOf l).bind fun ns => if 0 < ns.length then some (.int (minI ns)) else none
theorem so_max : SoV K gvMax (rMax K) := by
  intro r W ss σ H c v d Q I rc h q
  obtain ⟨l, h1, h2⟩ := bind_some h
  obtain ⟨ns, h3, h4⟩ := bind_some h2
  split at h4
  · rename_i hz
    cases h4
    obtain ⟨a, vs, rfl, h5, h6⟩ := rc.lstq h1
    have e := ints_v h3 h6
    subst e
    refine ⟨a, ns, rfl, h5, hz, fun m hm hg => ?_⟩
    have e : m = maxI ns := Int.le_antisymm (maxI_ge ns m hm) (hg _ (maxI_mem ns hz))
    rw [e]
    exact q _ _ I rd_int
  · cases h4
theorem so_min : SoV K gvMin (rMin K) := by
  intro r W ss σ H c v d Q I rc h q
  obtain ⟨l, h1, h2⟩ := bind_some h
  obtain ⟨ns, h3, h4⟩ := bind_some h2
  split at h4
  · rename_i hz
    cases h4
    obtain ⟨a, vs, rfl, h5, h6⟩ := rc.lstq h1
    have e := ints_v h3 h6
    subst e
    refine ⟨a, ns, rfl, h5, hz, fun m hm hg => ?_⟩
    have e : m = minI ns := Int.le_antisymm (hg _ (minI_mem ns hz)) (minI_le ns m hm)
    rw [e]
    exact q _ _ I rd_int
  · cases h4
def gvAny (c : C) : Option D := (lstItems c).bind fun l => (blsOf l).map fun bs => .bl (bs.any id)
def gvAll (c : C) : Option D := (lstItems c).bind fun l => (blsOf l).map fun bs => .bl (bs.all id)
theorem so_any : SoV K gvAny (rAny K) := by
  intro r W ss σ H c v d Q I rc h q
  obtain ⟨l, h1, h2⟩ := bind_some h
  obtain ⟨bs, h3, rfl⟩ := map_some h2
  obtain ⟨a, vs, rfl, h5, h6⟩ := rc.lstq h1
  have e := bls_v h3 h6
  subst e
  exact ⟨a, bs, rfl, h5, q _ _ I rd_bl⟩
theorem so_all : SoV K gvAll (rAll K) := by
  intro r W ss σ H c v d Q I rc h q
  obtain ⟨l, h1, h2⟩ := bind_some h
  obtain ⟨bs, h3, rfl⟩ := map_some h2
  obtain ⟨a, vs, rfl, h5, h6⟩ := rc.lstq h1
  have e := bls_v h3 h6
  subst e
  exact ⟨a, bs, rfl, h5, q _ _ I rd_bl⟩
/-- tuple(..), list(..) -/
def gvTup (c : C) : Option D := some (.tup c.items)
theorem so_tup : SoV K gvTup (fun xs H Q => ∃ p ys, xs = [.ref p] ∧ ((SqL K H p ys ∧ ∀ l, H l = none → Q (.ref l) (upd H l (.tup ys))) ∨ (SqT K H p ys ∧ Q (.ref p) H))) := by
  intro r W ss σ H c v d Q I rc h q
  cases h
  cases c with
  | lst l =>
    obtain ⟨a, vs, rfl, h1, h2⟩ := rc
    refine ⟨a, vs, rfl, .inl ⟨SqL.of h1, fun p np => ?_⟩⟩
    obtain ⟨J, h⟩ := I.newTup np h2
    exact q _ _ J h
  | sls l =>
    obtain ⟨a, vs, rfl, h1, h2⟩ := rc
    refine ⟨a, vs, rfl, .inl ⟨h1, fun p np => ?_⟩⟩
    obtain ⟨J, h⟩ := I.newTup np h2
    exact q _ _ J h
  | tup l =>
    obtain ⟨a, vs, rfl, h1, h2⟩ := rc
    exact ⟨a, vs, rfl, .inr ⟨h1.sq, q _ _ I (rd_tup h1 h2)⟩⟩
def gvList (c : C) : Option (List D) := some c.items
theorem so_list : SoVL K gvList (fun xs H Q => ∃ p ys, xs = [.ref p] ∧ (SqL K H p ys ∨ SqT K H p ys) ∧ ∀ l, H l = none → Q (.ref l) (upd H l (.lst ys))) := by
  intro r W ss σ H c v l Q I rc h q
  cases h
  obtain ⟨a, vs, rfl, h1, h2⟩ := rc.seq
  exact ⟨a, vs, rfl, h2, fun p np => q _ _ (I.newLst np h1)⟩
end

/-! ### isinstance -/
def tyN : D → String
  | .non => "NoneType"
  | .bl _ => "bool"
  | .int _ => "int"
  | .str _ => "str"
  | .tup _ => "tuple"
  | .lst _ => "list"
  | .sls _ => "list"
def isiB (a T : String) : Bool := a == T || (a == "bool" && T == "int")
def isiOk (T : String) : Bool := ["NoneType", "bool", "int", "str", "tuple", "list"].all fun a => match kitB a T with
  | some b => b == isiB a T
  | none => false
section
variable {K : PySem.W.Frag} {H : Hp} {Z : Zs}
theorem tyN_mem (d : D) : tyN d ∈ ["NoneType", "bool", "int", "str", "tuple", "list"] := by cases d <;> simp [tyN]
theorem isiOk_at {T : String} (h : isiOk T = true) (d : D) : kitB (tyN d) T = some (isiB (tyN d) T) := by
  have q := List.all_eq_true.mp h _ (tyN_mem d)
  split at q
  · rename_i b e
    rw [e, eq_of_beq q]
  · cases q
theorem RD.ty : ∀ {d : D} {v : V}, RD K H Z d v → TyX K H v (.type (tyN d))
  | .non, v, h => by rw [h.non_inv]; exact .base .non
  | .bl _, v, h => by rw [h.bl_inv]; exact .base (.bl _)
  | .int _, v, h => by rw [h.int_inv]; exact .base (.int _)
  | .str _, v, h => by rw [h.str_inv]; exact .base (.str _)
  | .tup l, v, h => by
    obtain ⟨a, vs, rfl, p, _⟩ := h.tup_inv
    rcases p with p | ⟨o, its, n, h1, h2, _⟩
    · exact .base (.tup p.1)
    · exact .kTuple h1 h2
  | .lst l, v, h => by
    obtain ⟨a, vs, rfl, p, _⟩ := h.lst_inv
    exact .base (.lst p.1)
  | .sls l, v, h => by
    obtain ⟨a, vs, rfl, p, _⟩ := h.sls_inv
    rcases p with p | ⟨o, p, _⟩ | ⟨o, its, n, h1, h2, _⟩
    · exact .base (.lst p.1)
    · exact .base (.frz p)
    · exact .kList h1 h2
end
section
variable {X : Cx} {e c1 c2 : Expr} {f : SE} {pos p q tpos : Pos}
def cIsi (Ts : List String) (f : SE) : SE := fun ss => (f ss).map fun p => (.bl (Ts.any fun T => isiB (tyN p.1) T), p.2)
theorem fe_isi {T : String} (hk : isiOk T = true) (hg : Gl X "isinstance") (hm : X.mg "isinstance" = none) (hT : PE X c1 (tC (.ty T))) (ha : FE X e f) (he : starEach (e :: [c1]) X.env = (false, eval e X.env) :: starEach [c1] X.env := by rfl)
    (he2 : starEach (c1 :: []) X.env = (false, eval c1 X.env) :: starEach [] X.env := by rfl) (hpl : (backTo pos (starEach [c1] X.env)).any (·.1) = false := by rfl) :
    FE X (.Call (.Name "isinstance" p) [e, c1] [] pos) (cIsi [T] f) :=
  ⟨(pe_callB call_isi hg hm (by decide +kernel) (pa_cons ha.pe (pa_cons hT pa_nil he2) he) (by decide) (by decide) he hpl).imp fun σ H Q ⟨r, W, ss, I, d, ss', ef, q⟩ => by
    obtain ⟨p, e1, e2⟩ := map_some ef
    cases e2
    refine ⟨r, W, ss, I, p.1, p.2, e1, fun v H1 I1 r1 => ⟨v, .ty T, .type (tyN p.1), .type T, _, rfl, .ty T, r1.ty, kit_ty (isiOk_at hk p.1), ?_⟩⟩
    have h := q (.bl (isiB (tyN p.1) T)) H1 I1 (by simp; exact rd_bl)
    exact h⟩
theorem fe_isi2 {T1 T2 : String} {k1 : Nat} (h1 : isiOk T1 = true) (h2 : isiOk T2 = true) (hg : Gl X "isinstance") (hm : X.mg "isinstance" = none) (hT1 : PE X c1 (tC (.ty T1))) (hT2 : PE X c2 (tC (.ty T2))) (ha : FE X e f)
    (he : starEach (e :: [.Tuple [c1, c2] k1 tpos]) X.env = (false, eval e X.env) :: starEach [.Tuple [c1, c2] k1 tpos] X.env := by rfl)
    (he2 : starEach (.Tuple [c1, c2] k1 tpos :: []) X.env = (false, eval (.Tuple [c1, c2] k1 tpos) X.env) :: starEach [] X.env := by rfl)
    (he3 : starEach (c1 :: [c2]) X.env = (false, eval c1 X.env) :: starEach [c2] X.env := by rfl) (he4 : starEach (c2 :: []) X.env = (false, eval c2 X.env) :: starEach [] X.env := by rfl)
    (hpl : (backTo pos (starEach [.Tuple [c1, c2] k1 tpos] X.env)).any (·.1) = false := by rfl) :
    FE X (.Call (.Name "isinstance" p) [e, .Tuple [c1, c2] k1 tpos] [] pos) (cIsi [T1, T2] f) :=
  ⟨(pe_callB call_isiT hg hm (by decide +kernel) (pa_cons ha.pe (pa_cons (pe_tup (pa_cons hT1 (pa_cons hT2 pa_nil he4) he3)) pa_nil he2) he) (by decide) (by decide) he hpl).imp fun σ H Q ⟨r, W, ss, I, d, ss', ef, q⟩ => by
    obtain ⟨p, e1, e2⟩ := map_some ef
    cases e2
    refine ⟨r, W, ss, I, p.1, p.2, e1, fun v H1 I1 r1 => ⟨by show 2 ≤ sizeLine; decide, fun tp ntp => ⟨v, tp, [.ty T1, .ty T2], .type (tyN p.1), [.type T1, .type T2], isiB (tyN p.1) T1 || isiB (tyN p.1) T2, rfl, upd_same, .cons (.ty T1) (.cons (.ty T2) .nil), (r1.same (keeps_upd ntp)).ty, ?_, ?_⟩⟩⟩
    · refine kitAny_cons (kit_ty (isiOk_at h1 p.1)) (fun e => ?_) fun e => by rw [e]; rfl
      refine kitAny_cons (kit_ty (isiOk_at h2 p.1)) (fun e' => ?_) fun e' => by rw [e, e']; rfl
      rw [e, e']
      rfl
    · have h := q (.bl (isiB (tyN p.1) T1 || isiB (tyN p.1) T2)) (upd H1 tp (.tup [.ty T1, .ty T2])) (I1.alloc ntp) (by simp; exact rd_bl)
      exact h⟩
end

/-! ### items, cuts -/
theorem rds_at {K : PySem.W.Frag} {H : Hp} {Z : Zs} {l : List D} {vs : List V} {i : Int} {d : D} (h : RDs K H Z l vs) (e : atI l i = some d) : ∃ v, atI vs i = some v ∧ RD K H Z d v := by
  unfold atI at e ⊢
  obtain ⟨j, h1, h2⟩ := bind_some e
  obtain ⟨v, h3, h4⟩ := pr_get h.p h2
  rw [← h.length]
  exact ⟨v, by rw [h1]; exact h3, h4⟩
def gIx : D → D → Option D
  | .tup l, .int i => atI l i
  | .lst l, .int i => atI l i
  | .sls l, .int i => atI l i
  | .str s, .int i => if s.length ≤ sizeLine then (atI s.cps.toList i).map fun c => .str ⟨#[c]⟩ else none
  | _, _ => none
theorem so_ix (K : PySem.W.Frag) : SoB K gIx (rIx K) := by
  intro r W ss σ H x y vx vy d Q I rx ry h q
  unfold gIx at h
  split at h
  · obtain rfl := ry.int_inv
    obtain ⟨a, vs, rfl, p, rl⟩ := rx.tup_inv
    obtain ⟨v, h1, h2⟩ := rds_at rl h
    exact .inr (.inl ⟨a, vs, _, v, rfl, rfl, p.sq, h1, q _ _ I h2⟩)
  · obtain rfl := ry.int_inv
    obtain ⟨a, vs, rfl, p, rl⟩ := rx.lst_inv
    obtain ⟨v, h1, h2⟩ := rds_at rl h
    exact .inl ⟨a, vs, _, v, rfl, rfl, p.sq, h1, q _ _ I h2⟩
  · obtain rfl := ry.int_inv
    obtain ⟨a, vs, rfl, p, rl⟩ := rx.sls_inv
    obtain ⟨v, h1, h2⟩ := rds_at rl h
    exact .inl ⟨a, vs, _, v, rfl, rfl, p.sq, h1, q _ _ I h2⟩
  · split at h
    · rename_i hz
      obtain ⟨c, h1, rfl⟩ := map_some h
      obtain rfl := ry.int_inv
      obtain rfl := rx.str_inv
      exact .inr (.inr ⟨_, _, c, rfl, rfl, hz, h1, q _ _ I rd_str⟩)
    · cases h
  · cases h
section
variable {X : Cx} {a b : Expr} {fa fb : SE} {pos : Pos}
theorem fe_ix (ha : FE X a fa) (hb : FE X b fb) (hs : PlainIx b := by exact fun _ _ => rfl) : FE X (.Subscript a b pos) (cBin gIx fa fb) :=
  ⟨(pe_ix ix_seq ha.pe hb.pe hs).imp fun σ H Q ⟨r, W, ss, I, d, ss', ef, q⟩ => bin_run I ef fun x y vx vy H' I' rx ry eg => so_ix X.K r W _ σ H' x y vx vy d Q I' rx ry eg q⟩
def ownL : Option S → Option (List D)
  | some (.own l) => some l
  | some (.io l) => some l
  | _ => none
theorem ownL_at {ss : List S} {i : Nat} {l : List D} (h : ownL ss[i]? = some l) : ∃ c, OwnAt ss i l c := by
  unfold ownL at h
  split at h
  · cases h
    exact ⟨_, .own (by assumption)⟩
  · cases h
    exact ⟨_, .io (by assumption)⟩
  · cases h
/-- x[b], x an own list -/
def cIxO (i : Nat) (fb : SE) : SE := fun ss => (ownL ss[i]?).bind fun _ => (fb ss).bind fun p => (ownL p.2[i]?).bind fun l => match p.1 with
  | .int k => (atI l k).bind fun d => some (d, p.2)
  | _ => none
theorem Rep.slotAddr {K : PySem.W.Frag} {r : R} {W : Nat → Option Addr} {ss : List S} {σ : L2.St} {H : Hp} (I : Rep K r W ss σ H) {i : Nat} {l : List D} (h : ownL ss[i]? = some l) : ∃ a c, OwnAt ss i l c ∧ W i = some a ∧ σ[i]? = some (some (.ref a)) ∧ LstAt K H (Zw r W) a l := by
  obtain ⟨c, hc⟩ := ownL_at h
  obtain ⟨a, h1, h2, h3⟩ := I.ownAt hc
  exact ⟨a, c, hc, h1, h2, h3⟩
/-- the slot's address is there already ahead of the evaluation -/
theorem Rep.early {K : PySem.W.Frag} {r : R} {W : Nat → Option Addr} {ss : List S} {σ : L2.St} {H : Hp} (I : Rep K r W ss σ H) {i : Nat} {a : Addr} (h : W i = some a) : σ[i]? = some (some (.ref a)) := by
  obtain ⟨_, _, h2, _⟩ := I.at h
  exact h2
theorem fe_ixO (i : Nat) {x : Str} {p : Pos} (hb : FE X b fb) (hN : X.N[i]? = some x := by rfl) (hv : Vis X.env.scope x := by first | exact Or.inl rfl | exact Or.inr (Or.inl rfl) | exact Or.inr (Or.inr rfl)) (hs : PlainIx b := by exact fun _ _ => rfl)
    (hd : (x == ("__debug__" : Str)) = false := by decide) (hcd : (x == ("__classdict__" : Str)) = false := by decide) : FE X (.Subscript (.Name x p) b pos) (cIxO i fb) :=
  ⟨(pe_ix ix_list (pe_var hN hv hd hcd) hb.pe hs).imp fun σ H Q ⟨r, W, ss, I, d, ss', ef, q⟩ => by
    obtain ⟨l0, e0, ef⟩ := bind_some ef
    obtain ⟨pp, e1, e2⟩ := bind_some ef
    obtain ⟨l, e3, e4⟩ := bind_some e2
    obtain ⟨a, _, _, hw, ea, _⟩ := I.slotAddr e0
    split at e4
    · rename_i k ek
      obtain ⟨d', e5, e6⟩ := bind_some e4
      cases e6
      refine ⟨.ref a, ea, r, W, ss, I, pp.1, pp.2, e1, fun v H1 I1 r1 => ?_⟩
      rw [ek] at r1
      obtain rfl := r1.int_inv
      obtain ⟨a', c, _, w', _, vs, h1, h2⟩ := I1.slotAddr e3
      rw [hw] at w'
      cases w'
      obtain ⟨v, h3, h4⟩ := rds_at h2 e5
      exact ⟨a, vs, k, v, rfl, rfl, SqL.of h1, h3, q _ _ I1 h4⟩
    · cases e4⟩
end
end FD
/-! FD, part 5: statements, loops, comprehensions. -/
namespace FD
open PySem PySem.Spec PyProof.Rows L2

inductive Out where
  | nx (ss : List S) | rt (d : D) (ss : List S) | rl (l : List D) (ss : List S) | bk (ss : List S) | ct (ss : List S)
  deriving Inhabited
abbrev SS := List S → Option Out
def Good (K : PySem.W.Frag) (r : R) (D : Ends) : Out → Prop
  | .nx ss => ∀ W σ H, Rep K r W ss σ H → D.nx σ H
  | .rt d ss => ∀ v W σ H, Rep K r W ss σ H → RD K H (Zw r W) d v → D.rt v H
  | .rl l ss => ∀ a W σ H, Rep K (r.u a l) W ss σ H → D.rt (.ref a) H
  | .bk ss => ∀ W σ H, Rep K r W ss σ H → D.bk σ H
  | .ct ss => ∀ W σ H, Rep K r W ss σ H → D.ct σ H
def tS (K : PySem.W.Frag) (f : SS) : TS := fun D σ H => ∃ r W ss, Rep K r W ss σ H ∧ ∃ o, f ss = some o ∧ Good K r D o
structure FS (X : Cx) (st : Stmt) (f : SS) : Prop where
  ps : PS X st (tS X.K f)
structure FSs (X : Cx) (sts : List Stmt) (f : SS) : Prop where
  ps : PSs X sts (tS X.K f)
theorem _root_.L2.PS.imp {X : Cx} {e : Stmt} {t t' : TS} (h : PS X e t) (w : ∀ D σ H, t' D σ H → t D σ H) : PS X e t' := ⟨fun pins s σ H D I q => h.run pins s σ H D I (w D σ H q)⟩
theorem _root_.L2.PSs.imp {X : Cx} {e : List Stmt} {t t' : TS} (h : PSs X e t) (w : ∀ D σ H, t' D σ H → t D σ H) : PSs X e t' := ⟨fun pins s σ H D I q => h.run pins s σ H D I (w D σ H q)⟩

/-! ### what is held, several -/
def R.ts (r : R) (T : List (D × V)) : R := { r with T := T ++ r.T }
section
variable {K : PySem.W.Frag} {r : R} {W : Nat → Option Addr} {ss : List S} {σ : L2.St} {H : Hp}
theorem Rep.holds (I : Rep K r W ss σ H) {T : List (D × V)} (h : ∀ p ∈ T, RD K H (Zw r W) p.1 p.2) : Rep K (r.ts T) W ss σ H :=
  ⟨I.len, I.slot, I.wlt, I.inj, I.wok, I.pok, I.iop, I.uok, I.und, fun p hp => (List.mem_append.mp hp).elim (h p) (I.tok p), I.yok, I.keep⟩
theorem Rep.drops {T : List (D × V)} (I : Rep K (r.ts T) W ss σ H) : Rep K r W ss σ H ∧ ∀ p ∈ T, RD K H (Zw r W) p.1 p.2 :=
  ⟨⟨I.len, I.slot, I.wlt, I.inj, I.wok, I.pok, I.iop, I.uok, I.und, fun p hp => I.tok p (List.mem_append_right _ hp), I.yok, I.keep⟩, fun p hp => I.tok p (List.mem_append_left _ hp)⟩
theorem Rep.dropsU {T : List (D × V)} {a : Addr} {l : List D} (I : Rep K ((r.ts T).u a l) W ss σ H) : Rep K (r.u a l) W ss σ H :=
  ⟨I.len, I.slot, I.wlt, I.inj, I.wok, I.pok, I.iop, I.uok, I.und, fun p hp => I.tok p (List.mem_append_right _ hp), I.yok, I.keep⟩
theorem Good.holds {D : Ends} {o : Out} {T : List (FD.D × V)} (g : Good K r D o) : Good K (r.ts T) D o := by
  cases o with
  | nx ss => exact fun W σ H I => g W σ H I.drops.1
  | rt d ss => exact fun v W σ H I h => g v W σ H I.drops.1 h
  | rl l ss => exact fun a W σ H I => g a W σ H I.dropsU
  | bk ss => exact fun W σ H I => g W σ H I.drops.1
  | ct ss => exact fun W σ H I => g W σ H I.drops.1
end

/-! ### what statements are put together of -/
def sNext : SS := fun ss => some (.nx ss)
def sSeq (f g : SS) : SS := fun ss => (f ss).bind fun o => match o with
  | .nx s1 => g s1
  | o => some o
def okSet : Option S → Bool
  | some (.io _) => false
  | none => false
  | _ => true
def sSet (i : Nat) (f : SE) : SS := fun ss => (f ss).bind fun p => if okSet p.2[i]? = true then some (.nx (p.2.set i (.val p.1))) else none
def sSetO (i : Nat) (f : SL) : SS := fun ss => (f ss).bind fun p => if okSet p.2[i]? = true then some (.nx (p.2.set i (.own p.1))) else none
def sRet (f : SE) : SS := fun ss => (f ss).map fun p => .rt p.1 p.2
def sRetL (f : SL) : SS := fun ss => (f ss).map fun p => .rl p.1 p.2
def sRetN : SS := fun ss => some (.rt .non ss)
/-- return x, x an own list -/
def sRetO (i : Nat) : SS := fun ss => match ss[i]? with
  | some (.own l) => some (.rl l (ss.set i .off))
  | _ => none
def sDrop (f : SE) : SS := fun ss => (f ss).map fun p => .nx p.2
def sIf (t : ST) (f g : SS) : SS := cIf t f g
/-- the list of slot i is left unchanged from here on -/
def frzS (i : Nat) (ss : List S) : List S := match ss[i]? with
  | some (.own l) => ss.set i (.val (.lst l))
  | _ => ss
def sFrz (i : Nat) (f : SS) : SS := fun ss => f (frzS i ss)
section
variable {X : Cx} {st : Stmt} {rest a b : List Stmt} {e c : Expr} {f g : SS} {fe : SE} {fl : SL} {pos : Pos}
theorem okSet_no {ss : List S} {i : Nat} (h : okSet ss[i]? = true) : noIo ss i ∧ i < ss.length := by
  refine ⟨fun l e => (by rw [e] at h; cases h), ?_⟩
  cases e : ss[i]? with
  | none => rw [e] at h; cases h
  | some s => exact (List.getElem?_eq_some_iff.mp e).1
theorem fss_nil : FSs X [] sNext := ⟨pss_nil.imp fun D σ H ⟨r, W, ss, I, o, e, q⟩ => by
  cases e
  exact q W σ H I⟩
theorem seq_run {K : PySem.W.Frag} {D : Ends} {σ : L2.St} {H : Hp} (h : tS K (sSeq f g) D σ H) : tSeq (tS K f) (tS K g) D σ H := by
  obtain ⟨r, W, ss, I, o, e, q⟩ := h
  obtain ⟨o1, e1, e2⟩ := bind_some e
  refine ⟨r, W, ss, I, o1, e1, ?_⟩
  cases o1 with
  | nx s1 => exact fun W' σ' H' I' => ⟨r, W', s1, I', o, e2, q⟩
  | rt d s1 => cases e2; exact q
  | rl d s1 => cases e2; exact q
  | bk s1 => cases e2; exact q
  | ct s1 => cases e2; exact q
theorem fss_cons (h1 : FS X st f) (h2 : FSs X rest g) : FSs X (st :: rest) (sSeq f g) := ⟨(pss_cons h1.ps h2.ps).imp fun D σ H h => seq_run h⟩
theorem fss_one (h1 : FS X st f) : FSs X [st] f := ⟨pss_one h1.ps⟩
theorem fs_frz (i : Nat) (h : FS X st f) : FS X st (sFrz i f) := ⟨h.ps.imp fun D σ H ⟨r, W, ss, I, o, e, q⟩ => by
  unfold sFrz frzS at e
  split at e
  · rename_i l el
    exact ⟨r, _, _, I.freezeSlot el, o, e, q⟩
  · exact ⟨r, W, ss, I, o, e, q⟩⟩
theorem fss_frz (i : Nat) (h : FSs X a f) : FSs X a (sFrz i f) := ⟨h.ps.imp fun D σ H ⟨r, W, ss, I, o, e, q⟩ => by
  unfold sFrz frzS at e
  split at e
  · rename_i l el
    exact ⟨r, _, _, I.freezeSlot el, o, e, q⟩
  · exact ⟨r, W, ss, I, o, e, q⟩⟩
theorem asg_run {K : PySem.W.Frag} {i : Nat} : ∀ D σ H, tS K (sSet i fe) D σ H → tAsg (tF K fe) (gName i) D σ H := fun D σ H ⟨r, W, ss, I, o, e, q⟩ => by
  obtain ⟨p, e1, e2⟩ := bind_some e
  split at e2
  · rename_i h
    cases e2
    exact ⟨r, W, ss, I, p.1, p.2, e1, fun v H1 I1 r1 => q _ _ _ (I1.setVal (okSet_no h).1 r1)⟩
  · cases e2
theorem asgO_run {K : PySem.W.Frag} {i : Nat} : ∀ D σ H, tS K (sSetO i fl) D σ H → tAsg (tFL K fl) (gName i) D σ H := fun D σ H ⟨r, W, ss, I, o, e, q⟩ => by
  obtain ⟨p, e1, e2⟩ := bind_some e
  split at e2
  · rename_i h
    cases e2
    exact ⟨r, W, ss, I, p.1, p.2, e1, fun a H1 I1 => q _ _ _ (I1.setOwn (okSet_no h).1 (okSet_no h).2)⟩
  · cases e2
variable {i : Nat} {x : Str} {pos' : Pos}
theorem fs_set (i : Nat) (hN : X.N.Nodup) (he : FE X e fe) (hi : X.N[i]? = some x := by rfl) (hx : Loc X.env.scope x := by first | exact .inl rfl | exact .inr rfl) (hs : swapsWith e (some (.Name x pos')) pos.line X.env = pure false := by rfl)
    (hf : X.fn x = true ∨ X.env.scope.names.lookup x = some .local := by first | exact .inl rfl | exact .inr rfl | assumption) : FS X (.Assign [.Name x pos'] e pos) (sSet i fe) := ⟨(ps_set hN hi hx he.pe hs hf).imp asg_run⟩
theorem fs_setO (i : Nat) (hN : X.N.Nodup) (he : FL X e fl) (hi : X.N[i]? = some x := by rfl) (hx : Loc X.env.scope x := by first | exact .inl rfl | exact .inr rfl) (hs : swapsWith e (some (.Name x pos')) pos.line X.env = pure false := by rfl)
    (hf : X.fn x = true ∨ X.env.scope.names.lookup x = some .local := by first | exact .inl rfl | exact .inr rfl | assumption) : FS X (.Assign [.Name x pos'] e pos) (sSetO i fl) := ⟨(ps_set hN hi hx he.pe hs hf).imp asgO_run⟩
theorem fs_ret (he : FE X e fe) : FS X (.Return (some e) pos) (sRet fe) := ⟨(ps_ret he.pe).imp fun D σ H ⟨r, W, ss, I, o, e, q⟩ => by
  obtain ⟨p, e1, rfl⟩ := map_some e
  exact ⟨r, W, ss, I, p.1, p.2, e1, fun v H1 I1 r1 => q v W σ H1 I1 r1⟩⟩
theorem fs_retL (he : FL X e fl) : FS X (.Return (some e) pos) (sRetL fl) := ⟨(ps_ret he.pe).imp fun D σ H ⟨r, W, ss, I, o, e, q⟩ => by
  obtain ⟨p, e1, rfl⟩ := map_some e
  exact ⟨r, W, ss, I, p.1, p.2, e1, fun a H1 I1 => q a W σ H1 I1⟩⟩
theorem fs_retN : FS X (.Return none pos) sRetN := ⟨ps_retN.imp fun D σ H ⟨r, W, ss, I, o, e, q⟩ => by
  cases e
  exact q .non W σ H I rd_non⟩
theorem fs_retO (i : Nat) {p : Pos} (hN : X.N[i]? = some x := by rfl) (hv : Vis X.env.scope x := by first | exact Or.inl rfl | exact Or.inr (Or.inl rfl) | exact Or.inr (Or.inr rfl)) (hd : (x == ("__debug__" : Str)) = false := by decide)
    (hcd : (x == ("__classdict__" : Str)) = false := by decide) : FS X (.Return (some (.Name x p)) pos) (sRetO i) := ⟨(ps_ret (pe_var hN hv hd hcd)).imp fun D σ H ⟨r, W, ss, I, o, e, q⟩ => by
  unfold sRetO at e
  split at e
  · rename_i l el
    cases e
    obtain ⟨a, ea, J⟩ := I.takeOut el
    exact ⟨.ref a, ea, q a _ σ H J⟩
  · cases e⟩
theorem fs_expr (he : FE X e fe) (hs : swapsWith e none pos.line X.env = pure false := by rfl) : FS X (.Expr e pos) (sDrop fe) := ⟨(ps_expr he.pe hs).imp fun D σ H ⟨r, W, ss, I, o, e, q⟩ => by
  obtain ⟨p, e1, rfl⟩ := map_some e
  exact ⟨r, W, ss, I, p.1, p.2, e1, fun v H1 I1 r1 => q W σ H1 I1⟩⟩
theorem fs_doc {x : Str} {j : Nat} : FS X (.Expr (.Constant (.str x) j pos) pos') sNext := ⟨ps_doc.imp fun D σ H ⟨r, W, ss, I, o, e, q⟩ => by
  cases e
  exact q W σ H I⟩
theorem fs_pass : FS X (.Pass pos) sNext := ⟨ps_pass.imp fun D σ H ⟨r, W, ss, I, o, e, q⟩ => by
  cases e
  exact q W σ H I⟩
def sBrk : SS := fun ss => some (.bk ss)
def sCnt : SS := fun ss => some (.ct ss)
theorem fs_break : FS X (.Break pos) sBrk := ⟨ps_break.imp fun D σ H ⟨r, W, ss, I, o, e, q⟩ => by
  cases e
  exact q W σ H I⟩
theorem fs_continue : FS X (.Continue pos) sCnt := ⟨ps_continue.imp fun D σ H ⟨r, W, ss, I, o, e, q⟩ => by
  cases e
  exact q W σ H I⟩
variable {t : ST}
theorem fs_if (hc : FT X c t) (ha : FSs X a f) (hb : FSs X b g) : FS X (.If c a b pos) (sIf t f g) := ⟨(ps_if hc.pt ha.ps hb.ps).imp fun D σ H ⟨r, W, ss, I, o, e, q⟩ => by
  obtain ⟨p, e1, e2⟩ := bind_some e
  refine ⟨r, W, ss, I, p.1, p.2, e1, fun H1 I1 => ?_⟩
  split at e2
  · rename_i h
    rw [if_pos h]
    exact ⟨r, W, p.2, I1, o, e2, q⟩
  · rename_i h
    rw [if_neg h]
    exact ⟨r, W, p.2, I1, o, e2, q⟩⟩
end

/-! ### targets -/
abbrev SG := D → List S → Option (List S)
def TgEnd (ts : List Nat) (W W' : Nat → Option Addr) (σ σ' : L2.St) : Prop := (∀ j, j ∉ ts → W' j = W j ∧ σ'[j]? = σ[j]?) ∧ (∀ j ∈ ts, W' j = none) ∧ σ'.length = σ.length
def tG (K : PySem.W.Frag) (g : SG) (ts : List Nat) : TG := fun v σ H Q => ∃ r W ss d, Rep K r W ss σ H ∧ RD K H (Zw r W) d v ∧ ∃ ss', g d ss = some ss' ∧ ∀ W' σ' H', Rep K r W' ss' σ' H' → TgEnd ts W W' σ σ' → Q σ' H'
structure FG (X : Cx) (tg : Expr) (g : SG) (ts : List Nat) : Prop where
  pg : PG X tg (tG X.K g ts)
abbrev SGs := List D → List S → Option (List S)
def tGs (K : PySem.W.Frag) (g : SGs) (ts : List Nat) : TGs := fun vs σ H Q => ∃ r W ss l, Rep K r W ss σ H ∧ RDs K H (Zw r W) l vs ∧ ∃ ss', g l ss = some ss' ∧ ∀ W' σ' H', Rep K r W' ss' σ' H' → TgEnd ts W W' σ σ' → Q σ' H'
structure FGs (X : Cx) (tgs : List Expr) (g : SGs) (ts : List Nat) : Prop where
  pg : PGs X tgs (tGs X.K g ts)
theorem TgEnd.refl {W : Nat → Option Addr} {σ : L2.St} : TgEnd [] W W σ σ := ⟨fun _ _ => ⟨rfl, rfl⟩, (fun _ h => nomatch h), rfl⟩
theorem TgEnd.trans {ts us : List Nat} {W W1 W2 : Nat → Option Addr} {σ σ1 σ2 : L2.St} (a : TgEnd ts W W1 σ σ1) (b : TgEnd us W1 W2 σ1 σ2) : TgEnd (ts ++ us) W W2 σ σ2 := by
  refine ⟨fun j h => ?_, fun j h => ?_, b.2.2.trans a.2.2⟩
  · rw [List.mem_append, not_or] at h
    exact ⟨((b.1 j h.2).1).trans (a.1 j h.1).1, ((b.1 j h.2).2).trans (a.1 j h.1).2⟩
  · by_cases hu : j ∈ us
    · exact b.2.1 j hu
    · rw [(b.1 j hu).1]
      exact a.2.1 j ((List.mem_append.mp h).resolve_right hu)
theorem TgEnd.one {i : Nat} {W : Nat → Option Addr} {σ : L2.St} {o : Option V} : TgEnd [i] W (wset W i none) σ (σ.set i o) :=
  ⟨fun j h => have hj : j ≠ i := fun e => h (by rw [e]; exact List.mem_cons_self); ⟨wset_ne hj, List.getElem?_set_ne (Ne.symm hj)⟩, fun j h => (by rw [List.mem_singleton.mp h]; exact wset_same), List.length_set⟩
def gNm (i : Nat) : SG := fun d ss => if okSet ss[i]? = true then some (ss.set i (.val d)) else none
def gEnd : SGs := fun l ss => match l with
  | [] => some ss
  | _ => none
def gMore (g : SG) (h : SGs) : SGs := fun l ss => match l with
  | d :: r => (g d ss).bind fun s1 => h r s1
  | [] => none
def gTp (n : Nat) (g : SGs) : SG := fun d ss => match d with
  | .tup l => if l.length = n then g l ss else none
  | _ => none
theorem _root_.L2.PG.imp {X : Cx} {e : Expr} {t t' : TG} (h : PG X e t) (w : ∀ v σ H Q, t' v σ H Q → t v σ H Q) : PG X e t' := ⟨fun pins s σ H v u Q I r q => h.run pins s σ H v u Q I r (w v σ H Q q)⟩
theorem _root_.L2.PGs.imp {X : Cx} {e : List Expr} {t t' : TGs} (h : PGs X e t) (w : ∀ v σ H Q, t' v σ H Q → t v σ H Q) : PGs X e t' := ⟨fun pins s σ H v u Q I r q => h.run pins s σ H v u Q I r (w v σ H Q q)⟩
section
variable {X : Cx} {e : Expr} {es : List Expr} {g : SG} {h : SGs} {pos : Pos} {x : Str} {ts us : List Nat}
theorem fg_name (i : Nat) (hN : X.N.Nodup) (hi : X.N[i]? = some x := by rfl) (hx : Loc X.env.scope x := by first | exact .inl rfl | exact .inr rfl) (hf : X.fn x = true ∨ X.env.scope.names.lookup x = some .local := by first | exact .inl rfl | exact .inr rfl | assumption) :
    FG X (.Name x pos) (gNm i) [i] := ⟨(pg_name hN hi hx hf).imp fun v σ H Q ⟨r, W, ss, d, I, rd, ss', e, q⟩ => by
  unfold gNm at e
  split at e
  · rename_i h
    cases e
    exact q _ _ _ (I.setVal (okSet_no h).1 rd) TgEnd.one
  · cases e⟩
theorem fgs_nil : FGs X [] gEnd [] := ⟨pgs_nil.imp fun vs σ H Q ⟨r, W, ss, l, I, rl, ss', e, q⟩ => by
  unfold gEnd at e
  split at e
  · cases e
    rw [RDs] at rl
    exact ⟨rl, q W σ H I TgEnd.refl⟩
  · cases e⟩
theorem fgs_cons (h1 : FG X e g ts) (h2 : FGs X es h us) (hs : (assignEach (e :: es) X.env).map (·.2) = assign e X.env :: (assignEach es X.env).map (·.2) := by rfl) : FGs X (e :: es) (gMore g h) (ts ++ us) := ⟨(pgs_cons h1.pg h2.pg hs).imp fun vs σ H Q ⟨r, W, ss, l, I, rl, ss', e, q⟩ => by
  unfold gMore at e
  split at e
  · rename_i d l
    rw [RDs] at rl
    obtain ⟨v, vr, rfl, r1, r2⟩ := rl
    obtain ⟨s1, e1, e2⟩ := bind_some e
    refine ⟨v, vr, rfl, r.ts (l.zip vr), W, ss, d, I.holds fun p hp => ?_, r1, s1, e1, fun W' σ' H' I' te => ?_⟩
    · have : ∀ {l : List D} {vs : List V}, RDs X.K H (Zw r W) l vs → ∀ p ∈ l.zip vs, RD X.K H (Zw r W) p.1 p.2 := by
        intro l
        induction l with
        | nil => intro vs _ p hp; simp at hp
        | cons d l ih =>
          intro vs h p hp
          rw [RDs] at h
          obtain ⟨v, r, rfl, h1, h2⟩ := h
          rcases List.mem_cons.mp hp with rfl | hp
          · exact h1
          · exact ih h2 p hp
      exact this r2 p hp
    · obtain ⟨I1, hd⟩ := I'.drops
      have : ∀ {l : List D} {vs : List V}, l.length = vs.length → (∀ p ∈ l.zip vs, RD X.K H' (Zw r W') p.1 p.2) → RDs X.K H' (Zw r W') l vs := by
        intro l
        induction l with
        | nil => intro vs hl _; cases vs with
          | nil => exact RDs.nil
          | cons _ _ => cases hl
        | cons d l ih =>
          intro vs hl h
          cases vs with
          | nil => cases hl
          | cons v r => exact RDs.cons (h (d, v) List.mem_cons_self) (ih (by simpa using hl) fun p hp => h p (List.mem_cons_of_mem _ hp))
      exact ⟨r, W', s1, l, I1, this r2.length hd, ss', e2, fun W2 σ2 H2 I2 te2 => q W2 σ2 H2 I2 (te.trans te2)⟩
  · cases e⟩
theorem fg_tup {k n : Nat} (hc : X.calm = true) (hg : FGs X es h us) (hn : (assignEach es X.env).length = n := by rfl) (hst : (assignEach es X.env).findIdx? (·.1) = none := by rfl) : FG X (.Tuple es k pos) (gTp n h) us := ⟨(pg_tup hc hg.pg hn hst).imp fun v σ H Q ⟨r, W, ss, d, I, rd, ss', e, q⟩ => by
  unfold gTp at e
  split at e
  · rename_i l
    split at e
    · rename_i hl
      obtain ⟨a, vs, rfl, p, rl⟩ := rd.tup_inv
      exact ⟨a, vs, rfl, p.sq, by rw [← rl.length]; exact hl, r, W, ss, l, I, rl, ss', e, q⟩
    · cases e
  · cases e⟩
theorem fs_asg {tg : Expr} {f : SE} (he : FE X e f) (hg : FG X tg g ts) (hs : swapsWithSole [tg] e pos.line X.env = pure false := by rfl) (hw : swappedStores [tg] e X.env = pure none := by rfl)
    (h1 : (assignEach [tg] X.env).map (·.2) = [assign tg X.env] := by rfl) : FS X (.Assign [tg] e pos) (fun ss => (f ss).bind fun p => (g p.1 p.2).bind fun s => some (.nx s)) := ⟨(ps_asg he.pe hg.pg hs hw h1).imp fun D σ H ⟨r, W, ss, I, o, e, q⟩ => by
  obtain ⟨p, e1, e2⟩ := bind_some e
  obtain ⟨s, e3, e4⟩ := bind_some e2
  cases e4
  exact ⟨r, W, ss, I, p.1, p.2, e1, fun v H1 I1 r1 => ⟨r, W, p.2, p.1, I1, r1, s, e3, fun W' σ' H' I' _ => q W' σ' H' I'⟩⟩⟩
end
end FD
/-! FD, part 6: what is walked; for, while; own lists changed; comprehensions. -/
namespace FD
open PySem PySem.Spec PyProof.Rows L2

/-- J yields the items of l, while what T holds stands -/
def Yields (K : PySem.W.Frag) (T : List (D × V)) (J : It) (l : List D) : Prop :=
  ∀ r W ss σ H, (∀ p ∈ T, p ∈ r.T) → Rep K r W ss σ H → ∀ i : Nat, (i < l.length → J.go i H ∧ ∀ x H', J.yld i H x H' → ∃ d, l[i]? = some d ∧ Rep K r W ss σ H' ∧ RD K H' (Zw r W) d x) ∧ (i = l.length → J.stop i H)
def tFI (K : PySem.W.Frag) (f : SL) : TI := fun σ H Rr => ∃ r W ss, Rep K r W ss σ H ∧ ∃ l ss', f ss = some (l, ss') ∧ ∀ J T H', Rep K (r.ts T) W ss' σ H' → Yields K T J l → Rr J H'
structure FI (X : Cx) (tg iter : Expr) (f : SL) : Prop where
  pi : PI X tg iter (tFI X.K f)
theorem _root_.L2.PI.imp {X : Cx} {tg e : Expr} {t t' : TI} (h : PI X tg e t) (w : ∀ σ H Q, t' σ H Q → t σ H Q) : PI X tg e t' := ⟨fun pins s σ H R I q => h.run pins s σ H R I (w σ H R q)⟩
theorem Yields.of {K : PySem.W.Frag} {T : List (D × V)} {J : It} {l : List D} {n : Nat} {G : Hp → Prop} {Y : Nat → Hp → V → Hp → Prop} (w : Walk J n G Y) (hn : n = l.length)
    (hG : ∀ r W ss σ H, (∀ p ∈ T, p ∈ r.T) → Rep K r W ss σ H → G H ∧ ∀ (i : Nat) x H', i < n → Y i H x H' → ∃ d, l[i]? = some d ∧ Rep K r W ss σ H' ∧ RD K H' (Zw r W) d x) : Yields K T J l := by
  subst hn
  intro r W ss σ H hT I i
  obtain ⟨g, hy⟩ := hG r W ss σ H hT I
  exact ⟨fun hi => ⟨w.goes i H hi g, fun x H' y => hy i x H' hi (w.yields i H x H' hi g y)⟩, fun e => by subst e; exact w.stops H g⟩
section
variable {X : Cx} {tg e e2 a b c : Expr} {p pos : Pos} {f : SE} {fa fb fc : SE}
/-- a list or a tuple, whichever it is -/
theorem pi_seq {l : Expr} {tl : TE} (hl : PE X l tl) : PI X tg l (fun σ H R => tl σ H fun x H1 => ∃ a, x = .ref a ∧ ((∃ xs, SqL X.K H1 a xs) ∧ R (Itl X.K a) H1 ∨ (∃ xs, SqT X.K H1 a xs) ∧ R (Itt X.K a) H1)) := by
  refine ⟨fun pins s σ H R I h => ?_⟩
  refine thn (hl.run pins s σ H _ I h) fun v s1 ⟨x, H1, I1, r1, q1⟩ => ?_
  obtain ⟨a, e, q1⟩ := q1
  subst e
  cases r1
  rcases q1 with ⟨⟨xs, hq⟩, q⟩ | ⟨⟨xs, hq⟩, q⟩
  · obtain ⟨its, rv, p, hz⟩ := I1.list hq
    refine wpAny_pyIter_list p.isList ?_
    refine ⟨s1.heap.objs.size, [s1.heap.objs.size], _, _, H1, rfl, I1.kept (t' := s1.toks) fun b o e => Heap.get?_push_of_some _ e, turn_list a _, ⟨_, Heap.get?_push_size _ rfl, rfl, rfl⟩, fun b hb => ?_, q⟩
    have e : b = s1.heap.objs.size := by simpa using hb
    subst e
    exact I1.fpOk (Nat.le_refl _) (I1.hok.fresh (Nat.le_refl _))
  · obtain ⟨its, rv, p, hz⟩ := I1.tuple hq
    refine wpAny_pyIter_tuple (show s1.heap.IsTuple a its.toArray from p) ?_
    refine ⟨s1.heap.objs.size, [s1.heap.objs.size], _, _, H1, rfl, I1.kept (t' := s1.toks) fun b o e => Heap.get?_push_of_some _ e, turn_tuple a _, ⟨_, Heap.get?_push_size _ rfl, rfl, rfl⟩, fun b hb => ?_, q⟩
    have e : b = s1.heap.objs.size := by simpa using hb
    subst e
    exact I1.fpOk (Nat.le_refl _) (I1.hok.fresh (Nat.le_refl _))
def itemsD : D → Option (List D)
  | .tup l => some l
  | .lst l => some l
  | .sls l => some l
  | _ => none
def iVal (f : SE) : SL := fun ss => (f ss).bind fun p => (itemsD p.1).map fun l => (l, p.2)
theorem fi_val (hl : FE X e f) : FI X tg e (iVal f) := ⟨(pi_seq hl.pe).imp fun σ H Rr ⟨r, W, ss, I, l, ss', ef, q⟩ => by
  obtain ⟨p, e1, e2⟩ := bind_some ef
  obtain ⟨l', e3, e4⟩ := map_some e2
  cases e4
  refine ⟨r, W, ss, I, p.1, p.2, e1, fun v H1 I1 r1 => ?_⟩
  have T1 : Rep X.K (r.ts [(p.1, v)]) W p.2 σ H1 := I1.holds fun q hq => by
    obtain rfl := List.mem_singleton.mp hq
    exact r1
  have held : ∀ {r' W' ss' σ' H'}, (∀ q ∈ [(p.1, v)], q ∈ r'.T) → Rep X.K r' W' ss' σ' H' → RD X.K H' (Zw r' W') p.1 v := fun hT I' => I'.tok _ (hT _ List.mem_cons_self)
  unfold itemsD at e3
  split at e3
  · rename_i l0 el
    cases e3
    obtain ⟨a, vs, rfl, p1, rl⟩ := (show RD X.K H1 (Zw r W) (.tup _) v by rw [← el]; exact r1).tup_inv
    refine ⟨a, rfl, .inr ⟨⟨vs, p1.sq⟩, q _ _ _ T1 ?_⟩⟩
    intro r' W' s' σ' H' hT I' i
    obtain ⟨a', vs', ea, p2, rl2⟩ := (show RD X.K H' (Zw r' W') (.tup _) (.ref a) by rw [← el]; exact held hT I').tup_inv
    cases ea
    refine ⟨fun hi => ?_, fun hi => ⟨vs', p2.sq, by rw [← rl2.length]; omega⟩⟩
    obtain ⟨v, h1, h2⟩ := pr_get rl2.p (List.getElem?_eq_getElem hi)
    refine ⟨⟨vs', v, p2.sq, h1⟩, fun x H'' ⟨e1, e2⟩ => ?_⟩
    subst e1
    have := e2 vs' p2.sq
    rw [h1] at this
    cases this
    exact ⟨_, List.getElem?_eq_getElem hi, I', h2⟩
  · rename_i l0 el
    cases e3
    obtain ⟨a, vs, rfl, p1, rl⟩ := (show RD X.K H1 (Zw r W) (.lst _) v by rw [← el]; exact r1).lst_inv
    refine ⟨a, rfl, .inl ⟨⟨vs, p1.sq⟩, q _ _ _ T1 ?_⟩⟩
    intro r' W' s' σ' H' hT I' i
    obtain ⟨a', vs', ea, p2, rl2⟩ := (show RD X.K H' (Zw r' W') (.lst _) (.ref a) by rw [← el]; exact held hT I').lst_inv
    cases ea
    refine ⟨fun hi => ?_, fun hi => ⟨vs', p2.sq, by rw [← rl2.length]; omega⟩⟩
    obtain ⟨v, h1, h2⟩ := pr_get rl2.p (List.getElem?_eq_getElem hi)
    refine ⟨⟨vs', v, p2.sq, h1⟩, fun x H'' ⟨e1, e2⟩ => ?_⟩
    subst e1
    have := e2 vs' p2.sq
    rw [h1] at this
    cases this
    exact ⟨_, List.getElem?_eq_getElem hi, I', h2⟩
  · rename_i l0 el
    cases e3
    obtain ⟨a, vs, rfl, p1, rl⟩ := (show RD X.K H1 (Zw r W) (.sls _) v by rw [← el]; exact r1).sls_inv
    refine ⟨a, rfl, .inl ⟨⟨vs, p1.sq⟩, q _ _ _ T1 ?_⟩⟩
    intro r' W' s' σ' H' hT I' i
    obtain ⟨a', vs', ea, p2, rl2⟩ := (show RD X.K H' (Zw r' W') (.sls _) (.ref a) by rw [← el]; exact held hT I').sls_inv
    cases ea
    refine ⟨fun hi => ?_, fun hi => ⟨vs', p2.sq, by rw [← rl2.length]; omega⟩⟩
    obtain ⟨v, h1, h2⟩ := pr_get rl2.p (List.getElem?_eq_getElem hi)
    refine ⟨⟨vs', v, p2.sq, h1⟩, fun x H'' ⟨e1, e2⟩ => ?_⟩
    subst e1
    have := e2 vs' p2.sq
    rw [h1] at this
    cases this
    exact ⟨_, List.getElem?_eq_getElem hi, I', h2⟩
  · cases e3⟩
/-- ints from lo on, n of them, by steps of c -/
def rngD (lo : Int) : Nat → List D
  | 0 => []
  | n + 1 => .int lo :: rngD (lo + 1) n
theorem rngD_length : ∀ (n : Nat) (lo : Int), (rngD lo n).length = n
  | 0, _ => rfl
  | n + 1, lo => by rw [rngD, List.length_cons, rngD_length n]
theorem rngD_get : ∀ (n : Nat) (lo : Int) (i : Nat), i < n → (rngD lo n)[i]? = some (.int (lo + i))
  | 0, _, _, h => by omega
  | n + 1, lo, 0, _ => by rw [rngD]; simp
  | n + 1, lo, i + 1, h => by
    rw [rngD, List.getElem?_cons_succ, rngD_get n (lo + 1) i (by omega)]
    have e : lo + 1 + (i : Int) = lo + ((i + 1 : Nat) : Int) := by omega
    rw [e]
def rLine (i : Int) : Bool := decide (i.natAbs.log2 < 62)
theorem rLine_holds {i : Int} (h : rLine i = true) : -(2 ^ 62) ≤ i ∧ i < 2 ^ 62 := by
  have h1 : i.natAbs.log2 < 62 := of_decide_eq_true h
  have h2 : i.natAbs < 2 ^ (i.natAbs.log2 + 1) := Nat.lt_log2_self
  have h3 : i.natAbs < 2 ^ 62 := Nat.lt_of_lt_of_le h2 (Nat.pow_le_pow_right (by decide) h1)
  omega
def iRange1 (fa : SE) : SL := fun ss => (fa ss).bind fun p => match p.1 with
  | .int j => if rLine j then some (rngD 0 j.toNat, p.2) else none
  | _ => none
def iRange2 (fa fb : SE) : SL := fun ss => (fa ss).bind fun p => (fb p.2).bind fun q => match p.1, q.1 with
  | .int i, .int j => if rLine i && rLine j then some (rngD i (j - i).toNat, q.2) else none
  | _, _ => none
theorem yields_rng {K : PySem.W.Frag} {lo : Int} {n : Nat} : Yields K [] (Itr lo n) (rngD lo n) := by
  intro r W ss σ H hT I i
  rw [rngD_length]
  refine ⟨fun hi => ⟨hi, fun x H' ⟨e1, e2⟩ => ?_⟩, fun e => by show n ≤ i; omega⟩
  subst e1 e2
  exact ⟨_, rngD_get n lo i hi, I, rd_int⟩
theorem fi_range1 (hg : Gl X "range") (hm : X.mg "range" = none) (ha : FE X a fa) (hs : starEach [a] X.env = [(false, eval a X.env)] := by rfl) : FI X tg (.Call (.Name "range" p) [a] [] pos) (iRange1 fa) :=
  ⟨(pi_range1 hg hm (pa_cons ha.pe pa_nil (by rw [hs]; rfl)) hs).imp fun σ H Rr ⟨r, W, ss, I, l, ss', ef, q⟩ => by
    obtain ⟨pp, e1, e2⟩ := bind_some ef
    split at e2
    · rename_i j ej
      split at e2
      · rename_i hl
        cases e2
        have hl := rLine_holds hl
        refine ⟨r, W, ss, I, pp.1, pp.2, e1, fun v H1 I1 r1 => ?_⟩
        rw [ej] at r1
        exact ⟨j, by rw [r1.int_inv], hl.1, hl.2, q _ [] H1 (I1.holds fun _ z => nomatch z) yields_rng⟩
      · cases e2
    · cases e2⟩
theorem fi_range2 (hg : Gl X "range") (hm : X.mg "range" = none) (ha : FE X a fa) (hb : FE X b fb) (hs : starEach [a, b] X.env = [(false, eval a X.env), (false, eval b X.env)] := by rfl) (hs2 : starEach [b] X.env = [(false, eval b X.env)] := by rfl) :
    FI X tg (.Call (.Name "range" p) [a, b] [] pos) (iRange2 fa fb) :=
  ⟨(pi_range2 hg hm (pa_cons ha.pe (pa_cons hb.pe pa_nil (by rw [hs2]; rfl)) (by rw [hs, hs2])) hs hs2).imp fun σ H Rr ⟨r, W, ss, I, l, ss', ef, q⟩ => by
    obtain ⟨pp, e1, e2⟩ := bind_some ef
    obtain ⟨qq, e3, e4⟩ := bind_some e2
    split at e4
    · rename_i i j ei ej
      split at e4
      · rename_i hl
        cases e4
        rw [Bool.and_eq_true] at hl
        have l1 := rLine_holds hl.1
        have l2 := rLine_holds hl.2
        refine ⟨r, W, ss, I, pp.1, pp.2, e1, fun v H1 I1 r1 => ?_⟩
        rw [ei] at r1
        refine ⟨r, W, pp.2, I1, qq.1, qq.2, e3, fun v2 H2 I2 r2 => ?_⟩
        rw [ej] at r2
        exact ⟨i, j, by rw [r1.int_inv, r2.int_inv], ⟨l1.1, l1.2, l2.1, l2.2⟩, q _ [] H2 (I2.holds fun _ z => nomatch z) yields_rng⟩
      · cases e4
    · cases e4⟩
end

/-! ### for -/
def forF (g : SG) (body : SS) : List D → SS
  | [], ss => some (.nx ss)
  | d :: ds, ss => (g d ss).bind fun s1 => (body s1).bind fun o => match o with
    | .nx s2 => forF g body ds s2
    | .ct s2 => forF g body ds s2
    | .bk s2 => some (.nx s2)
    | .rt d s2 => some (.rt d s2)
    | .rl l s2 => some (.rl l s2)
def sFor (it : SL) (g : SG) (body : SS) : SS := fun ss => (it ss).bind fun p => forF g body p.1 p.2
section
variable {X : Cx} {tg iter : Expr} {body : List Stmt} {it : SL} {g : SG} {fb : SS} {pos : Pos} {ts : List Nat}
theorem fs_for (hp : PassesOwn (model X.prog X.w) X.A X.env X.xe) (hc : X.calm = true) (hi : FI X tg iter it) (hg : FG X tg g ts) (hb : FSs X body fb)
    (hs : ∀ x, foldedSetIterable iter X.env x = pure x := by intro _; rfl) : FS X (.For tg iter body [] pos) (sFor it g fb) := ⟨(ps_for hp hc hi.pi hg.pg hb.ps hs).imp fun D σ H ⟨r, W, ss, I, o, e, q⟩ => by
  obtain ⟨p, e1, e2⟩ := bind_some e
  refine ⟨r, W, ss, I, p.1, p.2, e1, fun J T H1 I1 y => ?_⟩
  generalize p.1 = l at y e2
  refine ⟨fun i m σ H => m = l.length - i ∧ i ≤ l.length ∧ ∃ W s, Rep X.K (r.ts T) W s σ H ∧ ∃ o, forF g fb (l.drop i) s = some o ∧ Good X.K r D o, ⟨l.length, by omega, Nat.zero_le _, W, p.2, I1, o, e2, q⟩, ?_⟩
  rintro i m σ H ⟨rfl, hi, W, s, I2, o, e3, q3⟩
  obtain ⟨y1, y2⟩ := y (r.ts T) W s σ H (fun p hp => List.mem_append_left _ hp) I2 i
  by_cases hl : i < l.length
  · obtain ⟨y3, y4⟩ := y1 hl
    refine .inr ⟨y3, fun σ' H' => ∃ W s, Rep X.K (r.ts T) W s σ' H' ∧ ∃ o, forF g fb (l.drop (i + 1)) s = some o ∧ Good X.K r D o, fun σ' H' ⟨W', s', I', o', e', q'⟩ => ⟨l.length - (i + 1), by omega, rfl, hl, W', s', I', o', e', q'⟩, fun x H' hy => ?_⟩
    obtain ⟨d, ed, I3, rd⟩ := y4 x H' hy
    have edrop : l.drop i = d :: l.drop (i + 1) := by
      rw [List.drop_eq_getElem_cons hl]
      rw [List.getElem?_eq_getElem hl] at ed
      rw [Option.some.inj ed]
    rw [edrop] at e3
    obtain ⟨s1, e4, e5⟩ := bind_some e3
    obtain ⟨o1, e6, e7⟩ := bind_some e5
    refine ⟨r.ts T, W, s, d, I3, rd, s1, e4, fun W4 σ4 H4 I4 _ => ⟨r.ts T, W4, s1, I4, o1, e6, ?_⟩⟩
    cases o1 with
    | nx s2 => exact fun W5 σ5 H5 I5 => ⟨W5, s2, I5, o, e7, q3⟩
    | ct s2 => exact fun W5 σ5 H5 I5 => ⟨W5, s2, I5, o, e7, q3⟩
    | bk s2 =>
      cases e7
      exact fun W5 σ5 H5 I5 => q3 W5 σ5 H5 I5.drops.1
    | rt d s2 =>
      cases e7
      exact fun v W5 σ5 H5 I5 h => q3 v W5 σ5 H5 I5.drops.1 h
    | rl l s2 =>
      cases e7
      exact fun a W5 σ5 H5 I5 => q3 a W5 σ5 H5 I5.dropsU
  · have ei : i = l.length := by omega
    refine .inl ⟨y2 ei, ?_⟩
    rw [List.drop_of_length_le (by omega)] at e3
    cases e3
    exact q3 W σ H I2.drops.1⟩
/-! ### while -/
def whF (t : ST) (body : SS) : Nat → SS
  | 0, _ => none
  | n + 1, ss => (t ss).bind fun p => if p.1 = true then (body p.2).bind fun o => match o with
    | .nx s2 => whF t body n s2
    | .ct s2 => whF t body n s2
    | .bk s2 => some (.nx s2)
    | .rt d s2 => some (.rt d s2)
    | .rl l s2 => some (.rl l s2)
    else some (.nx p.2)
def sWhile (fuel : List S → Nat) (t : ST) (body : SS) : SS := fun ss => whF t body (fuel ss) ss
theorem fs_while (fuel : List S → Nat) {c : Expr} {t : ST} (hp : PassesOwn (model X.prog X.w) X.A X.env X.xe) (hc : FT X c t) (hb : FSs X body fb) : FS X (.While c body [] pos) (sWhile fuel t fb) := ⟨(ps_while hp hc.pt hb.ps).imp fun D σ H ⟨r, W, ss, I, o, e, q⟩ => by
  refine ⟨fun m σ H => ∃ W s, Rep X.K r W s σ H ∧ ∃ o, whF t fb m s = some o ∧ Good X.K r D o, ⟨fuel ss, W, ss, I, o, e, q⟩, ?_⟩
  rintro m σ H ⟨W, s, I, o, e, q⟩
  cases m with
  | zero => cases e
  | succ m =>
    obtain ⟨p, e1, e2⟩ := bind_some e
    refine ⟨r, W, s, I, p.1, p.2, e1, fun H1 I1 => ?_⟩
    split at e2
    · rename_i h
      rw [if_pos h]
      obtain ⟨o1, e3, e4⟩ := bind_some e2
      refine ⟨fun σ' H' => ∃ W s, Rep X.K r W s σ' H' ∧ ∃ o, whF t fb m s = some o ∧ Good X.K r D o, fun σ' H' h => ⟨m, Nat.lt_succ_self m, h⟩, r, W, p.2, I1, o1, e3, ?_⟩
      cases o1 with
      | nx s2 => exact fun W5 σ5 H5 I5 => ⟨W5, s2, I5, o, e4, q⟩
      | ct s2 => exact fun W5 σ5 H5 I5 => ⟨W5, s2, I5, o, e4, q⟩
      | bk s2 =>
        cases e4
        exact fun W5 σ5 H5 I5 => q W5 σ5 H5 I5
      | rt d s2 =>
        cases e4
        exact fun v W5 σ5 H5 I5 h => q v W5 σ5 H5 I5 h
      | rl l s2 =>
        cases e4
        exact fun a W5 σ5 H5 I5 => q a W5 σ5 H5 I5
    · rename_i h
      rw [if_neg h]
      cases e2
      exact q W σ H1 I1⟩
end
end FD
/-! FD, part 7: own lists changed; op=; comprehensions. -/
namespace FD
open PySem PySem.Spec PyProof.Rows L2

def putL (ss : List S) (i : Nat) (l : List D) : List S := match ss[i]? with
  | some (.io _) => ss.set i (.io l)
  | _ => ss.set i (.own l)
theorem putL_eq {ss : List S} {i : Nat} {l l' : List D} {c : List D → S} (h : OwnAt ss i l c) : putL ss i l' = ss.set i (c l') := by
  unfold putL
  cases h with
  | own e => rw [e]
  | io e => rw [e]
section
variable {K : PySem.W.Frag} {r : R} {W : Nat → Option Addr} {ss : List S} {σ : L2.St} {H : Hp}
theorem Rep.putL (I : Rep K r W ss σ H) {i : Nat} {a : Addr} {l l' : List D} {vs : List V} {c : List D → S} (h : OwnAt ss i l c) (wa : W i = some a) (q : RDs K H (Zw r W) l' vs) : Rep K r W (FD.putL ss i l') σ (upd H a (.lst vs)) := by
  rw [putL_eq h]
  exact I.put h wa q
end
def cApp (i : Nat) (f : SE) : SE := fun ss => (ownL ss[i]?).bind fun _ => (f ss).bind fun p => (ownL p.2[i]?).bind fun l => if l.length < sizeLine then some (.non, putL p.2 i (l ++ [p.1])) else none
def cPop (i : Nat) : SE := fun ss => (ownL ss[i]?).bind fun l => (l[l.length - 1]?).bind fun d => some (d, putL ss i l.dropLast)
def cPopAt (i : Nat) (f : SE) : SE := fun ss => (ownL ss[i]?).bind fun _ => (f ss).bind fun p => (ownL p.2[i]?).bind fun l => match p.1 with
  | .int k => if l.length ≤ sizeLine then (ixN l.length k).bind fun j => (l[j]?).bind fun d => some (d, putL p.2 i (l.eraseIdx j)) else none
  | _ => none
def cRev (i : Nat) : SE := fun ss => (ownL ss[i]?).bind fun l => some (.non, putL ss i l.reverse)
def sSetIx (i : Nat) (fe fb : SE) : SS := fun ss => (fe ss).bind fun p => (ownL p.2[i]?).bind fun _ => (fb p.2).bind fun q => (ownL q.2[i]?).bind fun l => match q.1 with
  | .int k => (ixN l.length k).bind fun j => some (.nx (putL q.2 i (l.set j p.1)))
  | _ => none
section
variable {X : Cx} {e b : Expr} {f fb : SE} {pos apos p cpos tpos : Pos} {x : Str}
theorem tyV_lst {K : PySem.W.Frag} {H : Hp} {a : Addr} {vs : List V} (h : H a = some (.lst vs)) : tyV K "list" (.ref a) H := .inl ⟨rfl, _, .inl (.inl h)⟩
theorem fe_append (i : Nat) (ha : FE X e f) (hN : X.N[i]? = some x := by rfl) (hv : Vis X.env.scope x := by first | exact Or.inl rfl | exact Or.inr (Or.inl rfl) | exact Or.inr (Or.inr rfl)) (hd : (x == ("__debug__" : Str)) = false := by decide)
    (hcd : (x == ("__classdict__" : Str)) = false := by decide) (hbase : attributeBase (.Name x p) "append" X.env (eval (.Name x p) X.env) = eval (.Name x p) X.env := by rfl)
    (hfew : ((backTo cpos (starEach (e :: []) X.env)).all (fun x => !x.1) && (backToKw cpos (keywordEach [] X.env)).all (fun x => x.1.isSome)
      && decide ((e :: ([] : List Expr)).length + ([] : List Keyword).length + (if ([] : List Keyword).isEmpty then 0 else 1) < 30)) = true := by rfl)
    (hline : (apos.endLine == cpos.line) = true := by rfl) (hs : starEach (e :: []) X.env = (false, eval e X.env) :: starEach [] X.env := by rfl) (hplain : (backTo cpos (starEach [] X.env)).any (·.1) = false := by rfl) :
    FE X (.Call (.Attribute (.Name x p) "append" apos) [e] [] cpos) (cApp i f) :=
  ⟨(pe_bm PySem.F.plainAttrs_list PySem.F.slot_list_append PySem.F.type_list_append mt_append (pe_var hN hv hd hcd) (pa_cons ha.pe pa_nil hs) hbase hfew hline hs hplain).imp fun σ H Q ⟨r, W, ss, I, d, ss', ef, q⟩ => by
    obtain ⟨l0, e0, ef⟩ := bind_some ef
    obtain ⟨pp, e1, e2⟩ := bind_some ef
    obtain ⟨l, e3, e4⟩ := bind_some e2
    split at e4
    · rename_i hz
      cases e4
      obtain ⟨a, _, _, hw, ea, vs0, h0, _⟩ := I.slotAddr e0
      refine ⟨.ref a, ea, tyV_lst h0, r, W, ss, I, pp.1, pp.2, e1, fun v H1 I1 r1 => ?_⟩
      obtain ⟨a', c, hc, w', _, vs, h1, h2⟩ := I1.slotAddr e3
      rw [hw] at w'
      cases w'
      exact ⟨a, vs, v, rfl, rfl, h1, by rw [← h2.length]; exact hz, q _ _ (I1.putL hc hw (RDs.of (pr_append h2.p (.cons r1 .nil)))) rd_non⟩
    · cases e4⟩
theorem fe_popAt (i : Nat) (ha : FE X e f) (hN : X.N[i]? = some x := by rfl) (hv : Vis X.env.scope x := by first | exact Or.inl rfl | exact Or.inr (Or.inl rfl) | exact Or.inr (Or.inr rfl)) (hd : (x == ("__debug__" : Str)) = false := by decide)
    (hcd : (x == ("__classdict__" : Str)) = false := by decide) (hbase : attributeBase (.Name x p) "pop" X.env (eval (.Name x p) X.env) = eval (.Name x p) X.env := by rfl)
    (hfew : ((backTo cpos (starEach (e :: []) X.env)).all (fun x => !x.1) && (backToKw cpos (keywordEach [] X.env)).all (fun x => x.1.isSome)
      && decide ((e :: ([] : List Expr)).length + ([] : List Keyword).length + (if ([] : List Keyword).isEmpty then 0 else 1) < 30)) = true := by rfl)
    (hline : (apos.endLine == cpos.line) = true := by rfl) (hs : starEach (e :: []) X.env = (false, eval e X.env) :: starEach [] X.env := by rfl) (hplain : (backTo cpos (starEach [] X.env)).any (·.1) = false := by rfl) :
    FE X (.Call (.Attribute (.Name x p) "pop" apos) [e] [] cpos) (cPopAt i f) :=
  ⟨(pe_bm PySem.F.plainAttrs_list PySem.F.slot_list_pop PySem.F.type_list_pop mt_popAt (pe_var hN hv hd hcd) (pa_cons ha.pe pa_nil hs) hbase hfew hline hs hplain).imp fun σ H Q ⟨r, W, ss, I, d, ss', ef, q⟩ => by
    obtain ⟨l0, e0, ef⟩ := bind_some ef
    obtain ⟨pp, e1, e2⟩ := bind_some ef
    obtain ⟨l, e3, e4⟩ := bind_some e2
    split at e4
    · rename_i k ek
      split at e4
      · rename_i hz
        obtain ⟨j, e5, e6⟩ := bind_some e4
        obtain ⟨d', e7, e8⟩ := bind_some e6
        cases e8
        obtain ⟨a, _, _, hw, ea, vs0, h0, _⟩ := I.slotAddr e0
        refine ⟨.ref a, ea, tyV_lst h0, r, W, ss, I, pp.1, pp.2, e1, fun v H1 I1 r1 => ?_⟩
        rw [ek] at r1
        obtain rfl := r1.int_inv
        obtain ⟨a', c, hc, w', _, vs, h1, h2⟩ := I1.slotAddr e3
        rw [hw] at w'
        cases w'
        obtain ⟨v, h3, h4⟩ := pr_get h2.p e7
        obtain ⟨g1, g2, g3, g4⟩ := ixN_seq e5
        obtain ⟨J, h5⟩ := ((I1.hold h4).putL hc hw (RDs.of (pr_erase j h2.p))).drop
        have line : (sizeLine : Int) < 2 ^ 63 := by rw [sizeLine_eq]; decide
        exact ⟨a, vs, k, j, v, rfl, rfl, h1, by omega, by omega, by rw [← h2.length]; exact g1, h3, q _ _ J h5⟩
      · cases e4
    · cases e4⟩
theorem fe_pop (i : Nat) (hN : X.N[i]? = some x := by rfl) (hv : Vis X.env.scope x := by first | exact Or.inl rfl | exact Or.inr (Or.inl rfl) | exact Or.inr (Or.inr rfl)) (hd : (x == ("__debug__" : Str)) = false := by decide)
    (hcd : (x == ("__classdict__" : Str)) = false := by decide) (hbase : attributeBase (.Name x p) "pop" X.env (eval (.Name x p) X.env) = eval (.Name x p) X.env := by rfl) (hline : (apos.endLine == cpos.line) = true := by rfl) :
    FE X (.Call (.Attribute (.Name x p) "pop" apos) [] [] cpos) (cPop i) :=
  ⟨(pe_bm0 PySem.F.plainAttrs_list PySem.F.slot_list_pop PySem.F.type_list_pop mt_pop (pe_var hN hv hd hcd) hbase hline).imp fun σ H Q ⟨r, W, ss, I, d, ss', ef, q⟩ => by
    obtain ⟨l, e0, e1⟩ := bind_some ef
    obtain ⟨d', e2, e3⟩ := bind_some e1
    cases e3
    obtain ⟨a, c, hc, hw, ea, vs, h1, h2⟩ := I.slotAddr e0
    obtain ⟨v, h3, h4⟩ := pr_get h2.p e2
    obtain ⟨J, h5⟩ := ((I.hold h4).putL hc hw (l' := l.dropLast) (vs := vs.dropLast) (by
      rw [List.dropLast_eq_take, List.dropLast_eq_take, ← h2.length]
      exact RDs.of (pr_take _ h2.p))).drop
    exact ⟨.ref a, ea, tyV_lst h1, a, vs, v, rfl, rfl, h1, by rw [← h2.length]; exact h3, q _ _ J h5⟩⟩
theorem fe_reverse (i : Nat) (hN : X.N[i]? = some x := by rfl) (hv : Vis X.env.scope x := by first | exact Or.inl rfl | exact Or.inr (Or.inl rfl) | exact Or.inr (Or.inr rfl)) (hd : (x == ("__debug__" : Str)) = false := by decide)
    (hcd : (x == ("__classdict__" : Str)) = false := by decide) (hbase : attributeBase (.Name x p) "reverse" X.env (eval (.Name x p) X.env) = eval (.Name x p) X.env := by rfl) (hline : (apos.endLine == cpos.line) = true := by rfl) :
    FE X (.Call (.Attribute (.Name x p) "reverse" apos) [] [] cpos) (cRev i) :=
  ⟨(pe_bm0 PySem.F.plainAttrs_list PySem.F.slot_list_reverse PySem.F.type_list_reverse mt_reverse (pe_var hN hv hd hcd) hbase hline).imp fun σ H Q ⟨r, W, ss, I, d, ss', ef, q⟩ => by
    obtain ⟨l, e0, e1⟩ := bind_some ef
    cases e1
    obtain ⟨a, c, hc, hw, ea, vs, h1, h2⟩ := I.slotAddr e0
    exact ⟨.ref a, ea, tyV_lst h1, a, vs, rfl, rfl, h1, q _ _ (I.putL hc hw (RDs.of (pr_reverse h2.p))) rd_non⟩⟩
theorem fs_setIx (i : Nat) (he : FE X e f) (hb : FE X b fb) (hN : X.N[i]? = some x := by rfl) (hv : Vis X.env.scope x := by first | exact Or.inl rfl | exact Or.inr (Or.inl rfl) | exact Or.inr (Or.inr rfl)) (hd : (x == ("__debug__" : Str)) = false := by decide)
    (hcd : (x == ("__classdict__" : Str)) = false := by decide)
    (ha : ∀ v, assign (.Subscript (.Name x p) b tpos) X.env v = (do
      let ov ← holding [v] (eval (.Name x p) X.env)
      let iv ← holding [v, ov] (eval b X.env)
      standAt tpos
      holding [v, ov, iv] (setItem ov iv v)
      release [v, ov, iv] []) := by intro _; rfl)
    (hs : swapsWithSole [.Subscript (.Name x p) b tpos] e pos.line X.env = pure false := by rfl) (hw : swappedStores [.Subscript (.Name x p) b tpos] e X.env = pure none := by rfl)
    (h1 : (assignEach [.Subscript (.Name x p) b tpos] X.env).map (·.2) = [assign (.Subscript (.Name x p) b tpos) X.env] := by rfl) :
    FS X (.Assign [.Subscript (.Name x p) b tpos] e pos) (sSetIx i f fb) :=
  ⟨(ps_asg he.pe (pg_sub (pe_var hN hv hd hcd) hb.pe set_list ha) hs hw h1).imp fun D σ H ⟨r, W, ss, I, o, ef, q⟩ => by
    obtain ⟨pp, e1, ef⟩ := bind_some ef
    obtain ⟨l0, e0, ef⟩ := bind_some ef
    obtain ⟨qq, e2, ef⟩ := bind_some ef
    obtain ⟨l, e3, e4⟩ := bind_some ef
    split at e4
    · rename_i k ek
      obtain ⟨j, e5, e6⟩ := bind_some e4
      cases e6
      refine ⟨r, W, ss, I, pp.1, pp.2, e1, fun v H1 I1 r1 => ?_⟩
      obtain ⟨a, _, _, hw, ea, vs0, h0, _⟩ := I1.slotAddr e0
      refine ⟨.ref a, ea, r.t pp.1 v, W, pp.2, I1.hold r1, qq.1, qq.2, e2, fun kv H2 I2 r2 => ?_⟩
      rw [ek] at r2
      obtain rfl := r2.int_inv
      obtain ⟨I3, r1'⟩ := I2.drop
      obtain ⟨a', c, hc, w', _, vs, h1, h2⟩ := I3.slotAddr e3
      rw [hw] at w'
      cases w'
      exact ⟨a, vs, k, j, rfl, rfl, h1, by rw [← h2.length]; exact e5, q _ _ _ (I3.putL hc hw (RDs.of (pr_set r1' j h2.p)))⟩
    · cases e4⟩

/-! ### name op= e -/
def sAug (i : Nat) (g : D → D → Option D) (f : SE) : SS := fun ss => match ss[i]? with
  | some (.val dx) => (f ss).bind fun p => (g dx p.1).bind fun d => if okSet p.2[i]? = true then some (.nx (p.2.set i (.val d))) else none
  | _ => none
theorem fs_aug (i : Nat) {op : Operator} {rr : R2} {g : D → D → Option D} (hN : X.N.Nodup) (ho : OpR X (inplaceOp op) rr) (hg : SoB X.K g rr) (he : FE X e f) (hi : X.N[i]? = some x := by rfl) (hx : Loc X.env.scope x := by first | exact .inl rfl | exact .inr rfl)
    (hf : X.fn x = true ∨ X.env.scope.names.lookup x = some .local := by first | exact .inl rfl | exact .inr rfl | assumption) : FS X (.AugAssign (.Name x p) op e pos) (sAug i g f) := ⟨(ps_aug hN hi hx he.pe ho hf).imp fun D σ H ⟨r, W, ss, I, o, ef, q⟩ => by
  unfold sAug at ef
  split at ef
  · rename_i dx ex
    obtain ⟨pp, e1, e2⟩ := bind_some ef
    obtain ⟨d, e3, e4⟩ := bind_some e2
    split at e4
    · rename_i hk
      cases e4
      obtain ⟨_, vx, ev, rx⟩ := I.slot i _ ex
      refine ⟨vx, ev, r.t dx vx, W, ss, I.hold rx, pp.1, pp.2, e1, fun vy H1 I1 ry => ?_⟩
      obtain ⟨I2, rx'⟩ := I1.drop
      exact hg r W pp.2 σ H1 dx pp.1 vx vy d _ I2 rx' ry e3 fun v H' I' rv => q _ _ _ (I'.setVal (okSet_no hk).1 rv)
    · cases e4
  · cases ef⟩
theorem iop_addI : OpR X (inplaceOp .Add) (rAddAll X.K) → True := fun _ => trivial
theorem iop_mulW : OpR X (inplaceOp .Mult) (rI CMulW fun i j => .int (i * j)) := opI fun _ _ _ _ _ _ _ hc q => imul_int q hc.ok
def gAddI : D → D → Option D
  | .int i, .int j => some (.int (i + j))
  | _, _ => none
theorem so_addI (K : PySem.W.Frag) : SoB K gAddI (rI0 fun i j => .int (i + j)) := so_I0 fun x y d h => by
  unfold gAddI at h
  split at h
  · cases h
    exact ⟨_, _, rfl, rfl, rfl⟩
  · cases h
end

/-! ### comprehensions -/
def wipeS (ss : List S) : List Nat → List S
  | [] => ss
  | v :: vs => (wipeS ss vs).set v .off
def backS (old : List S) (ss : List S) : List Nat → List S
  | [] => ss
  | v :: vs => match old[v]? with
    | some s => (backS old ss vs).set v s
    | none => backS old ss vs
def plainS : Option S → Bool
  | some (.own _) => false
  | some (.io _) => false
  | _ => true
def lcF (g : SG) (tt : ST) (te : SE) (own : List Nat) : List D → List D → SL
  | [], acc, ss => some (acc, ss)
  | d :: ds, acc, ss => (g d ss).bind fun s1 => (tt s1).bind fun p =>
    if p.1 = true then (te p.2).bind fun q => if (own.all fun i => plainS q.2[i]?) = true ∧ acc.length < sizeLine then lcF g tt te own ds (acc ++ [q.1]) (wipeS q.2 own) else none
    else if (own.all fun i => plainS p.2[i]?) = true then lcF g tt te own ds acc (wipeS p.2 own) else none
def cLc (it : SL) (g : SG) (tt : ST) (te : SE) (own : List Nat) : SL := fun ss => (it ss).bind fun p =>
  if own.all (fun i => plainS p.2[i]?) = true then (lcF g tt te own p.1 [] (wipeS p.2 own)).bind fun q => some (q.1, backS p.2 q.2 own) else none
structure FTs (X : Cx) (ifs : List Expr) (t : ST) : Prop where
  pt : PTs X ifs (tFT X.K t)
theorem _root_.L2.PTs.imp {X : Cx} {e : List Expr} {t t' : TT} (h : PTs X e t) (w : ∀ σ H Q, t' σ H Q → t σ H Q) : PTs X e t' := ⟨fun pins s σ H Q I q => h.run pins s σ H Q I (w σ H Q q)⟩
def cYes : ST := fun ss => some (true, ss)
theorem fts_nil {X : Cx} : FTs X [] cYes := ⟨pts_nil.imp fun σ H Q ⟨r, W, ss, I, b, ss', e, q⟩ => by
  cases e
  exact q H I⟩
theorem fts_one {X : Cx} {c : Expr} {t : ST} (h : FT X c t) : FTs X [c] t := ⟨pts_one h.pt⟩
theorem wipeS_length (ss : List S) : ∀ vs : List Nat, (wipeS ss vs).length = ss.length
  | [] => rfl
  | v :: vs => by unfold wipeS; rw [List.length_set, wipeS_length ss vs]
theorem wipeS_in {ss : List S} {i : Nat} {s : S} : ∀ {vs : List Nat}, i ∈ vs → (wipeS ss vs)[i]? = some s → s = .off
  | v :: vs, hi, h => by
    unfold wipeS at h
    rcases set_get h with ⟨_, e, _⟩ | ⟨hn, h⟩
    · exact e
    · rcases List.mem_cons.mp hi with e | hi
      · exact absurd e hn
      · exact wipeS_in hi h
theorem wipeS_out {ss : List S} {i : Nat} : ∀ {vs : List Nat}, i ∉ vs → (wipeS ss vs)[i]? = ss[i]?
  | [], _ => rfl
  | v :: vs, h => by
    unfold wipeS
    rw [List.getElem?_set_ne (fun e => h (by rw [e]; exact List.mem_cons_self))]
    exact wipeS_out fun q => h (List.mem_cons_of_mem _ q)
theorem wipe_out' {σ : L2.St} {i : Nat} : ∀ {vs : List Nat}, i ∉ vs → (wipe σ vs)[i]? = σ[i]?
  | [], _ => rfl
  | v :: vs, h => by
    unfold wipe
    rw [List.getElem?_set_ne (fun e => h (by rw [e]; exact List.mem_cons_self))]
    exact wipe_out' fun q => h (List.mem_cons_of_mem _ q)
theorem backS_length (old ss : List S) : ∀ vs : List Nat, (backS old ss vs).length = ss.length
  | [] => rfl
  | v :: vs => by
    unfold backS
    split
    · rw [List.length_set, backS_length old ss vs]
    · exact backS_length old ss vs
theorem backS_out {old ss : List S} {i : Nat} : ∀ {vs : List Nat}, i ∉ vs → (backS old ss vs)[i]? = ss[i]?
  | [], _ => rfl
  | v :: vs, h => by
    unfold backS
    have q := backS_out (old := old) (ss := ss) (vs := vs) fun q => h (List.mem_cons_of_mem _ q)
    split
    · rw [List.getElem?_set_ne (fun e => h (by rw [e]; exact List.mem_cons_self))]
      exact q
    · exact q
theorem backS_in {old ss : List S} {i : Nat} {s : S} (hl : old.length = ss.length) : ∀ {vs : List Nat}, i ∈ vs → (backS old ss vs)[i]? = some s → old[i]? = some s
  | v :: vs, hi, h => by
    unfold backS at h
    split at h
    · rename_i s0 e0
      rcases set_get h with ⟨rfl, e, _⟩ | ⟨hn, h⟩
      · rw [e]; exact e0
      · rcases List.mem_cons.mp hi with e | hi
        · exact absurd e hn
        · exact backS_in hl hi h
    · rename_i e0
      rcases List.mem_cons.mp hi with e | hi
      · subst e
        have h1 := (List.getElem?_eq_some_iff.mp h).1
        rw [backS_length, ← hl] at h1
        rw [List.getElem?_eq_getElem h1] at e0
        cases e0
      · exact backS_in hl hi h
section
variable {K : PySem.W.Frag} {r : R} {W : Nat → Option Addr} {ss : List S} {σ : L2.St} {H : Hp}
theorem Rep.reslots (I : Rep K r W ss σ H) (own : List Nat) {ss' : List S} {σ' : L2.St} (hl : ss'.length = ss.length) (hl2 : σ'.length = σ.length) (hW : ∀ i ∈ own, W i = none) (hs : ∀ j, j ∉ own → ss'[j]? = ss[j]? ∧ σ'[j]? = σ[j]?)
    (ho : ∀ i ∈ own, ∀ s, ss'[i]? = some s → RSlot K H (Zw r W) none s σ'[i]?) : Rep K r W ss' σ' H := by
  refine ⟨by rw [hl, I.len, hl2], fun i s e => ?_, fun i a e => by rw [hl]; exact I.wlt i a e, I.inj, I.wok, fun i a e => ?_, fun i l e => ?_, I.uok, I.und, I.tok, I.yok, I.keep⟩
  · by_cases h : i ∈ own
    · rw [hW i h]
      exact ho i h s e
    · rw [(hs i h).2]
      exact I.slot i s (by rw [← (hs i h).1]; exact e)
  · obtain ⟨h1, l, h2⟩ := I.pok i a e
    have h : i ∉ own := fun h => by rw [hW i h] at h1; cases h1
    exact ⟨h1, l, by rw [(hs i h).1]; exact h2⟩
  · by_cases h : i ∈ own
    · obtain ⟨a, q, _⟩ := ho i h _ e
      cases q
    · exact I.iop i l (by rw [← (hs i h).1]; exact e)
/-- the own slots are forgotten; they hold nothing but plain data -/
theorem Rep.wiped (I : Rep K r W ss σ H) {own : List Nat} (h : ∀ i ∈ own, W i = none) : Rep K r W (wipeS ss own) (wipe σ own) H :=
  I.reslots own (wipeS_length ss own) (wipe_length σ own) h (fun j hj => ⟨wipeS_out hj, wipe_out' hj⟩) fun i hi s e => by
    rw [wipeS_in hi e]
    rfl
theorem plain_W (I : Rep K r W ss σ H) {i : Nat} (h : plainS ss[i]? = true) : W i = none := by
  cases e : W i with
  | none => rfl
  | some a =>
    obtain ⟨l, e1 | e1, _⟩ := I.at e
    · rw [e1] at h; cases h
    · rw [e1] at h; cases h
theorem isOwn_W {s : S} {Z : Zs} {w : Option Addr} {o : Option (Option V)} (h : RSlot K H Z w s o) : w = none ∨ plainS (some s) = false := by
  cases s with
  | off => exact .inl h
  | val d => exact .inl h.1
  | own l => exact .inr rfl
  | io l => exact .inr rfl
/-- what the own slots hold -/
def heldOf (ss : List S) (σ : L2.St) : List Nat → List (D × V)
  | [] => []
  | i :: r => match ss[i]?, σ[i]? with
    | some (.val d), some (some v) => (d, v) :: heldOf ss σ r
    | _, _ => heldOf ss σ r
theorem heldOf_ok (I : Rep K r W ss σ H) : ∀ own : List Nat, ∀ p ∈ heldOf ss σ own, RD K H (Zw r W) p.1 p.2
  | [], _, h => nomatch h
  | i :: own, p, h => by
    unfold heldOf at h
    split at h
    · rename_i d v e1 e2
      rcases List.mem_cons.mp h with e | h
      · subst e
        obtain ⟨_, v', e3, rv⟩ := I.slot i _ e1
        rw [e2] at e3
        cases e3
        exact rv
      · exact heldOf_ok I own p h
    · exact heldOf_ok I own p h
theorem heldOf_mem {i : Nat} {d : D} {v : V} (e1 : ss[i]? = some (.val d)) (e2 : σ[i]? = some (some v)) : ∀ {own : List Nat}, i ∈ own → (d, v) ∈ heldOf ss σ own
  | j :: own, h => by
    unfold heldOf
    rcases List.mem_cons.mp h with e | h
    · subst e
      rw [e1, e2]
      exact List.mem_cons_self
    · have q := heldOf_mem e1 e2 h
      split
      · exact List.mem_cons_of_mem _ q
      · exact q
end
theorem ts_u {r : R} {T : List (D × V)} {a : Addr} {l : List D} : (r.ts T).u a l = (r.u a l).ts T := rfl
section
variable {X : Cx} {elt tg iter : Expr} {ifs : List Expr} {scope : Scope} {pos pos' : Pos} {it : SL} {g : SG} {tt : ST} {te : SE} {ts : List Nat}
theorem wipe_get {σ : L2.St} {i : Nat} : ∀ {vs : List Nat}, i ∈ vs → i < σ.length → (wipe σ vs)[i]? = some none
  | v :: vs, hi, hl => by
    unfold wipe
    by_cases e : v = i
    · subst e
      rw [List.getElem?_set_self (by rw [wipe_length]; exact hl)]
    · rw [List.getElem?_set_ne e]
      exact wipe_get ((List.mem_cons.mp hi).resolve_left fun q => e q.symm) hl
theorem wipe_eq {σ σ' : L2.St} {vs : List Nat} (hl : σ'.length = σ.length) (h : ∀ j, j ∉ vs → σ'[j]? = σ[j]?) : wipe σ' vs = wipe σ vs := by
  apply List.ext_getElem?
  intro i
  by_cases hi : i ∈ vs
  · by_cases hb : i < σ.length
    · rw [wipe_get hi hb, wipe_get hi (by rw [hl]; exact hb)]
    · rw [List.getElem?_eq_none (by rw [wipe_length]; omega), List.getElem?_eq_none (by rw [wipe_length]; omega)]
  · rw [wipe_out' hi, wipe_out' hi, h i hi]
theorem lc_run {K : PySem.W.Frag} {own : List Nat} (hts : ∀ i ∈ ts, i ∈ own) : ∀ σ H Q, tFL K (cLc it g tt te own) σ H Q → tLc (tFI K it) (tG K g ts) (tFT K tt) (tF K te) own σ H Q := fun σ H Q ⟨r, W, ss, I, l, ss', e, q⟩ => by
  obtain ⟨p, e1, e2⟩ := bind_some e
  split at e2
  · rename_i hpl
    obtain ⟨q0, e3, e4⟩ := bind_some e2
    cases e4
    have hpl : ∀ i ∈ own, plainS p.2[i]? = true := List.all_eq_true.mp hpl
    refine ⟨r, W, ss, I, p.1, p.2, e1, fun J T H1 I1 y => fun D nD => ?_⟩
    have hW : ∀ i ∈ own, W i = none := fun i hi => plain_W I1 (hpl i hi)
    -- the outer slots' data held; the new list under work
    have I2 : Rep K ((r.ts (heldOf p.2 σ own)).ts T) W p.2 σ H1 :=
      (I1.drops.1.holds (heldOf_ok I1.drops.1 own)).holds I1.drops.2
    have I3 := (I2.newLst (l := []) (vs := []) nD RDs.nil).wiped hW
    have hlen : p.2.length = σ.length := I1.len
    generalize p.1 = ds at y e3
    refine ⟨fun i m H => m = ds.length - i ∧ i ≤ ds.length ∧ ∃ acc s, Rep K (((r.ts (heldOf p.2 σ own)).ts T).u D acc) W s (wipe σ own) H ∧ lcF g tt te own (ds.drop i) acc s = some q0,
      ⟨ds.length, by omega, Nat.zero_le _, [], _, I3, e3⟩, ?_⟩
    rintro i m H ⟨rfl, hi, acc, s, I4, e5⟩
    obtain ⟨y1, y2⟩ := y _ W s (wipe σ own) H (fun p hp => List.mem_append_left _ hp) I4 i
    by_cases hl : i < ds.length
    · obtain ⟨y3, y4⟩ := y1 hl
      refine .inr ⟨y3, fun H => ∃ acc s, Rep K (((r.ts (heldOf p.2 σ own)).ts T).u D acc) W s (wipe σ own) H ∧ lcF g tt te own (ds.drop (i + 1)) acc s = some q0,
        fun H' h => ⟨ds.length - (i + 1), by omega, rfl, hl, h⟩, fun x H' hy => ?_⟩
      obtain ⟨d, ed, I5, rd⟩ := y4 x H' hy
      have edrop : ds.drop i = d :: ds.drop (i + 1) := by
        rw [List.drop_eq_getElem_cons hl]
        rw [List.getElem?_eq_getElem hl] at ed
        rw [Option.some.inj ed]
      rw [edrop] at e5
      obtain ⟨s1, e6, e7⟩ := bind_some e5
      obtain ⟨p1, e8, e9⟩ := bind_some e7
      refine ⟨_, W, s, d, I5, rd, s1, e6, fun W6 σ6 H6 I6 hT => ?_⟩
      have eW : W6 = W := by
        funext j
        by_cases hj : j ∈ ts
        · rw [hT.2.1 j hj, hW j (hts j hj)]
        · exact (hT.1 j hj).1
      subst eW
      have eσ : wipe σ6 own = wipe σ own := by
        have h1 : wipe σ6 own = wipe (wipe σ own) own := wipe_eq hT.2.2 fun j hj => (hT.1 j fun z => hj (hts j z)).2
        rw [h1]
        exact wipe_eq (wipe_length σ own) fun j hj => wipe_out' hj
      refine ⟨eσ, _, W6, s1, I6, p1.1, p1.2, e8, fun H7 I7 => ?_⟩
      split at e9
      · rename_i hb
        rw [if_pos hb]
        obtain ⟨q1, e10, e11⟩ := bind_some e9
        split at e11
        · rename_i hc
          refine ⟨_, W6, p1.2, I7, q1.1, q1.2, e10, fun v H8 I8 r8 => ?_⟩
          obtain ⟨_, _, _, vs, h8, rl8⟩ := I8.uok (D, acc) List.mem_cons_self
          refine ⟨vs, h8, by rw [← rl8.length]; exact hc.2, acc ++ [q1.1], wipeS q1.2 own, ?_, e11⟩
          have I9 := (I8.work (RDs.of (pr_append rl8.p (.cons r8 .nil)))).wiped hW
          rw [eσ] at I9
          exact I9
        · cases e11
      · rename_i hb
        rw [if_neg hb]
        split at e9
        · have I9 := I7.wiped hW
          rw [eσ] at I9
          exact ⟨acc, _, I9, e9⟩
        · cases e9
    · have ei : i = ds.length := by omega
      refine .inl ⟨y2 ei, ?_⟩
      rw [List.drop_of_length_le (by omega)] at e5
      cases e5
      -- back
      have I6 : Rep K (((r.u D acc).ts (heldOf p.2 σ own)).ts T) W s (wipe σ own) H := I4
      obtain ⟨I7, _⟩ := I6.drops
      obtain ⟨I8, held⟩ := I7.drops
      refine q D H (I8.reslots own (backS_length _ _ _) (wipe_length σ own).symm hW (fun j hj => ⟨backS_out hj, (wipe_out' hj).symm⟩) fun i hi s' es => ?_)
      have e6 := backS_in (by rw [hlen, I8.len, wipe_length]) hi es
      have q6 := I1.slot i s' e6
      rw [hW i hi] at q6
      cases s' with
      | off => rfl
      | val d =>
        obtain ⟨_, v, ev, _⟩ := q6
        exact ⟨rfl, v, ev, held _ (heldOf_mem e6 ev hi)⟩
      | own l => have := hpl i hi; rw [e6] at this; cases this
      | io l => have := hpl i hi; rw [e6] at this; cases this
  · cases e2
theorem fl_lc (own : List (Str × Nat)) (hc : X.calm = true) (hN : X.N.Nodup) (hi : FI X tg iter it) (ok : BlkOk X.N X.env.scope scope own) (hts : ∀ i ∈ ts, i ∈ own.map (·.2))
    (hg : ∀ (s : Shared) (H : Hp) (C : Addr) (cl : List (Str × Addr)) (fp : List Addr), FG (X.blk s H scope (compEnvC scope cl C X.env) fp) tg g ts) (ht : ∀ (s : Shared) (H : Hp) (C : Addr) (cl : List (Str × Addr)) (fp : List Addr), FTs (X.blk s H scope (compEnvC scope cl C X.env) fp) ifs tt)
    (he : ∀ (s : Shared) (H : Hp) (C : Addr) (cl : List (Str × Addr)) (fp : List Addr), FE (X.blk s H scope (compEnvC scope cl C X.env) fp) elt te) (hs : ∀ x, foldedSetIterable iter X.env x = pure x := by intro _; rfl) :
    FL X (.ListComp elt [⟨tg, iter, ifs, 0⟩] scope pos) (cLc it g tt te (own.map (·.2))) :=
  ⟨(pe_lc hc hN hi.pi ok (fun s H C cl fp => (hg s H C cl fp).pg) (fun s H C cl fp => (ht s H C cl fp).pt) (fun s H C cl fp => (he s H C cl fp).pe) hs).imp (lc_run hts)⟩
/-- name = [..], the name a local of the def -/
theorem fs_setLcO (i : Nat) (own : List (Str × Nat)) {y : Str} {py spos : Pos} (hc : X.calm = true) (hN : X.N.Nodup) (hi : FI X tg iter it) (ok : BlkOk X.N X.env.scope scope own) (hts : ∀ i ∈ ts, i ∈ own.map (·.2))
    (hg : ∀ (s : Shared) (H : Hp) (C : Addr) (cl : List (Str × Addr)) (fp : List Addr), FG (X.blk s H scope (compEnvC scope cl C X.env) fp) tg g ts) (ht : ∀ (s : Shared) (H : Hp) (C : Addr) (cl : List (Str × Addr)) (fp : List Addr), FTs (X.blk s H scope (compEnvC scope cl C X.env) fp) ifs tt)
    (he : ∀ (s : Shared) (H : Hp) (C : Addr) (cl : List (Str × Addr)) (fp : List Addr), FE (X.blk s H scope (compEnvC scope cl C X.env) fp) elt te)
    (hsw : swapsWith (.ListComp elt [⟨tg, iter, ifs, 0⟩] scope pos) (some (.Name y py)) spos.line X.env = pure true) (hy : X.N[i]? = some y := by rfl) (hyl : X.env.scope.names.lookup y = some .local := by rfl) (hs : ∀ x, foldedSetIterable iter X.env x = pure x := by intro _; rfl) :
    FS X (.Assign [.Name y py] (.ListComp elt [⟨tg, iter, ifs, 0⟩] scope pos) spos) (sSetO i (cLc it g tt te (own.map (·.2)))) :=
  ⟨(ps_setLc hc hN hy hyl hsw hi.pi ok (fun s H C cl fp => (hg s H C cl fp).pg) (fun s H C cl fp => (ht s H C cl fp).pt) (fun s H C cl fp => (he s H C cl fp).pe) hs).imp fun D σ H h => by
    obtain ⟨r, W, ss, I, o, e, q⟩ := h
    obtain ⟨p, e1, e2⟩ := bind_some e
    split at e2
    · rename_i hk
      cases e2
      exact lc_run hts σ H _ ⟨r, W, ss, I, p.1, p.2, e1, fun a H1 I1 => q _ _ _ (I1.setOwn (okSet_no hk).1 (okSet_no hk).2)⟩
    · cases e2⟩
end
end FD
/-! FD, part 8: defs and their calls. -/
namespace FD
open PySem PySem.Spec PyProof.Rows L2

/-- a def's promise: F of the slots of its parameters -/
def spF (K : PySem.W.Frag) (n : Nat) (F : SS) : Sp := fun vs H Q _ => ∃ r W args o, vs.length = n ∧ Rep K r W args (vs.map some) H ∧ F args = some o ∧ Good K r { nx := fun _ H' => Q .non H', rt := Q } o
/-- a body as a function of the parameters' slots -/
def fnF (n : Nat) (f : SS) : SS := fun args => f (args ++ List.replicate n .off)
section
variable {P : Program} {w : World} {K : PySem.W.Frag} {mg : Str → Option Value} {base : Heap}
theorem Rep.pad {r : R} {W : Nat → Option Addr} {ss : List S} {σ : L2.St} {H : Hp} (I : Rep K r W ss σ H) (m : Nat) : Rep K r W (ss ++ List.replicate m .off) (σ ++ List.replicate m none) H := by
  have low : ∀ {i s}, (ss ++ List.replicate m S.off)[i]? = some s → (i < ss.length ∧ ss[i]? = some s) ∨ (ss.length ≤ i ∧ s = .off) := fun {i s} e => by
    by_cases h : i < ss.length
    · rw [List.getElem?_append_left h] at e
      exact .inl ⟨h, e⟩
    · rw [List.getElem?_append_right (by omega), List.getElem?_replicate] at e
      split at e
      · cases e; exact .inr ⟨by omega, rfl⟩
      · cases e
  refine ⟨by rw [List.length_append, List.length_append, I.len, List.length_replicate, List.length_replicate], fun i s e => ?_, fun i a e => by rw [List.length_append]; have := I.wlt i a e; omega, I.inj, I.wok, fun i a e => ?_, fun i l e => ?_, I.uok, I.und, I.tok, I.yok, I.keep⟩
  · rcases low e with ⟨h, e⟩ | ⟨h, rfl⟩
    · rw [List.getElem?_append_left (by rw [← I.len]; exact h)]
      exact I.slot i s e
    · show W i = none
      cases q : W i with
      | none => rfl
      | some a => have := I.wlt i a q; omega
  · obtain ⟨h1, l, h2⟩ := I.pok i a e
    exact ⟨h1, l, by rw [List.getElem?_append_left (I.wlt i a h1)]; exact h2⟩
  · rcases low e with ⟨h, e⟩ | ⟨h, q⟩
    · exact I.iop i l e
    · cases q
theorem fn_ok {x qual : Str} {st : Stmt} {f : Addr} {fd : FuncData} {N ps : List Str} {k n m : Nat} {fb : SS} (F : Fun K x qual st f fd) (Sc : FnScope N ps (defScope st)) (hn : ps.length = n) (hm : N.length - ps.length = m)
    (hb : ∀ (cdv : Value) (A : Around) (outer : List Env) (s : Shared) (H : Hp) (E : XK), Room k (A.deeper (envOfC qual (defScope st) s.heap.objs.size f cdv)) →
      FSs (cxOf CX0 P w K mg base N qual (defScope st) f cdv A outer s H E).nox (defBody st) fb) : FnOk P w K mg base CX0 (k + 1) f fd ps (spF K n (fnF m fb)) := by
  subst hn hm
  refine F.ok Sc (fun vs H Q E h => ?_) (fun cdv A outer s H vs Q E hr h => ?_)
  · obtain ⟨_, _, _, _, h, _⟩ := h
    exact h
  · obtain ⟨r, W, args, o, hl, I, e, q⟩ := h
    refine ⟨_, (hb cdv A outer s H E hr).ps, r, W, _, ?_, o, e, q⟩
    unfold L2.start
    rw [hl]
    exact I.pad _
end

/-! ### what is handed over -/
inductive Ar where
  | e (f : SE) | io (i : Nat) | bo (i : Nat)
inductive AV where
  | v (d : D) | io (i : Nat) | bo (i : Nat)
def arF : List Ar → List S → Option (List AV × List S)
  | [], ss => some ([], ss)
  | .e f :: as, ss => (f ss).bind fun p => (arF as p.2).bind fun q => some (.v p.1 :: q.1, q.2)
  | .io i :: as, ss => (ownL ss[i]?).bind fun _ => (arF as ss).bind fun q => some (.io i :: q.1, q.2)
  | .bo i :: as, ss => (ownL ss[i]?).bind fun _ => (arF as ss).bind fun q => some (.bo i :: q.1, q.2)
def AOk (K : PySem.W.Frag) (H : Hp) (Z : Zs) (W : Nat → Option Addr) : AV → V → Prop
  | .v d, v => RD K H Z d v
  | .io i, v => ∃ a, W i = some a ∧ v = .ref a
  | .bo i, v => ∃ a, W i = some a ∧ v = .ref a
def tFAr (K : PySem.W.Frag) (as : List Ar) : TA := fun σ H Q => ∃ r W ss, Rep K r W ss σ H ∧ ∃ avs ss', arF as ss = some (avs, ss') ∧ ∀ vs H', Rep K r W ss' σ H' → Paired (AOk K H' (Zw r W) W) avs vs → Q vs H'
structure FAr (X : Cx) (es : List Expr) (as : List Ar) : Prop where
  pa : PA X es (tFAr X.K as)
section
variable {X : Cx} {e : Expr} {es : List Expr} {f : SE} {as : List Ar} {x : Str} {p : Pos}
theorem far_nil : FAr X [] [] := ⟨pa_nil.imp fun σ H Q ⟨r, W, ss, I, avs, ss', e, q⟩ => by
  cases e
  exact q [] H I .nil⟩
theorem far_e (ha : FE X e f) (hr : FAr X es as) (hs : starEach (e :: es) X.env = (false, eval e X.env) :: starEach es X.env := by rfl) : FAr X (e :: es) (.e f :: as) := ⟨(pa_cons ha.pe hr.pa hs).imp fun σ H Q ⟨r, W, ss, I, avs, ss', e, q⟩ => by
  obtain ⟨p, e1, e2⟩ := bind_some e
  obtain ⟨p2, e3, e4⟩ := bind_some e2
  cases e4
  refine ⟨r, W, ss, I, p.1, p.2, e1, fun v H1 I1 r1 => ?_⟩
  refine ⟨r.t p.1 v, W, p.2, I1.hold r1, p2.1, p2.2, e3, fun vs H2 I2 r2 => ?_⟩
  obtain ⟨I3, r1'⟩ := I2.drop
  exact q _ H2 I3 (.cons r1' r2)⟩
theorem far_io (i : Nat) (hr : FAr X es as) (hN : X.N[i]? = some x := by rfl) (hv : Vis X.env.scope x := by first | exact Or.inl rfl | exact Or.inr (Or.inl rfl) | exact Or.inr (Or.inr rfl)) (hd : (x == ("__debug__" : Str)) = false := by decide)
    (hcd : (x == ("__classdict__" : Str)) = false := by decide) (hs : starEach (.Name x p :: es) X.env = (false, eval (.Name x p) X.env) :: starEach es X.env := by rfl) : FAr X (.Name x p :: es) (.io i :: as) := ⟨(pa_cons (pe_var hN hv hd hcd) hr.pa hs).imp fun σ H Q ⟨r, W, ss, I, avs, ss', e, q⟩ => by
  obtain ⟨l, e1, e2⟩ := bind_some e
  obtain ⟨p2, e3, e4⟩ := bind_some e2
  cases e4
  obtain ⟨a, c, hc, wa, ea, _⟩ := I.slotAddr e1
  exact ⟨.ref a, ea, r, W, ss, I, p2.1, p2.2, e3, fun vs H2 I2 r2 => q _ H2 I2 (.cons ⟨a, wa, rfl⟩ r2)⟩⟩
theorem far_bo (i : Nat) (hr : FAr X es as) (hN : X.N[i]? = some x := by rfl) (hv : Vis X.env.scope x := by first | exact Or.inl rfl | exact Or.inr (Or.inl rfl) | exact Or.inr (Or.inr rfl)) (hd : (x == ("__debug__" : Str)) = false := by decide)
    (hcd : (x == ("__classdict__" : Str)) = false := by decide) (hs : starEach (.Name x p :: es) X.env = (false, eval (.Name x p) X.env) :: starEach es X.env := by rfl) : FAr X (.Name x p :: es) (.bo i :: as) := ⟨(pa_cons (pe_var hN hv hd hcd) hr.pa hs).imp fun σ H Q ⟨r, W, ss, I, avs, ss', e, q⟩ => by
  obtain ⟨l, e1, e2⟩ := bind_some e
  obtain ⟨p2, e3, e4⟩ := bind_some e2
  cases e4
  obtain ⟨a, c, hc, wa, ea, _⟩ := I.slotAddr e1
  exact ⟨.ref a, ea, r, W, ss, I, p2.1, p2.2, e3, fun vs H2 I2 r2 => q _ H2 I2 (.cons ⟨a, wa, rfl⟩ r2)⟩⟩
end
def ios : List AV → List Nat
  | [] => []
  | .io i :: as => i :: ios as
  | .v _ :: as => ios as
  | .bo _ :: as => ios as
def bos : List AV → List Nat
  | [] => []
  | .bo i :: as => i :: bos as
  | .v _ :: as => bos as
  | .io _ :: as => bos as
def argS (ss : List S) : List AV → Option (List S)
  | [] => some []
  | .v d :: as => (argS ss as).map fun r => .val d :: r
  | .io i :: as => (ownL ss[i]?).bind fun l => (argS ss as).map fun r => .io l :: r
  | .bo i :: as => (ownL ss[i]?).bind fun l => (argS ss as).map fun r => .val (.lst l) :: r
def backA : List AV → List S → List S → Option (List S)
  | [], _, ss => some ss
  | .io i :: as, .io l :: sf, ss => backA as sf (putL ss i l)
  | .v _ :: as, _ :: sf, ss => backA as sf ss
  | .bo _ :: as, _ :: sf, ss => backA as sf ss
  | _, _, _ => none
/-- what comes back within the changed lists has no list in it -/
def outsNoL : List AV → List S → Bool
  | .io _ :: as, .io l :: sf => noLs l && outsNoL as sf
  | _ :: as, _ :: sf => outsNoL as sf
  | _, _ => true
def okA (avs : List AV) : Bool := decide (ios avs ++ bos avs).Nodup
def SFor (ss : List S) : AV → S → Prop
  | .v d, s => s = .val d
  | .io i, s => ∃ l, ownL ss[i]? = some l ∧ s = .io l
  | .bo i, s => ∃ l, ownL ss[i]? = some l ∧ s = .val (.lst l)
theorem argS_p {ss : List S} : ∀ {avs : List AV} {args : List S}, argS ss avs = some args → Paired (SFor ss) avs args
  | [], _, h => by cases h; exact .nil
  | .v d :: as, _, h => by
    obtain ⟨r, h1, rfl⟩ := map_some h
    exact .cons rfl (argS_p h1)
  | .io i :: as, _, h => by
    obtain ⟨l, h0, h⟩ := bind_some h
    obtain ⟨r, h1, rfl⟩ := map_some h
    exact .cons ⟨l, h0, rfl⟩ (argS_p h1)
  | .bo i :: as, _, h => by
    obtain ⟨l, h0, h⟩ := bind_some h
    obtain ⟨r, h1, rfl⟩ := map_some h
    exact .cons ⟨l, h0, rfl⟩ (argS_p h1)
theorem mem_ios {i : Nat} : ∀ {avs : List AV}, i ∈ ios avs ↔ ∃ j : Nat, avs[j]? = some (.io i)
  | [] => ⟨(fun h => nomatch h), fun ⟨j, h⟩ => by simp at h⟩
  | .io k :: as => by
    rw [ios, List.mem_cons, mem_ios (avs := as)]
    constructor
    · rintro (rfl | ⟨j, h⟩)
      · exact ⟨0, rfl⟩
      · exact ⟨j + 1, by simpa using h⟩
    · rintro ⟨j, h⟩
      cases j with
      | zero => left; simp at h; exact h.symm
      | succ j => right; exact ⟨j, by simpa using h⟩
  | .v d :: as => by
    rw [ios, mem_ios (avs := as)]
    constructor
    · rintro ⟨j, h⟩; exact ⟨j + 1, by simpa using h⟩
    · rintro ⟨j, h⟩
      cases j with
      | zero => simp at h
      | succ j => exact ⟨j, by simpa using h⟩
  | .bo d :: as => by
    rw [ios, mem_ios (avs := as)]
    constructor
    · rintro ⟨j, h⟩; exact ⟨j + 1, by simpa using h⟩
    · rintro ⟨j, h⟩
      cases j with
      | zero => simp at h
      | succ j => exact ⟨j, by simpa using h⟩
theorem mem_bos {i : Nat} : ∀ {avs : List AV} {j : Nat}, avs[j]? = some (.bo i) → i ∈ bos avs
  | [], _, h => by simp at h
  | .bo k :: as, 0, h => by simp at h; subst h; exact List.mem_cons_self
  | .bo k :: as, j + 1, h => List.mem_cons_of_mem _ (mem_bos (avs := as) (j := j) (by simpa using h))
  | .v d :: as, 0, h => by simp at h
  | .v d :: as, j + 1, h => mem_bos (avs := as) (j := j) (by simpa using h)
  | .io d :: as, 0, h => by simp at h
  | .io d :: as, j + 1, h => mem_bos (avs := as) (j := j) (by simpa using h)
theorem ios_inj : ∀ {avs : List AV} {j m i : Nat}, (ios avs).Nodup → avs[j]? = some (.io i) → avs[m]? = some (.io i) → j = m
  | [], _, _, _, _, h, _ => by simp at h
  | .io k :: as, 0, 0, _, _, _, _ => rfl
  | .io k :: as, 0, m + 1, i, nd, h1, h2 => by
    simp at h1
    subst h1
    exact absurd (mem_ios.mpr ⟨m, by simpa using h2⟩) (List.nodup_cons.mp nd).1
  | .io k :: as, j + 1, 0, i, nd, h1, h2 => by
    simp at h2
    subst h2
    exact absurd (mem_ios.mpr ⟨j, by simpa using h1⟩) (List.nodup_cons.mp nd).1
  | .io k :: as, j + 1, m + 1, i, nd, h1, h2 => by rw [ios_inj (avs := as) (j := j) (m := m) (i := i) (List.nodup_cons.mp nd).2 (by simpa using h1) (by simpa using h2)]
  | .v d :: as, 0, _, _, _, h1, _ => by simp at h1
  | .v d :: as, _ + 1, 0, _, _, _, h2 => by simp at h2
  | .v d :: as, j + 1, m + 1, i, nd, h1, h2 => by rw [ios_inj (avs := as) (j := j) (m := m) (i := i) nd (by simpa using h1) (by simpa using h2)]
  | .bo d :: as, 0, _, _, _, h1, _ => by simp at h1
  | .bo d :: as, _ + 1, 0, _, _, _, h2 => by simp at h2
  | .bo d :: as, j + 1, m + 1, i, nd, h1, h2 => by rw [ios_inj (avs := as) (j := j) (m := m) (i := i) nd (by simpa using h1) (by simpa using h2)]
theorem putL_length (ss : List S) (i : Nat) (l : List D) : (putL ss i l).length = ss.length := by
  unfold putL
  split <;> rw [List.length_set]
theorem putL_ne {ss : List S} {i j : Nat} {l : List D} (h : j ≠ i) : (putL ss i l)[j]? = ss[j]? := by
  unfold putL
  split <;> rw [List.getElem?_set_ne (Ne.symm h)]
/-- the same kind of slot, with another list -/
def SameK (s : Option S) (l : List D) (s' : Option S) : Prop := (∃ l0, s = some (.io l0) ∧ s' = some (.io l)) ∨ ((∀ l0, s ≠ some (.io l0)) ∧ s' = some (.own l))
theorem putL_same {ss : List S} {i : Nat} {l : List D} (h : i < ss.length) : SameK ss[i]? l (putL ss i l)[i]? := by
  unfold putL
  split
  · rename_i l0 e
    exact .inl ⟨l0, e, by rw [List.getElem?_set_self h]⟩
  · rename_i hn
    exact .inr ⟨fun l0 e => hn l0 e, by rw [List.getElem?_set_self h]⟩
theorem backA_ok : ∀ {avs : List AV} {sf ss s2 : List S}, (ios avs).Nodup → (∀ i ∈ ios avs, i < ss.length) → backA avs sf ss = some s2 →
    s2.length = ss.length ∧ (∀ i, i ∉ ios avs → s2[i]? = ss[i]?) ∧ ∀ (j i : Nat), avs[j]? = some (.io i) → ∃ l, sf[j]? = some (.io l) ∧ SameK ss[i]? l s2[i]?
  | [], sf, ss, s2, _, _, h => by
    rw [backA] at h
    cases h
    exact ⟨rfl, fun _ _ => rfl, fun j i h => by simp at h⟩
  | .io k :: as, [], ss, s2, _, _, h => by rw [backA] at h <;> first | cases h | simp
  | .io k :: as, .io l :: sf, ss, s2, nd, hb, h => by
    rw [backA] at h
    have nd' := List.nodup_cons.mp nd
    obtain ⟨h1, h2, h3⟩ := backA_ok nd'.2 (fun i hi => by rw [putL_length]; exact hb i (List.mem_cons_of_mem _ hi)) h
    refine ⟨by rw [h1, putL_length], fun i hi => ?_, fun j i hj => ?_⟩
    · have hi' : i ≠ k ∧ i ∉ ios as := by
        rw [ios, List.mem_cons, not_or] at hi
        exact hi
      rw [h2 i hi'.2, putL_ne hi'.1]
    · cases j with
      | zero =>
        simp at hj
        subst hj
        refine ⟨l, rfl, ?_⟩
        rw [h2 k nd'.1]
        exact putL_same (hb k List.mem_cons_self)
      | succ j =>
        have hj' : as[j]? = some (.io i) := by simpa using hj
        obtain ⟨l', e1, e2⟩ := h3 j i hj'
        have hne : i ≠ k := fun e => nd'.1 (by rw [← e]; exact mem_ios.mpr ⟨j, hj'⟩)
        rw [putL_ne hne] at e2
        exact ⟨l', by simpa using e1, e2⟩
  | .io k :: as, .off :: sf, ss, s2, _, _, h => by rw [backA] at h <;> first | cases h | simp
  | .io k :: as, .val _ :: sf, ss, s2, _, _, h => by rw [backA] at h <;> first | cases h | simp
  | .io k :: as, .own _ :: sf, ss, s2, _, _, h => by rw [backA] at h <;> first | cases h | simp
  | .v d :: as, [], ss, s2, _, _, h => by rw [backA] at h <;> first | cases h | simp
  | .v d :: as, s :: sf, ss, s2, nd, hb, h => by
    rw [backA] at h
    obtain ⟨h1, h2, h3⟩ := backA_ok (avs := as) nd hb h
    refine ⟨h1, h2, fun j i hj => ?_⟩
    cases j with
    | zero => simp at hj
    | succ j =>
      obtain ⟨l, e1, e2⟩ := h3 j i (by simpa using hj)
      exact ⟨l, by simpa using e1, e2⟩
  | .bo d :: as, [], ss, s2, _, _, h => by rw [backA] at h <;> first | cases h | simp
  | .bo d :: as, s :: sf, ss, s2, nd, hb, h => by
    rw [backA] at h
    obtain ⟨h1, h2, h3⟩ := backA_ok (avs := as) nd hb h
    refine ⟨h1, h2, fun j i hj => ?_⟩
    cases j with
    | zero => simp at hj
    | succ j =>
      obtain ⟨l, e1, e2⟩ := h3 j i (by simpa using hj)
      exact ⟨l, by simpa using e1, e2⟩
theorem outsNoL_at : ∀ {avs : List AV} {sf : List S} {j i : Nat} {l : List D}, outsNoL avs sf = true → avs[j]? = some (.io i) → sf[j]? = some (.io l) → noLs l = true
  | [], _, _, _, _, _, h, _ => by simp at h
  | _ :: _, [], _, _, _, _, _, h => by simp at h
  | .io k :: as, s :: sf, 0, i, l, h, h1, h2 => by
    simp at h2
    subst h2
    rw [outsNoL, Bool.and_eq_true] at h
    exact h.1
  | .v _ :: as, s :: sf, 0, i, l, h, h1, h2 => by simp at h1
  | .bo _ :: as, s :: sf, 0, i, l, h, h1, h2 => by simp at h1
  | .v _ :: as, s :: sf, j + 1, i, l, h, h1, h2 => outsNoL_at (avs := as) (sf := sf) (j := j) (by rw [outsNoL] at h <;> first | exact h | simp) (by simpa using h1) (by simpa using h2)
  | .bo _ :: as, s :: sf, j + 1, i, l, h, h1, h2 => outsNoL_at (avs := as) (sf := sf) (j := j) (by rw [outsNoL] at h <;> first | exact h | simp) (by simpa using h1) (by simpa using h2)
  | .io k :: as, s :: sf, j + 1, i, l, h, h1, h2 => by
    refine outsNoL_at (avs := as) (sf := sf) (j := j) (i := i) (l := l) ?_ (by simpa using h1) (by simpa using h2)
    cases s with
    | io l0 =>
      rw [outsNoL, Bool.and_eq_true] at h
      exact h.2
    | off => rw [outsNoL] at h <;> first | exact h | simp
    | val _ => rw [outsNoL] at h <;> first | exact h | simp
    | own _ => rw [outsNoL] at h <;> first | exact h | simp
def R.us (r : R) (U : List (Addr × List D)) : R := { r with U := U ++ r.U }
section
variable {K : PySem.W.Frag} {r : R} {W : Nat → Option Addr} {ss : List S} {σ : L2.St} {H : Hp} {avs : List AV} {args : List S} {vs : List V}
def ioAt (avs : List AV) (W : Nat → Option Addr) : Nat → Option Addr := fun j => match avs[j]? with
  | some (.io i) => W i
  | _ => none
theorem ioAt_some {j : Nat} {a : Addr} (h : ioAt avs W j = some a) : ∃ i, avs[j]? = some (.io i) ∧ W i = some a := by
  unfold ioAt at h
  split at h
  · exact ⟨_, by assumption, h⟩
  · cases h
def isIo (avs : List AV) (W : Nat → Option Addr) (a : Addr) : Prop := ∃ i ∈ ios avs, W i = some a
def isBo (avs : List AV) (W : Nat → Option Addr) (a : Addr) : Prop := ∃ i ∈ bos avs, W i = some a
/-- the callee's fixed part -/
def callee (r : R) (W : Nat → Option Addr) (H : Hp) (avs : List AV) : R where
  H0 := H
  P := ioAt avs W
  Y := fun a => Zw r W a ∧ ¬ isIo avs W a ∧ ¬ isBo avs W a
  U := []
  T := []
theorem isIo_of {j : Nat} {a : Addr} (h : ioAt avs W j = some a) : isIo avs W a := by
  obtain ⟨i, h1, h2⟩ := ioAt_some h
  exact ⟨i, mem_ios.mpr ⟨j, h1⟩, h2⟩
theorem isIo_at {a : Addr} (h : isIo avs W a) : ∃ j, ioAt avs W j = some a := by
  obtain ⟨i, h1, h2⟩ := h
  obtain ⟨j, e⟩ := mem_ios.mp h1
  exact ⟨j, by unfold ioAt; rw [e]; exact h2⟩
theorem callee_in (I : Rep K r W ss σ H) (ok : okA avs = true) (ha : Paired (AOk K H (Zw r W) W) avs vs) (hs : argS ss avs = some args) : Rep K (callee r W H avs) (ioAt avs W) args (vs.map some) H := by
  have nd := of_decide_eq_true ok
  have ndi : (ios avs).Nodup := (List.nodup_append.mp nd).1
  have ps := argS_p hs
  have zsub : ∀ b, Zw (callee r W H avs) (ioAt avs W) b → Zw r W b := fun b h => by
    rcases h with h | h | ⟨j, h⟩
    · exact h.1
    · exact absurd h (by simp [callee])
    · obtain ⟨i, _, h2⟩ := ioAt_some h
      exact .inr (.inr ⟨i, h2⟩)
  refine ⟨by rw [← ps.length, List.length_map, ha.length], fun j s e => ?_, fun j a e => ?_, fun j m a h1 h2 => ?_, fun j a e => ⟨fun y => y.2.1 (isIo_of e), .inl e⟩, fun j a e => ⟨e, ?_⟩, fun _ _ _ => rfl, (fun p hp => nomatch hp), List.nodup_nil, (fun p hp => nomatch hp), fun a y => I.trk y.1, fun a o e _ => e⟩
  · have hj : j < avs.length := by rw [ps.length]; exact (List.getElem?_eq_some_iff.mp e).1
    have ej := List.getElem?_eq_getElem hj
    obtain ⟨s', e1, q⟩ := pr_get ps ej
    rw [e] at e1
    cases e1
    obtain ⟨v, e2, q2⟩ := pr_get ha ej
    have ev : (vs.map some)[j]? = some (some v) := by rw [List.getElem?_map, e2]; rfl
    cases hav : avs[j] with
    | v d =>
      rw [hav] at q q2 ej
      obtain rfl := q
      exact ⟨by unfold ioAt; rw [ej], v, ev, RD.fewer q2 zsub⟩
    | io i =>
      rw [hav] at q q2 ej
      obtain ⟨l, h1, rfl⟩ := q
      obtain ⟨a, h2, rfl⟩ := q2
      obtain ⟨a', c, _, h3, _, h4⟩ := I.slotAddr h1
      rw [h2] at h3
      cases h3
      exact ⟨a, by unfold ioAt; rw [ej]; exact h2, ev, h4.fewer zsub⟩
    | bo i =>
      rw [hav] at q q2 ej
      obtain ⟨l, h1, rfl⟩ := q
      obtain ⟨a, h2, rfl⟩ := q2
      obtain ⟨a', c, _, h3, _, us, h4, h5⟩ := I.slotAddr h1
      rw [h2] at h3
      cases h3
      refine ⟨by unfold ioAt; rw [ej], .ref a, ev, rd_lst ⟨h4, fun z => ?_⟩ (h5.fewer zsub)⟩
      have hb : i ∈ bos avs := mem_bos ej
      rcases z with z | z | ⟨m, z⟩
      · exact z.2.2 ⟨i, hb, h2⟩
      · exact absurd z (by simp [callee])
      · obtain ⟨i', h6, h7⟩ := ioAt_some z
        have := I.inj i i' a h2 h7
        subst this
        exact (List.nodup_append.mp nd).2.2 i (mem_ios.mpr ⟨m, h6⟩) i hb rfl
  · obtain ⟨i, h1, _⟩ := ioAt_some e
    rw [← ps.length]
    exact (List.getElem?_eq_some_iff.mp h1).1
  · obtain ⟨i, e1, w1⟩ := ioAt_some h1
    obtain ⟨i', e2, w2⟩ := ioAt_some h2
    have := I.inj i i' a w1 w2
    subst this
    exact ios_inj ndi e1 e2
  · obtain ⟨i, e1, w1⟩ := ioAt_some e
    obtain ⟨s, e2, q⟩ := pr_get ps e1
    obtain ⟨l, _, rfl⟩ := q
    exact ⟨l, e2⟩
theorem callee_out {U : List (Addr × List D)} {Wf : Nat → Option Addr} {sf s2 : List S} {σf : L2.St} {Hf : Hp} (I : Rep K r W ss σ H) (ok : okA avs = true) (hio : ∀ i ∈ ios avs, ∃ l, ownL ss[i]? = some l) (hbo : ∀ i ∈ bos avs, ∃ l, ownL ss[i]? = some l)
    (J : Rep K ((callee r W H avs).us U) Wf sf σf Hf) (hb : backA avs sf ss = some s2) (hn : bos avs = [] ∨ (outsNoL avs sf = true ∧ ∀ p ∈ U, noLs p.2 = true)) :
    Rep K (r.us U) W s2 σ Hf ∧ ∀ d v, bos avs = [] ∨ noL d = true → RD K Hf (Zw ((callee r W H avs).us U) Wf) d v → RD K Hf (Zw (r.us U) W) d v := by
  have nd := of_decide_eq_true ok
  have ndi : (ios avs).Nodup := (List.nodup_append.mp nd).1
  have hlt : ∀ i ∈ ios avs, i < ss.length := fun i hi => by
    obtain ⟨l, hl⟩ := hio i hi
    cases e : ss[i]? with
    | none => rw [e] at hl; cases hl
    | some s => exact (List.getElem?_eq_some_iff.mp e).1
  obtain ⟨b1, b2, b3⟩ := backA_ok ndi hlt hb
  -- what is not handed over to be changed stands
  have A : ∀ b o, H b = some o → ¬ isIo avs W b → Hf b = some o := fun b o e n => J.keep b o e fun j hj => n (isIo_of hj)
  have ioZ : ∀ b, isIo avs W b → Zw r W b := fun b ⟨i, _, h⟩ => .inr (.inr ⟨i, h⟩)
  have Unew : ∀ p ∈ U, H p.1 = none := fun p hp => (J.uok p (List.mem_append_left _ hp)).1
  -- the reserved places of the caller are those of the callee but for the lent ones
  have B : ∀ b, Zw (r.us U) W b → ¬ isBo avs W b → Zw ((callee r W H avs).us U) Wf b := fun b h n => by
    by_cases hi : isIo avs W b
    · obtain ⟨j, hj⟩ := isIo_at hi
      exact .inr (.inr ⟨j, (J.pok j b hj).1⟩)
    · rcases h with h | h | h
      · exact .inl ⟨.inl h, hi, n⟩
      · have h : b ∈ (U ++ r.U).map (·.1) := h
        rw [List.map_append, List.mem_append] at h
        rcases h with h | h
        · refine .inr (.inl ?_)
          show b ∈ (U ++ ([] : List (Addr × List D))).map (·.1)
          rw [List.append_nil]
          exact h
        · exact .inl ⟨.inr (.inl h), hi, n⟩
      · exact .inl ⟨.inr (.inr h), hi, n⟩
  have T : ∀ d v, bos avs = [] ∨ noL d = true → RD K Hf (Zw ((callee r W H avs).us U) Wf) d v → RD K Hf (Zw (r.us U) W) d v := fun d v hd h => by
    rcases hd with hd | hd
    · exact h.fewer fun b z => B b z fun ⟨i, hi, _⟩ => by rw [hd] at hi; cases hi
    · refine RD.monoT (fun b o e n z => ⟨e, fun y => ?_⟩) hd h
      by_cases hbo' : isBo avs W b
      · obtain ⟨i, hi, wi⟩ := hbo'
        obtain ⟨l, _, _, us, q, _⟩ := I.at wi
        have ni : ¬ isIo avs W b := fun ⟨m, hm, wm⟩ => by
          have := I.inj i m b wi wm
          subst this
          exact (List.nodup_append.mp nd).2.2 i hm i hi rfl
        have := A b _ q ni
        rw [e] at this
        cases this
        cases n
      · exact z (B b y hbo')
  have Ts : ∀ l us, bos avs = [] ∨ noLs l = true → RDs K Hf (Zw ((callee r W H avs).us U) Wf) l us → RDs K Hf (Zw (r.us U) W) l us := fun l us hd h => by
    have h1 := T (.tup l)
    induction l generalizing us with
    | nil =>
      rw [RDs] at h ⊢
      exact h
    | cons d l ih =>
      rw [RDs] at h ⊢
      obtain ⟨v, vr, rfl, q1, q2⟩ := h
      refine ⟨v, vr, rfl, T d v (hd.imp id fun z => ?_) q1, ih vr (hd.imp id fun z => ?_) q2 (T (.tup l))⟩
      · rw [noLs, Bool.and_eq_true] at z
        exact z.1
      · rw [noLs, Bool.and_eq_true] at z
        exact z.2
  have M : ∀ b o, H b = some o → ¬ Zw r W b → Hf b = some o ∧ ¬ Zw (r.us U) W b := fun b o e n => ⟨A b o e fun h => n (ioZ b h), fun h => by
    rcases h with h | h | h
    · exact n (.inl h)
    · have h : b ∈ (U ++ r.U).map (·.1) := h
      rw [List.map_append, List.mem_append] at h
      rcases h with h | h
      · obtain ⟨p, hp, rfl⟩ := List.mem_map.mp h
        rw [Unew p hp] at e
        cases e
      · exact n (.inr (.inl h))
    · exact n (.inr (.inr h))⟩
  refine ⟨⟨by rw [b1]; exact I.len, fun i s e => ?_, fun i a e => by rw [b1]; exact I.wlt i a e, I.inj, I.wok, fun i a e => ?_, fun i l e => ?_, fun p hp => ?_, ?_, fun p hp => (I.tok p hp).mono M, I.yok, fun a o e n => ?_⟩, T⟩
  · by_cases hi : i ∈ ios avs
    · obtain ⟨j, hj⟩ := mem_ios.mp hi
      obtain ⟨l, e1, e2⟩ := b3 j i hj
      obtain ⟨a, wa, ea, la⟩ := J.slot j _ e1
      have ewa : W i = some a := by
        have q := J.iop j l e1
        rw [wa] at q
        have q : ioAt avs W j = some a := q
        unfold ioAt at q
        rw [hj] at q
        exact q
      have la' : LstAt K Hf (Zw (r.us U) W) a l := let ⟨us, h1, h2⟩ := la; ⟨us, h1, Ts l us (hn.imp id fun z => outsNoL_at z.1 hj e1) h2⟩
      have eσ := I.early ewa
      rcases e2 with ⟨l0, _, e2⟩ | ⟨_, e2⟩
      · rw [e] at e2
        cases e2
        exact ⟨a, ewa, eσ, la'⟩
      · rw [e] at e2
        cases e2
        exact ⟨a, ewa, eσ, la'⟩
    · rw [b2 i hi] at e
      refine (I.slot i s e).mono M fun a wa us q => A a _ q fun ⟨m, hm, wm⟩ => ?_
      have := I.inj i m a wa wm
      subst this
      exact hi hm
  · obtain ⟨h1, l, h2⟩ := I.pok i a e
    refine ⟨h1, ?_⟩
    by_cases hi : i ∈ ios avs
    · obtain ⟨j, hj⟩ := mem_ios.mp hi
      obtain ⟨l', _, e2⟩ := b3 j i hj
      rcases e2 with ⟨l0, _, e2⟩ | ⟨n, _⟩
      · exact ⟨l', e2⟩
      · exact absurd h2 (n l)
    · exact ⟨l, by rw [b2 i hi]; exact h2⟩
  · by_cases hi : i ∈ ios avs
    · obtain ⟨j, hj⟩ := mem_ios.mp hi
      obtain ⟨l', _, e2⟩ := b3 j i hj
      rcases e2 with ⟨l0, h0, _⟩ | ⟨_, e2⟩
      · exact I.iop i l0 h0
      · rw [e] at e2
        cases e2
    · rw [b2 i hi] at e
      exact I.iop i l e
  · rcases List.mem_append.mp hp with hp' | hp'
    · obtain ⟨h1, h2, h3, us, h4, h5⟩ := J.uok p (List.mem_append_left _ hp')
      have hfr := I.fresh (Unew p hp')
      exact ⟨hfr.2, fun y => hfr.1 (.inl y), fun i wi => hfr.1 (.inr (.inr ⟨i, wi⟩)), us, h4, Ts p.2 us (hn.imp id fun z => z.2 p hp') h5⟩
    · obtain ⟨h1, h2, h3, h4⟩ := I.uok p hp'
      exact ⟨h1, h2, h3, h4.mono M fun us q => A _ _ q fun ⟨m, _, wm⟩ => h3 m wm⟩
  · show ((U ++ r.U).map (·.1)).Nodup
    rw [List.map_append]
    refine List.nodup_append.mpr ⟨?_, I.und, fun a h1 b h2 e => ?_⟩
    · have q : ((U ++ ([] : List (Addr × List D))).map (·.1)).Nodup := J.und
      rw [List.append_nil] at q
      exact q
    · obtain ⟨p, hp, rfl⟩ := List.mem_map.mp h1
      obtain ⟨p', hp', rfl⟩ := List.mem_map.mp h2
      obtain ⟨_, _, _, us, q, _⟩ := I.uok p' hp'
      rw [← e, Unew p hp] at q
      cases q
  · refine A a o (I.keep a o e n) fun ⟨m, _, wm⟩ => ?_
    rcases (I.wok m a wm).2 with q | q
    · exact n m q
    · have e' : r.H0 a = some o := e
      rw [q] at e'
      cases e'
end

/-! ### the call -/
inductive Rs where
  | d (d : D) | l (l : List D)
def callR (F : SS) (as : List Ar) (ss : List S) : Option (Rs × List S) := (arF as ss).bind fun p => if okA p.1 = true then (argS p.2 p.1).bind fun args => (F args).bind fun o => match o with
  | .rt d sf => if bos p.1 = [] ∨ (outsNoL p.1 sf = true ∧ noL d = true) then (backA p.1 sf p.2).bind fun s => some (.d d, s) else none
  | .nx sf => if bos p.1 = [] ∨ outsNoL p.1 sf = true then (backA p.1 sf p.2).bind fun s => some (.d .non, s) else none
  | .rl l sf => if bos p.1 = [] ∨ (outsNoL p.1 sf = true ∧ noLs l = true) then (backA p.1 sf p.2).bind fun s => some (.l l, s) else none
  | _ => none
  else none
def cCall (F : SS) (as : List Ar) : SE := fun ss => (callR F as ss).bind fun p => match p.1 with
  | .d d => some (d, p.2)
  | .l l => some (.lst l, p.2)
def cCallL (F : SS) (as : List Ar) : SL := fun ss => (callR F as ss).bind fun p => match p.1 with
  | .d _ => none
  | .l l => some (l, p.2)
section
variable {X : Cx} {k : Nat} {f : Addr} {fd : FuncData} {ps : List Str} {F : SS} {as : List Ar} {x : Str} {p pos : Pos} {e : Expr} {es : List Expr}
theorem argS_io {ss : List S} : ∀ {avs : List AV} {args : List S}, argS ss avs = some args → (∀ i ∈ ios avs, ∃ l, ownL ss[i]? = some l) ∧ ∀ i ∈ bos avs, ∃ l, ownL ss[i]? = some l
  | [], _, _ => ⟨(fun _ h => nomatch h), (fun _ h => nomatch h)⟩
  | .v d :: as, _, h => by
    obtain ⟨r, h1, rfl⟩ := map_some h
    exact argS_io (avs := as) h1
  | .io i :: as, _, h => by
    obtain ⟨l, h0, h⟩ := bind_some h
    obtain ⟨r, h1, rfl⟩ := map_some h
    refine ⟨fun m hm => ?_, (argS_io h1).2⟩
    rcases List.mem_cons.mp hm with rfl | hm
    · exact ⟨l, h0⟩
    · exact (argS_io h1).1 m hm
  | .bo i :: as, _, h => by
    obtain ⟨l, h0, h⟩ := bind_some h
    obtain ⟨r, h1, rfl⟩ := map_some h
    refine ⟨(argS_io h1).1, fun m hm => ?_⟩
    rcases List.mem_cons.mp hm with rfl | hm
    · exact ⟨l, h0⟩
    · exact (argS_io h1).2 m hm
/-- the promise of the callee gives what the caller wants -/
theorem call_run {K : PySem.W.Frag} {r : R} {W : Nat → Option Addr} {ss : List S} {σ : L2.St} {H : Hp} {avs : List AV} {vs : List V} {Q : VK} {E : XK} {args : List S} {o : Out} {n : Nat} (I : Rep K r W ss σ H) (ha : Paired (AOk K H (Zw r W) W) avs vs) (ok : okA avs = true) (hs : argS ss avs = some args)
    (hl : vs.length = n) (ef : F args = some o)
    (h : match o with
      | .rt d sf => ∃ s2, (bos avs = [] ∨ (outsNoL avs sf = true ∧ noL d = true)) ∧ backA avs sf ss = some s2 ∧ ∀ v H', Rep K r W s2 σ H' → RD K H' (Zw r W) d v → Q v H'
      | .nx sf => ∃ s2, (bos avs = [] ∨ outsNoL avs sf = true) ∧ backA avs sf ss = some s2 ∧ ∀ H', Rep K r W s2 σ H' → Q .non H'
      | .rl l sf => ∃ s2, (bos avs = [] ∨ (outsNoL avs sf = true ∧ noLs l = true)) ∧ backA avs sf ss = some s2 ∧ ∀ a H', Rep K (r.u a l) W s2 σ H' → Q (.ref a) H'
      | _ => False) : spF K n F vs H Q E := by
  obtain ⟨hio, hbo⟩ := argS_io hs
  refine ⟨_, _, args, o, hl, callee_in I ok ha hs, ef, ?_⟩
  cases o with
  | rt d sf =>
    obtain ⟨s2, h1, h2, h3⟩ := h
    intro v W' σ' H' J rv
    obtain ⟨q1, q2⟩ := callee_out (U := []) I ok hio hbo J h2 (h1.imp id fun z => ⟨z.1, (fun p hp => nomatch hp)⟩)
    exact h3 v H' q1 (q2 d v (h1.imp id fun z => z.2) rv)
  | nx sf =>
    obtain ⟨s2, h1, h2, h3⟩ := h
    intro W' σ' H' J
    exact h3 H' (callee_out (U := []) I ok hio hbo J h2 (h1.imp id fun z => ⟨z, (fun p hp => nomatch hp)⟩)).1
  | rl l sf =>
    obtain ⟨s2, h1, h2, h3⟩ := h
    intro a W' σ' H' J
    exact h3 a H' (callee_out (U := [(a, l)]) I ok hio hbo J h2 (h1.imp id fun z => ⟨z.1, fun p hp => by rw [List.mem_singleton.mp hp]; exact z.2⟩)).1
  | bk sf => exact h.elim
  | ct sf => exact h.elim
theorem callD_run {K : PySem.W.Frag} {E : XK} {n : Nat} (hn : as.length = n) : ∀ σ H Q, tF K (cCall F as) σ H Q → tCall (spF K n F) [] E (tFAr K as) σ H Q := fun σ H Q ⟨r, W, ss, I, d, ss', ef, q⟩ => by
  obtain ⟨pr, e0, eD⟩ := bind_some ef
  obtain ⟨pa, e1, e2⟩ := bind_some e0
  split at e2
  · rename_i hok
    obtain ⟨args, e3, e4⟩ := bind_some e2
    obtain ⟨o, e5, e6⟩ := bind_some e4
    refine ⟨r, W, ss, I, pa.1, pa.2, e1, fun vs H1 I1 ha => ?_⟩
    show spF K n F (vs ++ []) H1 Q E
    rw [List.append_nil]
    have hlen : vs.length = n := by
      have : ∀ {as : List Ar} {ss : List S} {p}, arF as ss = some p → p.1.length = as.length := by
        intro as
        induction as with
        | nil => intro ss p h; cases h; rfl
        | cons a as ih =>
          intro ss p h
          cases a with
          | e f =>
            obtain ⟨q, _, h⟩ := bind_some h
            obtain ⟨q2, h2, h⟩ := bind_some h
            cases h
            simp [ih h2]
          | io i =>
            obtain ⟨q, _, h⟩ := bind_some h
            obtain ⟨q2, h2, h⟩ := bind_some h
            cases h
            simp [ih h2]
          | bo i =>
            obtain ⟨q, _, h⟩ := bind_some h
            obtain ⟨q2, h2, h⟩ := bind_some h
            cases h
            simp [ih h2]
      rw [← ha.length, this e1, hn]
    refine call_run I1 ha hok e3 hlen e5 ?_
    cases o with
    | rt d0 sf =>
      dsimp only at e6
      split at e6
      · rename_i hb
        obtain ⟨s2, e7, e8⟩ := bind_some e6
        cases e8
        cases eD
        exact ⟨s2, hb, e7, q⟩
      · cases e6
    | nx sf =>
      dsimp only at e6
      split at e6
      · rename_i hb
        obtain ⟨s2, e7, e8⟩ := bind_some e6
        cases e8
        cases eD
        exact ⟨s2, hb, e7, fun H' J => q _ H' J rd_non⟩
      · cases e6
    | rl l sf =>
      dsimp only at e6
      split at e6
      · rename_i hb
        obtain ⟨s2, e7, e8⟩ := bind_some e6
        cases e8
        cases eD
        exact ⟨s2, hb, e7, fun a H' J => q _ H' J.freeze.1 J.freeze.2⟩
      · cases e6
    | bk sf => cases e6
    | ct sf => cases e6
  · cases e2
theorem callL_run {K : PySem.W.Frag} {E : XK} {n : Nat} (hn : as.length = n) : ∀ σ H Q, tFL K (cCallL F as) σ H Q → tCall (spF K n F) [] E (tFAr K as) σ H Q := fun σ H Q ⟨r, W, ss, I, d, ss', ef, q⟩ => by
  obtain ⟨pr, e0, eD⟩ := bind_some ef
  obtain ⟨pa, e1, e2⟩ := bind_some e0
  split at e2
  · rename_i hok
    obtain ⟨args, e3, e4⟩ := bind_some e2
    obtain ⟨o, e5, e6⟩ := bind_some e4
    refine ⟨r, W, ss, I, pa.1, pa.2, e1, fun vs H1 I1 ha => ?_⟩
    show spF K n F (vs ++ []) H1 Q E
    rw [List.append_nil]
    have hlen : vs.length = n := by
      have : ∀ {as : List Ar} {ss : List S} {p}, arF as ss = some p → p.1.length = as.length := by
        intro as
        induction as with
        | nil => intro ss p h; cases h; rfl
        | cons a as ih =>
          intro ss p h
          cases a with
          | e f =>
            obtain ⟨q, _, h⟩ := bind_some h
            obtain ⟨q2, h2, h⟩ := bind_some h
            cases h
            simp [ih h2]
          | io i =>
            obtain ⟨q, _, h⟩ := bind_some h
            obtain ⟨q2, h2, h⟩ := bind_some h
            cases h
            simp [ih h2]
          | bo i =>
            obtain ⟨q, _, h⟩ := bind_some h
            obtain ⟨q2, h2, h⟩ := bind_some h
            cases h
            simp [ih h2]
      rw [← ha.length, this e1, hn]
    refine call_run I1 ha hok e3 hlen e5 ?_
    cases o with
    | rt d0 sf =>
      dsimp only at e6
      split at e6
      · obtain ⟨s2, e7, e8⟩ := bind_some e6
        cases e8
        cases eD
      · cases e6
    | nx sf =>
      dsimp only at e6
      split at e6
      · obtain ⟨s2, e7, e8⟩ := bind_some e6
        cases e8
        cases eD
      · cases e6
    | rl l sf =>
      dsimp only at e6
      split at e6
      · rename_i hb
        obtain ⟨s2, e7, e8⟩ := bind_some e6
        cases e8
        cases eD
        exact ⟨s2, hb, e7, q⟩
      · cases e6
    | bk sf => cases e6
    | ct sf => cases e6
  · cases e2
variable (G : FnOk X.prog X.w X.K X.mg X.base CX0 k f fd ps (spF X.K ps.length F)) (hr : Room k X.A) (hg : Gl X x) (hm : X.mg x = some (.ref f)) (hk : PySem.W.keepIn X.K (.ref f) = true) (hb : Binds X.K fd ps [])
include G hr hg hm hk hb
theorem fe_call (ha : FAr X (e :: es) as) (hn : as.length = ps.length := by rfl) (hdb : (x == ("__debug__" : Str)) = false := by decide) (he : starEach (e :: es) X.env = (false, eval e X.env) :: starEach es X.env := by rfl) (hpl : (backTo pos (starEach es X.env)).any (·.1) = false := by rfl) :
    FE X (.Call (.Name x p) (e :: es) [] pos) (cCall F as) := ⟨(pe_call G hr hg hm hk hb .nil (pass0 (X := X)) ha.pa hdb he hpl).imp (callD_run hn)⟩
theorem fl_call (ha : FAr X (e :: es) as) (hn : as.length = ps.length := by rfl) (hdb : (x == ("__debug__" : Str)) = false := by decide) (he : starEach (e :: es) X.env = (false, eval e X.env) :: starEach es X.env := by rfl) (hpl : (backTo pos (starEach es X.env)).any (·.1) = false := by rfl) :
    FL X (.Call (.Name x p) (e :: es) [] pos) (cCallL F as) := ⟨(pe_call G hr hg hm hk hb .nil (pass0 (X := X)) ha.pa hdb he hpl).imp (callL_run hn)⟩
end
/-- a law: its function of the script's ints gives True -/
theorem law_sp {K : PySem.W.Frag} {F : SS} {H : Hp} {a : Addr} {ns : List Int} {s' : List S} (hO : Only H) (hS : SqL K H a (ns.map V.int)) (e : F [.val (.sls (ns.map D.int))] = some (.rt (.bl true) s')) :
    spF K 1 F [.ref a] H (fun v _ => v = .bl true) fun _ _ _ => False := by
  refine ⟨⟨H, fun _ => none, fun _ => False, [], []⟩, fun _ => none, _, _, rfl, ?_, e, fun v W σ H' I h => h.bl_inv⟩
  have z : ∀ b, ¬ Zw ⟨H, fun _ => none, fun _ => False, [], []⟩ (fun _ => none) b := fun b h => by
    rcases h with h | h | ⟨i, h⟩
    · exact h
    · cases h
    · cases h
  have rl : ∀ ns : List Int, RDs K H (Zw ⟨H, fun _ => none, fun _ => False, [], []⟩ fun _ => none) (ns.map D.int) (ns.map V.int) := by
    intro ns
    induction ns with
    | nil => exact RDs.nil
    | cons n ns ih => exact RDs.cons rd_int ih
  refine ⟨rfl, fun i s e => ?_, (fun i a e => nomatch e), (fun i j a e _ => nomatch e), (fun i a e => nomatch e), (fun i a e => nomatch e), fun i l e => rfl, (fun p hp => nomatch hp), List.nodup_nil, (fun p hp => nomatch hp), fun a y => False.elim y, fun a o e _ => e⟩
  cases i with
  | zero =>
    cases e
    refine ⟨rfl, .ref a, rfl, rd_sls ?_ (rl ns)⟩
    rcases hS with (h | ⟨o, h⟩) | h
    · exact .inl ⟨h, z a⟩
    · exact .inr (.inl ⟨o, h, z a⟩)
    · exact .inr (.inr h)
  | succ i => simp at e
end FD
/-! FD, part 9: operators whatever the kinds are; names; cuts; in; enumerate, zip; a, b = .. -/
namespace FD
open PySem PySem.Spec PyProof.Rows L2

/-! ### + and * of all kinds -/
def rAddX (K : PySem.W.Frag) : R2 := fun x y H Q => rAddAll K x y H Q ∨ rCat x y H Q
def gAddX (x y : D) : Option D := match gAdd x y with
  | some d => some d
  | none => (gCat x y).map D.lst
def rMulX (K : PySem.W.Frag) : R2 := fun x y H Q => rI CMulW (fun i j => .int (i * j)) x y H Q ∨ rRep x y H Q
def gMulX (x y : D) : Option D := match gMul x y with
  | some d => some d
  | none => (gRep x y).map D.lst
section
variable {X : Cx} (K : PySem.W.Frag)
theorem op_addX : OpR X (binaryOp .Add) (rAddX X.K) := op_addAll.or op_cat
theorem op_mulX : OpR X (binaryOp .Mult) (rMulX X.K) := op_mulW.or op_rep
theorem SoBL.frz {K : PySem.W.Frag} {g : D → D → Option (List D)} {rr : R2} (h : SoBL K g rr) : SoB K (fun x y => (g x y).map D.lst) rr := by
  intro r W ss σ H x y vx vy d Q I rx ry e q
  obtain ⟨l, e1, rfl⟩ := map_some e
  exact h r W ss σ H x y vx vy l Q I rx ry e1 fun a H' J => q _ _ J.freeze.1 J.freeze.2
theorem so_addX : SoB K gAddX (rAddX K) := by
  intro r W ss σ H x y vx vy d Q I rx ry e q
  unfold gAddX at e
  split at e
  · rename_i d' e1
    cases e
    exact .inl (so_add K r W ss σ H x y vx vy _ Q I rx ry e1 q)
  · exact .inr ((so_cat K).frz r W ss σ H x y vx vy d Q I rx ry e q)
theorem so_mulX : SoB K gMulX (rMulX K) := by
  intro r W ss σ H x y vx vy d Q I rx ry e q
  unfold gMulX at e
  split at e
  · rename_i d' e1
    cases e
    exact .inl (so_mul K r W ss σ H x y vx vy _ Q I rx ry e1 q)
  · exact .inr ((so_rep K).frz r W ss σ H x y vx vy d Q I rx ry e q)
end

/-! ### names -/
def cAny (i : Nat) : SV := fun ss => match ss[i]? with
  | some (.own l) => some (.lst l, ss)
  | some (.io l) => some (.lst l, ss)
  | some (.val (.lst l)) => some (.lst l, ss)
  | some (.val (.tup l)) => some (.tup l, ss)
  | some (.val (.sls l)) => some (.sls l, ss)
  | _ => none
section
variable {X : Cx} {a b e : Expr} {fa fb f : SE} {pos p : Pos} {x : Str}
theorem fv_any (i : Nat) (hN : X.N[i]? = some x := by rfl) (hv : Vis X.env.scope x := by first | exact Or.inl rfl | exact Or.inr (Or.inl rfl) | exact Or.inr (Or.inr rfl)) (hd : (x == ("__debug__" : Str)) = false := by decide)
    (hcd : (x == ("__classdict__" : Str)) = false := by decide) : FV X (.Name x pos) (cAny i) := ⟨(pe_var hN hv hd hcd).imp fun σ H Q ⟨r, W, ss, I, c, ss', ef, q⟩ => by
  unfold cAny at ef
  split at ef
  · rename_i l e1
    cases ef
    obtain ⟨a, _, ea, vs, h1, h2⟩ := I.slot i _ e1
    exact ⟨.ref a, ea, q _ H I ⟨a, vs, rfl, h1, h2⟩⟩
  · rename_i l e1
    cases ef
    obtain ⟨a, _, ea, vs, h1, h2⟩ := I.slot i _ e1
    exact ⟨.ref a, ea, q _ H I ⟨a, vs, rfl, h1, h2⟩⟩
  · rename_i l e1
    cases ef
    obtain ⟨_, v, ev, rv⟩ := I.slot i _ e1
    obtain ⟨a, vs, rfl, h1, h2⟩ := rv.lst_inv
    exact ⟨_, ev, q _ H I ⟨a, vs, rfl, h1.1, h2⟩⟩
  · rename_i l e1
    cases ef
    obtain ⟨_, v, ev, rv⟩ := I.slot i _ e1
    obtain ⟨a, vs, rfl, h1, h2⟩ := rv.tup_inv
    exact ⟨_, ev, q _ H I ⟨a, vs, rfl, h1, h2⟩⟩
  · rename_i l e1
    cases ef
    obtain ⟨_, v, ev, rv⟩ := I.slot i _ e1
    obtain ⟨a, vs, rfl, h1, h2⟩ := rv.sls_inv
    exact ⟨_, ev, q _ H I ⟨a, vs, rfl, h1.sq, h2⟩⟩
  · cases ef⟩
theorem FE.or {f1 f2 : SE} (h1 : FE X e f1) (h2 : FE X e f2) : FE X e (fun ss => match f1 ss with
    | some p => some p
    | none => f2 ss) := ⟨⟨fun pins s σ H Q I h => by
  obtain ⟨r, W, ss, I1, d, ss', ef, q⟩ := h
  dsimp only at ef
  split at ef
  · rename_i p e1
    cases ef
    exact h1.pe.run pins s σ H Q I ⟨r, W, ss, I1, _, _, e1, q⟩
  · exact h2.pe.run pins s σ H Q I ⟨r, W, ss, I1, d, ss', ef, q⟩⟩⟩
/-- x[b], x any name -/
def cIxA (i : Nat) (fb : SE) : SE := fun ss => match ss[i]? with
  | some (.val _) => cBin gIx (cVar i) fb ss
  | _ => cIxO i fb ss
theorem fe_ixA (i : Nat) (hb : FE X b fb) (hN : X.N[i]? = some x := by rfl) (hv : Vis X.env.scope x := by first | exact Or.inl rfl | exact Or.inr (Or.inl rfl) | exact Or.inr (Or.inr rfl)) (hs : PlainIx b := by exact fun _ _ => rfl)
    (hd : (x == ("__debug__" : Str)) = false := by decide) (hcd : (x == ("__classdict__" : Str)) = false := by decide) : FE X (.Subscript (.Name x p) b pos) (cIxA i fb) := ⟨⟨fun pins s σ H Q I h => by
  obtain ⟨r, W, ss, I1, d, ss', ef, q⟩ := h
  unfold cIxA at ef
  split at ef
  · exact (fe_ix (fe_var i hN hv hd hcd) hb hs).pe.run pins s σ H Q I ⟨r, W, ss, I1, d, ss', ef, q⟩
  · exact (fe_ixO i hb hN hv hs hd hcd).pe.run pins s σ H Q I ⟨r, W, ss, I1, d, ss', ef, q⟩⟩⟩

/-! ### cuts -/
abbrev SO := List S → Option (Option Int × List S)
def tFO (K : PySem.W.Frag) (f : SO) : TO := fun σ H Q => ∃ r W ss, Rep K r W ss σ H ∧ ∃ o ss', f ss = some (o, ss') ∧ ∀ H', Rep K r W ss' σ H' → Q o H'
structure FO (X : Cx) (e : Option Expr) (f : SO) : Prop where
  po : PO X e (tFO X.K f)
theorem _root_.L2.PO.imp {e : Option Expr} {t t' : TO} (h : PO X e t) (w : ∀ σ H Q, t' σ H Q → t σ H Q) : PO X e t' := ⟨fun pins s σ H Q I q => h.run pins s σ H Q I (w σ H Q q)⟩
def oNone : SO := fun ss => some (none, ss)
def oSome (f : SE) : SO := fun ss => (f ss).bind fun p => match p.1 with
  | .int i => some (some i, p.2)
  | _ => none
theorem fo_none : FO X none oNone := ⟨po_none.imp fun σ H Q ⟨r, W, ss, I, o, ss', e, q⟩ => by
  cases e
  exact q H I⟩
theorem fo_some (h : FE X e f) : FO X (some e) (oSome f) := ⟨(po_some h.pe).imp fun σ H Q ⟨r, W, ss, I, o, ss', ef, q⟩ => by
  obtain ⟨p, e1, e2⟩ := bind_some ef
  split at e2
  · rename_i i ei
    cases e2
    refine ⟨r, W, ss, I, p.1, p.2, e1, fun v H' J rv => ?_⟩
    rw [ei] at rv
    exact ⟨i, rv.int_inv, q H' J⟩
  · cases e2⟩
def cutD (l : List D) (lo hi : Option Int) : List D := (l.drop (HT.sIx l.length 0 lo)).take (HT.sIx l.length l.length hi - HT.sIx l.length 0 lo)
theorem cut_rd {K : PySem.W.Frag} {H : Hp} {Z : Zs} {l : List D} {vs : List V} (h : RDs K H Z l vs) (lo hi : Option Int) : RDs K H Z (cutD l lo hi) (cutV vs lo hi) := by
  unfold cutD cutV
  rw [h.length]
  exact RDs.of (pr_take _ (pr_drop _ h.p))
def rSlX (K : PySem.W.Frag) : V → Option Int → Option Int → Hp → VK → Prop := fun x lo hi H Q => rSlA K x lo hi H Q ∨ rSlL K x lo hi H Q
theorem sl_X : SlR X (rSlX X.K) := sl_tupA.or sl_list
variable {lo hi : Option Expr} {fl fh : SO} {p2 : Pos}
def cSl (f : SE) (fl fh : SO) : SE := fun ss => (f ss).bind fun p => (fl p.2).bind fun l => (fh l.2).bind fun h => match p.1 with
  | .tup m => some (.tup (cutD m l.1 h.1), h.2)
  | .lst m => some (.lst (cutD m l.1 h.1), h.2)
  | .sls m => some (.lst (cutD m l.1 h.1), h.2)
  | _ => none
def cSlL (f : SE) (fl fh : SO) : SL := fun ss => (f ss).bind fun p => (fl p.2).bind fun l => (fh l.2).bind fun h => match p.1 with
  | .lst m => some (cutD m l.1 h.1, h.2)
  | .sls m => some (cutD m l.1 h.1, h.2)
  | _ => none
theorem sIx_zero {n : Nat} {lo hi : Option Int} {l : List D} (hn : l.length = n) (h : HT.sIx n 0 lo = 0 ∧ HT.sIx n n hi = n) : cutD l lo hi = l := by
  unfold cutD
  rw [hn, h.1, h.2, List.drop_zero, ← hn]
  simp
theorem fe_slice (ha : FE X e f) (hl : FO X lo fl) (hh : FO X hi fh) : FE X (.Subscript e (.Slice lo hi none p2) pos) (cSl f fl fh) := ⟨(pe_slice sl_X ha.pe hl.po hh.po).imp fun σ H Q ⟨r, W, ss, I, d, ss', ef, q⟩ => by
  obtain ⟨pp, e1, ef⟩ := bind_some ef
  obtain ⟨pl, e2, ef⟩ := bind_some ef
  obtain ⟨ph, e3, ef⟩ := bind_some ef
  refine ⟨r, W, ss, I, pp.1, pp.2, e1, fun v H1 I1 r1 => ?_⟩
  refine ⟨r.t pp.1 v, W, pp.2, I1.hold r1, pl.1, pl.2, e2, fun H2 I2 => ?_⟩
  refine ⟨r.t pp.1 v, W, pl.2, I2, ph.1, ph.2, e3, fun H3 I3 => ?_⟩
  obtain ⟨I4, r4⟩ := I3.drop
  split at ef
  · rename_i m em
    cases ef
    rw [em] at r4
    obtain ⟨a, vs, rfl, h1, h2⟩ := r4.tup_inv
    refine .inl ⟨a, vs, rfl, h1.sq, fun hw => ?_, fun hw b nb => ?_⟩
    · rw [sIx_zero h2.length hw] at q
      exact q _ _ I4 (rd_tup h1 h2)
    · obtain ⟨J, h⟩ := I4.newTup nb (cut_rd h2 pl.1 ph.1)
      exact q _ _ J h
  · rename_i m em
    cases ef
    rw [em] at r4
    obtain ⟨a, vs, rfl, h1, h2⟩ := r4.lst_inv
    refine .inr ⟨a, vs, rfl, h1.sq, fun b nb => ?_⟩
    have J := (I4.newLst nb (cut_rd h2 pl.1 ph.1)).freeze
    exact q _ _ J.1 J.2
  · rename_i m em
    cases ef
    rw [em] at r4
    obtain ⟨a, vs, rfl, h1, h2⟩ := r4.sls_inv
    refine .inr ⟨a, vs, rfl, h1.sq, fun b nb => ?_⟩
    have J := (I4.newLst nb (cut_rd h2 pl.1 ph.1)).freeze
    exact q _ _ J.1 J.2
  · cases ef⟩
theorem fl_slice (ha : FE X e f) (hl : FO X lo fl) (hh : FO X hi fh) : FL X (.Subscript e (.Slice lo hi none p2) pos) (cSlL f fl fh) := ⟨(pe_slice sl_X ha.pe hl.po hh.po).imp fun σ H Q ⟨r, W, ss, I, d, ss', ef, q⟩ => by
  obtain ⟨pp, e1, ef⟩ := bind_some ef
  obtain ⟨pl, e2, ef⟩ := bind_some ef
  obtain ⟨ph, e3, ef⟩ := bind_some ef
  refine ⟨r, W, ss, I, pp.1, pp.2, e1, fun v H1 I1 r1 => ?_⟩
  refine ⟨r.t pp.1 v, W, pp.2, I1.hold r1, pl.1, pl.2, e2, fun H2 I2 => ?_⟩
  refine ⟨r.t pp.1 v, W, pl.2, I2, ph.1, ph.2, e3, fun H3 I3 => ?_⟩
  obtain ⟨I4, r4⟩ := I3.drop
  split at ef
  · rename_i m em
    cases ef
    rw [em] at r4
    obtain ⟨a, vs, rfl, h1, h2⟩ := r4.lst_inv
    exact .inr ⟨a, vs, rfl, h1.sq, fun b nb => q _ _ (I4.newLst nb (cut_rd h2 pl.1 ph.1))⟩
  · rename_i m em
    cases ef
    rw [em] at r4
    obtain ⟨a, vs, rfl, h1, h2⟩ := r4.sls_inv
    exact .inr ⟨a, vs, rfl, h1.sq, fun b nb => q _ _ (I4.newLst nb (cut_rd h2 pl.1 ph.1))⟩
  · cases ef⟩
end

/-! ### in, not in: flat things -/
def flatD : D → Bool
  | .non => true
  | .bl _ => true
  | .int _ => true
  | .str _ => true
  | _ => false
def eqD : D → D → Bool
  | .non, .non => true
  | .bl a, .bl b => a == b
  | .int a, .int b => a == b
  | .str a, .str b => a == b
  | .int a, .bl b => a == b2i b
  | .bl a, .int b => b2i a == b
  | _, _ => false
def gIn (x y : D) : Option Bool := (itemsD y).bind fun l => if flatD x = true ∧ l.all flatD = true then some (l.any fun z => eqD z x) else none
def gNotIn (x y : D) : Option Bool := (gIn x y).map fun b => !b
def rInB (K : PySem.W.Frag) : R2 := rIn K false
section
variable {K : PySem.W.Frag} {H : Hp} {Z : Zs}
theorem flat_v {d : D} {v : V} (h : RD K H Z d v) (f : flatD d = true) : flatV v = true := by
  cases d with
  | non => rw [h.non_inv]; rfl
  | bl _ => rw [h.bl_inv]; rfl
  | int _ => rw [h.int_inv]; rfl
  | str _ => rw [h.str_inv]; rfl
  | tup _ => cases f
  | lst _ => cases f
  | sls _ => cases f
theorem flat_vs : ∀ {l : List D} {vs : List V}, RDs K H Z l vs → l.all flatD = true → vs.all flatV = true
  | [], _, h, _ => by rw [RDs] at h; subst h; rfl
  | d :: l, _, h, f => by
    rw [RDs] at h
    obtain ⟨v, r, rfl, h1, h2⟩ := h
    rw [List.all_cons, Bool.and_eq_true] at f ⊢
    exact ⟨flat_v h1 f.1, flat_vs h2 f.2⟩
theorem eqV_D {d e : D} {v u : V} (h : RD K H Z d v) (h' : RD K H Z e u) (f : flatD d = true) (f' : flatD e = true) : eqV v u = eqD d e := by
  cases d <;> first | (cases f; done) | skip
  all_goals cases e <;> first | (cases f'; done) | skip
  all_goals first
    | rw [h.non_inv]
    | rw [h.bl_inv]
    | rw [h.int_inv]
    | rw [h.str_inv]
  all_goals first
    | rw [h'.non_inv]
    | rw [h'.bl_inv]
    | rw [h'.int_inv]
    | rw [h'.str_inv]
  all_goals rfl
theorem inV_D {d : D} {v : V} (h : RD K H Z d v) (f : flatD d = true) : ∀ {l : List D} {vs : List V}, RDs K H Z l vs → l.all flatD = true → inV v vs = l.any fun z => eqD z d
  | [], _, r, _ => by rw [RDs] at r; subst r; rfl
  | e :: l, _, r, g => by
    rw [RDs] at r
    obtain ⟨u, us, rfl, h1, h2⟩ := r
    rw [List.all_cons, Bool.and_eq_true] at g
    have q := inV_D h f h2 g.2
    unfold inV at q ⊢
    rw [List.any_cons, List.any_cons, q, eqV_D h1 h g.1 f]
theorem itemsD_seq {y : D} {l : List D} {v : V} (h : RD K H Z y v) (e : itemsD y = some l) : ∃ a vs, v = .ref a ∧ (SqL K H a vs ∨ SqT K H a vs) ∧ RDs K H Z l vs := by
  cases y with
  | tup m =>
    cases e
    obtain ⟨a, vs, e, p, r⟩ := h.tup_inv
    exact ⟨a, vs, e, .inr p.sq, r⟩
  | lst m =>
    cases e
    obtain ⟨a, vs, e, p, r⟩ := h.lst_inv
    exact ⟨a, vs, e, .inl p.sq, r⟩
  | sls m =>
    cases e
    obtain ⟨a, vs, e, p, r⟩ := h.sls_inv
    exact ⟨a, vs, e, .inl p.sq, r⟩
  | non => cases e
  | bl _ => cases e
  | int _ => cases e
  | str _ => cases e
theorem so_in : SoBT K gIn (rIn K false) := by
  intro r W ss σ H x y vx vy b Q I rx ry e q
  obtain ⟨l, e1, e2⟩ := bind_some e
  split at e2
  · rename_i h
    cases e2
    obtain ⟨a, vs, rfl, h1, h2⟩ := itemsD_seq ry e1
    refine ⟨a, vs, rfl, h1, flat_v rx h.1, flat_vs h2 h.2, ?_⟩
    show Q (.bl (inV vx vs)) H
    rw [inV_D rx h.1 h2 h.2]
    exact q
  · cases e2
theorem so_notIn : SoBT K gNotIn (rIn K true) := by
  intro r W ss σ H x y vx vy b Q I rx ry e q
  obtain ⟨b', e0, rfl⟩ := map_some e
  obtain ⟨l, e1, e2⟩ := bind_some e0
  split at e2
  · rename_i h
    cases e2
    obtain ⟨a, vs, rfl, h1, h2⟩ := itemsD_seq ry e1
    refine ⟨a, vs, rfl, h1, flat_v rx h.1, flat_vs h2 h.2, ?_⟩
    show Q (.bl (!inV vx vs)) H
    rw [inV_D rx h.1 h2 h.2]
    exact q
  · cases e2
end

/-! ### a, b = x, y -/
section
variable {X : Cx} {a b : Expr} {g : SL}
def sPar (i j : Nat) (f : SL) : SS := fun ss => (f ss).bind fun p => match p.1 with
  | [d, e] => if okSet p.2[i]? = true ∧ okSet p.2[j]? = true then some (.nx ((p.2.set i (.val d)).set j (.val e))) else none
  | _ => none
theorem fs_par (i j : Nat) {x y : Str} {px py pt pos : Pos} {kt k2 pt2} (hc : X.calm = true) (hN : X.N.Nodup) (ha : FA X [a, b] g) (hw : swappedStores [.Tuple [.Name x px, .Name y py] kt pt] (.Tuple [a, b] k2 pt2) X.env = pure (some [x, y]))
    (hi : X.N[i]? = some x := by rfl) (hj : X.N[j]? = some y := by rfl) (hij : i ≠ j := by decide)
    (hx : X.env.scope.names.lookup x = some .local := by rfl) (hy : X.env.scope.names.lookup y = some .local := by rfl)
    (hs : swapsWithSole [.Tuple [.Name x px, .Name y py] kt pt] (.Tuple [a, b] k2 pt2) pos.line X.env = pure false := by rfl) :
    FS X (.Assign [.Tuple [.Name x px, .Name y py] kt pt] (.Tuple [a, b] k2 pt2) pos) (sPar i j g) := ⟨(ps_par hc hN hi hj hij hx hy ha.pa hw hs).imp fun D σ H ⟨r, W, ss, I, o, e, q⟩ => by
  obtain ⟨p, e1, e2⟩ := bind_some e
  split at e2
  · rename_i d1 d2 ed
    split at e2
    · rename_i hk
      cases e2
      refine ⟨r, W, ss, I, p.1, p.2, e1, fun vs H1 I1 r1 => ?_⟩
      rw [ed] at r1
      obtain ⟨v, u, rfl, q1, q2⟩ := rds_2 r1
      refine ⟨v, u, rfl, q _ _ _ ((I1.setVal (okSet_no hk.1).1 q1).setVal (fun l el => ?_) (q2.fewer Zw_none))⟩
      rw [List.getElem?_set_ne hij] at el
      exact (okSet_no hk.2).1 l el
    · cases e2
  · cases e2⟩
end

end FD
/-! FD, part 10: enumerate, zip. -/
namespace FD
open PySem PySem.Spec PyProof.Rows L2

/-! ### enumerate of a tuple -/
theorem meets_enumerate_newT (l : Addr) (items : Array Value) :
    Meets (Builtin.«enumerate.__new__» ⟨[.type "enumerate", .ref l], []⟩) (fun _ R s => s.heap.IsTuple l items ∧
      R (.ok (.ret (.ref (s.heap.push { cls := .type "tuple_iterator", data := .fields #[.ref l, .int 0 0] }).objs.size)))
        { s with heap := (s.heap.push { cls := .type "tuple_iterator", data := .fields #[.ref l, .int 0 0] }).push { cls := .type "enumerate", data := .fields #[.none, .bool false, .ref s.heap.objs.size, rawInt 0, .none, .none] } }) :=
  .of_wp fun prog w A R s h => by
    obtain ⟨hp, g, d, tk, os⟩ := s; obtain ⟨hL, h⟩ := h
    have hsub := sub_enumerate
    obtain ⟨ob, hl, hc, n, hd⟩ := id hL
    wp_walk using AutoSeq1.wpAny_loadPart' hl
    refine wpAny_stack_any fun st => wpAny_pure ?_
    split
    · rename_i c _ _ _ _ _
      cases (c == Value.type "enumerate")
      · wp_walk using AutoSeq1.wpAny_loadPart' hl, wpAny_pyIter_tuple hL
        exact ⟨_, rfl, h⟩
      · wp_walk using AutoSeq1.wpAny_loadPart' hl, wpAny_pyIter_tuple hL
        exact ⟨_, rfl, h⟩
    · wp_walk using AutoSeq1.wpAny_loadPart' hl, wpAny_pyIter_tuple hL
      exact ⟨_, rfl, h⟩

theorem call_enumerate_tuple {prog : Program} {w : World} {A : Around} {E : Value → Shared → Prop} {s : Shared} {l : Addr} {items : Array Value} {Q : Value → Shared → Prop} (hL : s.heap.IsTuple l items)
    (h : ∀ h', IsEnum h' (s.heap.objs.size + 1) s.heap.objs.size 0 .none → h'.IsTupleIter s.heap.objs.size l 0 → h'.objs.size = s.heap.objs.size + 2 →
      (∀ b o, s.heap.get? b = some o → h'.get? b = some o) → Q (.ref (s.heap.objs.size + 1)) { s with heap := h' }) :
    wpAny (model prog w) A (call (.type "enumerate") [.ref l]) Q E s := by
  refine callType_new F.called_enumerate (by decide) (F.typeCall_enumerate_1 _) (F.newCall_enumerate_1 _) (fun obj => F.args_object_init_2 obj _) F.entry_enumerate_new
    (meets_enumerate_newT l items) ⟨hL, ?_⟩
  have hz : (s.heap.push { cls := .type "tuple_iterator", data := .fields #[.ref l, .int 0 0] }).objs.size = s.heap.objs.size + 1 := Heap.size_push ..
  show _ ∧ _
  rw [hz]
  have he : IsEnum ((s.heap.push { cls := .type "tuple_iterator", data := .fields #[.ref l, .int 0 0] }).push
      { cls := .type "enumerate", data := .fields #[.none, .bool false, .ref s.heap.objs.size, rawInt 0, .none, .none] }) (s.heap.objs.size + 1) s.heap.objs.size 0 .none := by
    have := Heap.get?_push_size (s.heap.push { cls := .type "tuple_iterator", data := .fields #[.ref l, .int 0 0] })
      (o := { cls := .type "enumerate", data := .fields #[.none, .bool false, .ref s.heap.objs.size, rawInt 0, .none, .none] }) rfl
    rw [hz] at this; exact this
  refine ⟨⟨_, he, rfl⟩, h _ he ⟨_, Heap.get?_push_of_some _ (Heap.get?_push_size _ rfl), rfl, rfl⟩ (by rw [Heap.size_push, hz]) fun b o x => Heap.get?_push_of_some _ (Heap.get?_push_of_some _ x)⟩
def IteT (K : PySem.W.Frag) (a : Addr) : It :=
  ⟨fun i H => ∃ (xs : List V) (x : V), SqT K H a xs ∧ xs[i]? = some x, fun i H v H' => ∃ T x, v = .ref T ∧ H T = none ∧ H' = upd H T (.tup [.int (i : Nat), x]) ∧ ∀ xs, SqT K H a xs → xs[i]? = some x, fun i H => ∃ xs : List V, SqT K H a xs ∧ xs.length ≤ i⟩
theorem turn_enumT {P : Program} {w : World} {K : PySem.W.Frag} {elts : List Expr} {kk : Nat} {tpos : Pos} (a e it : Addr) (hia : a ≠ it) :
    Turn P w K (.Tuple elts kk tpos) (IteT K a) [e, it] e (fun i h => (∃ old, IsEnum h e it ((i : Nat) : Int) old) ∧ h.IsTupleIter it a i ∧ e ≠ it ∧ a ≠ e) where
  mem := by simp
  obj := fun i h st b hb => by
    obtain ⟨⟨old, he⟩, ⟨o, ho, hc, hd⟩, _⟩ := st
    have e' : b = e ∨ b = it := by simpa using hb
    rcases e' with z | z
    · rw [z]; exact ⟨_, he, fun v q => nomatch q⟩
    · rw [z]; exact ⟨o, ho, fun v q => by rw [hd] at q; cases q⟩
  keep := fun i h h' st k => let ⟨⟨old, he⟩, hi, hne⟩ := st; ⟨⟨old, k e (by simp) _ he⟩, hi.at fun o q => k it (by simp) o q, hne⟩
  item := by
    intro X hP hw hK hc i pins s σ H E I hf st hg
    subst hP hw hK
    obtain ⟨⟨old, he⟩, hit, hne, hae⟩ := st
    obtain ⟨xs, x, hq, hx⟩ := hg
    obtain ⟨its, rv, p, hz⟩ := I.tuple hq
    obtain ⟨u, hu, ru⟩ := rv.get hx
    have hel : e < s.heap.objs.size := Heap.lt_size he
    have hil : it < s.heap.objs.size := by obtain ⟨_, q, _⟩ := hit; exact Heap.lt_size q
    have hi : i < its.length := (List.getElem?_eq_some_iff.mp hu).1
    refine wpAny_pyNext_enum_itemD (Draws.tuple (prog := X.prog) (w := X.w) (A := X.A.in1) (show X.A.in1.handled = none from I.ok.hd hc) it a hia its.toArray) he ⟨hit, p⟩ (by simpa using hi) hne (by simp [hne, Ne.symm hae]) fun x' h' tk hx' ho hit' hT hsz hk => ?_
    have ex : x' = u := by
      have q : its.toArray[i]? = some u := by simpa using hu
      rw [q] at hx'
      exact (Option.some.inj hx').symm
    subst ex
    refine ⟨_, rfl, wpAny_letOwnedTupleGo_enum (s := { s with heap := h', toks := tk + 1 }) ho fun h'' he' sb => ?_⟩
    have hT2 : h''.get? s.heap.objs.size = some { cls := .type "tuple", data := .seq #[.int i tk, x'] } := (sb.2 _ (Nat.ne_of_gt hel)).trans hT
    have new : ObjOk X.prog X.w (upd H s.heap.objs.size (.tup [.int (i : Nat), x])) h'' s.heap.objs.size (.tup [.int (i : Nat), x]) :=
      ⟨by show 2 ≤ sizeLine; decide, [.int i tk, x'], .cons ⟨_, rfl⟩ (.cons ru .nil), ⟨_, hT2, rfl, _, rfl⟩⟩
    have I1 : Inv X pins σ (upd H s.heap.objs.size (.tup [.int (i : Nat), x])) { s with heap := h'', toks := tk + 1 } :=
      I.turnedNew (ch := [e, it]) (fun b ob hb q => (sb.2 b (fun z => hb (by simp [z]))).trans (hk b ob (fun z => hb (by simp [z])) (fun z => hb (by simp [z])) q)) hf (Nat.le_refl _) new
    refine ⟨.ref s.heap.objs.size, _, I1, rfl, ⟨_, x, rfl, I.hok.fresh (Nat.le_refl _), rfl, fun ys hy => by rw [I.tuple_inj hy hq]; exact hx⟩, ⟨⟨x', ?_⟩, hit'.1.at fun o q => (sb.2 it (Ne.symm hne)).trans q, hne, hae⟩, fun b hb => ?_⟩
    · have e1 : ((i + 1 : Nat) : Int) = (i : Int) + 1 := by omega
      rw [e1]; exact he'
    · have hb' : b < s.heap.objs.size := by
        have e' : b = e ∨ b = it := by simpa using hb
        rcases e' with z | z
        · rw [z]; exact hel
        · rw [z]; exact hil
      rw [upd_ne (Nat.ne_of_lt hb')]
      exact (hf b hb).1
  done := by
    intro X hP hw hK hc i pins s σ H E I hf st hg
    subst hP hw hK
    obtain ⟨⟨old, he⟩, hit, hne, hae⟩ := st
    obtain ⟨xs, hq, hx⟩ := hg
    obtain ⟨its, rv, p, hz⟩ := I.tuple hq
    obtain ⟨f0, f1, f2, f3, f4, f5⟩ := hf it (by simp)
    have hl := rv.length
    have hT : s.TypeIs (.ref e) "enumerate" := ⟨_, he, rfl⟩
    unfold pyNext
    refine wpAny_bind (wpAny_attempt (wpAny_callSpecial?_slot (name := Str.ofString "__next__") hT F.slot_enumerate_next
      (wpAny_call_entry F.slot_enumerate_next hT F.entry_enumerate_next ?_ (F.args_enumerate_next_1 _))))
    show wpAny _ _ (field (.ref e) 2 >>= _) _ _ _
    refine wpAny_bind (wpAny_field he rfl (x := .ref it) rfl ?_)
    refine wpAny_bind (wpAny_nextOf_tuple_end (show X.A.in1.handled = none from I.ok.hd hc) hit p (by simp; omega) fun h' x he' hx' => ?_)
    obtain ⟨o, ho, hc'⟩ := hx'
    refine wpAny_bind (wpAny_isInstance (T := "StopIteration") (b := true) ⟨o, ho, hc'⟩ isSubtype_stop ?_)
    exact wpAny_pure ⟨rfl, I.turned (t' := s.toks) (fun b o hb q => he' b o hb q) f0 f1 f3 f4 f5⟩
  self := fun A i s Q E st h => let ⟨⟨_, he⟩, _⟩ := st; wpAny_pyIter_enum he h
def iEnumA (K : PySem.W.Frag) (ta : TA) : TI := fun σ H R => ta σ H fun vs H1 => ∃ a, vs = [.ref a] ∧ ((∃ xs, SqL K H1 a xs) ∧ R (Ite K a) H1 ∨ (∃ xs, SqT K H1 a xs) ∧ R (IteT K a) H1)
theorem pi_enumA {X : Cx} {e : Expr} {ta : TA} {p pos tpos : Pos} {elts : List Expr} {kk : Nat} (hg : Gl X "enumerate") (hm : X.mg "enumerate" = none) (ha : PA X [e] ta) (hs : starEach [e] X.env = [(false, eval e X.env)] := by rfl) :
    PI X (.Tuple elts kk tpos) (.Call (.Name "enumerate" p) [e] [] pos) (iEnumA X.K ta) := by
  refine ⟨fun pins s σ H R I h => ?_⟩
  refine Call_ (ld_blt I hg hm boot_enumerate (PyProof.Rows.callWith_type1 (thn (ha.run pos pins s σ H _ I h) fun us s1 ⟨vs, H1, I1, r1, q1⟩ => ?_) hs rfl))
  obtain ⟨a, ex, q1⟩ := q1
  subst ex
  cases r1 with
  | cons r rr =>
    cases rr
    cases r
    rcases q1 with ⟨⟨xs, hq⟩, q⟩ | ⟨⟨xs, hq⟩, q⟩
    · obtain ⟨its, rv, p', hz⟩ := I1.list hq
      refine call_enumerate_list p'.isList fun h' he hit hsz hk => wpAny_pyIter_enum he ?_
      have I2 : Inv X pins σ H1 { s1 with heap := h' } := I1.kept (t' := s1.toks) hk
      refine ⟨s1.heap.objs.size + 1, [s1.heap.objs.size + 1, s1.heap.objs.size], _, _, H1, rfl, I2, turn_enum a (s1.heap.objs.size + 1) s1.heap.objs.size, ⟨⟨.none, he⟩, hit, Nat.succ_ne_self _⟩, fun b hb => ?_, q⟩
      have e' : b = s1.heap.objs.size + 1 ∨ b = s1.heap.objs.size := by simpa using hb
      have hle : s1.heap.objs.size ≤ b := by
        rcases e' with z | z <;> rw [z]
        · exact Nat.le_succ _
        · exact Nat.le_refl _
      have hf := I1.fpOk hle (I1.hok.fresh hle)
      exact hf
    · obtain ⟨its, rv, p', hz⟩ := I1.tuple hq
      have hal : a < s1.heap.objs.size := by obtain ⟨o, ho, _⟩ := p'; exact Heap.lt_size ho
      refine call_enumerate_tuple (show s1.heap.IsTuple a its.toArray from p') fun h' he hit hsz hk => wpAny_pyIter_enum he ?_
      have I2 : Inv X pins σ H1 { s1 with heap := h' } := I1.kept (t' := s1.toks) hk
      refine ⟨s1.heap.objs.size + 1, [s1.heap.objs.size + 1, s1.heap.objs.size], _, _, H1, rfl, I2, turn_enumT a (s1.heap.objs.size + 1) s1.heap.objs.size (Nat.ne_of_lt hal), ⟨⟨.none, he⟩, hit, Nat.succ_ne_self _, Nat.ne_of_lt (Nat.lt_succ_of_lt hal)⟩, fun b hb => ?_, q⟩
      have e' : b = s1.heap.objs.size + 1 ∨ b = s1.heap.objs.size := by simpa using hb
      have hle : s1.heap.objs.size ≤ b := by
        rcases e' with z | z <;> rw [z]
        · exact Nat.le_succ _
        · exact Nat.le_refl _
      have hf := I1.fpOk hle (I1.hok.fresh hle)
      exact hf
/-- pairs of a number and an item -/
def numD (i : Int) : List D → List D
  | [] => []
  | d :: l => .tup [.int i, d] :: numD (i + 1) l
theorem numD_length : ∀ (l : List D) (i : Int), (numD i l).length = l.length
  | [], _ => rfl
  | d :: l, i => by rw [numD, List.length_cons, List.length_cons, numD_length l]
theorem numD_get : ∀ (l : List D) (i : Int) (k : Nat) (d : D), l[k]? = some d → (numD i l)[k]? = some (.tup [.int (i + k), d])
  | [], _, _, _, h => by simp at h
  | e :: l, i, 0, d, h => by
    rw [numD]
    simp at h ⊢
    exact h
  | e :: l, i, k + 1, d, h => by
    rw [numD, List.getElem?_cons_succ, numD_get l (i + 1) k d (by simpa using h)]
    have e : i + 1 + (k : Int) = i + ((k + 1 : Nat) : Int) := by omega
    rw [e]
def iEnum' (f : SE) : SL := fun ss => (f ss).bind fun p => (itemsD p.1).map fun l => (numD 0 l, p.2)
theorem new_pair {K : PySem.W.Frag} {r : R} {W : Nat → Option Addr} {ss : List S} {σ : L2.St} {H : Hp} {T : Addr} {d e : D} {v u : V} (I : Rep K r W ss σ H) (hT : H T = none) (h1 : RD K H (Zw r W) d v) (h2 : RD K H (Zw r W) e u) :
    Rep K r W ss σ (upd H T (.tup [v, u])) ∧ RD K (upd H T (.tup [v, u])) (Zw r W) (.tup [d, e]) (.ref T) := I.newTup hT (RDs.cons h1 (RDs.cons h2 RDs.nil))
theorem fi_enum {X : Cx} {e : Expr} {f : SE} {p pos tpos : Pos} {elts : List Expr} {kk : Nat} (hg : Gl X "enumerate") (hm : X.mg "enumerate" = none) (ha : FE X e f) (hs : starEach [e] X.env = [(false, eval e X.env)] := by rfl) :
    FI X (.Tuple elts kk tpos) (.Call (.Name "enumerate" p) [e] [] pos) (iEnum' f) := ⟨(pi_enumA hg hm (pa_cons ha.pe pa_nil (by rw [hs]; rfl)) hs).imp fun σ H Rr ⟨r, W, ss, I, l, ss', ef, q⟩ => by
  obtain ⟨pp, e1, e2⟩ := bind_some ef
  obtain ⟨l', e3, e4⟩ := map_some e2
  cases e4
  refine ⟨r, W, ss, I, pp.1, pp.2, e1, fun v H1 I1 r1 => ?_⟩
  have T1 : Rep X.K (r.ts [(pp.1, v)]) W pp.2 σ H1 := I1.holds fun q hq => by
    obtain rfl := List.mem_singleton.mp hq
    exact r1
  have held : ∀ {r' W' ss' σ' H'}, (∀ q ∈ [(pp.1, v)], q ∈ r'.T) → Rep X.K r' W' ss' σ' H' → RD X.K H' (Zw r' W') pp.1 v := fun hT I' => I'.tok _ (hT _ List.mem_cons_self)
  obtain ⟨a, vs, ev, hseq, rl⟩ := itemsD_seq r1 e3
  subst ev
  refine ⟨a, rfl, ?_⟩
  have turnL : ∀ (r' : R) (W' : Nat → Option Addr) (s' : List S) (σ' : L2.St) (H' : Hp), (∀ q ∈ [(pp.1, V.ref a)], q ∈ r'.T) → Rep X.K r' W' s' σ' H' → ∃ us, (SqL X.K H' a us ∨ SqT X.K H' a us) ∧ RDs X.K H' (Zw r' W') l' us := fun r' W' s' σ' H' hT I' => by
    obtain ⟨a', us, ea, h1, h2⟩ := itemsD_seq (held hT I') e3
    cases ea
    exact ⟨us, h1, h2⟩
  have isT : (∃ m, pp.1 = .tup m) ∨ ¬ ∃ m, pp.1 = .tup m := Classical.em _
  rcases isT with ⟨m, em⟩ | nT
  · rw [em] at e3 r1
    cases e3
    obtain ⟨a', us, ea, p1, rl1⟩ := r1.tup_inv
    cases ea
    refine .inr ⟨⟨us, p1.sq⟩, q _ _ _ T1 ?_⟩
    intro r' W' s' σ' H' hT I' i
    obtain ⟨a', us', ea, p2, rl2⟩ := (show RD X.K H' (Zw r' W') (.tup _) (.ref a) by rw [← em]; exact held hT I').tup_inv
    cases ea
    rw [numD_length]
    refine ⟨fun hi => ?_, fun hi => ⟨us', p2.sq, by rw [← rl2.length]; omega⟩⟩
    obtain ⟨v, h1, h2⟩ := pr_get rl2.p (List.getElem?_eq_getElem hi)
    refine ⟨⟨us', v, p2.sq, h1⟩, fun x H'' ⟨T, y, e1, e2, e3, e4⟩ => ?_⟩
    subst e1 e3
    have := e4 us' p2.sq
    rw [h1] at this
    cases this
    obtain ⟨J1, J2⟩ := new_pair I' e2 (rd_int (i := (i : Int))) h2
    refine ⟨_, numD_get l' 0 i _ (List.getElem?_eq_getElem hi), J1, ?_⟩
    rw [Int.zero_add]
    exact J2
  · have pl : ∀ {r' W' s' σ' H'}, (∀ q ∈ [(pp.1, V.ref a)], q ∈ r'.T) → Rep X.K r' W' s' σ' H' → ∃ us, SqL X.K H' a us ∧ RDs X.K H' (Zw r' W') l' us := fun {r' W' s' σ' H'} hT I' => by
      have h := held hT I'
      cases hd : pp.1 with
      | tup m => exact absurd ⟨m, hd⟩ nT
      | lst m =>
        rw [hd] at h e3
        cases e3
        obtain ⟨a', us, ea, p, r⟩ := h.lst_inv
        cases ea
        exact ⟨us, p.sq, r⟩
      | sls m =>
        rw [hd] at h e3
        cases e3
        obtain ⟨a', us, ea, p, r⟩ := h.sls_inv
        cases ea
        exact ⟨us, p.sq, r⟩
      | non => rw [hd] at e3; cases e3
      | bl _ => rw [hd] at e3; cases e3
      | int _ => rw [hd] at e3; cases e3
      | str _ => rw [hd] at e3; cases e3
    obtain ⟨us0, p0, _⟩ := pl (fun q hq => List.mem_append_left _ hq) T1
    refine .inl ⟨⟨us0, p0⟩, q _ _ _ T1 ?_⟩
    intro r' W' s' σ' H' hT I' i
    obtain ⟨us', p2, rl2⟩ := pl hT I'
    rw [numD_length]
    refine ⟨fun hi => ?_, fun hi => ⟨us', p2, by rw [← rl2.length]; omega⟩⟩
    obtain ⟨v, h1, h2⟩ := pr_get rl2.p (List.getElem?_eq_getElem hi)
    refine ⟨⟨us', v, p2, h1⟩, fun x H'' ⟨T, y, e1, e2, e3, e4⟩ => ?_⟩
    subst e1 e3
    have := e4 us' p2
    rw [h1] at this
    cases this
    obtain ⟨J1, J2⟩ := new_pair I' e2 (rd_int (i := (i : Int))) h2
    refine ⟨_, numD_get l' 0 i _ (List.getElem?_eq_getElem hi), J1, ?_⟩
    rw [Int.zero_add]
    exact J2⟩
end FD
/-! FD, part 11: what the printed terms name besides. -/
namespace FD
open PySem PySem.Spec PyProof.Rows L2

theorem bt_len : bootBuiltins "len" = some (.builtin "len") := by decide +kernel
theorem bt_sum : bootBuiltins "sum" = some (.builtin "sum") := by decide +kernel
theorem bt_max : bootBuiltins "max" = some (.builtin "max") := by decide +kernel
theorem bt_min : bootBuiltins "min" = some (.builtin "min") := by decide +kernel
theorem bt_any : bootBuiltins "any" = some (.builtin "any") := by decide +kernel
theorem bt_all : bootBuiltins "all" = some (.builtin "all") := by decide +kernel
theorem bt_abs : bootBuiltins "abs" = some (.builtin "abs") := by decide +kernel
theorem bt_sorted : bootBuiltins "sorted" = some (.builtin "sorted") := by decide +kernel
theorem bt_tuple : bootBuiltins "tuple" = some (.type "tuple") := by decide +kernel
theorem bt_list : bootBuiltins "list" = some (.type "list") := by decide +kernel
theorem bt_int : bootBuiltins "int" = some (.type "int") := by decide +kernel
theorem bt_bool : bootBuiltins "bool" = some (.type "bool") := by decide +kernel
theorem bt_str : bootBuiltins "str" = some (.type "str") := by decide +kernel
theorem io_tuple : isiOk "tuple" = true := by decide +kernel
theorem io_list : isiOk "list" = true := by decide +kernel
theorem io_int : isiOk "int" = true := by decide +kernel
theorem io_bool : isiOk "bool" = true := by decide +kernel
theorem io_str : isiOk "str" = true := by decide +kernel

section
variable {X : Cx} {st : Stmt} {f : SS}
/-- behind the statement slot i's list is left unchanged -/
def sFrzA (i : Nat) (f : SS) : SS := fun ss => (f ss).map fun o => match o with
  | .nx s => .nx (frzS i s)
  | o => o
theorem fs_frzA (i : Nat) (h : FS X st f) : FS X st (sFrzA i f) := ⟨h.ps.imp fun D σ H ⟨r, W, ss, I, o, e, q⟩ => by
  obtain ⟨o1, e1, e2⟩ := map_some e
  refine ⟨r, W, ss, I, o1, e1, ?_⟩
  cases o1 with
  | nx s =>
    subst e2
    intro W' σ' H' I'
    have q : ∀ W σ H, Rep X.K r W (frzS i s) σ H → D.nx σ H := q
    unfold frzS at q
    split at q
    · rename_i l el
      exact q _ _ _ (I'.freezeSlot el)
    · exact q _ _ _ I'
  | rt d s => subst e2; exact q
  | rl l s => subst e2; exact q
  | bk s => subst e2; exact q
  | ct s => subst e2; exact q⟩
theorem iop_fdivZ : OpR X (inplaceOp .FloorDiv) (rI CDivZ fun i j => .int (i.fdiv j)) → True := fun _ => trivial
def sAsgT (f : SE) (g : SG) : SS := fun ss => (f ss).bind fun p => (g p.1 p.2).bind fun s => some (.nx s)
end
end FD
/-! FD, part 12: reckoning with the functions. -/
namespace FD
open PySem PySem.Spec PyProof.Rows L2

section
variable {ss : List S} {f fa fb : SE} {l : SL} {v : SV} {t ta tb : ST} {i : Nat} {F G : SS} {o o2 : SO}
@[simp] theorem cC_ap {d : D} : cC d ss = some (d, ss) := id rfl
@[simp] theorem cUn_ap {g : D → Option D} : cUn g f ss = (f ss).bind fun p => (g p.1).bind fun d => some (d, p.2) := id rfl
@[simp] theorem cBin_ap {g : D → D → Option D} : cBin g fa fb ss = (fa ss).bind fun p => (fb p.2).bind fun q => (g p.1 q.1).bind fun d => some (d, q.2) := id rfl
@[simp] theorem cBinL_ap {g : D → D → Option (List D)} : cBinL g fa fb ss = (fa ss).bind fun p => (fb p.2).bind fun q => (g p.1 q.1).bind fun d => some (d, q.2) := id rfl
@[simp] theorem cBinT_ap {g : D → D → Option Bool} : cBinT g fa fb ss = (fa ss).bind fun p => (fb p.2).bind fun q => (g p.1 q.1).bind fun d => some (d, q.2) := id rfl
@[simp] theorem cBl_ap : cBl t ss = (t ss).map fun p => (.bl p.1, p.2) := id rfl
@[simp] theorem cFrz_ap : cFrz l ss = (l ss).map fun p => (.lst p.1, p.2) := id rfl
@[simp] theorem cIf_ap {α : Type} {a b : List S → Option α} : cIf t a b ss = (t ss).bind fun p => if p.1 = true then a p.2 else b p.2 := id rfl
@[simp] theorem cNil_ap : cNil ss = some ([], ss) := id rfl
@[simp] theorem cCons_ap : cCons f l ss = (f ss).bind fun p => (l p.2).bind fun q => some (p.1 :: q.1, q.2) := id rfl
@[simp] theorem cTup_ap : cTup l ss = (l ss).bind fun p => if p.1.length ≤ sizeLine then some (.tup p.1, p.2) else none := id rfl
@[simp] theorem cLst_ap : cLst l ss = (l ss).bind fun p => if p.1.length ≤ sizeLine then some p else none := id rfl
@[simp] theorem cArgs_ap {g : List D → Option D} : cArgs g l ss = (l ss).bind fun p => (g p.1).bind fun d => some (d, p.2) := id rfl
@[simp] theorem cSee_ap : cSee f ss = (f ss).bind fun p => match p.1 with
  | .lst l => some (.lst l, p.2)
  | .tup l => some (.tup l, p.2)
  | .sls l => some (.sls l, p.2)
  | _ => none := id rfl
@[simp] theorem cSeeL_ap : cSeeL l ss = (l ss).map fun p => (.lst p.1, p.2) := id rfl
@[simp] theorem cV1_ap {g : C → Option D} : cV1 g v ss = (v ss).bind fun p => (g p.1).bind fun d => some (d, p.2) := id rfl
@[simp] theorem cV1L_ap {g : C → Option (List D)} : cV1L g v ss = (v ss).bind fun p => (g p.1).bind fun d => some (d, p.2) := id rfl
@[simp] theorem cAnd_ap : cAnd ta tb ss = (ta ss).bind fun p => if p.1 = true then tb p.2 else some (false, p.2) := id rfl
@[simp] theorem cOr_ap : cOr ta tb ss = (ta ss).bind fun p => if p.1 = true then some (true, p.2) else tb p.2 := id rfl
@[simp] theorem cNot_ap : cNot t ss = (t ss).map fun p => (!p.1, p.2) := id rfl
@[simp] theorem cAsB_ap : cAsB f ss = (f ss).bind fun p => match p.1 with
  | .bl b => some (b, p.2)
  | _ => none := id rfl
@[simp] theorem cNotV_ap : cNotV f ss = (f ss).bind fun p => match p.1 with
  | .bl k => some (.bl (!k), p.2)
  | _ => none := id rfl
@[simp] theorem cAndV_ap : cAndV fa fb ss = (fa ss).bind fun p => match p.1 with
  | .bl true => fb p.2
  | .bl false => some (.bl false, p.2)
  | _ => none := id rfl
@[simp] theorem cOrV_ap : cOrV fa fb ss = (fa ss).bind fun p => match p.1 with
  | .bl false => fb p.2
  | .bl true => some (.bl true, p.2)
  | _ => none := id rfl
@[simp] theorem cIsi_ap {Ts : List String} : cIsi Ts f ss = (f ss).map fun p => (.bl (Ts.any fun T => isiB (tyN p.1) T), p.2) := id rfl
/-! names, by what the slot holds -/
theorem cVar_val {d : D} (h : ss[i]? = some (.val d)) : cVar i ss = some (d, ss) := by unfold cVar; rw [h]
@[simp] theorem cVar_ap : cVar i ss = match ss[i]? with
  | some (.val d) => some (d, ss)
  | _ => none := id rfl
@[simp] theorem cAny_ap : cAny i ss = match ss[i]? with
  | some (.own l) => some (.lst l, ss)
  | some (.io l) => some (.lst l, ss)
  | some (.val (.lst l)) => some (.lst l, ss)
  | some (.val (.tup l)) => some (.tup l, ss)
  | some (.val (.sls l)) => some (.sls l, ss)
  | _ => none := id rfl
@[simp] theorem cIxA_ap : cIxA i f ss = match ss[i]? with
  | some (.val _) => cBin gIx (cVar i) f ss
  | _ => cIxO i f ss := id rfl
@[simp] theorem ownL_own {l : List D} : ownL (some (.own l)) = some l := id rfl
@[simp] theorem ownL_io {l : List D} : ownL (some (.io l)) = some l := id rfl
@[simp] theorem cIxO_ap : cIxO i f ss = (ownL ss[i]?).bind fun _ => (f ss).bind fun p => (ownL p.2[i]?).bind fun l => match p.1 with
  | .int k => (atI l k).bind fun d => some (d, p.2)
  | _ => none := id rfl
@[simp] theorem cApp_ap : cApp i f ss = (ownL ss[i]?).bind fun _ => (f ss).bind fun p => (ownL p.2[i]?).bind fun l => if l.length < sizeLine then some (.non, putL p.2 i (l ++ [p.1])) else none := id rfl
@[simp] theorem cPop_ap : cPop i ss = (ownL ss[i]?).bind fun l => (l[l.length - 1]?).bind fun d => some (d, putL ss i l.dropLast) := id rfl
@[simp] theorem cPopAt_ap : cPopAt i f ss = (ownL ss[i]?).bind fun _ => (f ss).bind fun p => (ownL p.2[i]?).bind fun l => match p.1 with
  | .int k => if l.length ≤ sizeLine then (ixN l.length k).bind fun j => (l[j]?).bind fun d => some (d, putL p.2 i (l.eraseIdx j)) else none
  | _ => none := id rfl
@[simp] theorem cRev_ap : cRev i ss = (ownL ss[i]?).bind fun l => some (.non, putL ss i l.reverse) := id rfl
@[simp] theorem oNone_ap : oNone ss = some (none, ss) := id rfl
@[simp] theorem oSome_ap : oSome f ss = (f ss).bind fun p => match p.1 with
  | .int i => some (some i, p.2)
  | _ => none := id rfl
@[simp] theorem cSl_ap : cSl f o o2 ss = (f ss).bind fun p => (o p.2).bind fun l => (o2 l.2).bind fun h => match p.1 with
  | .tup m => some (.tup (cutD m l.1 h.1), h.2)
  | .lst m => some (.lst (cutD m l.1 h.1), h.2)
  | .sls m => some (.lst (cutD m l.1 h.1), h.2)
  | _ => none := id rfl
@[simp] theorem cSlL_ap : cSlL f o o2 ss = (f ss).bind fun p => (o p.2).bind fun l => (o2 l.2).bind fun h => match p.1 with
  | .lst m => some (cutD m l.1 h.1, h.2)
  | .sls m => some (cutD m l.1 h.1, h.2)
  | _ => none := id rfl
/-! statements -/
@[simp] theorem sNext_ap : sNext ss = some (.nx ss) := id rfl
theorem sSeq_ap : sSeq F G ss = (F ss).bind fun o => match o with
  | .nx s1 => G s1
  | o => some o := id rfl
theorem seq_nx {s1 : List S} (h : F ss = some (.nx s1)) : sSeq F G ss = G s1 := by unfold sSeq; rw [h]; rfl
theorem seq_rt {s1 : List S} {d : D} (h : F ss = some (.rt d s1)) : sSeq F G ss = some (.rt d s1) := by unfold sSeq; rw [h]; rfl
theorem seq_rl {s1 : List S} {d : List D} (h : F ss = some (.rl d s1)) : sSeq F G ss = some (.rl d s1) := by unfold sSeq; rw [h]; rfl
theorem seq_bk {s1 : List S} (h : F ss = some (.bk s1)) : sSeq F G ss = some (.bk s1) := by unfold sSeq; rw [h]; rfl
@[simp] theorem okSet_off : okSet (some .off) = true := id rfl
@[simp] theorem okSet_val {d : D} : okSet (some (.val d)) = true := id rfl
@[simp] theorem okSet_own {d : List D} : okSet (some (.own d)) = true := id rfl
@[simp] theorem sSet_ap : sSet i f ss = (f ss).bind fun p => if okSet p.2[i]? = true then some (.nx (p.2.set i (.val p.1))) else none := id rfl
@[simp] theorem sSetO_ap : sSetO i l ss = (l ss).bind fun p => if okSet p.2[i]? = true then some (.nx (p.2.set i (.own p.1))) else none := id rfl
@[simp] theorem sRet_ap : sRet f ss = (f ss).map fun p => .rt p.1 p.2 := id rfl
@[simp] theorem sRetL_ap : sRetL l ss = (l ss).map fun p => .rl p.1 p.2 := id rfl
@[simp] theorem sRetN_ap : sRetN ss = some (.rt .non ss) := id rfl
@[simp] theorem sRetO_ap : sRetO i ss = match ss[i]? with
  | some (.own l) => some (.rl l (ss.set i .off))
  | _ => none := id rfl
@[simp] theorem sDrop_ap : sDrop f ss = (f ss).map fun p => .nx p.2 := id rfl
@[simp] theorem sIf_ap : sIf t F G ss = (t ss).bind fun p => if p.1 = true then F p.2 else G p.2 := id rfl
@[simp] theorem sFrz_ap : sFrz i F ss = F (frzS i ss) := id rfl
@[simp] theorem sFrzA_ap : sFrzA i F ss = (F ss).map fun o => match o with
  | .nx s => .nx (frzS i s)
  | o => o := id rfl
@[simp] theorem frzS_ap : frzS i ss = match ss[i]? with
  | some (.own l) => ss.set i (.val (.lst l))
  | _ => ss := id rfl
@[simp] theorem putL_ap {m : List D} : putL ss i m = match ss[i]? with
  | some (.io _) => ss.set i (.io m)
  | _ => ss.set i (.own m) := id rfl
@[simp] theorem sBrk_ap : sBrk ss = some (.bk ss) := id rfl
@[simp] theorem sCnt_ap : sCnt ss = some (.ct ss) := id rfl
@[simp] theorem gNm_ap {d : D} : gNm i d ss = if okSet ss[i]? = true then some (ss.set i (.val d)) else none := id rfl
@[simp] theorem iVal_ap : iVal f ss = (f ss).bind fun p => (itemsD p.1).map fun l => (l, p.2) := id rfl
@[simp] theorem itemsD_tup {l : List D} : itemsD (.tup l) = some l := id rfl
@[simp] theorem itemsD_lst {l : List D} : itemsD (.lst l) = some l := id rfl
@[simp] theorem itemsD_sls {l : List D} : itemsD (.sls l) = some l := id rfl
@[simp] theorem iRange1_ap : iRange1 f ss = (f ss).bind fun p => match p.1 with
  | .int j => if rLine j then some (rngD 0 j.toNat, p.2) else none
  | _ => none := id rfl
@[simp] theorem iRange2_ap : iRange2 fa fb ss = (fa ss).bind fun p => (fb p.2).bind fun q => match p.1, q.1 with
  | .int i, .int j => if rLine i && rLine j then some (rngD i (j - i).toNat, q.2) else none
  | _, _ => none := id rfl
@[simp] theorem iEnum_ap : iEnum' f ss = (f ss).bind fun p => (itemsD p.1).map fun l => (numD 0 l, p.2) := id rfl
@[simp] theorem sFor_ap {g : SG} : sFor l g F ss = (l ss).bind fun p => forF g F p.1 p.2 := id rfl
@[simp] theorem sSetIx_ap : sSetIx i fa fb ss = (fa ss).bind fun p => (ownL p.2[i]?).bind fun _ => (fb p.2).bind fun q => (ownL q.2[i]?).bind fun l => match q.1 with
  | .int k => (ixN l.length k).bind fun j => some (.nx (putL q.2 i (l.set j p.1)))
  | _ => none := id rfl
@[simp] theorem sAug_ap {g : D → D → Option D} : sAug i g f ss = match ss[i]? with
  | some (.val dx) => (f ss).bind fun p => (g dx p.1).bind fun d => if okSet p.2[i]? = true then some (.nx (p.2.set i (.val d))) else none
  | _ => none := id rfl
@[simp] theorem sPar_ap {j : Nat} : sPar i j l ss = (l ss).bind fun p => match p.1 with
  | [d, e] => if okSet p.2[i]? = true ∧ okSet p.2[j]? = true then some (.nx ((p.2.set i (.val d)).set j (.val e))) else none
  | _ => none := id rfl
@[simp] theorem fnF_ap {n : Nat} : fnF n F ss = F (ss ++ List.replicate n .off) := id rfl
@[simp] theorem cYes_ap : cYes ss = some (true, ss) := id rfl
@[simp] theorem cLc_ap {it : SL} {g : SG} {own : List Nat} : cLc it g t f own ss = (it ss).bind fun p =>
  if own.all (fun i => plainS p.2[i]?) = true then (lcF g t f own p.1 [] (wipeS p.2 own)).bind fun q => some (q.1, backS p.2 q.2 own) else none := id rfl
end
/-! operators -/
@[simp] theorem gAddX_int {i j : Int} : gAddX (.int i) (.int j) = some (.int (i + j)) := id rfl
@[simp] theorem gAddI_int {i j : Int} : gAddI (.int i) (.int j) = some (.int (i + j)) := id rfl
@[simp] theorem gSub_int {i j : Int} : gSub (.int i) (.int j) = some (.int (i - j)) := id rfl
@[simp] theorem gNeg_int {i : Int} : gNeg (.int i) = some (.int (-i)) := id rfl
theorem gMul_int {i j : Int} (h : iOk i j = true) : gMul (.int i) (.int j) = some (.int (i * j)) := by unfold gMul; simp only [h]; rfl
theorem gMulX_int {i j : Int} (h : iOk i j = true) : gMulX (.int i) (.int j) = some (.int (i * j)) := by unfold gMulX; rw [gMul_int h]
theorem gFdiv_int {i j : Int} (h : dOk j = true) : gFdiv (.int i) (.int j) = some (.int (i.fdiv j)) := by unfold gFdiv; simp only [h]; rfl
theorem gMod_int {i j : Int} (h : j ≠ 0) : gMod (.int i) (.int j) = some (.int (i.fmod j)) := by show (if j ≠ 0 then some (D.int (i.fmod j)) else none) = _; rw [if_pos h]
theorem gComb_int {a b : Int} (h : 0 ≤ a ∧ 0 ≤ b ∧ a ≤ 16000) : gcComb [.int a, .int b] = some (.int (PySem.W.mcComb a b)) := by unfold gcComb; exact if_pos ⟨h.1, h.2.1, PySem.Flt.log2_lt_of (by decide) (by omega)⟩
@[simp] theorem gCmp_int {p : Int → Int → Bool} {i j : Int} : gCmp p (.int i) (.int j) = some (p i j) := id rfl
@[simp] theorem gEq_int {i j : Int} : gEq (.int i) (.int j) = some (decide (i = j)) := id rfl
@[simp] theorem gNe_int {i j : Int} : gNe (.int i) (.int j) = some (!decide (i = j)) := id rfl
@[simp] theorem gEq_bl {i j : Bool} : gEq (.bl i) (.bl j) = some (decide (i = j)) := id rfl
@[simp] theorem gNe_bl {i j : Bool} : gNe (.bl i) (.bl j) = some (!decide (i = j)) := id rfl
@[simp] theorem gEq_str {i j : Str} : gEq (.str i) (.str j) = some (decide (i = j)) := id rfl
@[simp] theorem gcInt_int {i : Int} : gcInt [.int i] = some (.int i) := id rfl
@[simp] theorem gcInt_bl {k : Bool} : gcInt [.bl k] = some (.int (if k then 1 else 0)) := id rfl
@[simp] theorem gcAbs_int {i : Int} : gcAbs [.int i] = some (.int (if i < 0 then -i else i)) := id rfl
@[simp] theorem gcMax2_int {i j : Int} : gcMax2 [.int i, .int j] = some (.int (if j > i then j else i)) := id rfl
@[simp] theorem gcMin2_int {i j : Int} : gcMin2 [.int i, .int j] = some (.int (if j < i then j else i)) := id rfl
@[simp] theorem gcGcd_int {a b : Int} : gcGcd [.int a, .int b] = some (.int ((Nat.gcd a.natAbs b.natAbs : Nat) : Int)) := id rfl
@[simp] theorem gvLen_ap {c : C} : gvLen c = some (.int c.items.length) := id rfl
@[simp] theorem gvTup_ap {c : C} : gvTup c = some (.tup c.items) := id rfl
@[simp] theorem gvList_ap {c : C} : gvList c = some c.items := id rfl
@[simp] theorem items_lst {l : List D} : (C.lst l).items = l := id rfl
@[simp] theorem items_tup {l : List D} : (C.tup l).items = l := id rfl
@[simp] theorem items_sls {l : List D} : (C.sls l).items = l := id rfl
theorem gvSum_ints {c : C} {ns : List Int} (h : c.items = ns.map D.int) : gvSum c = some (.int ns.sum) := by
  unfold gvSum
  rw [h, intsOf_map]
  rfl
theorem gIx_tup {l : List D} {k : Nat} {d : D} (h : l[k]? = some d) : gIx (.tup l) (.int k) = some d := atI_nat h
theorem gIx_lst {l : List D} {k : Nat} {d : D} (h : l[k]? = some d) : gIx (.lst l) (.int k) = some d := atI_nat h
theorem ixN_nat {n k : Nat} (h : k < n) : ixN n (k : Int) = some k := by
  unfold ixN
  rw [if_pos (by omega), if_pos (by omega)]
  simp
/-! sizes -/
theorem iOk_of_bounds {i j : Int} {a b : Nat} (ha : i.natAbs < 2 ^ a) (hb : j.natAbs < 2 ^ b) (h0 : 0 < a) (h1 : 0 < b) (h : a + b ≤ 1000000) : iOk i j = true := by
  have := wide_mul ha hb h0 h1 h
  unfold iOk
  exact decide_eq_true this
theorem dOk_of {j : Int} {b : Nat} (h : j ≠ 0) (hb : j.natAbs < 2 ^ b) (h0 : 0 < b) (h9 : b ≤ 9000) : dOk j = true := by
  unfold dOk
  rw [Bool.and_eq_true]
  exact ⟨decide_eq_true h, decide_eq_true (Nat.lt_of_lt_of_le (PySem.Flt.log2_lt_of h0 hb) h9)⟩
theorem rLine_of {i : Int} (h1 : -(2 ^ 62) < i) (h2 : i < 2 ^ 62) : rLine i = true := by
  unfold rLine
  exact decide_eq_true (PySem.Flt.log2_lt_of (by decide) (by omega))
/-- a range over n numbers -/
theorem range1_of {f : SE} {ss s2 : List S} {n : Nat} (h : f ss = some (.int n, s2)) (hn : n < 1000000) : iRange1 f ss = some (rngD 0 n, s2) := by
  unfold iRange1
  rw [h]
  show (if rLine n = true then some (rngD 0 (n : Int).toNat, s2) else none) = _
  rw [if_pos (rLine_of (by omega) (by omega)), Int.toNat_natCast]

/-! calls with plain arguments -/
/-- F of the data ds gives d -/
def Val (F : SS) (ds : List D) (d : D) : Prop := ∃ sf, F (ds.map S.val) = some (.rt d sf) ∧ ds.length ≤ sf.length
def ValL (F : SS) (ds : List D) (l : List D) : Prop := ∃ sf, F (ds.map S.val) = some (.rl l sf) ∧ ds.length ≤ sf.length
theorem ios_v : ∀ ds : List D, ios (ds.map AV.v) = []
  | [] => rfl
  | _ :: ds => ios_v ds
theorem bos_v : ∀ ds : List D, bos (ds.map AV.v) = []
  | [] => rfl
  | _ :: ds => bos_v ds
theorem argS_v {ss : List S} : ∀ ds : List D, argS ss (ds.map AV.v) = some (ds.map S.val)
  | [] => rfl
  | d :: ds => by
    show (argS ss (ds.map AV.v)).map _ = _
    rw [argS_v ds]
    rfl
theorem backA_v {ss : List S} : ∀ {ds : List D} {sf : List S}, ds.length ≤ sf.length → backA (ds.map AV.v) sf ss = some ss
  | [], _, _ => by simp [backA]
  | d :: ds, [], h => by simp at h
  | d :: ds, s :: sf, h => by
    show backA (ds.map AV.v) sf ss = some ss
    exact backA_v (by simpa using h)
theorem call_v {F : SS} {as : List Ar} {ss s1 : List S} {ds : List D} {d : D} (ha : arF as ss = some (ds.map AV.v, s1)) (h : Val F ds d) : cCall F as ss = some (d, s1) := by
  obtain ⟨sf, h1, h2⟩ := h
  have ok : okA (ds.map AV.v) = true := by unfold okA; rw [ios_v, bos_v]; rfl
  unfold cCall callR
  rw [ha]
  simp only [Option.bind_some, ok, if_true, argS_v, h1, bos_v, true_or, backA_v h2]
theorem call_vL {F : SS} {as : List Ar} {ss s1 : List S} {ds : List D} {l : List D} (ha : arF as ss = some (ds.map AV.v, s1)) (h : ValL F ds l) : cCall F as ss = some (.lst l, s1) ∧ cCallL F as ss = some (l, s1) := by
  obtain ⟨sf, h1, h2⟩ := h
  have ok : okA (ds.map AV.v) = true := by unfold okA; rw [ios_v, bos_v]; rfl
  have e : callR F as ss = some (.l l, s1) := by
    unfold callR
    rw [ha]
    simp only [Option.bind_some, ok, if_true, argS_v, h1, bos_v, true_or, backA_v h2]
  unfold cCall cCallL
  rw [e]
  exact ⟨rfl, rfl⟩
@[simp] theorem arF_nil {ss : List S} : arF [] ss = some ([], ss) := id rfl
@[simp] theorem arF_e {ss : List S} {f : SE} {as : List Ar} : arF (.e f :: as) ss = (f ss).bind fun p => (arF as p.2).bind fun q => some (.v p.1 :: q.1, q.2) := id rfl
@[simp] theorem arF_io {ss : List S} {i : Nat} {as : List Ar} : arF (.io i :: as) ss = (ownL ss[i]?).bind fun _ => (arF as ss).bind fun q => some (.io i :: q.1, q.2) := id rfl
@[simp] theorem arF_bo {ss : List S} {i : Nat} {as : List Ar} : arF (.bo i :: as) ss = (ownL ss[i]?).bind fun _ => (arF as ss).bind fun q => some (.bo i :: q.1, q.2) := id rfl
/-! calls with one list to be changed first -/
def Val1 (F : SS) (l : List D) (ds : List D) (d : D) (l' : List D) : Prop := ∃ sf, F (.io l :: ds.map S.val) = some (.rt d (.io l' :: sf)) ∧ ds.length ≤ sf.length
def ValL1 (F : SS) (l : List D) (ds : List D) (d : List D) (l' : List D) : Prop := ∃ sf, F (.io l :: ds.map S.val) = some (.rl d (.io l' :: sf)) ∧ ds.length ≤ sf.length
theorem call_1 {F : SS} {as : List Ar} {ss s1 : List S} {ds : List D} {d : D} {l l' : List D} {i : Nat} (ha : arF as ss = some (.io i :: ds.map AV.v, s1)) (hl : ownL s1[i]? = some l) (h : Val1 F l ds d l') : cCall F as ss = some (d, putL s1 i l') := by
  obtain ⟨sf, h1, h2⟩ := h
  have ok : okA (.io i :: ds.map AV.v) = true := by
    unfold okA
    rw [ios, bos, ios_v, bos_v]
    simp
  have ea : argS s1 (.io i :: ds.map AV.v) = some (.io l :: ds.map S.val) := by
    show (ownL s1[i]?).bind _ = _
    rw [hl]
    show (argS s1 (ds.map AV.v)).map _ = _
    rw [argS_v]
    rfl
  have eb : backA (.io i :: ds.map AV.v) (.io l' :: sf) s1 = some (putL s1 i l') := backA_v h2
  unfold cCall callR
  rw [ha]
  simp only [Option.bind_some, ok, if_true, ea, h1, eb]
  rw [if_pos (.inl (by rw [bos, bos_v]))]
  rfl
theorem call_1L {F : SS} {as : List Ar} {ss s1 : List S} {ds : List D} {d : List D} {l l' : List D} {i : Nat} (ha : arF as ss = some (.io i :: ds.map AV.v, s1)) (hl : ownL s1[i]? = some l) (h : ValL1 F l ds d l') :
    cCall F as ss = some (.lst d, putL s1 i l') ∧ cCallL F as ss = some (d, putL s1 i l') := by
  obtain ⟨sf, h1, h2⟩ := h
  have ok : okA (.io i :: ds.map AV.v) = true := by
    unfold okA
    rw [ios, bos, ios_v, bos_v]
    simp
  have ea : argS s1 (.io i :: ds.map AV.v) = some (.io l :: ds.map S.val) := by
    show (ownL s1[i]?).bind _ = _
    rw [hl]
    show (argS s1 (ds.map AV.v)).map _ = _
    rw [argS_v]
    rfl
  have eb : backA (.io i :: ds.map AV.v) (.io l' :: sf) s1 = some (putL s1 i l') := backA_v h2
  have e : callR F as ss = some (.l d, putL s1 i l') := by
    unfold callR
    rw [ha]
    simp only [Option.bind_some, ok, if_true, ea, h1, eb]
    rw [if_pos (.inl (by rw [bos, bos_v]))]
  unfold cCall cCallL
  rw [e]
  exact ⟨rfl, rfl⟩

/-! calls, for simp -/
def callT (F : SS) (avs : List AV) (s : List S) : Option (D × List S) := (if okA avs = true then (argS s avs).bind fun args => (F args).bind fun o => match o with
  | .rt d sf => if bos avs = [] ∨ (outsNoL avs sf = true ∧ noL d = true) then (backA avs sf s).bind fun s' => some (Rs.d d, s') else none
  | .nx sf => if bos avs = [] ∨ outsNoL avs sf = true then (backA avs sf s).bind fun s' => some (Rs.d .non, s') else none
  | .rl l sf => if bos avs = [] ∨ (outsNoL avs sf = true ∧ noLs l = true) then (backA avs sf s).bind fun s' => some (Rs.l l, s') else none
  | _ => none
  else none).bind fun p => match p.1 with
  | .d d => some (d, p.2)
  | .l l => some (.lst l, p.2)
def callTL (F : SS) (avs : List AV) (s : List S) : Option (List D × List S) := (if okA avs = true then (argS s avs).bind fun args => (F args).bind fun o => match o with
  | .rt d sf => if bos avs = [] ∨ (outsNoL avs sf = true ∧ noL d = true) then (backA avs sf s).bind fun s' => some (Rs.d d, s') else none
  | .nx sf => if bos avs = [] ∨ outsNoL avs sf = true then (backA avs sf s).bind fun s' => some (Rs.d .non, s') else none
  | .rl l sf => if bos avs = [] ∨ (outsNoL avs sf = true ∧ noLs l = true) then (backA avs sf s).bind fun s' => some (Rs.l l, s') else none
  | _ => none
  else none).bind fun p => match p.1 with
  | .d _ => none
  | .l l => some (l, p.2)
@[simp] theorem cCall_ap {F : SS} {as : List Ar} {ss : List S} : cCall F as ss = (arF as ss).bind fun p => callT F p.1 p.2 := by
  unfold cCall callR callT
  cases arF as ss with
  | none => rfl
  | some p => rfl
@[simp] theorem cCallL_ap {F : SS} {as : List Ar} {ss : List S} : cCallL F as ss = (arF as ss).bind fun p => callTL F p.1 p.2 := by
  unfold cCallL callR callTL
  cases arF as ss with
  | none => rfl
  | some p => rfl
theorem arV {s : List S} : ∀ ds : List D, arF (ds.map fun d => Ar.e (cC d)) s = some (ds.map AV.v, s)
  | [] => rfl
  | d :: ds => by
    show (arF (ds.map fun d => Ar.e (cC d)) s).bind _ = _
    rw [arV ds]
    rfl
theorem Val.t {F : SS} {ds : List D} {d : D} (h : Val F ds d) (s : List S) : callT F (ds.map AV.v) s = some (d, s) := by
  have q := call_v (arV (s := s) ds) h
  rw [cCall_ap, arV] at q
  exact q
theorem ValL.t {F : SS} {ds : List D} {l : List D} (h : ValL F ds l) (s : List S) : callT F (ds.map AV.v) s = some (.lst l, s) ∧ callTL F (ds.map AV.v) s = some (l, s) := by
  have q := call_vL (arV (s := s) ds) h
  rw [cCall_ap, cCallL_ap, arV] at q
  exact q
theorem ar1 {s : List S} {i : Nat} {l : List D} (hl : ownL s[i]? = some l) (ds : List D) : arF (.io i :: ds.map fun d => Ar.e (cC d)) s = some (.io i :: ds.map AV.v, s) := by
  rw [arF_io, hl, Option.bind_some, arV]
  rfl
theorem Val1.t {F : SS} {l : List D} {ds : List D} {d : D} {l' : List D} (h : Val1 F l ds d l') (s : List S) (i : Nat) (hl : ownL s[i]? = some l) : callT F (.io i :: ds.map AV.v) s = some (d, putL s i l') := by
  have q := call_1 (ar1 hl ds) hl h
  rw [cCall_ap, ar1 hl] at q
  exact q
theorem ValL1.t {F : SS} {l : List D} {ds : List D} {d : List D} {l' : List D} (h : ValL1 F l ds d l') (s : List S) (i : Nat) (hl : ownL s[i]? = some l) : callT F (.io i :: ds.map AV.v) s = some (.lst d, putL s i l') ∧ callTL F (.io i :: ds.map AV.v) s = some (d, putL s i l') := by
  have q := call_1L (ar1 hl ds) hl h
  rw [cCall_ap, cCallL_ap, ar1 hl] at q
  exact q
theorem rngD_at {lo : Int} {n i : Nat} {d : D} (h : (rngD lo n)[i]? = some d) : i < n ∧ d = .int (lo + i) := by
  have hi : i < n := by
    have := (List.getElem?_eq_some_iff.mp h).1
    rw [rngD_length] at this
    exact this
  rw [rngD_get n lo i hi] at h
  exact ⟨hi, (Option.some.inj h).symm⟩
@[simp] theorem sSeq_app {ss : List S} {F G : SS} : sSeq F G ss = (F ss).bind fun o => match o with
  | .nx s1 => G s1
  | o => some o := id rfl

/-! loops -/
theorem for_go {g : SG} {body : SS} : ∀ (ds : List D) (st : Nat → List S) (k : Nat), (∀ i (d : D), ds[i]? = some d → ∃ s1, g d (st (k + i)) = some s1 ∧ (body s1 = some (.nx (st (k + i + 1))) ∨ body s1 = some (.ct (st (k + i + 1))))) → forF g body ds (st k) = some (.nx (st (k + ds.length)))
  | [], st, k, _ => rfl
  | d :: ds, st, k, h => by
    obtain ⟨s1, h1, h2⟩ := h 0 d rfl
    have ih := for_go (g := g) (body := body) ds st (k + 1) fun i e he => by
      have := h (i + 1) e (by simpa using he)
      rw [show k + (i + 1) = k + 1 + i by omega] at this
      exact this
    unfold forF
    rw [Nat.add_zero] at h1
    rw [h1]
    have e : k + (d :: ds).length = k + 1 + ds.length := by rw [List.length_cons]; omega
    rw [e]
    rcases h2 with h2 | h2
    · rw [Option.bind_some, h2]
      exact ih
    · rw [Option.bind_some, h2]
      exact ih
theorem for_list {g : SG} {body : SS} {ds : List D} (st : Nat → List S) (h : ∀ i (d : D), ds[i]? = some d → ∃ s1, g d (st i) = some s1 ∧ body s1 = some (.nx (st (i + 1)))) : forF g body ds (st 0) = some (.nx (st ds.length)) := by
  have := for_go (g := g) (body := body) ds st 0 fun i d hd => by
    obtain ⟨s1, h1, h2⟩ := h i d hd
    rw [Nat.zero_add]
    exact ⟨s1, h1, .inl h2⟩
  rw [Nat.zero_add] at this
  exact this
theorem for_rng {g : SG} {body : SS} {lo : Int} {n : Nat} (st : Nat → List S) (h : ∀ i : Nat, i < n → ∃ s1, g (.int (lo + i)) (st i) = some s1 ∧ body s1 = some (.nx (st (i + 1)))) : forF g body (rngD lo n) (st 0) = some (.nx (st n)) := by
  have := for_list (g := g) (body := body) (ds := rngD lo n) st fun i d hd => by
    have hi : i < n := by
      have := (List.getElem?_eq_some_iff.mp hd).1
      rw [rngD_length] at this
      exact this
    rw [rngD_get n lo i hi] at hd
    cases hd
    exact h i hi
  rw [rngD_length] at this
  exact this
/-- a loop by an invariant -/
theorem for_inv {g : SG} {body : SS} (Pv : Nat → List S → Prop) : ∀ (ds : List D) (k : Nat) (ss : List S), Pv k ss → (∀ i (d : D) ss, ds[i]? = some d → Pv (k + i) ss → ∃ s1 s2, g d ss = some s1 ∧ body s1 = some (.nx s2) ∧ Pv (k + i + 1) s2) → ∃ s', forF g body ds ss = some (.nx s') ∧ Pv (k + ds.length) s'
  | [], k, ss, h0, _ => ⟨ss, rfl, h0⟩
  | d :: ds, k, ss, h0, h => by
    obtain ⟨s1, s2, h1, h2, h3⟩ := h 0 d ss rfl h0
    obtain ⟨s', h4, h5⟩ := for_inv (g := g) (body := body) Pv ds (k + 1) s2 h3 fun i e s he hp => by
      have := h (i + 1) e s (by simpa using he)
      rw [show k + (i + 1) = k + 1 + i by omega] at this
      exact this hp
    refine ⟨s', ?_, by rw [List.length_cons]; rw [show k + (ds.length + 1) = k + 1 + ds.length by omega]; exact h5⟩
    unfold forF
    rw [h1, Option.bind_some, h2]
    exact h4
/-- a comprehension whose element changes nothing -/
theorem lc_go {g : SG} {tt : ST} {te : SE} {own : List Nat} {ss : List S} : ∀ (ds acc : List D) (f : D → D), (∀ d ∈ ds, ∃ s1 s2 s3, g d ss = some s1 ∧ tt s1 = some (true, s2) ∧ te s2 = some (f d, s3) ∧ (own.all fun i => plainS s3[i]?) = true ∧ wipeS s3 own = ss) → acc.length + ds.length ≤ sizeLine →
    lcF g tt te own ds acc ss = some (acc ++ ds.map f, ss)
  | [], acc, f, _, _ => by rw [List.map_nil, List.append_nil]; rfl
  | d :: ds, acc, f, h, hz => by
    obtain ⟨s1, s2, s3, h1, h2, h3, h4, h5⟩ := h d List.mem_cons_self
    rw [List.length_cons] at hz
    have ih := lc_go (g := g) (tt := tt) (te := te) (own := own) (ss := ss) ds (acc ++ [f d]) f (fun e he => h e (List.mem_cons_of_mem _ he)) (by rw [List.length_append, List.length_singleton]; omega)
    unfold lcF
    rw [h1, Option.bind_some, h2, Option.bind_some, if_pos rfl, h3, Option.bind_some, if_pos ⟨h4, by omega⟩, h5, ih, List.map_cons, List.append_assoc, List.singleton_append]
end FD
/-! FD, part 13: lists told by functions, comprehensions. -/
namespace FD
open PySem PySem.Spec PyProof.Rows L2

/-- f 0 .. f (n - 1) -/
def mp {α : Type} (n : Nat) (f : Nat → α) : List α := (List.range n).map f
@[simp] theorem mp_length {α : Type} {n : Nat} {f : Nat → α} : (mp n f).length = n := by unfold mp; simp
theorem mp_get {α : Type} {n i : Nat} {f : Nat → α} (h : i < n) : (mp n f)[i]? = some (f i) := by
  unfold mp
  simp [h]
theorem mp_get_inv {α : Type} {n i : Nat} {f : Nat → α} {d : α} (h : (mp n f)[i]? = some d) : i < n ∧ d = f i := by
  have hi : i < n := by
    have := (List.getElem?_eq_some_iff.mp h).1
    rwa [mp_length] at this
  rw [mp_get hi] at h
  exact ⟨hi, (Option.some.inj h).symm⟩
theorem mp_ext {α : Type} {l : List α} {n : Nat} {f : Nat → α} (hl : l.length = n) (h : ∀ i, i < n → l[i]? = some (f i)) : l = mp n f := by
  apply List.ext_getElem?
  intro i
  by_cases hi : i < n
  · rw [h i hi, mp_get hi]
  · rw [List.getElem?_eq_none (by omega), List.getElem?_eq_none (by rw [mp_length]; omega)]
theorem mp_congr {α : Type} {n : Nat} {f g : Nat → α} (h : ∀ i, i < n → f i = g i) : mp n f = mp n g := mp_ext mp_length fun i hi => by rw [mp_get hi, h i hi]
theorem mp_map {α β : Type} {n : Nat} {f : Nat → α} {g : α → β} : (mp n f).map g = mp n fun i => g (f i) := by unfold mp; rw [List.map_map]; rfl
theorem mp_succ {α : Type} {n : Nat} {f : Nat → α} : mp (n + 1) f = mp n f ++ [f n] := by unfold mp; rw [List.range_succ, List.map_append]; rfl
theorem mp_zero {α : Type} {f : Nat → α} : mp 0 f = [] := rfl
theorem rngD_mp {lo : Int} {n : Nat} : rngD lo n = mp n fun i => .int (lo + i) := mp_ext (rngD_length n lo) fun i hi => rngD_get n lo i hi
theorem mp_set {α : Type} {n i : Nat} {f : Nat → α} {d : α} : (mp n f).set i d = mp n fun k => if k = i then d else f k := mp_ext (by rw [List.length_set, mp_length]) fun k hk => by
  rw [List.getElem?_set]
  by_cases e : i = k
  · subst e
    rw [if_pos rfl, if_pos (by rw [mp_length]; exact hk), if_pos rfl]
  · rw [if_neg e, if_neg (Ne.symm e), mp_get hk]
theorem rep_mp {d : D} {n : Nat} : (List.replicate n [d]).flatten = mp n fun _ => d := mp_ext (by simp) fun i hi => by
  rw [List.flatten_replicate_singleton]
  simp [hi]
theorem gRep_one {d : D} {n : Nat} (h : n < 1000000) : gRep (.lst [d]) (.int n) = some (mp n fun _ => d) := by
  unfold gRep
  have := PySem.sizeLine_eq
  simp only [List.length_singleton, Int.toNat_natCast, Nat.one_mul]
  rw [if_pos ⟨PySem.Flt.log2_lt_of (by decide) (by omega), by omega⟩, rep_mp]
/-- a list that is made turn by turn -/
theorem lc_inv {g : SG} {tt : ST} {te : SE} {own : List Nat} (Pv : Nat → List D → List S → Prop) : ∀ (ds : List D) (k : Nat) (acc : List D) (ss : List S), Pv k acc ss →
    (∀ i (d : D) acc ss, ds[i]? = some d → Pv (k + i) acc ss → acc.length ≤ k + i → ∃ s1 s2 b, g d ss = some s1 ∧ tt s1 = some (b, s2) ∧
      (b = true → ∃ e s3, te s2 = some (e, s3) ∧ (own.all fun i => plainS s3[i]?) = true ∧ Pv (k + i + 1) (acc ++ [e]) (wipeS s3 own)) ∧
      (b = false → (own.all fun i => plainS s2[i]?) = true ∧ Pv (k + i + 1) acc (wipeS s2 own))) → acc.length ≤ k → k + ds.length ≤ sizeLine →
    ∃ acc' s', lcF g tt te own ds acc ss = some (acc', s') ∧ Pv (k + ds.length) acc' s'
  | [], k, acc, ss, h0, _, _, _ => ⟨acc, ss, rfl, h0⟩
  | d :: ds, k, acc, ss, h0, h, hl, hz => by
    rw [List.length_cons] at hz
    obtain ⟨s1, s2, b, h1, h2, h3, h4⟩ := h 0 d acc ss rfl h0 hl
    have step : ∀ acc2 ss2, Pv (k + 1) acc2 ss2 → acc2.length ≤ k + 1 → ∃ acc' s', lcF g tt te own ds acc2 ss2 = some (acc', s') ∧ Pv (k + (d :: ds).length) acc' s' := fun acc2 ss2 hp hl2 => by
      obtain ⟨a', s', e1, e2⟩ := lc_inv (g := g) (tt := tt) (te := te) (own := own) Pv ds (k + 1) acc2 ss2 hp (fun i e a s he q ha => by
        have := h (i + 1) e a s (by simpa using he)
        rw [show k + (i + 1) = k + 1 + i by omega] at this
        exact this q ha) hl2 (by omega)
      exact ⟨a', s', e1, by rw [List.length_cons, show k + (ds.length + 1) = k + 1 + ds.length by omega]; exact e2⟩
    unfold lcF
    rw [h1, Option.bind_some, h2, Option.bind_some]
    cases b with
    | true =>
      obtain ⟨e, s3, h5, h6, h7⟩ := h3 rfl
      obtain ⟨a', s', e1, e2⟩ := step _ _ h7 (by rw [List.length_append, List.length_singleton]; omega)
      refine ⟨a', s', ?_, e2⟩
      rw [if_pos rfl, h5, Option.bind_some, if_pos ⟨h6, by omega⟩]
      exact e1
    | false =>
      obtain ⟨h6, h7⟩ := h4 rfl
      obtain ⟨a', s', e1, e2⟩ := step _ _ h7 (by omega)
      refine ⟨a', s', ?_, e2⟩
      rw [if_neg (fun h => nomatch h), if_pos h6]
      exact e1
/-- a comprehension whose elements change nothing -/
theorem lc_val {it : SL} {g : SG} {te : SE} {own : List Nat} {ss s2 : List S} {ds : List D} {n : Nat} (f : Nat → D) (hi : it ss = some (ds, s2)) (hn : ds.length = n) (hp : (own.all fun i => plainS s2[i]?) = true)
    (h : ∀ i (d : D), i < n → ds[i]? = some d → ∃ s1 s3, g d (wipeS s2 own) = some s1 ∧ te s1 = some (f i, s3) ∧ (own.all fun i => plainS s3[i]?) = true ∧ wipeS s3 own = wipeS s2 own)
    (hz : n < 1000000) (hb : backS s2 (wipeS s2 own) own = s2) : cLc it g cYes te own ss = some (mp n f, s2) := by
  unfold cLc
  rw [hi, Option.bind_some]
  dsimp only
  rw [if_pos hp]
  have := PySem.sizeLine_eq
  obtain ⟨a, s', e1, rfl, rfl⟩ := lc_inv (g := g) (tt := cYes) (te := te) (own := own) (fun k acc ss => acc = mp k f ∧ ss = wipeS s2 own) ds 0 [] (wipeS s2 own) ⟨rfl, rfl⟩ (fun i d acc ss hd ⟨ha, hs⟩ _ => by
    subst ha hs
    have hi : i < n := by rw [← hn]; exact (List.getElem?_eq_some_iff.mp hd).1
    obtain ⟨s1, s3, q1, q2, q3, q4⟩ := h i d hi hd
    refine ⟨s1, s1, true, q1, rfl, fun _ => ⟨_, s3, q2, q3, ?_, q4⟩, fun h => nomatch h⟩
    rw [Nat.zero_add, mp_succ]) (Nat.le_refl _) (by omega)
  rw [e1, Nat.zero_add, hn, Option.bind_some]
  dsimp only
  rw [hb]
/-- the same over range(n) -/
theorem lc_rng {it : SL} {g : SG} {te : SE} {own : List Nat} {ss s2 : List S} {lo : Int} {n : Nat} (f : Nat → D) (hi : it ss = some (rngD lo n, s2)) (hp : (own.all fun i => plainS s2[i]?) = true)
    (h : ∀ i, i < n → ∃ s1 s3, g (.int (lo + i)) (wipeS s2 own) = some s1 ∧ te s1 = some (f i, s3) ∧ (own.all fun i => plainS s3[i]?) = true ∧ wipeS s3 own = wipeS s2 own)
    (hz : n < 1000000) (hb : backS s2 (wipeS s2 own) own = s2) : cLc it g cYes te own ss = some (mp n f, s2) :=
  lc_val f hi (rngD_length n lo) hp (fun i d h1 h2 => by
    obtain ⟨_, rfl⟩ := rngD_at h2
    exact h i h1) hz hb
theorem numD_mp {n : Nat} {f : Nat → D} : numD 0 (mp n f) = mp n fun i => .tup [.int i, f i] := mp_ext (by rw [numD_length, mp_length]) fun i hi => by
  rw [numD_get _ _ _ _ (mp_get hi), Int.zero_add]
/-- the sum of f 0 .. f (n - 1) -/
def psum (f : Nat → Int) : Nat → Int
  | 0 => 0
  | k + 1 => psum f k + f k
theorem psum_congr {f g : Nat → Int} : ∀ {n : Nat}, (∀ i, i < n → f i = g i) → psum f n = psum g n
  | 0, _ => rfl
  | n + 1, h => by rw [psum, psum, psum_congr fun i hi => h i (by omega), h n (by omega)]
theorem sum_snoc (l : List Int) (x : Int) : (l ++ [x]).sum = l.sum + x := by
  rw [List.sum_append]
  simp
theorem mp_sum {n : Nat} {f : Nat → Int} : (mp n f).sum = psum f n := by
  induction n with
  | zero => rfl
  | succ n ih => rw [mp_succ, sum_snoc, ih, psum]
theorem gvSum_mp {c : C} {n : Nat} {f : Nat → Int} (h : c.items = mp n fun i => .int (f i)) : gvSum c = some (.int (psum f n)) := by
  rw [← mp_sum]
  exact gvSum_ints (by rw [h, mp_map])
theorem psum_add {f g : Nat → Int} : ∀ {n : Nat}, psum (fun i => f i + g i) n = psum f n + psum g n
  | 0 => rfl
  | n + 1 => by rw [psum, psum, psum, psum_add]; omega
theorem psum_zero {f : Nat → Int} : ∀ {n : Nat}, (∀ i, i < n → f i = 0) → psum f n = 0
  | 0, _ => rfl
  | n + 1, h => by rw [psum, psum_zero fun i hi => h i (by omega), h n (by omega)]; rfl
theorem psum_mul {f : Nat → Int} {c : Int} : ∀ {n : Nat}, psum (fun i => c * f i) n = c * psum f n
  | 0 => by rw [psum, psum, Int.mul_zero]
  | n + 1 => by rw [psum, psum, psum_mul, Int.mul_add]
theorem psum_mulr {f : Nat → Int} {c : Int} : ∀ {n : Nat}, psum (fun i => f i * c) n = psum f n * c
  | 0 => by rw [psum, psum, Int.zero_mul]
  | n + 1 => by rw [psum, psum, psum_mulr, Int.add_mul]
theorem psum_swap {f : Nat → Nat → Int} {m : Nat} : ∀ {n : Nat}, psum (fun i => psum (fun j => f i j) m) n = psum (fun j => psum (fun i => f i j) n) m
  | 0 => (psum_zero fun _ _ => rfl).symm
  | n + 1 => by
    rw [psum, psum_swap (n := n), ← psum_add]
    exact psum_congr fun j _ => rfl
theorem psum_one {f : Nat → Int} {j : Nat} : ∀ {n : Nat}, j < n → (∀ i, i < n → i ≠ j → f i = 0) → psum f n = f j
  | 0, h, _ => nomatch h
  | n + 1, h, q => by
    by_cases e : j = n
    · subst e
      rw [psum, psum_zero fun i hi => q i (by omega) (by omega), Int.zero_add]
    · rw [psum, psum_one (by omega) fun i hi he => q i (by omega) he, q n (by omega) (fun e' => e e'.symm), Int.add_zero]
theorem psum_bound {f : Nat → Int} {B : Nat} : ∀ {n : Nat}, (∀ i, i < n → (f i).natAbs ≤ B) → (psum f n).natAbs ≤ n * B
  | 0, _ => by simp [psum]
  | n + 1, h => by
    have h1 := psum_bound (n := n) fun i hi => h i (by omega)
    have h2 := h n (by omega)
    rw [psum, Nat.succ_mul]
    omega
theorem mul_lt2 {x y : Int} {a b : Nat} (hx : x.natAbs < 2 ^ a) (hy : y.natAbs < 2 ^ b) : (x * y).natAbs < 2 ^ (a + b) := by
  rw [Int.natAbs_mul, Nat.pow_add]
  exact Nat.mul_lt_mul'' hx hy
/-! tests -/
theorem not_false' : (!false) = true := rfl
theorem not_true' : (!true) = false := rfl
theorem gIn_none {n : Nat} : gNotIn (.bl false) (.lst (mp n fun _ => .bl true)) = some true := by
  unfold gNotIn gIn
  rw [itemsD_lst, Option.bind_some]
  have h1 : (mp n fun _ => D.bl true).all flatD = true := by
    rw [List.all_eq_true]
    intro d hd
    obtain ⟨i, hi⟩ := List.getElem?_of_mem hd
    obtain ⟨_, rfl⟩ := mp_get_inv hi
    rfl
  have h2 : ((mp n fun _ => D.bl true).any fun z => eqD z (.bl false)) = false := by
    rw [List.any_eq_false]
    intro d hd
    obtain ⟨i, hi⟩ := List.getElem?_of_mem hd
    obtain ⟨_, rfl⟩ := mp_get_inv hi
    decide
  rw [if_pos ⟨rfl, h1⟩, h2]
  rfl
theorem gEq_refl_int {i : Int} : gEq (.int i) (.int i) = some true := by rw [gEq_int, decide_eq_true rfl]
theorem tyN_int {i : Int} : tyN (.int i) = "int" := id rfl
theorem tyN_tup {i : List D} : tyN (.tup i) = "tuple" := id rfl
theorem tyN_lst {i : List D} : tyN (.lst i) = "list" := id rfl
theorem tyN_sls {i : List D} : tyN (.sls i) = "list" := id rfl
theorem tyN_bl {i : Bool} : tyN (.bl i) = "bool" := id rfl
theorem tyN_str {i : Str} : tyN (.str i) = "str" := id rfl
theorem tyN_non : tyN .non = "NoneType" := id rfl
theorem isi_NoneType_tuple : isiB "NoneType" "tuple" = false := by decide
theorem isi_NoneType_list : isiB "NoneType" "list" = false := by decide
theorem isi_NoneType_int : isiB "NoneType" "int" = false := by decide
theorem isi_NoneType_bool : isiB "NoneType" "bool" = false := by decide
theorem isi_NoneType_str : isiB "NoneType" "str" = false := by decide
theorem isi_bool_tuple : isiB "bool" "tuple" = false := by decide
theorem isi_bool_list : isiB "bool" "list" = false := by decide
theorem isi_bool_int : isiB "bool" "int" = true := by decide
theorem isi_bool_bool : isiB "bool" "bool" = true := by decide
theorem isi_bool_str : isiB "bool" "str" = false := by decide
theorem isi_int_tuple : isiB "int" "tuple" = false := by decide
theorem isi_int_list : isiB "int" "list" = false := by decide
theorem isi_int_int : isiB "int" "int" = true := by decide
theorem isi_int_bool : isiB "int" "bool" = false := by decide
theorem isi_int_str : isiB "int" "str" = false := by decide
theorem isi_str_tuple : isiB "str" "tuple" = false := by decide
theorem isi_str_list : isiB "str" "list" = false := by decide
theorem isi_str_int : isiB "str" "int" = false := by decide
theorem isi_str_bool : isiB "str" "bool" = false := by decide
theorem isi_str_str : isiB "str" "str" = true := by decide
theorem isi_tuple_tuple : isiB "tuple" "tuple" = true := by decide
theorem isi_tuple_list : isiB "tuple" "list" = false := by decide
theorem isi_tuple_int : isiB "tuple" "int" = false := by decide
theorem isi_tuple_bool : isiB "tuple" "bool" = false := by decide
theorem isi_tuple_str : isiB "tuple" "str" = false := by decide
theorem isi_list_tuple : isiB "list" "tuple" = false := by decide
theorem isi_list_list : isiB "list" "list" = true := by decide
theorem isi_list_int : isiB "list" "int" = false := by decide
theorem isi_list_bool : isiB "list" "bool" = false := by decide
theorem isi_list_str : isiB "list" "str" = false := by decide
theorem gIsN_int {i : Int} : gIsN (.int i) .non = some false := id rfl
theorem gIsN_bl {i : Bool} : gIsN (.bl i) .non = some false := id rfl
theorem gIsN_str {i : Str} : gIsN (.str i) .non = some false := id rfl
theorem gIsN_non : gIsN .non .non = some true := id rfl
theorem if_ff {α : Type} {a b : α} : (if false = true then a else b) = b := rfl
end FD
/-! printed by gen.py: the defs of codesweighed_k14_spread_numbers_by_polyn -/
namespace My
open PySem PySem.Spec PyProof.Rows L2 FD
def topS (i : Nat) : Stmt := PySem.Challenge.pw_codesweighed_k14_spread_numbers_by_polyn.main.body.getD i (.Pass ⟨0, 0, 0, 0⟩)
abbrev s_fraction : Stmt := topS 2
abbrev N_fraction : List Str := ["n", "d", "divisor"]
abbrev P_fraction : List Str := ["n", "d"]
abbrev s_power_of : Stmt := topS 4
abbrev N_power_of : List Str := ["a", "exponent", "result", "_"]
abbrev P_power_of : List Str := ["a", "exponent"]
abbrev s_alternating : Stmt := topS 5
abbrev N_alternating : List Str := ["index"]
abbrev P_alternating : List Str := ["index"]
abbrev s_krawtchouk : Stmt := topS 7
abbrev N_krawtchouk : List Str := ["q", "n", "degree", "at", "result", "taken", "ways"]
abbrev P_krawtchouk : List Str := ["q", "n", "degree", "at"]
abbrev s_turned_counts : Stmt := topS 8
abbrev N_turned_counts : List Str := ["q", "n", "counts", "found", "degree", "at", "count"]
abbrev P_turned_counts : List Str := ["q", "n", "counts"]
abbrev s_counts_of_dual : Stmt := topS 9
abbrev N_counts_of_dual : List Str := ["q", "n", "counts", "total", "told"]
abbrev P_counts_of_dual : List Str := ["q", "n", "counts"]
abbrev s_zero_sums : Stmt := topS 11
abbrev N_zero_sums : List Str := ["counts", "n", "chosen", "weight", "count"]
abbrev P_zero_sums : List Str := ["counts"]
abbrev s_dual_sums : Stmt := topS 12
abbrev N_dual_sums : List Str := ["counts", "n", "chosen", "weight", "count"]
abbrev P_dual_sums : List Str := ["counts"]
abbrev s_weights_in : Stmt := topS 13
abbrev N_weights_in : List Str := ["counts", "weight", "count"]
abbrev P_weights_in : List Str := ["counts"]
abbrev s_law_draws : Stmt := topS 15
abbrev N_law_draws : List Str := ["script", "many", "cells", "cell", "left", "draws", "k", "place", "mixed"]
abbrev P_law_draws : List Str := ["script", "many"]
abbrev s_law_take : Stmt := topS 16
abbrev N_law_take : List Str := ["draws", "many"]
abbrev P_law_take : List Str := ["draws", "many"]
abbrev s_law_same : Stmt := topS 17
abbrev N_law_same : List Str := ["actual", "due", "k"]
abbrev P_law_same : List Str := ["actual", "due"]
abbrev s_law_shuffled : Stmt := topS 18
abbrev N_law_shuffled : List Str := ["draws", "row", "left", "told", "k"]
abbrev P_law_shuffled : List Str := ["draws", "row"]
abbrev s_law_gcd : Stmt := topS 19
abbrev N_law_gcd : List Str := ["one", "other", "a", "b", "turn", "c"]
abbrev P_law_gcd : List Str := ["one", "other"]
abbrev s_law_frac : Stmt := topS 20
abbrev N_law_frac : List Str := ["n", "d", "c"]
abbrev P_law_frac : List Str := ["n", "d"]
abbrev s_law_plus : Stmt := topS 21
abbrev N_law_plus : List Str := ["one", "other"]
abbrev P_law_plus : List Str := ["one", "other"]
abbrev s_law_power : Stmt := topS 22
abbrev N_law_power : List Str := ["base", "many", "told", "k"]
abbrev P_law_power : List Str := ["base", "many"]
abbrev s_law_choose : Stmt := topS 23
abbrev N_law_choose : List Str := ["many", "some", "told", "k"]
abbrev P_law_choose : List Str := ["many", "some"]
abbrev s_law_times : Stmt := topS 24
abbrev N_law_times : List Str := ["one", "other", "told", "j", "k"]
abbrev P_law_times : List Str := ["one", "other"]
abbrev s_law_polynomial : Stmt := topS 25
abbrev N_law_polynomial : List Str := ["q", "n", "i", "told", "k"]
abbrev P_law_polynomial : List Str := ["q", "n", "i"]
abbrev s_law_spreads_told : Stmt := topS 26
abbrev N_law_spreads_told : List Str := ["draws", "q", "n", "rows", "i", "told", "j", "sizes", "l", "total"]
abbrev P_law_spreads_told : List Str := ["draws", "q", "n"]
abbrev s_law_row : Stmt := topS 27
abbrev N_law_row : List Str := ["draws", "q", "n", "kind", "row", "k", "many", "some"]
abbrev P_law_row : List Str := ["draws", "q", "n"]
abbrev s_law_dual_fractions : Stmt := topS 28
abbrev N_law_dual_fractions : List Str := ["q", "n", "row", "total", "polynomials", "i", "j"]
abbrev P_law_dual_fractions : List Str := ["q", "n", "row"]
abbrev s_law_sums_of : Stmt := topS 29
abbrev N_law_sums_of : List Str := ["n", "row", "dual", "told", "j", "size", "w"]
abbrev P_law_sums_of : List Str := ["n", "row", "dual"]
abbrev s_law_rows_told : Stmt := topS 30
abbrev N_law_rows_told : List Str := ["draws", "q", "n", "one", "two", "both", "k", "due", "row", "a", "together", "first", "second", "told", "whole", "part", "back", "again", "w"]
abbrev P_law_rows_told : List Str := ["draws", "q", "n"]
abbrev s_law : Stmt := topS 31
abbrev N_law : List Str := ["script", "draws", "q", "n", "turn"]
abbrev P_law : List Str := ["script"]
structure Txt (K : PySem.W.Frag) (mg : Str → Option Value) where
  f_fraction : Addr
  f_power_of : Addr
  f_alternating : Addr
  f_krawtchouk : Addr
  f_turned_counts : Addr
  f_counts_of_dual : Addr
  f_zero_sums : Addr
  f_dual_sums : Addr
  f_weights_in : Addr
  f_law_draws : Addr
  f_law_take : Addr
  f_law_same : Addr
  f_law_shuffled : Addr
  f_law_gcd : Addr
  f_law_frac : Addr
  f_law_plus : Addr
  f_law_power : Addr
  f_law_choose : Addr
  f_law_times : Addr
  f_law_polynomial : Addr
  f_law_spreads_told : Addr
  f_law_row : Addr
  f_law_dual_fractions : Addr
  f_law_sums_of : Addr
  f_law_rows_told : Addr
  f_law : Addr
  d_fraction : FuncData
  d_power_of : FuncData
  d_alternating : FuncData
  d_krawtchouk : FuncData
  d_turned_counts : FuncData
  d_counts_of_dual : FuncData
  d_zero_sums : FuncData
  d_dual_sums : FuncData
  d_weights_in : FuncData
  d_law_draws : FuncData
  d_law_take : FuncData
  d_law_same : FuncData
  d_law_shuffled : FuncData
  d_law_gcd : FuncData
  d_law_frac : FuncData
  d_law_plus : FuncData
  d_law_power : FuncData
  d_law_choose : FuncData
  d_law_times : FuncData
  d_law_polynomial : FuncData
  d_law_spreads_told : FuncData
  d_law_row : FuncData
  d_law_dual_fractions : FuncData
  d_law_sums_of : FuncData
  d_law_rows_told : FuncData
  d_law : FuncData
  F_fraction : Fun K "fraction" "fraction" s_fraction f_fraction d_fraction
  B_fraction : Binds K d_fraction P_fraction []
  m_fraction : mg "fraction" = some (.ref f_fraction)
  F_power_of : Fun K "power_of" "power_of" s_power_of f_power_of d_power_of
  B_power_of : Binds K d_power_of P_power_of []
  m_power_of : mg "power_of" = some (.ref f_power_of)
  F_alternating : Fun K "alternating" "alternating" s_alternating f_alternating d_alternating
  B_alternating : Binds K d_alternating P_alternating []
  m_alternating : mg "alternating" = some (.ref f_alternating)
  F_krawtchouk : Fun K "krawtchouk" "krawtchouk" s_krawtchouk f_krawtchouk d_krawtchouk
  B_krawtchouk : Binds K d_krawtchouk P_krawtchouk []
  m_krawtchouk : mg "krawtchouk" = some (.ref f_krawtchouk)
  F_turned_counts : Fun K "turned_counts" "turned_counts" s_turned_counts f_turned_counts d_turned_counts
  B_turned_counts : Binds K d_turned_counts P_turned_counts []
  m_turned_counts : mg "turned_counts" = some (.ref f_turned_counts)
  F_counts_of_dual : Fun K "counts_of_dual" "counts_of_dual" s_counts_of_dual f_counts_of_dual d_counts_of_dual
  B_counts_of_dual : Binds K d_counts_of_dual P_counts_of_dual []
  m_counts_of_dual : mg "counts_of_dual" = some (.ref f_counts_of_dual)
  F_zero_sums : Fun K "zero_sums" "zero_sums" s_zero_sums f_zero_sums d_zero_sums
  B_zero_sums : Binds K d_zero_sums P_zero_sums []
  m_zero_sums : mg "zero_sums" = some (.ref f_zero_sums)
  F_dual_sums : Fun K "dual_sums" "dual_sums" s_dual_sums f_dual_sums d_dual_sums
  B_dual_sums : Binds K d_dual_sums P_dual_sums []
  m_dual_sums : mg "dual_sums" = some (.ref f_dual_sums)
  F_weights_in : Fun K "weights_in" "weights_in" s_weights_in f_weights_in d_weights_in
  B_weights_in : Binds K d_weights_in P_weights_in []
  m_weights_in : mg "weights_in" = some (.ref f_weights_in)
  F_law_draws : Fun K "_law_draws" "_law_draws" s_law_draws f_law_draws d_law_draws
  B_law_draws : Binds K d_law_draws P_law_draws []
  m_law_draws : mg "_law_draws" = some (.ref f_law_draws)
  F_law_take : Fun K "_law_take" "_law_take" s_law_take f_law_take d_law_take
  B_law_take : Binds K d_law_take P_law_take []
  m_law_take : mg "_law_take" = some (.ref f_law_take)
  F_law_same : Fun K "_law_same" "_law_same" s_law_same f_law_same d_law_same
  B_law_same : Binds K d_law_same P_law_same []
  m_law_same : mg "_law_same" = some (.ref f_law_same)
  F_law_shuffled : Fun K "_law_shuffled" "_law_shuffled" s_law_shuffled f_law_shuffled d_law_shuffled
  B_law_shuffled : Binds K d_law_shuffled P_law_shuffled []
  m_law_shuffled : mg "_law_shuffled" = some (.ref f_law_shuffled)
  F_law_gcd : Fun K "_law_gcd" "_law_gcd" s_law_gcd f_law_gcd d_law_gcd
  B_law_gcd : Binds K d_law_gcd P_law_gcd []
  m_law_gcd : mg "_law_gcd" = some (.ref f_law_gcd)
  F_law_frac : Fun K "_law_frac" "_law_frac" s_law_frac f_law_frac d_law_frac
  B_law_frac : Binds K d_law_frac P_law_frac []
  m_law_frac : mg "_law_frac" = some (.ref f_law_frac)
  F_law_plus : Fun K "_law_plus" "_law_plus" s_law_plus f_law_plus d_law_plus
  B_law_plus : Binds K d_law_plus P_law_plus []
  m_law_plus : mg "_law_plus" = some (.ref f_law_plus)
  F_law_power : Fun K "_law_power" "_law_power" s_law_power f_law_power d_law_power
  B_law_power : Binds K d_law_power P_law_power []
  m_law_power : mg "_law_power" = some (.ref f_law_power)
  F_law_choose : Fun K "_law_choose" "_law_choose" s_law_choose f_law_choose d_law_choose
  B_law_choose : Binds K d_law_choose P_law_choose []
  m_law_choose : mg "_law_choose" = some (.ref f_law_choose)
  F_law_times : Fun K "_law_times" "_law_times" s_law_times f_law_times d_law_times
  B_law_times : Binds K d_law_times P_law_times []
  m_law_times : mg "_law_times" = some (.ref f_law_times)
  F_law_polynomial : Fun K "_law_polynomial" "_law_polynomial" s_law_polynomial f_law_polynomial d_law_polynomial
  B_law_polynomial : Binds K d_law_polynomial P_law_polynomial []
  m_law_polynomial : mg "_law_polynomial" = some (.ref f_law_polynomial)
  F_law_spreads_told : Fun K "_law_spreads_told" "_law_spreads_told" s_law_spreads_told f_law_spreads_told d_law_spreads_told
  B_law_spreads_told : Binds K d_law_spreads_told P_law_spreads_told []
  m_law_spreads_told : mg "_law_spreads_told" = some (.ref f_law_spreads_told)
  F_law_row : Fun K "_law_row" "_law_row" s_law_row f_law_row d_law_row
  B_law_row : Binds K d_law_row P_law_row []
  m_law_row : mg "_law_row" = some (.ref f_law_row)
  F_law_dual_fractions : Fun K "_law_dual_fractions" "_law_dual_fractions" s_law_dual_fractions f_law_dual_fractions d_law_dual_fractions
  B_law_dual_fractions : Binds K d_law_dual_fractions P_law_dual_fractions []
  m_law_dual_fractions : mg "_law_dual_fractions" = some (.ref f_law_dual_fractions)
  F_law_sums_of : Fun K "_law_sums_of" "_law_sums_of" s_law_sums_of f_law_sums_of d_law_sums_of
  B_law_sums_of : Binds K d_law_sums_of P_law_sums_of []
  m_law_sums_of : mg "_law_sums_of" = some (.ref f_law_sums_of)
  F_law_rows_told : Fun K "_law_rows_told" "_law_rows_told" s_law_rows_told f_law_rows_told d_law_rows_told
  B_law_rows_told : Binds K d_law_rows_told P_law_rows_told []
  m_law_rows_told : mg "_law_rows_told" = some (.ref f_law_rows_told)
  F_law : Fun K "law" "law" s_law f_law d_law
  B_law : Binds K d_law P_law []
  m_law : mg "law" = some (.ref f_law)
  m_comb : mg "comb" = some (.builtin "math.comb")
  m_gcd : mg "gcd" = some (.builtin "math.gcd")
  n_abs : mg "abs" = none
  n_bool : mg "bool" = none
  n_enumerate : mg "enumerate" = none
  n_int : mg "int" = none
  n_isinstance : mg "isinstance" = none
  n_len : mg "len" = none
  n_list : mg "list" = none
  n_max : mg "max" = none
  n_min : mg "min" = none
  n_range : mg "range" = none
  n_str : mg "str" = none
  n_sum : mg "sum" = none
  n_tuple : mg "tuple" = none
def b_fraction : SS :=
  (sSeq (sIf (cBinT gLt (cVar 1) (cC (.int 0))) (sPar 0 1 (cCons (cUn gNeg (cVar 0)) (cCons (cUn gNeg (cVar 1)) cNil))) sNext)
    (sSeq (sSet 2 (cArgs gcGcd (cCons (cVar 0) (cCons (cVar 1) cNil))))
    (sRet (cTup (cCons (cBin gFdiv (cVar 0) (cVar 2)) (cCons (cBin gFdiv (cVar 1) (cVar 2)) cNil))))))
def F_fraction : SS := fnF 1 b_fraction
def lb_power_of_1 : SS :=
  (sAug 2 gMul (cVar 0))
def b_power_of : SS :=
  (sSeq (sSet 2 (cC (.int 1)))
    (sSeq (sFor (iRange1 (cVar 1)) (gNm 3) lb_power_of_1)
    (sRet (cVar 2))))
def F_power_of : SS := fnF 2 b_power_of
def b_alternating : SS :=
  (sRet (cIf (cBinT gEq (cBin gMod (cVar 0) (cC (.int 2))) (cC (.int 0))) (cC (.int 1)) (cUn gNeg (cC (.int 1)))))
def F_alternating : SS := fnF 0 b_alternating
def lb_krawtchouk_1 : SS :=
  (sSeq (sSet 6 (cBin gMulX (cArgs gcComb (cCons (cVar 3) (cCons (cVar 5) cNil))) (cArgs gcComb (cCons (cBin gSub (cVar 1) (cVar 3)) (cCons (cBin gSub (cVar 2) (cVar 5)) cNil)))))
    (sAug 4 gAddI (cBin gMulX (cBin gMulX (cCall F_alternating [.e (cVar 5)]) (cCall F_power_of [.e (cBin gSub (cVar 0) (cC (.int 1))), .e (cBin gSub (cVar 2) (cVar 5))])) (cVar 6))))
def b_krawtchouk : SS :=
  (sSeq (sSet 4 (cC (.int 0)))
    (sSeq (sFor (iRange1 (cBin gAddX (cVar 2) (cC (.int 1)))) (gNm 5) lb_krawtchouk_1)
    (sRet (cVar 4))))
def F_krawtchouk : SS := fnF 3 b_krawtchouk
def le_turned_counts_1 : SE :=
  (cBin gMulX (cVar 6) (cCall F_krawtchouk [.e (cVar 0), .e (cVar 1), .e (cVar 4), .e (cVar 5)]))
def lb_turned_counts_2 : SS :=
  (sDrop (cApp 3 (cV1 gvSum (cSeeL (cLc (iEnum' (cVar 2)) (gTp 2 (gMore (gNm 5) (gMore (gNm 6) gEnd))) cYes le_turned_counts_1 [5, 6])))))
def b_turned_counts : SS :=
  (sSeq (sSetO 3 (cLst cNil))
    (sSeq (sFor (iRange1 (cBin gAddX (cVar 1) (cC (.int 1)))) (gNm 4) lb_turned_counts_2)
    (sRetO 3)))
def F_turned_counts : SS := fnF 4 b_turned_counts
def le_counts_of_dual_1 : SE :=
  (cCall F_fraction [.e (cVar 4), .e (cVar 3)])
def b_counts_of_dual : SS :=
  (sSeq (sSet 3 (cV1 gvSum (cAny 2)))
    (sRet (cV1 gvTup (cSeeL (cLc (iVal (cCall F_turned_counts [.e (cVar 0), .e (cVar 1), .e (cVar 2)])) (gNm 4) cYes le_counts_of_dual_1 [4])))))
def F_counts_of_dual : SS := fnF 2 b_counts_of_dual
def le_zero_sums_1 : SE :=
  (cBin gMulX (cVar 4) (cArgs gcComb (cCons (cBin gSub (cVar 1) (cVar 3)) (cCons (cVar 2) cNil))))
def le_zero_sums_2 : SE :=
  (cV1 gvSum (cSeeL (cLc (iEnum' (cVar 0)) (gTp 2 (gMore (gNm 3) (gMore (gNm 4) gEnd))) cYes le_zero_sums_1 [3, 4])))
def b_zero_sums : SS :=
  (sSeq (sSet 1 (cBin gSub (cV1 gvLen (cAny 0)) (cC (.int 1))))
    (sRet (cV1 gvTup (cSeeL (cLc (iRange1 (cBin gAddX (cVar 1) (cC (.int 1)))) (gNm 2) cYes le_zero_sums_2 [2])))))
def F_zero_sums : SS := fnF 4 b_zero_sums
def le_dual_sums_1 : SE :=
  (cBin gMulX (cVar 4) (cArgs gcComb (cCons (cBin gSub (cVar 1) (cVar 3)) (cCons (cBin gSub (cVar 1) (cVar 2)) cNil))))
def le_dual_sums_2 : SE :=
  (cV1 gvSum (cSeeL (cLc (iEnum' (cVar 0)) (gTp 2 (gMore (gNm 3) (gMore (gNm 4) gEnd))) cYes le_dual_sums_1 [3, 4])))
def b_dual_sums : SS :=
  (sSeq (sSet 1 (cBin gSub (cV1 gvLen (cAny 0)) (cC (.int 1))))
    (sRet (cV1 gvTup (cSeeL (cLc (iRange1 (cBin gAddX (cVar 1) (cC (.int 1)))) (gNm 2) cYes le_dual_sums_2 [2])))))
def F_dual_sums : SS := fnF 4 b_dual_sums
def le_weights_in_1 : SE :=
  (cVar 1)
def lt_weights_in_2 : ST :=
  (cAnd (cBinT gGt (cVar 1) (cC (.int 0))) (cBinT gNe (cVar 2) (cC (.int 0))))
def b_weights_in : SS :=
  (sRet (cV1 gvTup (cSeeL (cLc (iEnum' (cVar 0)) (gTp 2 (gMore (gNm 1) (gMore (gNm 2) gEnd))) lt_weights_in_2 le_weights_in_1 [1, 2]))))
def F_weights_in : SS := fnF 2 b_weights_in
def le_law_draws_1 : SE :=
  (cBin gMod (cArgs gcInt (cCons (cVar 3) cNil)) (cBin gShl (cC (.int 1)) (cC (.int 7200))))
def lb_law_draws_2 : SS :=
  (sSeq (sSet 7 (cBin gMod (cArgs gcInt (cCons (cVar 6) cNil)) (cV1 gvLen (cAny 2))))
    (sIf (cAnd (cBinT gGe (cIxA 2 (cVar 7)) (cBin gPow (cC (.int 10)) (cC (.int 18)))) (cBinT gGt (cIxA 4 (cVar 7)) (cC (.int 0)))) (sSeq (sDrop (cApp 5 (cBin gMod (cArgs gcInt (cCons (cIxA 4 (cVar 7)) cNil)) (cC (.int 1000)))))
    (sSetIx 4 (cBin gFdiv (cIxA 4 (cVar 7)) (cC (.int 1000))) (cVar 7))) (sSeq (sSet 8 (cBin gMod (cArgs gcInt (cCons (cBin gAddX (cBin gAddX (cBin gMulX (cIxA 2 (cVar 7)) (cC (.int 48271))) (cBin gMulX (cVar 6) (cC (.int 69621)))) (cC (.int 11))) cNil)) (cC (.int 2147483647))))
    (sDrop (cApp 5 (cBin gMod (cArgs gcInt (cCons (cBin gAddX (cBin gAddX (cBin gMulX (cVar 8) (cVar 8)) (cBin gMulX (cC (.int 3)) (cVar 8))) (cVar 6)) cNil)) (cC (.int 1000003))))))))
def b_law_draws : SS :=
  (sSeq (sSetO 2 (cLc (iVal (cSl (cVar 0) oNone (oSome (cC (.int 63))))) (gNm 3) cYes le_law_draws_1 [3]))
    (sSeq (sIf (cBinT gEq (cV1 gvLen (cAny 2)) (cC (.int 0))) (sDrop (cApp 2 (cC (.int 0)))) sNext)
    (sSeq (sSetO 4 (cV1L gvList (cAny 2)))
    (sSeq (sSetO 5 (cLst cNil))
    (sSeq (sFor (iRange1 (cVar 1)) (gNm 6) lb_law_draws_2)
    (sSeq (sDrop (cRev 5))
    (sRetO 5)))))))
def F_law_draws : SS := fnF 7 b_law_draws
def b_law_take : SS :=
  (sSeq (sIf (cBinT gEq (cV1 gvLen (cAny 0)) (cC (.int 0))) (sRet (cC (.int 0))) sNext)
    (sRet (cBin gMod (cArgs gcInt (cCons (cPop 0) cNil)) (cVar 1))))
def F_law_take : SS := fnF 0 b_law_take
def le_law_same_1 (R : SS) : SE :=
  (cCall R [.e (cIxA 0 (cVar 2)), .e (cIxA 1 (cVar 2))])
def F_law_same : Nat → SS
  | 0 => fun _ => none
  | k + 1 => fnF 1 ((sSeq (sIf (cAsB (cIsi ["tuple", "list"] (cVar 1))) (sSeq (sIf (cOr (cBinT gNe (cIsi ["tuple"] (cVar 0)) (cIsi ["tuple"] (cVar 1))) (cBinT gNe (cIsi ["list"] (cVar 0)) (cIsi ["list"] (cVar 1)))) (sRet (cC (.bl false))) sNext)
    (sSeq (sIf (cBinT gNe (cV1 gvLen (cAny 0)) (cV1 gvLen (cAny 1))) (sRet (cC (.bl false))) sNext)
    (sRet (cBl (cBinT gNotIn (cC (.bl false)) (cFrz (cLc (iRange1 (cV1 gvLen (cAny 1))) (gNm 2) cYes (le_law_same_1 (F_law_same k)) [2]))))))) sNext)
    (sSeq (sIf (cOr (cBinT gNe (cIsi ["bool"] (cVar 0)) (cIsi ["bool"] (cVar 1))) (cBinT gNe (cIsi ["int"] (cVar 0)) (cIsi ["int"] (cVar 1)))) (sRet (cC (.bl false))) sNext)
    (sSeq (sIf (cOr (cBinT gNe (cIsi ["str"] (cVar 0)) (cIsi ["str"] (cVar 1))) (cBinT gNe (cBl (cBinT gIsN (cVar 0) (cC .non))) (cBl (cBinT gIsN (cVar 1) (cC .non))))) (sRet (cC (.bl false))) sNext)
    (sRet (cBl (cBinT gEq (cVar 0) (cVar 1))))))))
def lb_law_shuffled_1 : SS :=
  (sDrop (cApp 3 (cPopAt 2 (cCall F_law_take [.io 0, .e (cV1 gvLen (cAny 2))]))))
def b_law_shuffled : SS :=
  (sSeq (sSetO 2 (cV1L gvList (cAny 1)))
    (sSeq (sSetO 3 (cLst cNil))
    (sSeq (sFor (iRange1 (cV1 gvLen (cAny 2))) (gNm 4) lb_law_shuffled_1)
    (sRetO 3))))
def F_law_shuffled : SS := fnF 3 b_law_shuffled
def lb_law_gcd_1 : SS :=
  (sSeq (sIf (cBinT gEq (cVar 3) (cC (.int 0))) sBrk sNext)
    (sSeq (sSet 5 (cBin gMod (cArgs gcInt (cCons (cVar 2) cNil)) (cVar 3)))
    (sSeq (sSet 2 (cVar 3))
    (sSet 3 (cVar 5)))))
def b_law_gcd : SS :=
  (sSeq (sSet 2 (cArgs gcAbs (cCons (cVar 0) cNil)))
    (sSeq (sSet 3 (cArgs gcAbs (cCons (cVar 1) cNil)))
    (sSeq (sFor (iRange1 (cC (.int 20000))) (gNm 4) lb_law_gcd_1)
    (sRet (cVar 2)))))
def F_law_gcd : SS := fnF 4 b_law_gcd
def b_law_frac : SS :=
  (sSeq (sSet 2 (cArgs gcMax2 (cCons (cC (.int 1)) (cCons (cCall F_law_gcd [.e (cVar 0), .e (cVar 1)]) cNil))))
    (sSeq (sIf (cBinT gLt (cVar 1) (cC (.int 0))) (sSet 2 (cBin gSub (cC (.int 0)) (cVar 2))) sNext)
    (sRet (cTup (cCons (cBin gFdiv (cVar 0) (cVar 2)) (cCons (cBin gFdiv (cVar 1) (cVar 2)) cNil))))))
def F_law_frac : SS := fnF 1 b_law_frac
def b_law_plus : SS :=
  (sRet (cCall F_law_frac [.e (cBin gAddX (cBin gMulX (cIxA 0 (cC (.int 0))) (cIxA 1 (cC (.int 1)))) (cBin gMulX (cIxA 1 (cC (.int 0))) (cIxA 0 (cC (.int 1))))), .e (cBin gMulX (cIxA 0 (cC (.int 1))) (cIxA 1 (cC (.int 1))))]))
def F_law_plus : SS := fnF 0 b_law_plus
def lb_law_power_1 : SS :=
  (sSet 2 (cBin gMulX (cVar 2) (cVar 0)))
def b_law_power : SS :=
  (sSeq (sSet 2 (cC (.int 1)))
    (sSeq (sFor (iRange1 (cVar 1)) (gNm 3) lb_law_power_1)
    (sRet (cVar 2))))
def F_law_power : SS := fnF 2 b_law_power
def lb_law_choose_1 : SS :=
  (sSet 2 (cBin gFdiv (cBin gMulX (cVar 2) (cBin gSub (cVar 0) (cVar 3))) (cBin gAddX (cVar 3) (cC (.int 1)))))
def b_law_choose : SS :=
  (sSeq (sIf (cOr (cBinT gLt (cVar 1) (cC (.int 0))) (cBinT gGt (cVar 1) (cVar 0))) (sRet (cC (.int 0))) sNext)
    (sSeq (sSet 2 (cC (.int 1)))
    (sSeq (sFor (iRange1 (cVar 1)) (gNm 3) lb_law_choose_1)
    (sRet (cVar 2)))))
def F_law_choose : SS := fnF 2 b_law_choose
def lb_law_times_1 : SS :=
  (sSetIx 2 (cBin gAddX (cIxA 2 (cBin gAddX (cVar 3) (cVar 4))) (cBin gMulX (cIxA 0 (cVar 3)) (cIxA 1 (cVar 4)))) (cBin gAddX (cVar 3) (cVar 4)))
def lb_law_times_2 : SS :=
  (sFor (iRange1 (cV1 gvLen (cAny 1))) (gNm 4) lb_law_times_1)
def b_law_times : SS :=
  (sSeq (sSetO 2 (cBinL gRep (cFrz (cLst (cCons (cC (.int 0)) cNil))) (cBin gSub (cBin gAddX (cV1 gvLen (cAny 0)) (cV1 gvLen (cAny 1))) (cC (.int 1)))))
    (sSeq (sFor (iRange1 (cV1 gvLen (cAny 0))) (gNm 3) lb_law_times_2)
    (sRet (cV1 gvTup (cAny 2)))))
def F_law_times : SS := fnF 3 b_law_times
def lb_law_polynomial_1 : SS :=
  (sIf (cBinT gLt (cVar 4) (cVar 2)) (sSet 3 (cCall F_law_times [.e (cVar 3), .e (cTup (cCons (cC (.int 1)) (cCons (cUn gNeg (cC (.int 1))) cNil)))])) (sSet 3 (cCall F_law_times [.e (cVar 3), .e (cTup (cCons (cC (.int 1)) (cCons (cBin gSub (cVar 0) (cC (.int 1))) cNil)))])))
def b_law_polynomial : SS :=
  (sSeq (sSet 3 (cTup (cCons (cC (.int 1)) cNil)))
    (sSeq (sFor (iRange1 (cVar 1)) (gNm 4) lb_law_polynomial_1)
    (sRet (cVar 3))))
def F_law_polynomial : SS := fnF 2 b_law_polynomial
def le_law_spreads_told_1 : SE :=
  (cCall F_law_polynomial [.e (cVar 1), .e (cVar 2), .e (cVar 4)])
def le_law_spreads_told_2 : SE :=
  (cCall F_krawtchouk [.e (cVar 1), .e (cVar 2), .e (cVar 6), .e (cVar 4)])
def le_law_spreads_told_3 : SE :=
  (cFrz (cLc (iRange1 (cBin gAddX (cVar 2) (cC (.int 1)))) (gNm 6) cYes le_law_spreads_told_2 [6]))
def lb_law_spreads_told_4 : SS :=
  (sIf (cNot (cAsB (cCall (F_law_same 6) [.e (cV1 gvTup (cSee (cIxA 5 (cVar 4)))), .e (cIxA 3 (cVar 4))]))) (sRet (cC (.bl false))) sNext)
def le_law_spreads_told_5 : SE :=
  (cBin gMulX (cCall F_law_choose [.e (cVar 2), .e (cVar 4)]) (cCall F_law_power [.e (cBin gSub (cVar 1) (cC (.int 1))), .e (cVar 4)]))
def le_law_spreads_told_6 : SE :=
  (cBin gMulX (cBin gIx (cIxA 5 (cVar 4)) (cVar 6)) (cBin gIx (cIxA 5 (cVar 8)) (cVar 4)))
def lb_law_spreads_told_7 : SS :=
  (sSeq (sSet 9 (cV1 gvSum (cSeeL (cLc (iRange1 (cBin gAddX (cVar 2) (cC (.int 1)))) (gNm 4) cYes le_law_spreads_told_6 [4]))))
    (sIf (cOr (cBinT gNe (cVar 9) (cBin gMulX (cCall F_law_power [.e (cVar 1), .e (cVar 2)]) (cArgs gcInt (cCons (cBl (cBinT gEq (cVar 6) (cVar 8))) cNil)))) (cBinT gNe (cBin gMulX (cIxA 7 (cVar 8)) (cBin gIx (cIxA 5 (cVar 8)) (cVar 6))) (cBin gMulX (cIxA 7 (cVar 6)) (cBin gIx (cIxA 5 (cVar 6)) (cVar 8))))) (sRet (cC (.bl false))) sNext))
def b_law_spreads_told : SS :=
  (sSeq (sFrzA 3 (sSetO 3 (cLc (iRange1 (cBin gAddX (cVar 2) (cC (.int 1)))) (gNm 4) cYes le_law_spreads_told_1 [4])))
    (sSeq (sFrzA 5 (sSetO 5 (cLc (iRange1 (cBin gAddX (cVar 2) (cC (.int 1)))) (gNm 4) cYes le_law_spreads_told_3 [4])))
    (sSeq (sFor (iRange1 (cBin gAddX (cVar 2) (cC (.int 1)))) (gNm 4) lb_law_spreads_told_4)
    (sSeq (sFrzA 7 (sSetO 7 (cLc (iRange1 (cBin gAddX (cVar 2) (cC (.int 1)))) (gNm 4) cYes le_law_spreads_told_5 [4])))
    (sSeq (sSet 6 (cCall F_law_take [.io 0, .e (cBin gAddX (cVar 2) (cC (.int 1)))]))
    (sSeq (sFor (iRange1 (cBin gAddX (cVar 2) (cC (.int 1)))) (gNm 8) lb_law_spreads_told_7)
    (sRet (cC (.bl true)))))))))
def F_law_spreads_told : SS := fnF 7 b_law_spreads_told
def le_law_row_1 : SE :=
  (cBin gSub (cCall F_law_take [.io 0, .e (cC (.int 200001))]) (cC (.int 100000)))
def le_law_row_2 : SE :=
  (cCall F_law_take [.io 0, .e (cC (.int 3))])
def le_law_row_3 : SE :=
  (cCall F_law_take [.io 0, .e (cC (.int 9))])
def lb_law_row_4 : SS :=
  (sSetIx 4 (cBin gAddX (cIxA 4 (cVar 5)) (cBin gMulX (cBin gMulX (cIxA 6 (cC (.int 2))) (cCall F_law_choose [.e (cVar 7), .e (cVar 5)])) (cCall F_law_power [.e (cBin gSub (cVar 1) (cC (.int 1))), .e (cVar 5)]))) (cVar 5))
def b_law_row : SS :=
  (sSeq (sSet 3 (cCall F_law_take [.io 0, .e (cC (.int 4))]))
    (sSeq (sIf (cBinT gEq (cVar 3) (cC (.int 0))) (sSeq (sSetO 4 (cBinL gRep (cFrz (cLst (cCons (cC (.int 0)) cNil))) (cBin gAddX (cVar 2) (cC (.int 1)))))
    (sSeq (sSetIx 4 (cBin gAddX (cC (.int 1)) (cCall F_law_take [.io 0, .e (cC (.int 100000))])) (cCall F_law_take [.io 0, .e (cBin gAddX (cVar 2) (cC (.int 1)))]))
    (sRet (cV1 gvTup (cAny 4))))) sNext)
    (sSeq (sIf (cBinT gEq (cVar 3) (cC (.int 1))) (sRet (cV1 gvTup (cSeeL (cLc (iRange1 (cBin gAddX (cVar 2) (cC (.int 1)))) (gNm 5) cYes le_law_row_1 [5])))) sNext)
    (sSeq (sIf (cBinT gEq (cVar 3) (cC (.int 2))) (sRet (cV1 gvTup (cSeeL (cLc (iRange1 (cBin gAddX (cVar 2) (cC (.int 1)))) (gNm 5) cYes le_law_row_2 [5])))) sNext)
    (sSeq (sSetO 4 (cBinL gRep (cFrz (cLst (cCons (cC (.int 0)) cNil))) (cBin gAddX (cVar 2) (cC (.int 1)))))
    (sSeq (sFrzA 6 (sSetO 6 (cLc (iRange1 (cC (.int 3))) (gNm 5) cYes le_law_row_3 [5])))
    (sSeq (sSetIx 4 (cBin gAddX (cIxA 6 (cC (.int 0))) (cIxA 6 (cC (.int 1)))) (cC (.int 0)))
    (sSeq (sSetIx 4 (cBin gAddX (cIxA 4 (cVar 2)) (cBin gMulX (cIxA 6 (cC (.int 0))) (cBin gSub (cVar 1) (cC (.int 1))))) (cVar 2))
    (sSeq (sSet 7 (cCall F_law_take [.io 0, .e (cBin gAddX (cArgs gcMin2 (cCons (cVar 2) (cCons (cC (.int 4)) cNil))) (cC (.int 1)))]))
    (sSeq (sFor (iRange1 (cBin gAddX (cVar 7) (cC (.int 1)))) (gNm 5) lb_law_row_4)
    (sRet (cV1 gvTup (cAny 4)))))))))))))
def F_law_row : SS := fnF 5 b_law_row
def le_law_dual_fractions_1 : SE :=
  (cCall F_law_polynomial [.e (cVar 0), .e (cVar 1), .e (cVar 5)])
def le_law_dual_fractions_2 : SE :=
  (cBin gMulX (cIxA 2 (cVar 5)) (cBin gIx (cIxA 4 (cVar 5)) (cVar 6)))
def le_law_dual_fractions_3 : SE :=
  (cCall F_law_frac [.e (cV1 gvSum (cSeeL (cLc (iRange1 (cBin gAddX (cVar 1) (cC (.int 1)))) (gNm 5) cYes le_law_dual_fractions_2 [5]))), .e (cVar 3)])
def b_law_dual_fractions : SS :=
  (sSeq (sSet 3 (cV1 gvSum (cAny 2)))
    (sSeq (sFrzA 4 (sSetO 4 (cLc (iRange1 (cBin gAddX (cVar 1) (cC (.int 1)))) (gNm 5) cYes le_law_dual_fractions_1 [5])))
    (sRet (cV1 gvTup (cSeeL (cLc (iRange1 (cBin gAddX (cVar 1) (cC (.int 1)))) (gNm 6) cYes le_law_dual_fractions_3 [6]))))))
def F_law_dual_fractions : SS := fnF 4 b_law_dual_fractions
def le_law_sums_of_1 : SE :=
  (cBin gMulX (cIxA 1 (cVar 6)) (cCall F_law_choose [.e (cBin gSub (cVar 0) (cVar 6)), .e (cVar 5)]))
def lb_law_sums_of_2 : SS :=
  (sSeq (sSet 5 (cBin gIx (cFrz (cLst (cCons (cVar 4) (cCons (cBin gSub (cVar 0) (cVar 4)) cNil)))) (cVar 2)))
    (sDrop (cApp 3 (cV1 gvSum (cSeeL (cLc (iRange1 (cBin gAddX (cVar 0) (cC (.int 1)))) (gNm 6) cYes le_law_sums_of_1 [6]))))))
def b_law_sums_of : SS :=
  (sSeq (sSetO 3 (cLst cNil))
    (sSeq (sFor (iRange1 (cBin gAddX (cVar 0) (cC (.int 1)))) (gNm 4) lb_law_sums_of_2)
    (sRet (cV1 gvTup (cAny 3)))))
def F_law_sums_of : SS := fnF 4 b_law_sums_of
def le_law_rows_told_1 : SE :=
  (cBin gAddX (cIxA 3 (cVar 6)) (cIxA 4 (cVar 6)))
def le_law_rows_told_2 : SE :=
  (cCall F_law_dual_fractions [.e (cVar 1), .e (cVar 2), .e (cVar 8)])
def le_law_rows_told_3 : SE :=
  (cArgs gcAbs (cCons (cVar 9) cNil))
def lb_law_rows_told_4 : SS :=
  (sSeq (sSet 11 (cCall F_law_frac [.e (cBin gMulX (cV1 gvSum (cAny 3)) (cBin gIx (cBin gIx (cIxA 7 (cC (.int 0))) (cVar 6)) (cC (.int 0)))), .e (cBin gIx (cBin gIx (cIxA 7 (cC (.int 0))) (cVar 6)) (cC (.int 1)))]))
    (sSeq (sSet 12 (cCall F_law_frac [.e (cBin gMulX (cV1 gvSum (cAny 4)) (cBin gIx (cBin gIx (cIxA 7 (cC (.int 1))) (cVar 6)) (cC (.int 0)))), .e (cBin gIx (cBin gIx (cIxA 7 (cC (.int 1))) (cVar 6)) (cC (.int 1)))]))
    (sSeq (sSet 13 (cCall F_law_plus [.e (cVar 11), .e (cVar 12)]))
    (sDrop (cApp 10 (cCall F_law_frac [.e (cIxA 13 (cC (.int 0))), .e (cBin gMulX (cIxA 13 (cC (.int 1))) (cV1 gvSum (cAny 5)))]))))))
def le_law_rows_told_5 : SE :=
  (cBin gIx (cCall F_law_frac [.e (cBin gMulX (cV1 gvSum (cAny 3)) (cIxA 15 (cC (.int 0)))), .e (cIxA 15 (cC (.int 1)))]) (cC (.int 0)))
def le_law_rows_told_6 : SE :=
  (cArgs gcAbs (cCons (cVar 9) cNil))
def le_law_rows_told_7 : SE :=
  (cCall F_law_frac [.e (cBin gMulX (cVar 9) (cCall F_law_power [.e (cVar 1), .e (cVar 2)])), .e (cV1 gvSum (cAny 14))])
def le_law_rows_told_8 : SE :=
  (cVar 18)
def lt_law_rows_told_9 : ST :=
  (cBinT gNe (cIxA 8 (cVar 18)) (cC (.int 0)))
def lb_law_rows_told_10 : SS :=
  (sSeq (sIf (cNot (cAsB (cCall (F_law_same 6) [.e (cFrz (cLst (cCons (cCall F_zero_sums [.e (cVar 8)]) (cCons (cCall F_dual_sums [.e (cVar 8)]) cNil)))), .e (cFrz (cLst (cCons (cCall F_law_sums_of [.e (cVar 2), .e (cVar 8), .e (cC (.int 0))]) (cCons (cCall F_law_sums_of [.e (cVar 2), .e (cVar 8), .e (cC (.int 1))]) cNil))))]))) (sRet (cC (.bl false))) sNext)
    (sIf (cNot (cAsB (cCall (F_law_same 6) [.e (cCall F_weights_in [.e (cVar 8)]), .e (cV1 gvTup (cSeeL (cLc (iRange2 (cC (.int 1)) (cBin gAddX (cVar 2) (cC (.int 1)))) (gNm 18) lt_law_rows_told_9 le_law_rows_told_8 [18])))]))) (sRet (cC (.bl false))) sNext))
def b_law_rows_told : SS :=
  (sSeq (sSet 3 (cCall F_law_row [.io 0, .e (cVar 1), .e (cVar 2)]))
    (sSeq (sSet 4 (cCall F_law_row [.io 0, .e (cVar 1), .e (cVar 2)]))
    (sSeq (sSet 5 (cV1 gvTup (cSeeL (cLc (iRange1 (cBin gAddX (cVar 2) (cC (.int 1)))) (gNm 6) cYes le_law_rows_told_1 [6]))))
    (sSeq (sIf (cBinT gIn (cC (.int 0)) (cFrz (cLst (cCons (cV1 gvSum (cAny 3)) (cCons (cV1 gvSum (cAny 4)) (cCons (cV1 gvSum (cAny 5)) cNil)))))) (sRet (cC (.bl true))) sNext)
    (sSeq (sFrzA 7 (sSetO 7 (cLc (iVal (cFrz (cLst (cCons (cVar 3) (cCons (cVar 4) cNil))))) (gNm 8) cYes le_law_rows_told_2 [8])))
    (sSeq (sIf (cNot (cAsB (cCall (F_law_same 6) [.e (cFrz (cLst (cCons (cCall F_counts_of_dual [.e (cVar 1), .e (cVar 2), .e (cVar 3)]) (cCons (cCall F_counts_of_dual [.e (cVar 1), .e (cVar 2), .e (cVar 4)]) cNil)))), .e (cVar 7)]))) (sRet (cC (.bl false))) sNext)
    (sSeq (sIf (cBinT gLe (cV1 gvMax (cSeeL (cLc (iVal (cVar 5)) (gNm 9) cYes le_law_rows_told_3 [9]))) (cC (.int 100000))) (sSeq (sSetO 10 (cLst cNil))
    (sSeq (sFor (iRange1 (cBin gAddX (cVar 2) (cC (.int 1)))) (gNm 6) lb_law_rows_told_4)
    (sIf (cNot (cAsB (cCall (F_law_same 6) [.e (cCall F_counts_of_dual [.e (cVar 1), .e (cVar 2), .e (cVar 5)]), .e (cV1 gvTup (cAny 10))]))) (sRet (cC (.bl false))) sNext))) sNext)
    (sSeq (sFrzA 14 (sSetO 14 (cLc (iVal (cIxA 7 (cC (.int 0)))) (gNm 15) cYes le_law_rows_told_5 [15])))
    (sSeq (sIf (cAnd (cBinT gLe (cV1 gvMax (cSeeL (cLc (iVal (cVar 14)) (gNm 9) cYes le_law_rows_told_6 [9]))) (cC (.int 100000))) (cBinT gNe (cV1 gvSum (cAny 14)) (cC (.int 0)))) (sSeq (sSet 16 (cCall F_counts_of_dual [.e (cVar 1), .e (cVar 2), .e (cV1 gvTup (cAny 14))]))
    (sSeq (sSet 17 (cV1 gvTup (cSeeL (cLc (iVal (cVar 3)) (gNm 9) cYes le_law_rows_told_7 [9]))))
    (sIf (cNot (cAsB (cCall (F_law_same 6) [.e (cVar 16), .e (cVar 17)]))) (sRet (cC (.bl false))) sNext))) sNext)
    (sSeq (sFor (iVal (cFrz (cLst (cCons (cVar 3) (cCons (cVar 4) cNil))))) (gNm 8) lb_law_rows_told_10)
    (sRet (cC (.bl true)))))))))))))
def F_law_rows_told : SS := fnF 16 b_law_rows_told
def lb_law_1 : SS :=
  (sIf (cNot (cAsB (cCall F_law_rows_told [.io 1, .e (cVar 2), .e (cVar 3)]))) (sRet (cC (.bl false))) sNext)
def lb_law_2 : SS :=
  (sSeq (sSet 3 (cBin gAddX (cC (.int 1)) (cCall F_law_take [.io 1, .e (cC (.int 12))])))
    (sSeq (sIf (cNot (cAsB (cCall F_law_spreads_told [.io 1, .e (cVar 2), .e (cVar 3)]))) (sRet (cC (.bl false))) sNext)
    (sFor (iRange1 (cC (.int 3))) (gNm 4) lb_law_1)))
def b_law : SS :=
  (sSeq (sSetO 1 (cCallL F_law_draws [.e (cVar 0), .e (cC (.int 300))]))
    (sSeq (sFor (iVal (cSl (cCall F_law_shuffled [.io 1, .e (cFrz (cLst (cCons (cC (.int 2)) (cCons (cC (.int 3)) (cCons (cC (.int 4)) (cCons (cC (.int 5)) (cCons (cC (.int 7)) (cCons (cC (.int 8)) (cCons (cC (.int 9)) cNil)))))))))]) oNone (oSome (cC (.int 2))))) (gNm 2) lb_law_2)
    (sRet (cC (.bl true)))))
def F_law : SS := fnF 4 b_law
theorem sc_fraction : FnScope N_fraction P_fraction (defScope s_fraction) := ⟨rfl, rfl, rfl, by decide +kernel, rfl, by decide +kernel, by decide +kernel⟩
set_option maxHeartbeats 0 in
theorem ok_fraction {P : Program} {w : World} {K : PySem.W.Frag} {mg : Str → Option Value} {base : Heap} (T : Txt K mg) : FnOk P w K mg base CX0 1 T.f_fraction T.d_fraction P_fraction (spF K 2 F_fraction) := by
  have SC := sc_fraction
  exact fn_ok (fb := b_fraction) T.F_fraction SC rfl rfl (fun _ _ _ _ _ _ hr =>
    (fss_cons (fs_if (ft_cmp op_lt (so_cmp _) (fe_var 1) fe_int (nomark _)) (fss_one (fs_par 0 1 rfl SC.nd (fa_cons (fe_un un_neg (so_neg _) (fe_var 0)) (fa_cons (fe_un un_neg (so_neg _) (fe_var 1)) fa_nil)) (by rfl))) fss_nil)
    (fss_cons (fs_set 2 SC.nd (fe_callBfun cr_gcd so_gcd (by rfl) T.m_gcd (fa_cons (fe_var 0) (fa_cons (fe_var 1) fa_nil))))
    (fss_one (fs_ret (fe_tup (fa_cons (fe_op op_fdivZ (so_fdiv _) (fe_var 0) (fe_var 2)) (fa_cons (fe_op op_fdivZ (so_fdiv _) (fe_var 1) (fe_var 2)) fa_nil))))))))
theorem sc_power_of : FnScope N_power_of P_power_of (defScope s_power_of) := ⟨rfl, rfl, rfl, by decide +kernel, rfl, by decide +kernel, by decide +kernel⟩
set_option maxHeartbeats 0 in
theorem ok_power_of {P : Program} {w : World} {K : PySem.W.Frag} {mg : Str → Option Value} {base : Heap} (T : Txt K mg) : FnOk P w K mg base CX0 1 T.f_power_of T.d_power_of P_power_of (spF K 2 F_power_of) := by
  have SC := sc_power_of
  exact fn_ok (fb := b_power_of) T.F_power_of SC rfl rfl (fun _ _ _ _ _ _ hr =>
    (fss_cons (fs_set 2 SC.nd fe_int)
    (fss_cons (fs_for PassesOwn.never rfl (fi_range1 (by rfl) T.n_range (fe_var 1)) (fg_name 3 SC.nd) (fss_one (fs_aug 2 SC.nd iop_mulW (so_mul _) (fe_var 0))))
    (fss_one (fs_ret (fe_var 2))))))
theorem sc_alternating : FnScope N_alternating P_alternating (defScope s_alternating) := ⟨rfl, rfl, rfl, by decide +kernel, rfl, by decide +kernel, by decide +kernel⟩
set_option maxHeartbeats 0 in
theorem ok_alternating {P : Program} {w : World} {K : PySem.W.Frag} {mg : Str → Option Value} {base : Heap} (T : Txt K mg) : FnOk P w K mg base CX0 1 T.f_alternating T.d_alternating P_alternating (spF K 1 F_alternating) := by
  have SC := sc_alternating
  exact fn_ok (fb := b_alternating) T.F_alternating SC rfl rfl (fun _ _ _ _ _ _ hr =>
    (fss_one (fs_ret (fe_if (ft_cmp (op_eqAll hr.units) so_eq (fe_op op_modN (so_mod _) (fe_var 0) fe_int) fe_int (nomark _)) fe_int (fe_un un_neg (so_neg _) fe_int)))))
theorem sc_krawtchouk : FnScope N_krawtchouk P_krawtchouk (defScope s_krawtchouk) := ⟨rfl, rfl, rfl, by decide +kernel, rfl, by decide +kernel, by decide +kernel⟩
set_option maxHeartbeats 0 in
theorem ok_krawtchouk {P : Program} {w : World} {K : PySem.W.Frag} {mg : Str → Option Value} {base : Heap} (T : Txt K mg) : FnOk P w K mg base CX0 2 T.f_krawtchouk T.d_krawtchouk P_krawtchouk (spF K 4 F_krawtchouk) := by
  have SC := sc_krawtchouk
  exact fn_ok (fb := b_krawtchouk) T.F_krawtchouk SC rfl rfl (fun _ _ _ _ _ _ hr =>
    (fss_cons (fs_set 4 SC.nd fe_int)
    (fss_cons (fs_for PassesOwn.never rfl (fi_range1 (by rfl) T.n_range (fe_op op_addX (so_addX _) (fe_var 2) fe_int)) (fg_name 5 SC.nd) (fss_cons (fs_set 6 SC.nd (fe_op op_mulX (so_mulX _) (fe_callBfun cr_comb so_comb (by rfl) T.m_comb (fa_cons (fe_var 3) (fa_cons (fe_var 5) fa_nil))) (fe_callBfun cr_comb so_comb (by rfl) T.m_comb (fa_cons (fe_op op_sub (so_sub _) (fe_var 1) (fe_var 3)) (fa_cons (fe_op op_sub (so_sub _) (fe_var 2) (fe_var 5)) fa_nil)))))
    (fss_one (fs_aug 4 SC.nd iop_add (so_addI _) (fe_op op_mulX (so_mulX _) (fe_op op_mulX (so_mulX _) (fe_call (ok_alternating T) (hr.mono (by first | decide | omega)) (by rfl) T.m_alternating T.F_alternating.kp T.B_alternating (far_e (fe_var 5) far_nil)) (fe_call (ok_power_of T) (hr.mono (by first | decide | omega)) (by rfl) T.m_power_of T.F_power_of.kp T.B_power_of (far_e (fe_op op_sub (so_sub _) (fe_var 0) fe_int) (far_e (fe_op op_sub (so_sub _) (fe_var 2) (fe_var 5)) far_nil)))) (fe_var 6))))))
    (fss_one (fs_ret (fe_var 4))))))
theorem sc_turned_counts : FnScope N_turned_counts P_turned_counts (defScope s_turned_counts) := ⟨rfl, rfl, rfl, by decide +kernel, rfl, by decide +kernel, by decide +kernel⟩
set_option maxHeartbeats 0 in
theorem ok_turned_counts {P : Program} {w : World} {K : PySem.W.Frag} {mg : Str → Option Value} {base : Heap} (T : Txt K mg) : FnOk P w K mg base CX0 3 T.f_turned_counts T.d_turned_counts P_turned_counts (spF K 3 F_turned_counts) := by
  have SC := sc_turned_counts
  exact fn_ok (fb := b_turned_counts) T.F_turned_counts SC rfl rfl (fun _ _ _ _ _ _ hr =>
    (fss_cons (fs_setO 3 SC.nd (fl_lst fa_nil))
    (fss_cons (fs_for PassesOwn.never rfl (fi_range1 (by rfl) T.n_range (fe_op op_addX (so_addX _) (fe_var 1) fe_int)) (fg_name 4 SC.nd) (fss_one (fs_expr (fe_append 3 (fe_viewB (cr_sumA rfl) so_sum (by rfl) T.n_sum bt_sum (FL.fv (fl_lc [("at", 5), ("count", 6)] rfl SC.nd (fi_enum (by rfl) T.n_enumerate (fe_var 2)) (blkOk_by (by kernel_rfl)) (by decide) (fun _ _ _ _ _ => (fg_tup rfl (fgs_cons (fg_name 5 SC.nd) (fgs_cons (fg_name 6 SC.nd) fgs_nil)))) (fun _ _ _ _ _ => fts_nil) (fun _ _ _ _ _ => (fe_op op_mulX (so_mulX _) (fe_var 6) (fe_call (ok_krawtchouk T) (hr.mono (by first | decide | omega)) (by rfl) T.m_krawtchouk T.F_krawtchouk.kp T.B_krawtchouk (far_e (fe_var 0) (far_e (fe_var 1) (far_e (fe_var 4) (far_e (fe_var 5) far_nil))))))))))))))
    (fss_one (fs_retO 3)))))
theorem sc_counts_of_dual : FnScope N_counts_of_dual P_counts_of_dual (defScope s_counts_of_dual) := ⟨rfl, rfl, rfl, by decide +kernel, rfl, by decide +kernel, by decide +kernel⟩
set_option maxHeartbeats 0 in
theorem ok_counts_of_dual {P : Program} {w : World} {K : PySem.W.Frag} {mg : Str → Option Value} {base : Heap} (T : Txt K mg) : FnOk P w K mg base CX0 4 T.f_counts_of_dual T.d_counts_of_dual P_counts_of_dual (spF K 3 F_counts_of_dual) := by
  have SC := sc_counts_of_dual
  exact fn_ok (fb := b_counts_of_dual) T.F_counts_of_dual SC rfl rfl (fun _ _ _ _ _ _ hr =>
    (fss_cons (fs_set 3 SC.nd (fe_viewB (cr_sumA rfl) so_sum (by rfl) T.n_sum bt_sum (fv_any 2)))
    (fss_one (fs_ret (fe_viewTy call_tuple_of so_tup (by rfl) T.n_tuple bt_tuple (FL.fv (fl_lc [("told", 4)] rfl SC.nd (fi_val (fe_call (ok_turned_counts T) (hr.mono (by first | decide | omega)) (by rfl) T.m_turned_counts T.F_turned_counts.kp T.B_turned_counts (far_e (fe_var 0) (far_e (fe_var 1) (far_e (fe_var 2) far_nil))))) (blkOk_by (by kernel_rfl)) (by decide) (fun _ _ _ _ _ => (fg_name 4 SC.nd)) (fun _ _ _ _ _ => fts_nil) (fun _ _ _ _ _ => (fe_call (ok_fraction T) (hr.mono (by first | decide | omega)) (by rfl) T.m_fraction T.F_fraction.kp T.B_fraction (far_e (fe_var 4) (far_e (fe_var 3) far_nil)))))))))))
theorem sc_zero_sums : FnScope N_zero_sums P_zero_sums (defScope s_zero_sums) := ⟨rfl, rfl, rfl, by decide +kernel, rfl, by decide +kernel, by decide +kernel⟩
set_option maxHeartbeats 0 in
theorem ok_zero_sums {P : Program} {w : World} {K : PySem.W.Frag} {mg : Str → Option Value} {base : Heap} (T : Txt K mg) : FnOk P w K mg base CX0 1 T.f_zero_sums T.d_zero_sums P_zero_sums (spF K 1 F_zero_sums) := by
  have SC := sc_zero_sums
  exact fn_ok (fb := b_zero_sums) T.F_zero_sums SC rfl rfl (fun _ _ _ _ _ _ hr =>
    (fss_cons (fs_set 1 SC.nd (fe_op op_sub (so_sub _) (fe_viewB call_len_seq so_len (by rfl) T.n_len bt_len (fv_any 0)) fe_int))
    (fss_one (fs_ret (fe_viewTy call_tuple_of so_tup (by rfl) T.n_tuple bt_tuple (FL.fv (fl_lc [("chosen", 2)] rfl SC.nd (fi_range1 (by rfl) T.n_range (fe_op op_addX (so_addX _) (fe_var 1) fe_int)) (blkOk_by (by kernel_rfl)) (by decide) (fun _ _ _ _ _ => (fg_name 2 SC.nd)) (fun _ _ _ _ _ => fts_nil) (fun _ _ _ _ _ => (fe_viewB (cr_sumA rfl) so_sum (by rfl) T.n_sum bt_sum (FL.fv (fl_lc [("weight", 3), ("count", 4)] rfl SC.nd (fi_enum (by rfl) T.n_enumerate (fe_var 0)) (blkOk_by (by kernel_rfl)) (by decide) (fun _ _ _ _ _ => (fg_tup rfl (fgs_cons (fg_name 3 SC.nd) (fgs_cons (fg_name 4 SC.nd) fgs_nil)))) (fun _ _ _ _ _ => fts_nil) (fun _ _ _ _ _ => (fe_op op_mulX (so_mulX _) (fe_var 4) (fe_callBfun cr_comb so_comb (by rfl) T.m_comb (fa_cons (fe_op op_sub (so_sub _) (fe_var 1) (fe_var 3)) (fa_cons (fe_var 2) fa_nil))))))))))))))))
theorem sc_dual_sums : FnScope N_dual_sums P_dual_sums (defScope s_dual_sums) := ⟨rfl, rfl, rfl, by decide +kernel, rfl, by decide +kernel, by decide +kernel⟩
set_option maxHeartbeats 0 in
theorem ok_dual_sums {P : Program} {w : World} {K : PySem.W.Frag} {mg : Str → Option Value} {base : Heap} (T : Txt K mg) : FnOk P w K mg base CX0 1 T.f_dual_sums T.d_dual_sums P_dual_sums (spF K 1 F_dual_sums) := by
  have SC := sc_dual_sums
  exact fn_ok (fb := b_dual_sums) T.F_dual_sums SC rfl rfl (fun _ _ _ _ _ _ hr =>
    (fss_cons (fs_set 1 SC.nd (fe_op op_sub (so_sub _) (fe_viewB call_len_seq so_len (by rfl) T.n_len bt_len (fv_any 0)) fe_int))
    (fss_one (fs_ret (fe_viewTy call_tuple_of so_tup (by rfl) T.n_tuple bt_tuple (FL.fv (fl_lc [("chosen", 2)] rfl SC.nd (fi_range1 (by rfl) T.n_range (fe_op op_addX (so_addX _) (fe_var 1) fe_int)) (blkOk_by (by kernel_rfl)) (by decide) (fun _ _ _ _ _ => (fg_name 2 SC.nd)) (fun _ _ _ _ _ => fts_nil) (fun _ _ _ _ _ => (fe_viewB (cr_sumA rfl) so_sum (by rfl) T.n_sum bt_sum (FL.fv (fl_lc [("weight", 3), ("count", 4)] rfl SC.nd (fi_enum (by rfl) T.n_enumerate (fe_var 0)) (blkOk_by (by kernel_rfl)) (by decide) (fun _ _ _ _ _ => (fg_tup rfl (fgs_cons (fg_name 3 SC.nd) (fgs_cons (fg_name 4 SC.nd) fgs_nil)))) (fun _ _ _ _ _ => fts_nil) (fun _ _ _ _ _ => (fe_op op_mulX (so_mulX _) (fe_var 4) (fe_callBfun cr_comb so_comb (by rfl) T.m_comb (fa_cons (fe_op op_sub (so_sub _) (fe_var 1) (fe_var 3)) (fa_cons (fe_op op_sub (so_sub _) (fe_var 1) (fe_var 2)) fa_nil))))))))))))))))
theorem sc_weights_in : FnScope N_weights_in P_weights_in (defScope s_weights_in) := ⟨rfl, rfl, rfl, by decide +kernel, rfl, by decide +kernel, by decide +kernel⟩
set_option maxHeartbeats 0 in
theorem ok_weights_in {P : Program} {w : World} {K : PySem.W.Frag} {mg : Str → Option Value} {base : Heap} (T : Txt K mg) : FnOk P w K mg base CX0 1 T.f_weights_in T.d_weights_in P_weights_in (spF K 1 F_weights_in) := by
  have SC := sc_weights_in
  exact fn_ok (fb := b_weights_in) T.F_weights_in SC rfl rfl (fun _ _ _ _ _ _ hr =>
    (fss_one (fs_ret (fe_viewTy call_tuple_of so_tup (by rfl) T.n_tuple bt_tuple (FL.fv (fl_lc [("weight", 1), ("count", 2)] rfl SC.nd (fi_enum (by rfl) T.n_enumerate (fe_var 0)) (blkOk_by (by kernel_rfl)) (by decide) (fun _ _ _ _ _ => (fg_tup rfl (fgs_cons (fg_name 1 SC.nd) (fgs_cons (fg_name 2 SC.nd) fgs_nil)))) (fun _ _ _ _ _ => (fts_one (FW.ft (fw_and (ft_cmp op_gt (so_cmp _) (fe_var 1) fe_int (nomark _)) (fw_and1 (ft_cmp (op_neAll hr.units) so_ne (fe_var 2) fe_int (nomark _))))))) (fun _ _ _ _ _ => (fe_var 1))))))))
theorem sc_law_draws : FnScope N_law_draws P_law_draws (defScope s_law_draws) := ⟨rfl, rfl, rfl, by decide +kernel, rfl, by decide +kernel, by decide +kernel⟩
set_option maxHeartbeats 0 in
theorem ok_law_draws {P : Program} {w : World} {K : PySem.W.Frag} {mg : Str → Option Value} {base : Heap} (T : Txt K mg) : FnOk P w K mg base CX0 1 T.f_law_draws T.d_law_draws P_law_draws (spF K 2 F_law_draws) := by
  have SC := sc_law_draws
  exact fn_ok (fb := b_law_draws) T.F_law_draws SC rfl rfl (fun _ _ _ _ _ _ hr =>
    (fss_cons (fs_setLcO 2 [("cell", 3)] rfl SC.nd (fi_val (fe_slice (fe_var 0) fo_none (fo_some fe_int))) (blkOk_by (by kernel_rfl)) (by decide) (fun _ _ _ _ _ => (fg_name 3 SC.nd)) (fun _ _ _ _ _ => fts_nil) (fun _ _ _ _ _ => (fe_op op_modN (so_mod _) (fe_callTy call_int1 so_int (by rfl) T.n_int bt_int (fa_cons (fe_var 3) fa_nil)) (fe_op op_shl (so_shl _) fe_int fe_int))) (sw_true rfl rfl rfl (by decide +kernel)))
    (fss_cons (fs_if (ft_cmp (op_eqAll hr.units) so_eq (fe_viewB call_len_seq so_len (by rfl) T.n_len bt_len (fv_any 2)) fe_int (nomark _)) (fss_one (fs_expr (fe_append 2 fe_int))) fss_nil)
    (fss_cons (fs_setO 4 SC.nd (fl_viewTy call_list_of so_list (by rfl) T.n_list bt_list (fv_any 2)))
    (fss_cons (fs_setO 5 SC.nd (fl_lst fa_nil))
    (fss_cons (fs_for PassesOwn.never rfl (fi_range1 (by rfl) T.n_range (fe_var 1)) (fg_name 6 SC.nd) (fss_cons (fs_set 7 SC.nd (fe_op op_modN (so_mod _) (fe_callTy call_int1 so_int (by rfl) T.n_int bt_int (fa_cons (fe_var 6) fa_nil)) (fe_viewB call_len_seq so_len (by rfl) T.n_len bt_len (fv_any 2))))
    (fss_one (fs_if (FW.ft (fw_and (ft_cmp op_ge (so_cmp _) (fe_ixA 2 (fe_var 7)) (fe_op op_pow (so_pow _) fe_int fe_int) (nomark _)) (fw_and1 (ft_cmp op_gt (so_cmp _) (fe_ixA 4 (fe_var 7)) fe_int (nomark _))))) (fss_cons (fs_expr (fe_append 5 (fe_op op_modN (so_mod _) (fe_callTy call_int1 so_int (by rfl) T.n_int bt_int (fa_cons (fe_ixA 4 (fe_var 7)) fa_nil)) fe_int)))
    (fss_one (fs_setIx 4 (fe_op op_fdivZ (so_fdiv _) (fe_ixA 4 (fe_var 7)) fe_int) (fe_var 7)))) (fss_cons (fs_set 8 SC.nd (fe_op op_modN (so_mod _) (fe_callTy call_int1 so_int (by rfl) T.n_int bt_int (fa_cons (fe_op op_addX (so_addX _) (fe_op op_addX (so_addX _) (fe_op op_mulX (so_mulX _) (fe_ixA 2 (fe_var 7)) fe_int) (fe_op op_mulX (so_mulX _) (fe_var 6) fe_int)) fe_int) fa_nil)) fe_int))
    (fss_one (fs_expr (fe_append 5 (fe_op op_modN (so_mod _) (fe_callTy call_int1 so_int (by rfl) T.n_int bt_int (fa_cons (fe_op op_addX (so_addX _) (fe_op op_addX (so_addX _) (fe_op op_mulX (so_mulX _) (fe_var 8) (fe_var 8)) (fe_op op_mulX (so_mulX _) fe_int (fe_var 8))) (fe_var 6)) fa_nil)) fe_int)))))))))
    (fss_cons (fs_expr (fe_reverse 5))
    (fss_one (fs_retO 5)))))))))
theorem sc_law_take : FnScope N_law_take P_law_take (defScope s_law_take) := ⟨rfl, rfl, rfl, by decide +kernel, rfl, by decide +kernel, by decide +kernel⟩
set_option maxHeartbeats 0 in
theorem ok_law_take {P : Program} {w : World} {K : PySem.W.Frag} {mg : Str → Option Value} {base : Heap} (T : Txt K mg) : FnOk P w K mg base CX0 1 T.f_law_take T.d_law_take P_law_take (spF K 2 F_law_take) := by
  have SC := sc_law_take
  exact fn_ok (fb := b_law_take) T.F_law_take SC rfl rfl (fun _ _ _ _ _ _ hr =>
    (fss_cons (fs_if (ft_cmp (op_eqAll hr.units) so_eq (fe_viewB call_len_seq so_len (by rfl) T.n_len bt_len (fv_any 0)) fe_int (nomark _)) (fss_one (fs_ret fe_int)) fss_nil)
    (fss_one (fs_ret (fe_op op_modN (so_mod _) (fe_callTy call_int1 so_int (by rfl) T.n_int bt_int (fa_cons (fe_pop 0) fa_nil)) (fe_var 1))))))
theorem sc_law_same : FnScope N_law_same P_law_same (defScope s_law_same) := ⟨rfl, rfl, rfl, by decide +kernel, rfl, by decide +kernel, by decide +kernel⟩
set_option maxHeartbeats 0 in
theorem ok_law_same {P : Program} {w : World} {K : PySem.W.Frag} {mg : Str → Option Value} {base : Heap} (T : Txt K mg) : ∀ k : Nat, FnOk P w K mg base CX0 (0 + k) T.f_law_same T.d_law_same P_law_same (spF K 2 (F_law_same k))
  | 0 => ⟨fun vs H Q E h => let ⟨_, _, _, _, h, _⟩ := h; h, fun _ _ _ _ _ _ _ _ _ _ _ _ _ h => let ⟨_, _, _, _, _, _, e, _⟩ := h; nomatch e⟩
  | k + 1 => by
    have ih := ok_law_same (P := P) (w := w) (base := base) T k
    have SC := sc_law_same
    exact fn_ok T.F_law_same SC rfl rfl (fun _ _ _ _ _ _ hr =>
    (fss_cons (fs_if (FE.ft (fe_isi2 io_tuple io_list (by rfl) T.n_isinstance (pe_bltn (by rfl) T.n_tuple bt_tuple (show RelV (.ty "tuple") (.type "tuple") from rfl)) (pe_bltn (by rfl) T.n_list bt_list (show RelV (.ty "list") (.type "list") from rfl)) (fe_var 1))) (fss_cons (fs_if (FW.ft (fw_or (ft_cmp (op_neAll hr.units) so_ne (fe_isi io_tuple (by rfl) T.n_isinstance (pe_bltn (by rfl) T.n_tuple bt_tuple (show RelV (.ty "tuple") (.type "tuple") from rfl)) (fe_var 0)) (fe_isi io_tuple (by rfl) T.n_isinstance (pe_bltn (by rfl) T.n_tuple bt_tuple (show RelV (.ty "tuple") (.type "tuple") from rfl)) (fe_var 1)) (nomark _)) (fw_or1 (ft_cmp (op_neAll hr.units) so_ne (fe_isi io_list (by rfl) T.n_isinstance (pe_bltn (by rfl) T.n_list bt_list (show RelV (.ty "list") (.type "list") from rfl)) (fe_var 0)) (fe_isi io_list (by rfl) T.n_isinstance (pe_bltn (by rfl) T.n_list bt_list (show RelV (.ty "list") (.type "list") from rfl)) (fe_var 1)) (nomark _))))) (fss_one (fs_ret fe_bl)) fss_nil)
    (fss_cons (fs_if (ft_cmp (op_neAll hr.units) so_ne (fe_viewB call_len_seq so_len (by rfl) T.n_len bt_len (fv_any 0)) (fe_viewB call_len_seq so_len (by rfl) T.n_len bt_len (fv_any 1)) (nomark _)) (fss_one (fs_ret fe_bl)) fss_nil)
    (fss_one (fs_ret (fe_cmp op_notIn_seq so_notIn fe_bl (FL.fe (fl_lc [("k", 2)] rfl SC.nd (fi_range1 (by rfl) T.n_range (fe_viewB call_len_seq so_len (by rfl) T.n_len bt_len (fv_any 1))) (blkOk_by (by kernel_rfl)) (by decide) (fun _ _ _ _ _ => (fg_name 2 SC.nd)) (fun _ _ _ _ _ => fts_nil) (fun _ _ _ _ _ => (fe_call ih hr (by rfl) T.m_law_same T.F_law_same.kp T.B_law_same (far_e (fe_ixA 0 (fe_var 2)) (far_e (fe_ixA 1 (fe_var 2)) far_nil)))))) (by rfl)))))) fss_nil)
    (fss_cons (fs_if (FW.ft (fw_or (ft_cmp (op_neAll hr.units) so_ne (fe_isi io_bool (by rfl) T.n_isinstance (pe_bltn (by rfl) T.n_bool bt_bool (show RelV (.ty "bool") (.type "bool") from rfl)) (fe_var 0)) (fe_isi io_bool (by rfl) T.n_isinstance (pe_bltn (by rfl) T.n_bool bt_bool (show RelV (.ty "bool") (.type "bool") from rfl)) (fe_var 1)) (nomark _)) (fw_or1 (ft_cmp (op_neAll hr.units) so_ne (fe_isi io_int (by rfl) T.n_isinstance (pe_bltn (by rfl) T.n_int bt_int (show RelV (.ty "int") (.type "int") from rfl)) (fe_var 0)) (fe_isi io_int (by rfl) T.n_isinstance (pe_bltn (by rfl) T.n_int bt_int (show RelV (.ty "int") (.type "int") from rfl)) (fe_var 1)) (nomark _))))) (fss_one (fs_ret fe_bl)) fss_nil)
    (fss_cons (fs_if (FW.ft (fw_or (ft_cmp (op_neAll hr.units) so_ne (fe_isi io_str (by rfl) T.n_isinstance (pe_bltn (by rfl) T.n_str bt_str (show RelV (.ty "str") (.type "str") from rfl)) (fe_var 0)) (fe_isi io_str (by rfl) T.n_isinstance (pe_bltn (by rfl) T.n_str bt_str (show RelV (.ty "str") (.type "str") from rfl)) (fe_var 1)) (nomark _)) (fw_or1 (ft_cmp (op_neAll hr.units) so_ne (fe_cmp op_isN so_isN (fe_var 0) fe_non (nomark _)) (fe_cmp op_isN so_isN (fe_var 1) fe_non (nomark _)) (nomark _))))) (fss_one (fs_ret fe_bl)) fss_nil)
    (fss_one (fs_ret (fe_cmp (op_eqAll hr.units) so_eq (fe_var 0) (fe_var 1) (nomark _))))))))
theorem sc_law_shuffled : FnScope N_law_shuffled P_law_shuffled (defScope s_law_shuffled) := ⟨rfl, rfl, rfl, by decide +kernel, rfl, by decide +kernel, by decide +kernel⟩
set_option maxHeartbeats 0 in
theorem ok_law_shuffled {P : Program} {w : World} {K : PySem.W.Frag} {mg : Str → Option Value} {base : Heap} (T : Txt K mg) : FnOk P w K mg base CX0 2 T.f_law_shuffled T.d_law_shuffled P_law_shuffled (spF K 2 F_law_shuffled) := by
  have SC := sc_law_shuffled
  exact fn_ok (fb := b_law_shuffled) T.F_law_shuffled SC rfl rfl (fun _ _ _ _ _ _ hr =>
    (fss_cons (fs_setO 2 SC.nd (fl_viewTy call_list_of so_list (by rfl) T.n_list bt_list (fv_any 1)))
    (fss_cons (fs_setO 3 SC.nd (fl_lst fa_nil))
    (fss_cons (fs_for PassesOwn.never rfl (fi_range1 (by rfl) T.n_range (fe_viewB call_len_seq so_len (by rfl) T.n_len bt_len (fv_any 2))) (fg_name 4 SC.nd) (fss_one (fs_expr (fe_append 3 (fe_popAt 2 (fe_call (ok_law_take T) (hr.mono (by first | decide | omega)) (by rfl) T.m_law_take T.F_law_take.kp T.B_law_take (far_io 0 (far_e (fe_viewB call_len_seq so_len (by rfl) T.n_len bt_len (fv_any 2)) far_nil))))))))
    (fss_one (fs_retO 3))))))
theorem sc_law_gcd : FnScope N_law_gcd P_law_gcd (defScope s_law_gcd) := ⟨rfl, rfl, rfl, by decide +kernel, rfl, by decide +kernel, by decide +kernel⟩
set_option maxHeartbeats 0 in
theorem ok_law_gcd {P : Program} {w : World} {K : PySem.W.Frag} {mg : Str → Option Value} {base : Heap} (T : Txt K mg) : FnOk P w K mg base CX0 1 T.f_law_gcd T.d_law_gcd P_law_gcd (spF K 2 F_law_gcd) := by
  have SC := sc_law_gcd
  exact fn_ok (fb := b_law_gcd) T.F_law_gcd SC rfl rfl (fun _ _ _ _ _ _ hr =>
    (fss_cons (fs_set 2 SC.nd (fe_callB call_abs so_abs (by rfl) T.n_abs bt_abs (fa_cons (fe_var 0) fa_nil)))
    (fss_cons (fs_set 3 SC.nd (fe_callB call_abs so_abs (by rfl) T.n_abs bt_abs (fa_cons (fe_var 1) fa_nil)))
    (fss_cons (fs_for PassesOwn.never rfl (fi_range1 (by rfl) T.n_range fe_int) (fg_name 4 SC.nd) (fss_cons (fs_if (ft_cmp (op_eqAll hr.units) so_eq (fe_var 3) fe_int (nomark _)) (fss_one fs_break) fss_nil)
    (fss_cons (fs_set 5 SC.nd (fe_op op_modN (so_mod _) (fe_callTy call_int1 so_int (by rfl) T.n_int bt_int (fa_cons (fe_var 2) fa_nil)) (fe_var 3)))
    (fss_cons (fs_set 2 SC.nd (fe_var 3))
    (fss_one (fs_set 3 SC.nd (fe_var 5)))))))
    (fss_one (fs_ret (fe_var 2)))))))
theorem sc_law_frac : FnScope N_law_frac P_law_frac (defScope s_law_frac) := ⟨rfl, rfl, rfl, by decide +kernel, rfl, by decide +kernel, by decide +kernel⟩
set_option maxHeartbeats 0 in
theorem ok_law_frac {P : Program} {w : World} {K : PySem.W.Frag} {mg : Str → Option Value} {base : Heap} (T : Txt K mg) : FnOk P w K mg base CX0 2 T.f_law_frac T.d_law_frac P_law_frac (spF K 2 F_law_frac) := by
  have SC := sc_law_frac
  exact fn_ok (fb := b_law_frac) T.F_law_frac SC rfl rfl (fun _ _ _ _ _ _ hr =>
    (fss_cons (fs_set 2 SC.nd (fe_callB (call_max2 rfl) so_max2 (by rfl) T.n_max bt_max (fa_cons fe_int (fa_cons (fe_call (ok_law_gcd T) (hr.mono (by first | decide | omega)) (by rfl) T.m_law_gcd T.F_law_gcd.kp T.B_law_gcd (far_e (fe_var 0) (far_e (fe_var 1) far_nil))) fa_nil))))
    (fss_cons (fs_if (ft_cmp op_lt (so_cmp _) (fe_var 1) fe_int (nomark _)) (fss_one (fs_set 2 SC.nd (fe_op op_sub (so_sub _) fe_int (fe_var 2)))) fss_nil)
    (fss_one (fs_ret (fe_tup (fa_cons (fe_op op_fdivZ (so_fdiv _) (fe_var 0) (fe_var 2)) (fa_cons (fe_op op_fdivZ (so_fdiv _) (fe_var 1) (fe_var 2)) fa_nil))))))))
theorem sc_law_plus : FnScope N_law_plus P_law_plus (defScope s_law_plus) := ⟨rfl, rfl, rfl, by decide +kernel, rfl, by decide +kernel, by decide +kernel⟩
set_option maxHeartbeats 0 in
theorem ok_law_plus {P : Program} {w : World} {K : PySem.W.Frag} {mg : Str → Option Value} {base : Heap} (T : Txt K mg) : FnOk P w K mg base CX0 3 T.f_law_plus T.d_law_plus P_law_plus (spF K 2 F_law_plus) := by
  have SC := sc_law_plus
  exact fn_ok (fb := b_law_plus) T.F_law_plus SC rfl rfl (fun _ _ _ _ _ _ hr =>
    (fss_one (fs_ret (fe_call (ok_law_frac T) (hr.mono (by first | decide | omega)) (by rfl) T.m_law_frac T.F_law_frac.kp T.B_law_frac (far_e (fe_op op_addX (so_addX _) (fe_op op_mulX (so_mulX _) (fe_ixA 0 fe_int) (fe_ixA 1 fe_int)) (fe_op op_mulX (so_mulX _) (fe_ixA 1 fe_int) (fe_ixA 0 fe_int))) (far_e (fe_op op_mulX (so_mulX _) (fe_ixA 0 fe_int) (fe_ixA 1 fe_int)) far_nil))))))
theorem sc_law_power : FnScope N_law_power P_law_power (defScope s_law_power) := ⟨rfl, rfl, rfl, by decide +kernel, rfl, by decide +kernel, by decide +kernel⟩
set_option maxHeartbeats 0 in
theorem ok_law_power {P : Program} {w : World} {K : PySem.W.Frag} {mg : Str → Option Value} {base : Heap} (T : Txt K mg) : FnOk P w K mg base CX0 1 T.f_law_power T.d_law_power P_law_power (spF K 2 F_law_power) := by
  have SC := sc_law_power
  exact fn_ok (fb := b_law_power) T.F_law_power SC rfl rfl (fun _ _ _ _ _ _ hr =>
    (fss_cons (fs_set 2 SC.nd fe_int)
    (fss_cons (fs_for PassesOwn.never rfl (fi_range1 (by rfl) T.n_range (fe_var 1)) (fg_name 3 SC.nd) (fss_one (fs_set 2 SC.nd (fe_op op_mulX (so_mulX _) (fe_var 2) (fe_var 0)))))
    (fss_one (fs_ret (fe_var 2))))))
theorem sc_law_choose : FnScope N_law_choose P_law_choose (defScope s_law_choose) := ⟨rfl, rfl, rfl, by decide +kernel, rfl, by decide +kernel, by decide +kernel⟩
set_option maxHeartbeats 0 in
theorem ok_law_choose {P : Program} {w : World} {K : PySem.W.Frag} {mg : Str → Option Value} {base : Heap} (T : Txt K mg) : FnOk P w K mg base CX0 1 T.f_law_choose T.d_law_choose P_law_choose (spF K 2 F_law_choose) := by
  have SC := sc_law_choose
  exact fn_ok (fb := b_law_choose) T.F_law_choose SC rfl rfl (fun _ _ _ _ _ _ hr =>
    (fss_cons (fs_if (FW.ft (fw_or (ft_cmp op_lt (so_cmp _) (fe_var 1) fe_int (nomark _)) (fw_or1 (ft_cmp op_gt (so_cmp _) (fe_var 1) (fe_var 0) (nomark _))))) (fss_one (fs_ret fe_int)) fss_nil)
    (fss_cons (fs_set 2 SC.nd fe_int)
    (fss_cons (fs_for PassesOwn.never rfl (fi_range1 (by rfl) T.n_range (fe_var 1)) (fg_name 3 SC.nd) (fss_one (fs_set 2 SC.nd (fe_op op_fdivZ (so_fdiv _) (fe_op op_mulX (so_mulX _) (fe_var 2) (fe_op op_sub (so_sub _) (fe_var 0) (fe_var 3))) (fe_op op_addX (so_addX _) (fe_var 3) fe_int)))))
    (fss_one (fs_ret (fe_var 2)))))))
theorem sc_law_times : FnScope N_law_times P_law_times (defScope s_law_times) := ⟨rfl, rfl, rfl, by decide +kernel, rfl, by decide +kernel, by decide +kernel⟩
set_option maxHeartbeats 0 in
theorem ok_law_times {P : Program} {w : World} {K : PySem.W.Frag} {mg : Str → Option Value} {base : Heap} (T : Txt K mg) : FnOk P w K mg base CX0 1 T.f_law_times T.d_law_times P_law_times (spF K 2 F_law_times) := by
  have SC := sc_law_times
  exact fn_ok (fb := b_law_times) T.F_law_times SC rfl rfl (fun _ _ _ _ _ _ hr =>
    (fss_cons (fs_setO 2 SC.nd (fl_op op_rep (so_rep _) (FL.fe (fl_lst (fa_cons fe_int fa_nil))) (fe_op op_sub (so_sub _) (fe_op op_addX (so_addX _) (fe_viewB call_len_seq so_len (by rfl) T.n_len bt_len (fv_any 0)) (fe_viewB call_len_seq so_len (by rfl) T.n_len bt_len (fv_any 1))) fe_int)))
    (fss_cons (fs_for PassesOwn.never rfl (fi_range1 (by rfl) T.n_range (fe_viewB call_len_seq so_len (by rfl) T.n_len bt_len (fv_any 0))) (fg_name 3 SC.nd) (fss_one (fs_for PassesOwn.never rfl (fi_range1 (by rfl) T.n_range (fe_viewB call_len_seq so_len (by rfl) T.n_len bt_len (fv_any 1))) (fg_name 4 SC.nd) (fss_one (fs_setIx 2 (fe_op op_addX (so_addX _) (fe_ixA 2 (fe_op op_addX (so_addX _) (fe_var 3) (fe_var 4))) (fe_op op_mulX (so_mulX _) (fe_ixA 0 (fe_var 3)) (fe_ixA 1 (fe_var 4)))) (fe_op op_addX (so_addX _) (fe_var 3) (fe_var 4)))))))
    (fss_one (fs_ret (fe_viewTy call_tuple_of so_tup (by rfl) T.n_tuple bt_tuple (fv_any 2)))))))
theorem sc_law_polynomial : FnScope N_law_polynomial P_law_polynomial (defScope s_law_polynomial) := ⟨rfl, rfl, rfl, by decide +kernel, rfl, by decide +kernel, by decide +kernel⟩
set_option maxHeartbeats 0 in
theorem ok_law_polynomial {P : Program} {w : World} {K : PySem.W.Frag} {mg : Str → Option Value} {base : Heap} (T : Txt K mg) : FnOk P w K mg base CX0 2 T.f_law_polynomial T.d_law_polynomial P_law_polynomial (spF K 3 F_law_polynomial) := by
  have SC := sc_law_polynomial
  exact fn_ok (fb := b_law_polynomial) T.F_law_polynomial SC rfl rfl (fun _ _ _ _ _ _ hr =>
    (fss_cons (fs_set 3 SC.nd (fe_tup (fa_cons fe_int fa_nil)))
    (fss_cons (fs_for PassesOwn.never rfl (fi_range1 (by rfl) T.n_range (fe_var 1)) (fg_name 4 SC.nd) (fss_one (fs_if (ft_cmp op_lt (so_cmp _) (fe_var 4) (fe_var 2) (nomark _)) (fss_one (fs_set 3 SC.nd (fe_call (ok_law_times T) (hr.mono (by first | decide | omega)) (by rfl) T.m_law_times T.F_law_times.kp T.B_law_times (far_e (fe_var 3) (far_e (fe_tup (fa_cons fe_int (fa_cons (fe_un un_neg (so_neg _) fe_int) fa_nil))) far_nil))))) (fss_one (fs_set 3 SC.nd (fe_call (ok_law_times T) (hr.mono (by first | decide | omega)) (by rfl) T.m_law_times T.F_law_times.kp T.B_law_times (far_e (fe_var 3) (far_e (fe_tup (fa_cons fe_int (fa_cons (fe_op op_sub (so_sub _) (fe_var 0) fe_int) fa_nil))) far_nil))))))))
    (fss_one (fs_ret (fe_var 3))))))
theorem sc_law_spreads_told : FnScope N_law_spreads_told P_law_spreads_told (defScope s_law_spreads_told) := ⟨rfl, rfl, rfl, by decide +kernel, rfl, by decide +kernel, by decide +kernel⟩
set_option maxHeartbeats 0 in
theorem ok_law_spreads_told {P : Program} {w : World} {K : PySem.W.Frag} {mg : Str → Option Value} {base : Heap} (T : Txt K mg) : FnOk P w K mg base CX0 7 T.f_law_spreads_told T.d_law_spreads_told P_law_spreads_told (spF K 3 F_law_spreads_told) := by
  have SC := sc_law_spreads_told
  exact fn_ok (fb := b_law_spreads_told) T.F_law_spreads_told SC rfl rfl (fun _ _ _ _ _ _ hr =>
    (fss_cons (fs_frzA 3 (fs_setLcO 3 [("i", 4)] rfl SC.nd (fi_range1 (by rfl) T.n_range (fe_op op_addX (so_addX _) (fe_var 2) fe_int)) (blkOk_by (by kernel_rfl)) (by decide) (fun _ _ _ _ _ => (fg_name 4 SC.nd)) (fun _ _ _ _ _ => fts_nil) (fun _ _ _ _ _ => (fe_call (ok_law_polynomial T) (hr.mono (by first | decide | omega)) (by rfl) T.m_law_polynomial T.F_law_polynomial.kp T.B_law_polynomial (far_e (fe_var 1) (far_e (fe_var 2) (far_e (fe_var 4) far_nil))))) (sw_true rfl rfl rfl (by decide +kernel))))
    (fss_cons (fs_frzA 5 (fs_setO 5 SC.nd (fl_lc [("i", 4)] rfl SC.nd (fi_range1 (by rfl) T.n_range (fe_op op_addX (so_addX _) (fe_var 2) fe_int)) (blkOk_by (by kernel_rfl)) (by decide) (fun _ _ _ _ _ => (fg_name 4 SC.nd)) (fun _ _ _ _ _ => fts_nil) (fun _ _ _ _ _ => (FL.fe (fl_lc [("j", 6)] rfl SC.nd (fi_range1 (by rfl) T.n_range (fe_op op_addX (so_addX _) (fe_var 2) fe_int)) (blkOk_by (by kernel_rfl)) (by decide) (fun _ _ _ _ _ => (fg_name 6 SC.nd)) (fun _ _ _ _ _ => fts_nil) (fun _ _ _ _ _ => (fe_call (ok_krawtchouk T) (hr.mono (by first | decide | omega)) (by rfl) T.m_krawtchouk T.F_krawtchouk.kp T.B_krawtchouk (far_e (fe_var 1) (far_e (fe_var 2) (far_e (fe_var 6) (far_e (fe_var 4) far_nil))))))))))))
    (fss_cons (fs_for PassesOwn.never rfl (fi_range1 (by rfl) T.n_range (fe_op op_addX (so_addX _) (fe_var 2) fe_int)) (fg_name 4 SC.nd) (fss_one (fs_if (ft_not (FE.ft (fe_call (ok_law_same T 6) (hr.mono (by first | decide | omega)) (by rfl) T.m_law_same T.F_law_same.kp T.B_law_same (far_e (fe_viewTy call_tuple_of so_tup (by rfl) T.n_tuple bt_tuple (FE.fv (fe_ixA 5 (fe_var 4)))) (far_e (fe_ixA 3 (fe_var 4)) far_nil))))) (fss_one (fs_ret fe_bl)) fss_nil)))
    (fss_cons (fs_frzA 7 (fs_setLcO 7 [("i", 4)] rfl SC.nd (fi_range1 (by rfl) T.n_range (fe_op op_addX (so_addX _) (fe_var 2) fe_int)) (blkOk_by (by kernel_rfl)) (by decide) (fun _ _ _ _ _ => (fg_name 4 SC.nd)) (fun _ _ _ _ _ => fts_nil) (fun _ _ _ _ _ => (fe_op op_mulX (so_mulX _) (fe_call (ok_law_choose T) (hr.mono (by first | decide | omega)) (by rfl) T.m_law_choose T.F_law_choose.kp T.B_law_choose (far_e (fe_var 2) (far_e (fe_var 4) far_nil))) (fe_call (ok_law_power T) (hr.mono (by first | decide | omega)) (by rfl) T.m_law_power T.F_law_power.kp T.B_law_power (far_e (fe_op op_sub (so_sub _) (fe_var 1) fe_int) (far_e (fe_var 4) far_nil))))) (sw_true rfl rfl rfl (by decide +kernel))))
    (fss_cons (fs_set 6 SC.nd (fe_call (ok_law_take T) (hr.mono (by first | decide | omega)) (by rfl) T.m_law_take T.F_law_take.kp T.B_law_take (far_io 0 (far_e (fe_op op_addX (so_addX _) (fe_var 2) fe_int) far_nil))))
    (fss_cons (fs_for PassesOwn.never rfl (fi_range1 (by rfl) T.n_range (fe_op op_addX (so_addX _) (fe_var 2) fe_int)) (fg_name 8 SC.nd) (fss_cons (fs_set 9 SC.nd (fe_viewB (cr_sumA rfl) so_sum (by rfl) T.n_sum bt_sum (FL.fv (fl_lc [("i", 4)] rfl SC.nd (fi_range1 (by rfl) T.n_range (fe_op op_addX (so_addX _) (fe_var 2) fe_int)) (blkOk_by (by kernel_rfl)) (by decide) (fun _ _ _ _ _ => (fg_name 4 SC.nd)) (fun _ _ _ _ _ => fts_nil) (fun _ _ _ _ _ => (fe_op op_mulX (so_mulX _) (fe_ix (fe_ixA 5 (fe_var 4)) (fe_var 6)) (fe_ix (fe_ixA 5 (fe_var 8)) (fe_var 4))))))))
    (fss_one (fs_if (FW.ft (fw_or (ft_cmp (op_neAll hr.units) so_ne (fe_var 9) (fe_op op_mulX (so_mulX _) (fe_call (ok_law_power T) (hr.mono (by first | decide | omega)) (by rfl) T.m_law_power T.F_law_power.kp T.B_law_power (far_e (fe_var 1) (far_e (fe_var 2) far_nil))) (fe_callTy call_int1 so_int (by rfl) T.n_int bt_int (fa_cons (fe_cmp (op_eqAll hr.units) so_eq (fe_var 6) (fe_var 8) (nomark _)) fa_nil))) (nomark _)) (fw_or1 (ft_cmp (op_neAll hr.units) so_ne (fe_op op_mulX (so_mulX _) (fe_ixA 7 (fe_var 8)) (fe_ix (fe_ixA 5 (fe_var 8)) (fe_var 6))) (fe_op op_mulX (so_mulX _) (fe_ixA 7 (fe_var 6)) (fe_ix (fe_ixA 5 (fe_var 6)) (fe_var 8))) (nomark _))))) (fss_one (fs_ret fe_bl)) fss_nil))))
    (fss_one (fs_ret fe_bl)))))))))
theorem sc_law_row : FnScope N_law_row P_law_row (defScope s_law_row) := ⟨rfl, rfl, rfl, by decide +kernel, rfl, by decide +kernel, by decide +kernel⟩
set_option maxHeartbeats 0 in
theorem ok_law_row {P : Program} {w : World} {K : PySem.W.Frag} {mg : Str → Option Value} {base : Heap} (T : Txt K mg) : FnOk P w K mg base CX0 2 T.f_law_row T.d_law_row P_law_row (spF K 3 F_law_row) := by
  have SC := sc_law_row
  exact fn_ok (fb := b_law_row) T.F_law_row SC rfl rfl (fun _ _ _ _ _ _ hr =>
    (fss_cons (fs_set 3 SC.nd (fe_call (ok_law_take T) (hr.mono (by first | decide | omega)) (by rfl) T.m_law_take T.F_law_take.kp T.B_law_take (far_io 0 (far_e fe_int far_nil))))
    (fss_cons (fs_if (ft_cmp (op_eqAll hr.units) so_eq (fe_var 3) fe_int (nomark _)) (fss_cons (fs_setO 4 SC.nd (fl_op op_rep (so_rep _) (FL.fe (fl_lst (fa_cons fe_int fa_nil))) (fe_op op_addX (so_addX _) (fe_var 2) fe_int)))
    (fss_cons (fs_setIx 4 (fe_op op_addX (so_addX _) fe_int (fe_call (ok_law_take T) (hr.mono (by first | decide | omega)) (by rfl) T.m_law_take T.F_law_take.kp T.B_law_take (far_io 0 (far_e fe_int far_nil)))) (fe_call (ok_law_take T) (hr.mono (by first | decide | omega)) (by rfl) T.m_law_take T.F_law_take.kp T.B_law_take (far_io 0 (far_e (fe_op op_addX (so_addX _) (fe_var 2) fe_int) far_nil))))
    (fss_one (fs_ret (fe_viewTy call_tuple_of so_tup (by rfl) T.n_tuple bt_tuple (fv_any 4)))))) fss_nil)
    (fss_cons (fs_if (ft_cmp (op_eqAll hr.units) so_eq (fe_var 3) fe_int (nomark _)) (fss_one (fs_ret (fe_viewTy call_tuple_of so_tup (by rfl) T.n_tuple bt_tuple (FL.fv (fl_lc [("k", 5)] rfl SC.nd (fi_range1 (by rfl) T.n_range (fe_op op_addX (so_addX _) (fe_var 2) fe_int)) (blkOk_by (by kernel_rfl)) (by decide) (fun _ _ _ _ _ => (fg_name 5 SC.nd)) (fun _ _ _ _ _ => fts_nil) (fun _ _ _ _ _ => (fe_op op_sub (so_sub _) (fe_call (ok_law_take T) (hr.mono (by first | decide | omega)) (by rfl) T.m_law_take T.F_law_take.kp T.B_law_take (far_io 0 (far_e fe_int far_nil))) fe_int))))))) fss_nil)
    (fss_cons (fs_if (ft_cmp (op_eqAll hr.units) so_eq (fe_var 3) fe_int (nomark _)) (fss_one (fs_ret (fe_viewTy call_tuple_of so_tup (by rfl) T.n_tuple bt_tuple (FL.fv (fl_lc [("k", 5)] rfl SC.nd (fi_range1 (by rfl) T.n_range (fe_op op_addX (so_addX _) (fe_var 2) fe_int)) (blkOk_by (by kernel_rfl)) (by decide) (fun _ _ _ _ _ => (fg_name 5 SC.nd)) (fun _ _ _ _ _ => fts_nil) (fun _ _ _ _ _ => (fe_call (ok_law_take T) (hr.mono (by first | decide | omega)) (by rfl) T.m_law_take T.F_law_take.kp T.B_law_take (far_io 0 (far_e fe_int far_nil))))))))) fss_nil)
    (fss_cons (fs_setO 4 SC.nd (fl_op op_rep (so_rep _) (FL.fe (fl_lst (fa_cons fe_int fa_nil))) (fe_op op_addX (so_addX _) (fe_var 2) fe_int)))
    (fss_cons (fs_frzA 6 (fs_setLcO 6 [("k", 5)] rfl SC.nd (fi_range1 (by rfl) T.n_range fe_int) (blkOk_by (by kernel_rfl)) (by decide) (fun _ _ _ _ _ => (fg_name 5 SC.nd)) (fun _ _ _ _ _ => fts_nil) (fun _ _ _ _ _ => (fe_call (ok_law_take T) (hr.mono (by first | decide | omega)) (by rfl) T.m_law_take T.F_law_take.kp T.B_law_take (far_io 0 (far_e fe_int far_nil)))) (sw_true rfl rfl rfl (by decide +kernel))))
    (fss_cons (fs_setIx 4 (fe_op op_addX (so_addX _) (fe_ixA 6 fe_int) (fe_ixA 6 fe_int)) fe_int)
    (fss_cons (fs_setIx 4 (fe_op op_addX (so_addX _) (fe_ixA 4 (fe_var 2)) (fe_op op_mulX (so_mulX _) (fe_ixA 6 fe_int) (fe_op op_sub (so_sub _) (fe_var 1) fe_int))) (fe_var 2))
    (fss_cons (fs_set 7 SC.nd (fe_call (ok_law_take T) (hr.mono (by first | decide | omega)) (by rfl) T.m_law_take T.F_law_take.kp T.B_law_take (far_io 0 (far_e (fe_op op_addX (so_addX _) (fe_callB (call_min2 rfl) so_min2 (by rfl) T.n_min bt_min (fa_cons (fe_var 2) (fa_cons fe_int fa_nil))) fe_int) far_nil))))
    (fss_cons (fs_for PassesOwn.never rfl (fi_range1 (by rfl) T.n_range (fe_op op_addX (so_addX _) (fe_var 7) fe_int)) (fg_name 5 SC.nd) (fss_one (fs_setIx 4 (fe_op op_addX (so_addX _) (fe_ixA 4 (fe_var 5)) (fe_op op_mulX (so_mulX _) (fe_op op_mulX (so_mulX _) (fe_ixA 6 fe_int) (fe_call (ok_law_choose T) (hr.mono (by first | decide | omega)) (by rfl) T.m_law_choose T.F_law_choose.kp T.B_law_choose (far_e (fe_var 7) (far_e (fe_var 5) far_nil)))) (fe_call (ok_law_power T) (hr.mono (by first | decide | omega)) (by rfl) T.m_law_power T.F_law_power.kp T.B_law_power (far_e (fe_op op_sub (so_sub _) (fe_var 1) fe_int) (far_e (fe_var 5) far_nil))))) (fe_var 5))))
    (fss_one (fs_ret (fe_viewTy call_tuple_of so_tup (by rfl) T.n_tuple bt_tuple (fv_any 4)))))))))))))))
theorem sc_law_dual_fractions : FnScope N_law_dual_fractions P_law_dual_fractions (defScope s_law_dual_fractions) := ⟨rfl, rfl, rfl, by decide +kernel, rfl, by decide +kernel, by decide +kernel⟩
set_option maxHeartbeats 0 in
theorem ok_law_dual_fractions {P : Program} {w : World} {K : PySem.W.Frag} {mg : Str → Option Value} {base : Heap} (T : Txt K mg) : FnOk P w K mg base CX0 3 T.f_law_dual_fractions T.d_law_dual_fractions P_law_dual_fractions (spF K 3 F_law_dual_fractions) := by
  have SC := sc_law_dual_fractions
  exact fn_ok (fb := b_law_dual_fractions) T.F_law_dual_fractions SC rfl rfl (fun _ _ _ _ _ _ hr =>
    (fss_cons (fs_set 3 SC.nd (fe_viewB (cr_sumA rfl) so_sum (by rfl) T.n_sum bt_sum (fv_any 2)))
    (fss_cons (fs_frzA 4 (fs_setO 4 SC.nd (fl_lc [("i", 5)] rfl SC.nd (fi_range1 (by rfl) T.n_range (fe_op op_addX (so_addX _) (fe_var 1) fe_int)) (blkOk_by (by kernel_rfl)) (by decide) (fun _ _ _ _ _ => (fg_name 5 SC.nd)) (fun _ _ _ _ _ => fts_nil) (fun _ _ _ _ _ => (fe_call (ok_law_polynomial T) (hr.mono (by first | decide | omega)) (by rfl) T.m_law_polynomial T.F_law_polynomial.kp T.B_law_polynomial (far_e (fe_var 0) (far_e (fe_var 1) (far_e (fe_var 5) far_nil))))))))
    (fss_one (fs_ret (fe_viewTy call_tuple_of so_tup (by rfl) T.n_tuple bt_tuple (FL.fv (fl_lc [("j", 6)] rfl SC.nd (fi_range1 (by rfl) T.n_range (fe_op op_addX (so_addX _) (fe_var 1) fe_int)) (blkOk_by (by kernel_rfl)) (by decide) (fun _ _ _ _ _ => (fg_name 6 SC.nd)) (fun _ _ _ _ _ => fts_nil) (fun _ _ _ _ _ => (fe_call (ok_law_frac T) (hr.mono (by first | decide | omega)) (by rfl) T.m_law_frac T.F_law_frac.kp T.B_law_frac (far_e (fe_viewB (cr_sumA rfl) so_sum (by rfl) T.n_sum bt_sum (FL.fv (fl_lc [("i", 5)] rfl SC.nd (fi_range1 (by rfl) T.n_range (fe_op op_addX (so_addX _) (fe_var 1) fe_int)) (blkOk_by (by kernel_rfl)) (by decide) (fun _ _ _ _ _ => (fg_name 5 SC.nd)) (fun _ _ _ _ _ => fts_nil) (fun _ _ _ _ _ => (fe_op op_mulX (so_mulX _) (fe_ixA 2 (fe_var 5)) (fe_ix (fe_ixA 4 (fe_var 5)) (fe_var 6))))))) (far_e (fe_var 3) far_nil))))))))))))
theorem sc_law_sums_of : FnScope N_law_sums_of P_law_sums_of (defScope s_law_sums_of) := ⟨rfl, rfl, rfl, by decide +kernel, rfl, by decide +kernel, by decide +kernel⟩
set_option maxHeartbeats 0 in
theorem ok_law_sums_of {P : Program} {w : World} {K : PySem.W.Frag} {mg : Str → Option Value} {base : Heap} (T : Txt K mg) : FnOk P w K mg base CX0 2 T.f_law_sums_of T.d_law_sums_of P_law_sums_of (spF K 3 F_law_sums_of) := by
  have SC := sc_law_sums_of
  exact fn_ok (fb := b_law_sums_of) T.F_law_sums_of SC rfl rfl (fun _ _ _ _ _ _ hr =>
    (fss_cons (fs_setO 3 SC.nd (fl_lst fa_nil))
    (fss_cons (fs_for PassesOwn.never rfl (fi_range1 (by rfl) T.n_range (fe_op op_addX (so_addX _) (fe_var 0) fe_int)) (fg_name 4 SC.nd) (fss_cons (fs_set 5 SC.nd (fe_ix (FL.fe (fl_lst (fa_cons (fe_var 4) (fa_cons (fe_op op_sub (so_sub _) (fe_var 0) (fe_var 4)) fa_nil)))) (fe_var 2)))
    (fss_one (fs_expr (fe_append 3 (fe_viewB (cr_sumA rfl) so_sum (by rfl) T.n_sum bt_sum (FL.fv (fl_lc [("w", 6)] rfl SC.nd (fi_range1 (by rfl) T.n_range (fe_op op_addX (so_addX _) (fe_var 0) fe_int)) (blkOk_by (by kernel_rfl)) (by decide) (fun _ _ _ _ _ => (fg_name 6 SC.nd)) (fun _ _ _ _ _ => fts_nil) (fun _ _ _ _ _ => (fe_op op_mulX (so_mulX _) (fe_ixA 1 (fe_var 6)) (fe_call (ok_law_choose T) (hr.mono (by first | decide | omega)) (by rfl) T.m_law_choose T.F_law_choose.kp T.B_law_choose (far_e (fe_op op_sub (so_sub _) (fe_var 0) (fe_var 6)) (far_e (fe_var 5) far_nil)))))))))))))
    (fss_one (fs_ret (fe_viewTy call_tuple_of so_tup (by rfl) T.n_tuple bt_tuple (fv_any 3)))))))
theorem sc_law_rows_told : FnScope N_law_rows_told P_law_rows_told (defScope s_law_rows_told) := ⟨rfl, rfl, rfl, by decide +kernel, rfl, by decide +kernel, by decide +kernel⟩
set_option maxHeartbeats 0 in
theorem ok_law_rows_told {P : Program} {w : World} {K : PySem.W.Frag} {mg : Str → Option Value} {base : Heap} (T : Txt K mg) : FnOk P w K mg base CX0 7 T.f_law_rows_told T.d_law_rows_told P_law_rows_told (spF K 3 F_law_rows_told) := by
  have SC := sc_law_rows_told
  exact fn_ok (fb := b_law_rows_told) T.F_law_rows_told SC rfl rfl (fun _ _ _ _ _ _ hr =>
    (fss_cons (fs_set 3 SC.nd (fe_call (ok_law_row T) (hr.mono (by first | decide | omega)) (by rfl) T.m_law_row T.F_law_row.kp T.B_law_row (far_io 0 (far_e (fe_var 1) (far_e (fe_var 2) far_nil)))))
    (fss_cons (fs_set 4 SC.nd (fe_call (ok_law_row T) (hr.mono (by first | decide | omega)) (by rfl) T.m_law_row T.F_law_row.kp T.B_law_row (far_io 0 (far_e (fe_var 1) (far_e (fe_var 2) far_nil)))))
    (fss_cons (fs_set 5 SC.nd (fe_viewTy call_tuple_of so_tup (by rfl) T.n_tuple bt_tuple (FL.fv (fl_lc [("k", 6)] rfl SC.nd (fi_range1 (by rfl) T.n_range (fe_op op_addX (so_addX _) (fe_var 2) fe_int)) (blkOk_by (by kernel_rfl)) (by decide) (fun _ _ _ _ _ => (fg_name 6 SC.nd)) (fun _ _ _ _ _ => fts_nil) (fun _ _ _ _ _ => (fe_op op_addX (so_addX _) (fe_ixA 3 (fe_var 6)) (fe_ixA 4 (fe_var 6))))))))
    (fss_cons (fs_if (ft_cmp op_in_seq so_in fe_int (FL.fe (fl_lst (fa_cons (fe_viewB (cr_sumA rfl) so_sum (by rfl) T.n_sum bt_sum (fv_any 3)) (fa_cons (fe_viewB (cr_sumA rfl) so_sum (by rfl) T.n_sum bt_sum (fv_any 4)) (fa_cons (fe_viewB (cr_sumA rfl) so_sum (by rfl) T.n_sum bt_sum (fv_any 5)) fa_nil))))) (by rfl)) (fss_one (fs_ret fe_bl)) fss_nil)
    (fss_cons (fs_frzA 7 (fs_setLcO 7 [("row", 8)] rfl SC.nd (fi_val (FL.fe (fl_lst (fa_cons (fe_var 3) (fa_cons (fe_var 4) fa_nil))))) (blkOk_by (by kernel_rfl)) (by decide) (fun _ _ _ _ _ => (fg_name 8 SC.nd)) (fun _ _ _ _ _ => fts_nil) (fun _ _ _ _ _ => (fe_call (ok_law_dual_fractions T) (hr.mono (by first | decide | omega)) (by rfl) T.m_law_dual_fractions T.F_law_dual_fractions.kp T.B_law_dual_fractions (far_e (fe_var 1) (far_e (fe_var 2) (far_e (fe_var 8) far_nil))))) (sw_true rfl rfl rfl (by decide +kernel))))
    (fss_cons (fs_if (ft_not (FE.ft (fe_call (ok_law_same T 6) (hr.mono (by first | decide | omega)) (by rfl) T.m_law_same T.F_law_same.kp T.B_law_same (far_e (FL.fe (fl_lst (fa_cons (fe_call (ok_counts_of_dual T) (hr.mono (by first | decide | omega)) (by rfl) T.m_counts_of_dual T.F_counts_of_dual.kp T.B_counts_of_dual (far_e (fe_var 1) (far_e (fe_var 2) (far_e (fe_var 3) far_nil)))) (fa_cons (fe_call (ok_counts_of_dual T) (hr.mono (by first | decide | omega)) (by rfl) T.m_counts_of_dual T.F_counts_of_dual.kp T.B_counts_of_dual (far_e (fe_var 1) (far_e (fe_var 2) (far_e (fe_var 4) far_nil)))) fa_nil)))) (far_e (fe_var 7) far_nil))))) (fss_one (fs_ret fe_bl)) fss_nil)
    (fss_cons (fs_if (ft_cmp op_le (so_cmp _) (fe_viewB (cr_max rfl) so_max (by rfl) T.n_max bt_max (FL.fv (fl_lc [("a", 9)] rfl SC.nd (fi_val (fe_var 5)) (blkOk_by (by kernel_rfl)) (by decide) (fun _ _ _ _ _ => (fg_name 9 SC.nd)) (fun _ _ _ _ _ => fts_nil) (fun _ _ _ _ _ => (fe_callB call_abs so_abs (by rfl) T.n_abs bt_abs (fa_cons (fe_var 9) fa_nil)))))) fe_int (nomark _)) (fss_cons (fs_setO 10 SC.nd (fl_lst fa_nil))
    (fss_cons (fs_for PassesOwn.never rfl (fi_range1 (by rfl) T.n_range (fe_op op_addX (so_addX _) (fe_var 2) fe_int)) (fg_name 6 SC.nd) (fss_cons (fs_set 11 SC.nd (fe_call (ok_law_frac T) (hr.mono (by first | decide | omega)) (by rfl) T.m_law_frac T.F_law_frac.kp T.B_law_frac (far_e (fe_op op_mulX (so_mulX _) (fe_viewB (cr_sumA rfl) so_sum (by rfl) T.n_sum bt_sum (fv_any 3)) (fe_ix (fe_ix (fe_ixA 7 fe_int) (fe_var 6)) fe_int)) (far_e (fe_ix (fe_ix (fe_ixA 7 fe_int) (fe_var 6)) fe_int) far_nil))))
    (fss_cons (fs_set 12 SC.nd (fe_call (ok_law_frac T) (hr.mono (by first | decide | omega)) (by rfl) T.m_law_frac T.F_law_frac.kp T.B_law_frac (far_e (fe_op op_mulX (so_mulX _) (fe_viewB (cr_sumA rfl) so_sum (by rfl) T.n_sum bt_sum (fv_any 4)) (fe_ix (fe_ix (fe_ixA 7 fe_int) (fe_var 6)) fe_int)) (far_e (fe_ix (fe_ix (fe_ixA 7 fe_int) (fe_var 6)) fe_int) far_nil))))
    (fss_cons (fs_set 13 SC.nd (fe_call (ok_law_plus T) (hr.mono (by first | decide | omega)) (by rfl) T.m_law_plus T.F_law_plus.kp T.B_law_plus (far_e (fe_var 11) (far_e (fe_var 12) far_nil))))
    (fss_one (fs_expr (fe_append 10 (fe_call (ok_law_frac T) (hr.mono (by first | decide | omega)) (by rfl) T.m_law_frac T.F_law_frac.kp T.B_law_frac (far_e (fe_ixA 13 fe_int) (far_e (fe_op op_mulX (so_mulX _) (fe_ixA 13 fe_int) (fe_viewB (cr_sumA rfl) so_sum (by rfl) T.n_sum bt_sum (fv_any 5))) far_nil))))))))))
    (fss_one (fs_if (ft_not (FE.ft (fe_call (ok_law_same T 6) (hr.mono (by first | decide | omega)) (by rfl) T.m_law_same T.F_law_same.kp T.B_law_same (far_e (fe_call (ok_counts_of_dual T) (hr.mono (by first | decide | omega)) (by rfl) T.m_counts_of_dual T.F_counts_of_dual.kp T.B_counts_of_dual (far_e (fe_var 1) (far_e (fe_var 2) (far_e (fe_var 5) far_nil)))) (far_e (fe_viewTy call_tuple_of so_tup (by rfl) T.n_tuple bt_tuple (fv_any 10)) far_nil))))) (fss_one (fs_ret fe_bl)) fss_nil)))) fss_nil)
    (fss_cons (fs_frzA 14 (fs_setO 14 SC.nd (fl_lc [("part", 15)] rfl SC.nd (fi_val (fe_ixA 7 fe_int)) (blkOk_by (by kernel_rfl)) (by decide) (fun _ _ _ _ _ => (fg_name 15 SC.nd)) (fun _ _ _ _ _ => fts_nil) (fun _ _ _ _ _ => (fe_ix (fe_call (ok_law_frac T) (hr.mono (by first | decide | omega)) (by rfl) T.m_law_frac T.F_law_frac.kp T.B_law_frac (far_e (fe_op op_mulX (so_mulX _) (fe_viewB (cr_sumA rfl) so_sum (by rfl) T.n_sum bt_sum (fv_any 3)) (fe_ixA 15 fe_int)) (far_e (fe_ixA 15 fe_int) far_nil))) fe_int)))))
    (fss_cons (fs_if (FW.ft (fw_and (ft_cmp op_le (so_cmp _) (fe_viewB (cr_max rfl) so_max (by rfl) T.n_max bt_max (FL.fv (fl_lc [("a", 9)] rfl SC.nd (fi_val (fe_var 14)) (blkOk_by (by kernel_rfl)) (by decide) (fun _ _ _ _ _ => (fg_name 9 SC.nd)) (fun _ _ _ _ _ => fts_nil) (fun _ _ _ _ _ => (fe_callB call_abs so_abs (by rfl) T.n_abs bt_abs (fa_cons (fe_var 9) fa_nil)))))) fe_int (nomark _)) (fw_and1 (ft_cmp (op_neAll hr.units) so_ne (fe_viewB (cr_sumA rfl) so_sum (by rfl) T.n_sum bt_sum (fv_any 14)) fe_int (nomark _))))) (fss_cons (fs_set 16 SC.nd (fe_call (ok_counts_of_dual T) (hr.mono (by first | decide | omega)) (by rfl) T.m_counts_of_dual T.F_counts_of_dual.kp T.B_counts_of_dual (far_e (fe_var 1) (far_e (fe_var 2) (far_e (fe_viewTy call_tuple_of so_tup (by rfl) T.n_tuple bt_tuple (fv_any 14)) far_nil)))))
    (fss_cons (fs_set 17 SC.nd (fe_viewTy call_tuple_of so_tup (by rfl) T.n_tuple bt_tuple (FL.fv (fl_lc [("a", 9)] rfl SC.nd (fi_val (fe_var 3)) (blkOk_by (by kernel_rfl)) (by decide) (fun _ _ _ _ _ => (fg_name 9 SC.nd)) (fun _ _ _ _ _ => fts_nil) (fun _ _ _ _ _ => (fe_call (ok_law_frac T) (hr.mono (by first | decide | omega)) (by rfl) T.m_law_frac T.F_law_frac.kp T.B_law_frac (far_e (fe_op op_mulX (so_mulX _) (fe_var 9) (fe_call (ok_law_power T) (hr.mono (by first | decide | omega)) (by rfl) T.m_law_power T.F_law_power.kp T.B_law_power (far_e (fe_var 1) (far_e (fe_var 2) far_nil)))) (far_e (fe_viewB (cr_sumA rfl) so_sum (by rfl) T.n_sum bt_sum (fv_any 14)) far_nil))))))))
    (fss_one (fs_if (ft_not (FE.ft (fe_call (ok_law_same T 6) (hr.mono (by first | decide | omega)) (by rfl) T.m_law_same T.F_law_same.kp T.B_law_same (far_e (fe_var 16) (far_e (fe_var 17) far_nil))))) (fss_one (fs_ret fe_bl)) fss_nil)))) fss_nil)
    (fss_cons (fs_for PassesOwn.never rfl (fi_val (FL.fe (fl_lst (fa_cons (fe_var 3) (fa_cons (fe_var 4) fa_nil))))) (fg_name 8 SC.nd) (fss_cons (fs_if (ft_not (FE.ft (fe_call (ok_law_same T 6) (hr.mono (by first | decide | omega)) (by rfl) T.m_law_same T.F_law_same.kp T.B_law_same (far_e (FL.fe (fl_lst (fa_cons (fe_call (ok_zero_sums T) (hr.mono (by first | decide | omega)) (by rfl) T.m_zero_sums T.F_zero_sums.kp T.B_zero_sums (far_e (fe_var 8) far_nil)) (fa_cons (fe_call (ok_dual_sums T) (hr.mono (by first | decide | omega)) (by rfl) T.m_dual_sums T.F_dual_sums.kp T.B_dual_sums (far_e (fe_var 8) far_nil)) fa_nil)))) (far_e (FL.fe (fl_lst (fa_cons (fe_call (ok_law_sums_of T) (hr.mono (by first | decide | omega)) (by rfl) T.m_law_sums_of T.F_law_sums_of.kp T.B_law_sums_of (far_e (fe_var 2) (far_e (fe_var 8) (far_e fe_int far_nil)))) (fa_cons (fe_call (ok_law_sums_of T) (hr.mono (by first | decide | omega)) (by rfl) T.m_law_sums_of T.F_law_sums_of.kp T.B_law_sums_of (far_e (fe_var 2) (far_e (fe_var 8) (far_e fe_int far_nil)))) fa_nil)))) far_nil))))) (fss_one (fs_ret fe_bl)) fss_nil)
    (fss_one (fs_if (ft_not (FE.ft (fe_call (ok_law_same T 6) (hr.mono (by first | decide | omega)) (by rfl) T.m_law_same T.F_law_same.kp T.B_law_same (far_e (fe_call (ok_weights_in T) (hr.mono (by first | decide | omega)) (by rfl) T.m_weights_in T.F_weights_in.kp T.B_weights_in (far_e (fe_var 8) far_nil)) (far_e (fe_viewTy call_tuple_of so_tup (by rfl) T.n_tuple bt_tuple (FL.fv (fl_lc [("w", 18)] rfl SC.nd (fi_range2 (by rfl) T.n_range fe_int (fe_op op_addX (so_addX _) (fe_var 2) fe_int)) (blkOk_by (by kernel_rfl)) (by decide) (fun _ _ _ _ _ => (fg_name 18 SC.nd)) (fun _ _ _ _ _ => (fts_one (ft_cmp (op_neAll hr.units) so_ne (fe_ixA 8 (fe_var 18)) fe_int (nomark _)))) (fun _ _ _ _ _ => (fe_var 18))))) far_nil))))) (fss_one (fs_ret fe_bl)) fss_nil))))
    (fss_one (fs_ret fe_bl)))))))))))))
theorem sc_law : FnScope N_law P_law (defScope s_law) := ⟨rfl, rfl, rfl, by decide +kernel, rfl, by decide +kernel, by decide +kernel⟩
set_option maxHeartbeats 0 in
theorem ok_law {P : Program} {w : World} {K : PySem.W.Frag} {mg : Str → Option Value} {base : Heap} (T : Txt K mg) : FnOk P w K mg base CX0 8 T.f_law T.d_law P_law (spF K 1 F_law) := by
  have SC := sc_law
  exact fn_ok (fb := b_law) T.F_law SC rfl rfl (fun _ _ _ _ _ _ hr =>
    (fss_cons (fs_setO 1 SC.nd (fl_call (ok_law_draws T) (hr.mono (by first | decide | omega)) (by rfl) T.m_law_draws T.F_law_draws.kp T.B_law_draws (far_e (fe_var 0) (far_e fe_int far_nil))))
    (fss_cons (fs_for PassesOwn.never rfl (fi_val (fe_slice (fe_call (ok_law_shuffled T) (hr.mono (by first | decide | omega)) (by rfl) T.m_law_shuffled T.F_law_shuffled.kp T.B_law_shuffled (far_io 1 (far_e (FL.fe (fl_lst (fa_cons fe_int (fa_cons fe_int (fa_cons fe_int (fa_cons fe_int (fa_cons fe_int (fa_cons fe_int (fa_cons fe_int fa_nil))))))))) far_nil))) fo_none (fo_some fe_int))) (fg_name 2 SC.nd) (fss_cons (fs_set 3 SC.nd (fe_op op_addX (so_addX _) fe_int (fe_call (ok_law_take T) (hr.mono (by first | decide | omega)) (by rfl) T.m_law_take T.F_law_take.kp T.B_law_take (far_io 1 (far_e fe_int far_nil)))))
    (fss_cons (fs_if (ft_not (FE.ft (fe_call (ok_law_spreads_told T) (hr.mono (by first | decide | omega)) (by rfl) T.m_law_spreads_told T.F_law_spreads_told.kp T.B_law_spreads_told (far_io 1 (far_e (fe_var 2) (far_e (fe_var 3) far_nil)))))) (fss_one (fs_ret fe_bl)) fss_nil)
    (fss_one (fs_for PassesOwn.never rfl (fi_range1 (by rfl) T.n_range fe_int) (fg_name 4 SC.nd) (fss_one (fs_if (ft_not (FE.ft (fe_call (ok_law_rows_told T) (hr.mono (by first | decide | omega)) (by rfl) T.m_law_rows_told T.F_law_rows_told.kp T.B_law_rows_told (far_io 1 (far_e (fe_var 2) (far_e (fe_var 3) far_nil)))))) (fss_one (fs_ret fe_bl)) fss_nil)))))))
    (fss_one (fs_ret fe_bl)))))
end My
namespace My
open PySem PySem.Spec PyProof.Rows L2 FD
local macro_rules | `(tactic| walk_at "fd") => `(tactic| simp only [cC_ap, cUn_ap, cBin_ap, cBinL_ap, cBinT_ap, cBl_ap, cFrz_ap, cIf_ap, cNil_ap, cCons_ap, cTup_ap, cLst_ap, cArgs_ap, cSee_ap, cSeeL_ap, cV1_ap, cV1L_ap, cAnd_ap, cOr_ap, cNot_ap, cAsB_ap, cNotV_ap, cAndV_ap, cOrV_ap, cIsi_ap, cVar_ap, cAny_ap, cIxA_ap, ownL_own, ownL_io, cIxO_ap, cApp_ap, cPop_ap, cPopAt_ap, cRev_ap, oNone_ap, oSome_ap, cSl_ap, cSlL_ap, sNext_ap, sSeq_app, okSet_off, okSet_val, okSet_own, sSet_ap, sSetO_ap, sRet_ap, sRetL_ap, sRetN_ap, sRetO_ap, sDrop_ap, sIf_ap, sFrz_ap, sFrzA_ap, frzS_ap, putL_ap, sBrk_ap, sCnt_ap, gNm_ap, iVal_ap, itemsD_tup, itemsD_lst, itemsD_sls,  iEnum_ap, sFor_ap, sSetIx_ap, sAug_ap, sPar_ap, fnF_ap, cYes_ap,  gAddX_int, gAddI_int, gSub_int, gNeg_int, gCmp_int, gEq_int, gNe_int, gEq_bl, gNe_bl, gEq_str, gcInt_int, gcInt_bl, gcAbs_int, gcMax2_int, gcMin2_int, gcGcd_int, gvLen_ap, gvTup_ap, gvList_ap, items_lst, items_tup, items_sls, cCall_ap, cCallL_ap, arF_nil, arF_e, arF_io, arF_bo,
  Option.bind_some, Option.map_some, if_true, if_ff, and_self, not_true_eq_false, not_false_eq_true,  Bool.not_true, Bool.not_false, decide_true, decide_false, List.any_cons, List.any_nil, Bool.or_false, Bool.or_true, Bool.false_or, Bool.true_or, tyN_int, tyN_tup, tyN_lst, tyN_sls, tyN_bl, tyN_str, tyN_non, mp_length, gIn_none, gIsN_int, gIsN_bl, gIsN_str, gIsN_non, isi_NoneType_tuple, isi_NoneType_list, isi_NoneType_int, isi_NoneType_bool, isi_NoneType_str, isi_bool_tuple, isi_bool_list, isi_bool_int, isi_bool_bool, isi_bool_str, isi_int_tuple, isi_int_list, isi_int_int, isi_int_bool, isi_int_str, isi_str_tuple, isi_str_list, isi_str_int, isi_str_bool, isi_str_str, isi_tuple_tuple, isi_tuple_list, isi_tuple_int, isi_tuple_bool, isi_tuple_str, isi_list_tuple, isi_list_list, isi_list_int, isi_list_bool, isi_list_str, List.getElem?_cons_zero, List.getElem?_cons_succ, List.set_cons_zero, List.set_cons_succ, List.cons_append, List.nil_append, List.replicate_succ, List.replicate_zero, *])
/-! small things over small numbers: by trying all -/
def isRt (o : Option Out) (z : Int) (k : Nat) : Bool := match o with
  | some (.rt (.int y) sf) => y == z && decide (k ≤ sf.length)
  | _ => false
theorem isRt_val {F : SS} {ds : List D} {z : Int} (h : isRt (F (ds.map S.val)) z ds.length = true) : Val F ds (.int z) := by
  unfold isRt at h
  split at h
  · rename_i y sf e
    rw [Bool.and_eq_true] at h
    rw [eq_of_beq h.1] at e
    exact ⟨sf, e, of_decide_eq_true h.2⟩
  · cases h
def comb (a b : Nat) : Int := PySem.W.mcComb a b
theorem pow_all : ∀ a : Fin 10, ∀ n : Fin 13, isRt (F_power_of [.val (.int (a.val : Int)), .val (.int (n.val : Int))]) ((a.val : Int) ^ n.val) 2 = true := by decide +kernel
theorem alt_all : ∀ n : Fin 13, isRt (F_alternating [.val (.int (n.val : Int))]) ((-1) ^ n.val) 1 = true := by decide +kernel
theorem lpow_all : ∀ a : Fin 10, ∀ n : Fin 13, isRt (F_law_power [.val (.int (a.val : Int)), .val (.int (n.val : Int))]) ((a.val : Int) ^ n.val) 2 = true := by decide +kernel
theorem ch_all : ∀ a : Fin 13, ∀ n : Fin 13, isRt (F_law_choose [.val (.int (a.val : Int)), .val (.int (n.val : Int))]) (comb a.val n.val) 2 = true := by decide +kernel
theorem pow_t {a n : Nat} (ha : a < 10) (hn : n < 13) (s : List S) : callT F_power_of [.v (.int a), .v (.int n)] s = some (.int ((a : Int) ^ n), s) :=
  (isRt_val (F := F_power_of) (ds := [.int a, .int n]) (pow_all ⟨a, ha⟩ ⟨n, hn⟩)).t s
theorem alt_t {n : Nat} (hn : n < 13) (s : List S) : callT F_alternating [.v (.int n)] s = some (.int ((-1) ^ n), s) :=
  (isRt_val (F := F_alternating) (ds := [.int n]) (alt_all ⟨n, hn⟩)).t s
theorem lpow_t {a n : Nat} (ha : a < 10) (hn : n < 13) (s : List S) : callT F_law_power [.v (.int a), .v (.int n)] s = some (.int ((a : Int) ^ n), s) :=
  (isRt_val (F := F_law_power) (ds := [.int a, .int n]) (lpow_all ⟨a, ha⟩ ⟨n, hn⟩)).t s
theorem ch_t {a n : Nat} (ha : a < 13) (hn : n < 13) (s : List S) : callT F_law_choose [.v (.int a), .v (.int n)] s = some (.int (comb a n), s) :=
  (isRt_val (F := F_law_choose) (ds := [.int a, .int n]) (ch_all ⟨a, ha⟩ ⟨n, hn⟩)).t s
/-- the comb function of small numbers is small -/
theorem comb_small : ∀ a : Fin 13, ∀ b : Fin 13, 0 ≤ comb a.val b.val ∧ comb a.val b.val ≤ 1000 := by decide +kernel
theorem comb_b {a b : Nat} (ha : a < 13) (hb : b < 13) : 0 ≤ comb a b ∧ comb a b ≤ 1000 := comb_small ⟨a, ha⟩ ⟨b, hb⟩
theorem pow_small : ∀ a : Fin 10, ∀ n : Fin 13, ((a.val : Int) ^ n.val).natAbs < 2 ^ 40 := by decide +kernel
theorem alt_small : ∀ n : Fin 13, (((-1) : Int) ^ n.val).natAbs < 2 := by decide +kernel
/-! krawtchouk -/
theorem rng0_at {n i : Nat} {d : D} (h : (rngD 0 n)[i]? = some d) : i < n ∧ d = .int i := by
  obtain ⟨h1, rfl⟩ := rngD_at h
  rw [Int.zero_add]
  exact ⟨h1, rfl⟩
def term (q n j i s : Nat) : Int := (-1) ^ s * ((q - 1 : Nat) : Int) ^ (j - s) * (comb i s * comb (n - i) (j - s))
def kraw (q n j i : Nat) : Int := psum (term q n j i) (j + 1)
theorem kraw_turn {q n j i s : Nat} (hq : 1 ≤ q ∧ q < 10) (hn : n < 13) (hj : j ≤ n) (hi : i ≤ n) (hs : s < j + 1) {x y : S} (hx : okSet (some x) = true) (hy : okSet (some y) = true) (a : Int) :
    lb_krawtchouk_1 [.val (.int q), .val (.int n), .val (.int j), .val (.int i), .val (.int a), .val (.int s), y] =
      some (.nx [.val (.int q), .val (.int n), .val (.int j), .val (.int i), .val (.int (a + term q n j i s)), .val (.int s), .val (.int (comb i s * comb (n - i) (j - s)))]) := by
  have c1 : gcComb [.int i, .int s] = some (.int (comb i s)) := gComb_int ⟨by omega, by omega, by omega⟩
  have e1 : ((n : Int) - i) = ((n - i : Nat) : Int) := by omega
  have e2 : ((j : Int) - s) = ((j - s : Nat) : Int) := by omega
  have e3 : ((q : Int) - 1) = ((q - 1 : Nat) : Int) := by omega
  have c2 : gcComb [.int ((n : Int) - i), .int ((j : Int) - s)] = some (.int (comb (n - i) (j - s))) := by
    rw [e1, e2]
    exact gComb_int ⟨by omega, by omega, by omega⟩
  have b1 := comb_b (a := i) (b := s) (by omega) (by omega)
  have b2 := comb_b (a := n - i) (b := j - s) (by omega) (by omega)
  have m1 : gMulX (.int (comb i s)) (.int (comb (n - i) (j - s))) = some (.int (comb i s * comb (n - i) (j - s))) := gMulX_int (iOk_of_bounds (a := 10) (b := 10) (by omega) (by omega) (by decide) (by decide) (by decide))
  have p1 := pow_small ⟨q - 1, by omega⟩ ⟨j - s, by omega⟩
  have p2 := alt_small ⟨s, by omega⟩
  have b3 : (((-1 : Int) ^ s) * ((q - 1 : Nat) : Int) ^ (j - s)).natAbs < 2 ^ 41 := wide_lt (a := 1) (b := 40) p2 p1
  have b4 : (comb i s * comb (n - i) (j - s)).natAbs < 2 ^ 20 := wide_lt (a := 10) (b := 10) (by omega) (by omega)
  have m2 : gMulX (.int ((-1) ^ s)) (.int (((q - 1 : Nat) : Int) ^ (j - s))) = some (.int ((-1) ^ s * ((q - 1 : Nat) : Int) ^ (j - s))) := gMulX_int (iOk_of_bounds (a := 1) (b := 40) p2 p1 (by decide) (by decide) (by decide))
  have m3 : gMulX (.int ((-1) ^ s * ((q - 1 : Nat) : Int) ^ (j - s))) (.int (comb i s * comb (n - i) (j - s))) = some (.int (term q n j i s)) := gMulX_int (iOk_of_bounds (a := 41) (b := 20) b3 b4 (by decide) (by decide) (by decide))
  have t1 : ∀ t, callT F_alternating [.v (.int s)] t = some (.int ((-1) ^ s), t) := alt_t (by omega)
  have t2 : ∀ t, callT F_power_of [.v (.int ((q : Int) - 1)), .v (.int ((j : Int) - s))] t = some (.int (((q - 1 : Nat) : Int) ^ (j - s)), t) := by
    rw [e2, e3]
    exact pow_t (by omega) (by omega)
  clear b1 b2 p1 p2 b3 b4 e1 e2 e3 hq hn hj hi hs
  unfold lb_krawtchouk_1
  walk_at "fd"
theorem kraw_loop {q n j i : Nat} (hq : 1 ≤ q ∧ q < 10) (hn : n < 13) (hj : j ≤ n) (hi : i ≤ n) : ∃ x y, okSet (some x) = true ∧ okSet (some y) = true ∧ forF (gNm 5) lb_krawtchouk_1 (rngD 0 (j + 1)) [.val (.int q), .val (.int n), .val (.int j), .val (.int i), .val (.int 0), .off, .off] = some (.nx [.val (.int q), .val (.int n), .val (.int j), .val (.int i), .val (.int (kraw q n j i)), x, y]) := by
  obtain ⟨s', e, x, y, hx, hy, hs⟩ := for_inv (g := gNm 5) (body := lb_krawtchouk_1) (fun k ss => ∃ x y, okSet (some x) = true ∧ okSet (some y) = true ∧ ss = [.val (.int q), .val (.int n), .val (.int j), .val (.int i), .val (.int (psum (term q n j i) k)), x, y])
    (rngD 0 (j + 1)) 0 [.val (.int q), .val (.int n), .val (.int j), .val (.int i), .val (.int 0), .off, .off] ⟨_, _, rfl, rfl, rfl⟩ (fun s d ss hd ⟨x, y, hx, hy, hs⟩ => by
      obtain ⟨hs1, rfl⟩ := rng0_at hd
      subst hs
      rw [Nat.zero_add]
      refine ⟨_, _, ?_, kraw_turn hq hn hj hi hs1 hx hy _, _, _, okSet_val, okSet_val, rfl⟩
      clear hq hn hj hi hs1 hd
      walk_at "fd")
  rw [rngD_length, Nat.zero_add] at hs
  subst hs
  exact ⟨x, y, hx, hy, e⟩
theorem kraw_val {q n j i : Nat} (hq : 1 ≤ q ∧ q < 10) (hn : n < 13) (hj : j ≤ n) (hi : i ≤ n) : Val F_krawtchouk [.int q, .int n, .int j, .int i] (.int (kraw q n j i)) := by
  obtain ⟨x, y, hx, hy, e⟩ := kraw_loop hq hn hj hi
  refine ⟨[.val (.int q), .val (.int n), .val (.int j), .val (.int i), .val (.int (kraw q n j i)), x, y], ?_, by simp⟩
  have e0 : ∀ ss : List S, ss[2]? = some (.val (.int j)) → iRange1 (cBin gAddX (cVar 2) (cC (.int 1))) ss = some (rngD 0 (j + 1), ss) := fun ss h => by
    refine range1_of (n := j + 1) ?_ (by omega)
    walk_at "fd"
    rfl
  clear hq hn hj hi
  unfold F_krawtchouk b_krawtchouk
  simp only [List.map_cons, List.map_nil]
  walk_at "fd"
/-! the same -/
def plainD : Nat → D → Bool
  | _, .int _ => true
  | k + 1, .tup l => decide (l.length ≤ 1000) && l.all (plainD k)
  | k + 1, .lst l => decide (l.length ≤ 1000) && l.all (plainD k)
  | _, _ => false
theorem same_int (k : Nat) (i : Int) : Val (F_law_same (k + 1)) [.int i, .int i] (.bl true) := by
  refine ⟨[.val (.int i), .val (.int i), .off], ?_, by simp⟩
  unfold F_law_same
  simp only [List.map_cons, List.map_nil]
  walk_at "fd"
theorem same_go (k : Nat) (t : Bool) (l : List D) (hl : l.length ≤ 1000) (h : ∀ x ∈ l, Val (F_law_same k) [x, x] (.bl true)) :
    Val (F_law_same (k + 1)) [if t then .tup l else .lst l, if t then .tup l else .lst l] (.bl true) := by
  cases t with
  | true =>
    refine ⟨[.val (.tup l), .val (.tup l), .off], ?_, by simp⟩
    have hr : iRange1 (cV1 gvLen (cAny 1)) [.val (.tup l), .val (.tup l), .off] = some (rngD 0 l.length, [.val (.tup l), .val (.tup l), .off]) := range1_of (by walk_at "fd") (by omega)
    have e := lc_rng (g := gNm 2) (te := le_law_same_1 (F_law_same k)) (own := [2]) (fun _ => .bl true) hr rfl (fun i hi => by
      obtain ⟨d, hd⟩ : ∃ d, l[i]? = some d := ⟨l[i], List.getElem?_eq_getElem hi⟩
      have g1 := gIx_tup hd
      have g2 := (h d (List.mem_of_getElem? hd)).t
      simp only [List.map_cons, List.map_nil] at g2
      rw [Int.zero_add]
      refine ⟨[.val (.tup l), .val (.tup l), .val (.int i)], [.val (.tup l), .val (.tup l), .val (.int i)], rfl, ?_, rfl, rfl⟩
      unfold le_law_same_1
      clear hr hd hi h
      walk_at "fd") (by omega) rfl
    clear hr h
    unfold F_law_same
    simp only [List.map_cons, List.map_nil, if_true]
    walk_at "fd"
  | false =>
    refine ⟨[.val (.lst l), .val (.lst l), .off], ?_, by simp⟩
    have hr : iRange1 (cV1 gvLen (cAny 1)) [.val (.lst l), .val (.lst l), .off] = some (rngD 0 l.length, [.val (.lst l), .val (.lst l), .off]) := range1_of (by walk_at "fd") (by omega)
    have e := lc_rng (g := gNm 2) (te := le_law_same_1 (F_law_same k)) (own := [2]) (fun _ => .bl true) hr rfl (fun i hi => by
      obtain ⟨d, hd⟩ : ∃ d, l[i]? = some d := ⟨l[i], List.getElem?_eq_getElem hi⟩
      have g1 := gIx_lst hd
      have g2 := (h d (List.mem_of_getElem? hd)).t
      simp only [List.map_cons, List.map_nil] at g2
      rw [Int.zero_add]
      refine ⟨[.val (.lst l), .val (.lst l), .val (.int i)], [.val (.lst l), .val (.lst l), .val (.int i)], rfl, ?_, rfl, rfl⟩
      unfold le_law_same_1
      clear hr hd hi h
      walk_at "fd") (by omega) rfl
    clear hr h
    unfold F_law_same
    simp only [List.map_cons, List.map_nil, if_ff]
    walk_at "fd"
theorem same_val : ∀ (k : Nat) (d : D), plainD k d = true → Val (F_law_same (k + 1)) [d, d] (.bl true)
  | k, .int i, _ => same_int k i
  | k + 1, .tup l, h => by
    unfold plainD at h
    rw [Bool.and_eq_true, List.all_eq_true] at h
    exact same_go (k + 1) true l (of_decide_eq_true h.1) fun x hx => same_val k x (h.2 x hx)
  | k + 1, .lst l, h => by
    unfold plainD at h
    rw [Bool.and_eq_true, List.all_eq_true] at h
    exact same_go (k + 1) false l (of_decide_eq_true h.1) fun x hx => same_val k x (h.2 x hx)
  | 0, .tup l, h => nomatch h
  | 0, .lst l, h => nomatch h
  | 0, .bl _, h => nomatch h
  | 0, .non, h => nomatch h
  | 0, .str _, h => nomatch h
  | 0, .sls _, h => nomatch h
  | _ + 1, .bl _, h => nomatch h
  | _ + 1, .non, h => nomatch h
  | _ + 1, .str _, h => nomatch h
  | _ + 1, .sls _, h => nomatch h
theorem plainD_up : ∀ (k : Nat) (d : D), plainD k d = true → plainD (k + 1) d = true
  | k, .int i, _ => by cases k <;> rfl
  | k + 1, .tup l, h => by
    unfold plainD at h ⊢
    rw [Bool.and_eq_true, List.all_eq_true] at h ⊢
    exact ⟨h.1, fun x hx => plainD_up k x (h.2 x hx)⟩
  | k + 1, .lst l, h => by
    unfold plainD at h ⊢
    rw [Bool.and_eq_true, List.all_eq_true] at h ⊢
    exact ⟨h.1, fun x hx => plainD_up k x (h.2 x hx)⟩
  | 0, .tup l, h => nomatch h
  | 0, .lst l, h => nomatch h
  | 0, .bl _, h => nomatch h
  | 0, .non, h => nomatch h
  | 0, .str _, h => nomatch h
  | 0, .sls _, h => nomatch h
  | _ + 1, .bl _, h => nomatch h
  | _ + 1, .non, h => nomatch h
  | _ + 1, .str _, h => nomatch h
  | _ + 1, .sls _, h => nomatch h
/-- the call that the law makes -/
theorem same_t {d : D} (h : plainD 5 d = true) (s : List S) : callT (F_law_same 6) [.v d, .v d] s = some (.bl true, s) := (same_val 5 d h).t s
theorem plain_mp {k n : Nat} {f : Nat → D} (hn : n ≤ 1000) (h : ∀ i, i < n → plainD k (f i) = true) : plainD (k + 1) (.tup (mp n f)) = true ∧ plainD (k + 1) (.lst (mp n f)) = true := by
  have q : (decide ((mp n f).length ≤ 1000) && (mp n f).all (plainD k)) = true := by
    rw [Bool.and_eq_true, List.all_eq_true]
    refine ⟨decide_eq_true (by rw [mp_length]; exact hn), fun x hx => ?_⟩
    obtain ⟨i, hi⟩ := List.getElem?_of_mem hx
    obtain ⟨h1, rfl⟩ := mp_get_inv hi
    exact h i h1
  exact ⟨q, q⟩
theorem plain_list {k : Nat} {l : List D} (hn : l.length ≤ 1000) (h : ∀ x ∈ l, plainD k x = true) : plainD (k + 1) (.tup l) = true ∧ plainD (k + 1) (.lst l) = true := by
  have q : (decide (l.length ≤ 1000) && l.all (plainD k)) = true := by
    rw [Bool.and_eq_true, List.all_eq_true]
    exact ⟨decide_eq_true hn, h⟩
  exact ⟨q, q⟩
/-! draws -/
def Ints (l : List D) : Prop := ∃ ns : List Int, l = ns.map D.int
theorem Ints.snoc {l : List D} {i : Int} : Ints l → Ints (l ++ [.int i]) := fun ⟨ns, e⟩ => ⟨ns ++ [i], by rw [e, List.map_append]; rfl⟩
theorem take_val {l : List D} (hl : Ints l) {many : Int} (hm : 0 < many) : ∃ (t : Int) (l' : List D), 0 ≤ t ∧ t < many ∧ Ints l' ∧ Val1 F_law_take l [.int many] (.int t) l' := by
  obtain ⟨ns, rfl⟩ := hl
  by_cases e : ns = []
  · subst e
    refine ⟨0, [], Int.le_refl _, hm, ⟨[], rfl⟩, [.val (.int many)], ?_, by simp⟩
    unfold F_law_take b_law_take
    simp only [List.map_cons, List.map_nil]
    walk_at "fd"
    rfl
  · obtain ⟨ms, x, rfl⟩ : ∃ ms x, ns = ms ++ [x] := ⟨ns.dropLast, ns.getLast e, (List.dropLast_concat_getLast e).symm⟩
    refine ⟨x.fmod many, ms.map D.int, Int.fmod_nonneg_of_pos _ hm, Int.fmod_lt_of_pos _ hm, ⟨ms, rfl⟩, [.val (.int many)], ?_, by simp⟩
    have h1 : ((ms ++ [x]).map D.int)[((ms ++ [x]).map D.int).length - 1]? = some (.int x) := by simp
    have h2 : ((ms ++ [x]).map D.int).dropLast = ms.map D.int := by simp
    have h3 : decide ((((ms ++ [x]).map D.int).length : Int) = 0) = false := by
      apply decide_eq_false
      rw [List.length_map, List.length_append, List.length_singleton]
      omega
    have h4 := gMod_int (i := x) (show many ≠ 0 by omega)
    generalize (ms ++ [x]).map D.int = L at h1 h2 h3
    clear e
    unfold F_law_take b_law_take
    simp only [List.map_cons, List.map_nil]
    walk_at "fd"
theorem take_t {l : List D} (hl : Ints l) {many : Int} (hm : 0 < many) : ∃ (t : Int) (l' : List D), 0 ≤ t ∧ t < many ∧ Ints l' ∧ ∀ s i, ownL s[i]? = some l → callT F_law_take [.io i, .v (.int many)] s = some (.int t, putL s i l') := by
  obtain ⟨t, l', h1, h2, h3, h4⟩ := take_val hl hm
  exact ⟨t, l', h1, h2, h3, fun s i h => h4.t s i h⟩
theorem shl_const : gShl (.int 1) (.int 7200) = some (.int (2 ^ 7200)) := by
  unfold gShl
  dsimp only
  rw [if_pos (by decide +kernel), show (7200 : Int).toNat = 7200 from rfl, Int.one_mul]
theorem pow_const : gPow (.int 10) (.int 18) = some (.int 1000000000000000000) := by
  unfold gPow
  dsimp only
  rw [if_pos (by decide +kernel)]
  have : ((10 : Int) ^ (18 : Int).toNat) = 1000000000000000000 := by decide +kernel
  rw [this]
theorem fmod_range {a b : Int} (hb : 0 < b) : 0 ≤ a.fmod b ∧ a.fmod b < b := ⟨Int.fmod_nonneg_of_pos a hb, Int.fmod_lt_of_pos a hb⟩
def drawsInv (sc : S) (cells : List Int) (n : Nat) (ss : List S) : Prop := ∃ (left draws : List Int) (x6 x7 x8 : S), left.length = n ∧ okSet (some x6) = true ∧ okSet (some x7) = true ∧ okSet (some x8) = true ∧
  ss = [sc, .val (.int 300), .own (cells.map D.int), .off, .own (left.map D.int), .own (draws.map D.int), x6, x7, x8]
theorem draws_turn {sc : S} {cells : List Int} (hc : ∀ x ∈ cells, 0 ≤ x ∧ x < 2 ^ 7200) (h0 : 0 < cells.length) (k : Nat) (hk : k < 300) (left draws : List Int) (hd : draws.length ≤ k) (x7 x8 : S) (hl : left.length = cells.length) (h7 : okSet (some x7) = true) (h8 : okSet (some x8) = true) :
    ∃ (left' : List Int) (z : Int) (y7 y8 : S), left'.length = cells.length ∧ okSet (some y7) = true ∧ okSet (some y8) = true ∧ lb_law_draws_2 [sc, .val (.int 300), .own (cells.map D.int), .off, .own (left.map D.int), .own (draws.map D.int), .val (.int k), x7, x8] =
      some (.nx [sc, .val (.int 300), .own (cells.map D.int), .off, .own (left'.map D.int), .own (draws.map D.int ++ [.int z]), .val (.int k), y7, y8]) := by
  have hn : ((cells.length : Nat) : Int) ≠ 0 := by omega
  obtain ⟨p, hp, hpn⟩ : ∃ p : Nat, (k : Int).fmod (cells.length : Int) = p ∧ p < cells.length := by
    have := fmod_range (a := (k : Int)) (b := (cells.length : Int)) (by omega)
    exact ⟨((k : Int).fmod (cells.length : Int)).toNat, by omega, by omega⟩
  have m1 : gMod (.int k) (.int ((cells.map D.int).length : Int)) = some (.int p) := by
    rw [List.length_map, gMod_int hn, hp]
  obtain ⟨c, hcp⟩ : ∃ c, cells[p]? = some c := ⟨cells[p], List.getElem?_eq_getElem hpn⟩
  obtain ⟨f, hfp⟩ : ∃ c, left[p]? = some c := ⟨left[p], List.getElem?_eq_getElem (by omega)⟩
  have a1 : atI (cells.map D.int) (p : Int) = some (.int c) := atI_nat (by rw [List.getElem?_map, hcp]; rfl)
  have a2 : atI (left.map D.int) (p : Int) = some (.int f) := atI_nat (by rw [List.getElem?_map, hfp]; rfl)
  have hcb := hc c (List.mem_of_getElem? hcp)
  have sz := PySem.sizeLine_eq
  have s1 : ((draws.map D.int).length < sizeLine) = True := eq_true (by rw [List.length_map]; omega)
  have pw := pow_const
  have m2 : gMod (.int f) (.int 1000) = some (.int (f.fmod 1000)) := gMod_int (by decide)
  have m3 : gFdiv (.int f) (.int 1000) = some (.int (f.fdiv 1000)) := gFdiv_int (by decide +kernel)
  have i1 : ixN (left.map D.int).length (p : Int) = some p := ixN_nat (by rw [List.length_map]; omega)
  have e1 : (left.map D.int).set p (.int (f.fdiv 1000)) = (left.set p (f.fdiv 1000)).map D.int := by rw [List.map_set]
  have g1 : gMulX (.int c) (.int 48271) = some (.int (c * 48271)) := gMulX_int (iOk_of_bounds (a := 7200) (b := 16) (by
    have : c.natAbs = c.toNat := by omega
    rw [this]
    have h2 : ((c.toNat : Nat) : Int) < ((2 ^ 7200 : Nat) : Int) := by
      rw [Int.toNat_of_nonneg hcb.1, Int.natCast_pow]
      exact hcb.2
    exact Int.ofNat_lt.mp h2) (by decide) (by decide) (by decide) (by decide))
  have g2 : gMulX (.int k) (.int 69621) = some (.int (k * 69621)) := gMulX_int (iOk_of_bounds (a := 10) (b := 17) (by omega) (by decide) (by decide) (by decide) (by decide))
  have m4 : gMod (.int (c * 48271 + k * 69621 + 11)) (.int 2147483647) = some (.int ((c * 48271 + k * 69621 + 11).fmod 2147483647)) := gMod_int (by decide)
  have hm := fmod_range (a := c * 48271 + k * 69621 + 11) (b := 2147483647) (by decide)
  generalize (c * 48271 + k * 69621 + 11).fmod 2147483647 = m at m4 hm
  have g3 : gMulX (.int m) (.int m) = some (.int (m * m)) := gMulX_int (iOk_of_bounds (a := 32) (b := 32) (by omega) (by omega) (by decide) (by decide) (by decide))
  have g4 : gMulX (.int 3) (.int m) = some (.int (3 * m)) := gMulX_int (iOk_of_bounds (a := 32) (b := 32) (by decide) (by omega) (by decide) (by decide) (by decide))
  have m5 : gMod (.int (m * m + 3 * m + k)) (.int 1000003) = some (.int ((m * m + 3 * m + k).fmod 1000003)) := gMod_int (by decide)
  have hls : (left.set p (f.fdiv 1000)).length = cells.length := by rw [List.length_set, hl]
  generalize left.set p (f.fdiv 1000) = left2 at e1 hls
  by_cases b1 : c ≥ 1000000000000000000 ∧ f > 0
  · refine ⟨left2, f.fmod 1000, .val (.int p), x8, hls, rfl, h8, ?_⟩
    have t1 : decide (c ≥ 1000000000000000000) = true := decide_eq_true b1.1
    have t2 : decide (f > 0) = true := decide_eq_true b1.2
    clear hn hp hpn hcp hfp hcb sz hm hd hk h0 hc hl b1 hls
    unfold lb_law_draws_2
    walk_at "fd"
  · have t3 : (decide (c ≥ 1000000000000000000) = true → decide (f > 0) = false) := fun h => decide_eq_false fun h2 => b1 ⟨of_decide_eq_true h, h2⟩
    refine ⟨left, (m * m + 3 * m + k).fmod 1000003, .val (.int p), .val (.int m), hl, rfl, rfl, ?_⟩
    clear hn hp hpn hcp hfp hcb sz hm hd hk h0 hc hl b1 hls
    by_cases t1 : decide (c ≥ 1000000000000000000) = true
    · have t2 := t3 t1
      clear t3
      unfold lb_law_draws_2
      walk_at "fd"
    · rw [Bool.not_eq_true] at t1
      clear t3
      unfold lb_law_draws_2
      walk_at "fd"
theorem draws_val {ns : List Int} (hns : ns.length ≤ 63) : ∃ l, Ints l ∧ ValL F_law_draws [.sls (ns.map D.int), .int 300] l := by
  have hcut : FD.cutD (ns.map D.int) none (some 63) = ns.map D.int := by
    have h : HT.sIx (ns.map D.int).length (ns.map D.int).length (some ((63 : Nat) : Int)) = min 63 (ns.map D.int).length := HT.sIx_nat _ _ _
    have h' : HT.sIx (ns.map D.int).length 0 none = 0 := HT.sIx_none _ _
    unfold FD.cutD
    rw [h', show (63 : Int) = ((63 : Nat) : Int) from rfl, h, List.drop_zero]
    apply List.take_of_length_le
    rw [List.length_map]
    omega
  have hsh := shl_const
  generalize ha : (2 : Int) ^ 7200 = A at hsh
  have hA : 0 < A := by rw [← ha]; exact Int.pow_pos (by decide)
  have hlc : cLc (iVal (cSl (cVar 0) oNone (oSome (cC (.int 63))))) (gNm 3) cYes le_law_draws_1 [3] [.val (.sls (ns.map D.int)), .val (.int 300), .off, .off, .off, .off, .off, .off, .off] =
      some (mp ns.length (fun i => .int ((ns.getD i 0).fmod A)), [.val (.sls (ns.map D.int)), .val (.int 300), .off, .off, .off, .off, .off, .off, .off]) := by
    refine lc_val (ds := ns.map D.int) (fun i => .int ((ns.getD i 0).fmod A)) ?_ (by rw [List.length_map]) rfl (fun i d hi hd => ?_) (by omega) rfl
    · clear hns hsh ha hA
      walk_at "fd"
    · rw [List.getElem?_map] at hd
      obtain ⟨z, hz⟩ : ∃ z, ns[i]? = some z := ⟨ns[i], List.getElem?_eq_getElem hi⟩
      rw [hz] at hd
      cases hd
      rw [List.getD_eq_getElem?_getD, hz]
      have m1 := gMod_int (i := z) (j := A) (by omega)
      refine ⟨[.val (.sls (ns.map D.int)), .val (.int 300), .off, .val (.int z), .off, .off, .off, .off, .off], [.val (.sls (ns.map D.int)), .val (.int 300), .off, .val (.int z), .off, .off, .off, .off, .off], rfl, ?_, rfl, rfl⟩
      unfold le_law_draws_1
      clear hns hcut ha hA hi hz
      walk_at "fd"
      rfl
  obtain ⟨cells, hcl, h0, hce⟩ : ∃ cells : List Int, (∀ x ∈ cells, 0 ≤ x ∧ x < 2 ^ 7200) ∧ 0 < cells.length ∧ sIf (cBinT gEq (cV1 gvLen (cAny 2)) (cC (.int 0))) (sDrop (cApp 2 (cC (.int 0)))) sNext [.val (.sls (ns.map D.int)), .val (.int 300), .own (mp ns.length (fun i => .int ((ns.getD i 0).fmod A))), .off, .off, .off, .off, .off, .off] =
      some (.nx [.val (.sls (ns.map D.int)), .val (.int 300), .own (cells.map D.int), .off, .off, .off, .off, .off, .off]) := by
    by_cases e : ns = []
    · subst e
      refine ⟨[0], fun x hx => ?_, by decide, ?_⟩
      · rw [List.mem_singleton.mp hx, ha]
        exact ⟨Int.le_refl _, hA⟩
      · have s1 : (([] : List D).length < sizeLine) = True := eq_true (by have := PySem.sizeLine_eq; simp only [List.length_nil]; omega)
        simp only [List.length_nil, mp_zero]
        walk_at "fd"
        rfl
    · refine ⟨mp ns.length fun i => (ns.getD i 0).fmod A, fun x hx => ?_, ?_, ?_⟩
      · obtain ⟨i, hi⟩ := List.getElem?_of_mem hx
        obtain ⟨_, rfl⟩ := mp_get_inv hi
        rw [ha]
        exact fmod_range hA
      · rw [mp_length]
        exact List.length_pos_iff.mpr e
      · rw [mp_map]
        have h3 : decide ((ns.length : Int) = 0) = false := decide_eq_false (by have := List.length_pos_iff.mpr e; omega)
        clear hcut hsh hA hlc e ha
        walk_at "fd"
  have hr : ∀ ss : List S, ss[1]? = some (.val (.int 300)) → iRange1 (cVar 1) ss = some (rngD 0 300, ss) := fun ss h => range1_of (n := 300) (by walk_at "fd"; rfl) (by decide)
  obtain ⟨s', hf, left, draws, x6, x7, x8, hdl, -, -, -, -, rfl⟩ := for_inv (g := gNm 6) (body := lb_law_draws_2) (fun k ss => ∃ (left draws : List Int) (x6 x7 x8 : S), draws.length ≤ k ∧ left.length = cells.length ∧ okSet (some x6) = true ∧ okSet (some x7) = true ∧ okSet (some x8) = true ∧
      ss = [.val (.sls (ns.map D.int)), .val (.int 300), .own (cells.map D.int), .off, .own (left.map D.int), .own (draws.map D.int), x6, x7, x8])
    (rngD 0 300) 0 [.val (.sls (ns.map D.int)), .val (.int 300), .own (cells.map D.int), .off, .own (cells.map D.int), .own [], .off, .off, .off] ⟨cells, [], .off, .off, .off, Nat.le_refl _, rfl, rfl, rfl, rfl, rfl⟩ (fun k d ss hd ⟨left, draws, x6, x7, x8, h1, h2, h3, h4, h5, e⟩ => by
      obtain ⟨hk, rfl⟩ := rng0_at hd
      subst e
      rw [Nat.zero_add] at h1 ⊢
      obtain ⟨left', z, y7, y8, q1, q2, q3, q4⟩ := draws_turn (sc := .val (.sls (ns.map D.int))) hcl h0 k hk left draws h1 x7 x8 h2 h4 h5
      refine ⟨_, _, ?_, q4, left', draws ++ [z], .val (.int k), y7, y8, ?_, q1, rfl, q2, q3, ?_⟩
      · clear hcl h0 hce hlc hcut hsh ha hA hr h1 h2 q1 q2 q3 q4 hk hd hns
        walk_at "fd"
      · rw [List.length_append, List.length_singleton]
        omega
      · rw [List.map_append]
        rfl)
  refine ⟨(draws.map D.int).reverse, ⟨draws.reverse, by rw [List.map_reverse]⟩, [.val (.sls (ns.map D.int)), .val (.int 300), .own (cells.map D.int), .off, .own (left.map D.int), .off, x6, x7, x8], ?_, by simp⟩
  clear hcl h0 hcut hsh ha hA hdl
  unfold F_law_draws b_law_draws
  simp only [List.map_cons, List.map_nil]
  have hcl : cLst cNil = fun ss : List S => some (([] : List D), ss) := by funext ss; rfl
  generalize sIf (cBinT gEq (cV1 gvLen (cAny 2)) (cC (.int 0))) (sDrop (cApp 2 (cC (.int 0)))) sNext = G at hce ⊢
  walk_at "fd"
/-! shuffled -/
theorem shuf_turn {x1 x4 : S} {dr left told : List D} {k : Nat} (hd : Ints dr) (h0 : 0 < left.length) (ht : told.length ≤ 1000) (h1000 : left.length ≤ 1000) : ∃ (dr' : List D) (d : D) (j : Nat), Ints dr' ∧ d ∈ left ∧ j < left.length ∧
    lb_law_shuffled_1 [.io dr, x1, .own left, .own told, .val (.int k)] = some (.nx [.io dr', x1, .own (left.eraseIdx j), .own (told ++ [d]), .val (.int k)]) := by
  obtain ⟨t, dr', h1, h2, h3, h4⟩ := take_t hd (many := (left.length : Int)) (by omega)
  obtain ⟨j, rfl⟩ : ∃ j : Nat, t = j := ⟨t.toNat, by omega⟩
  have hj : j < left.length := by omega
  obtain ⟨d, hd⟩ : ∃ d, left[j]? = some d := ⟨left[j], List.getElem?_eq_getElem hj⟩
  refine ⟨dr', d, j, h3, List.mem_of_getElem? hd, hj, ?_⟩
  have i1 : ixN left.length (j : Int) = some j := ixN_nat hj
  have sz := PySem.sizeLine_eq
  have s1 : (told.length < sizeLine) = True := eq_true (by omega)
  have s2 : (left.length ≤ sizeLine) = True := eq_true (by omega)
  have c1 := h4 [.io dr, x1, .own left, .own told, .val (.int k)] 0 rfl
  clear h4 h0 ht h1000 h1 h2 h3 hj sz
  unfold lb_law_shuffled_1
  walk_at "fd"
theorem shuf_val {dr row : List D} (hd : Ints dr) (hr : row.length ≤ 500) : ∃ told dr', Ints dr' ∧ (∀ d ∈ told, d ∈ row) ∧ ValL1 F_law_shuffled dr [.lst row] told dr' := by
  have hrg : ∀ ss : List S, ss[2]? = some (.own row) → iRange1 (cV1 gvLen (cAny 2)) ss = some (rngD 0 row.length, ss) := fun ss h => range1_of (by walk_at "fd") (by omega)
  obtain ⟨s', hf, dr', left, told, x4, q1, q2, q3, q4, q5, q6, rfl⟩ := for_inv (g := gNm 4) (body := lb_law_shuffled_1) (fun k ss => ∃ (dr' left told : List D) (x4 : S), Ints dr' ∧ left.length + k = row.length ∧ told.length = k ∧ (∀ d ∈ told, d ∈ row) ∧ (∀ d ∈ left, d ∈ row) ∧ okSet (some x4) = true ∧
      ss = [.io dr', .val (.lst row), .own left, .own told, x4])
    (rngD 0 row.length) 0 [.io dr, .val (.lst row), .own row, .own [], .off] ⟨dr, row, [], .off, hd, rfl, rfl, fun _ h => (nomatch h), fun _ h => h, rfl, rfl⟩ (fun k d ss hd ⟨dr', left, told, x4, q1, q2, q3, q4, q5, q6, e⟩ => by
      obtain ⟨hk, rfl⟩ := rng0_at hd
      subst e
      rw [Nat.zero_add] at q2 q3 ⊢
      obtain ⟨dr2, d, j, r1, r2, r3, r4⟩ := shuf_turn (x1 := .val (.lst row)) (x4 := x4) (k := k) (told := told) q1 (show 0 < left.length by omega) (by omega) (by omega)
      refine ⟨_, _, ?_, r4, dr2, left.eraseIdx j, told ++ [d], .val (.int k), r1, ?_, ?_, ?_, ?_, rfl, rfl⟩
      · clear r1 r2 r3 r4 q1 q2 q3 q4 q5 hk hd hr hrg
        walk_at "fd"
      · rw [List.length_eraseIdx, if_pos r3]
        omega
      · rw [List.length_append, List.length_singleton, q3]
      · intro e he
        rcases List.mem_append.mp he with he | he
        · exact q4 e he
        · rw [List.mem_singleton.mp he]
          exact q5 d r2
      · exact fun e he => q5 e (List.mem_of_mem_eraseIdx he))
  refine ⟨told, dr', q1, q4, [.val (.lst row), .own left, .off, x4], ?_, by simp⟩
  have hcl : cLst cNil = fun ss : List S => some (([] : List D), ss) := by funext ss; rfl
  clear q1 q2 q3 q4 q5 q6 hd hr
  unfold F_law_shuffled b_law_shuffled
  simp only [List.map_cons, List.map_nil]
  walk_at "fd"
/-! gcd -/
theorem gcd_turn0 {o p s4 s5 d : D} {a : Nat} : lb_law_gcd_1 [.val o, .val p, .val (.int a), .val (.int 0), .val d, .val s5] = some (.bk [.val o, .val p, .val (.int a), .val (.int 0), .val d, .val s5]) := by
  unfold lb_law_gcd_1
  walk_at "fd"
theorem natmod (a b : Nat) : ((a : Int)).fmod (b : Int) = ((a % b : Nat) : Int) := by
  rw [Int.fmod_eq_emod_of_nonneg _ (by omega)]
  rfl
theorem gcd_loop {o p : D} : ∀ (ds : List D) (m : Nat) (a b : Nat) (s4 s5 : S), okSet (some s4) = true → okSet (some s5) = true → b ≤ a → a * b < 2 ^ m → m < ds.length →
    ∃ s4' s5', forF (gNm 4) lb_law_gcd_1 ds [.val o, .val p, .val (.int a), .val (.int b), s4, s5] = some (.nx [.val o, .val p, .val (.int (Nat.gcd a b : Nat)), .val (.int 0), s4', s5'])
  | [], m, a, b, s4, s5, _, _, _, _, h => nomatch h
  | d :: ds, m, a, b, s4, s5, h4, h5, hba, hab, hm => by
    have g1 : gNm 4 d [.val o, .val p, .val (.int a), .val (.int b), s4, s5] = some [.val o, .val p, .val (.int a), .val (.int b), .val d, s5] := by
      clear h5 hba hab hm
      walk_at "fd"
    unfold forF
    rw [g1, Option.bind_some]
    clear g1
    by_cases e : b = 0
    · subst e
      refine ⟨.val d, s5, ?_⟩
      have t1 : lb_law_gcd_1 [.val o, .val p, .val (.int a), .val (.int ((0 : Nat) : Int)), .val d, s5] = some (.bk [.val o, .val p, .val (.int a), .val (.int 0), .val d, s5]) := by
        have z : (((0 : Nat) : Int)) = 0 := rfl
        clear hba hab hm
        unfold lb_law_gcd_1
        walk_at "fd"
      rw [t1, Nat.gcd_zero_right]
      rfl
    · have hb : (b : Int) ≠ 0 := by omega
      have t1 : lb_law_gcd_1 [.val o, .val p, .val (.int a), .val (.int b), .val d, s5] = some (.nx [.val o, .val p, .val (.int b), .val (.int (a % b : Nat)), .val d, .val (.int (a % b : Nat))]) := by
        have z : decide ((b : Int) = 0) = false := decide_eq_false hb
        have z2 := gMod_int (i := (a : Int)) hb
        rw [natmod] at z2
        clear hba hab hm hb
        unfold lb_law_gcd_1
        walk_at "fd"
      have hr : a % b < b := Nat.mod_lt _ (by omega)
      have h2 : 2 * (a % b) ≤ a := by
        have q := Nat.div_add_mod a b
        have q2 : 1 ≤ a / b := (Nat.one_le_div_iff (by omega)).mpr hba
        have q3 : b * 1 ≤ b * (a / b) := Nat.mul_le_mul_left b q2
        omega
      have hm1 : 1 ≤ m := by
        rcases Nat.eq_zero_or_pos m with e0 | e0
        · subst e0
          have : 1 ≤ a * b := Nat.mul_pos (by omega) (by omega)
          omega
        · exact e0
      have hp : b * (a % b) < 2 ^ (m - 1) := by
        have q : 2 ^ m = 2 * 2 ^ (m - 1) := by
          rw [← Nat.pow_succ']
          congr 1
          omega
        have q2 : b * (2 * (a % b)) ≤ b * a := Nat.mul_le_mul_left b h2
        rw [Nat.mul_comm b a] at q2
        have q3 : b * (2 * (a % b)) = 2 * (b * (a % b)) := by rw [Nat.mul_left_comm]
        omega
      obtain ⟨s4', s5', e1⟩ := gcd_loop (o := o) (p := p) ds (m - 1) b (a % b) (.val d) (.val (.int (a % b : Nat))) rfl rfl (Nat.le_of_lt hr) hp (by rw [List.length_cons] at hm; omega)
      refine ⟨s4', s5', ?_⟩
      rw [t1, Option.bind_some]
      have e2 : Nat.gcd b (a % b) = Nat.gcd a b := by rw [Nat.gcd_comm, ← Nat.gcd_rec, Nat.gcd_comm]
      rw [e2] at e1
      exact e1
theorem abs_eq (i : Int) : (if i < 0 then -i else i) = ((i.natAbs : Nat) : Int) := by split <;> omega
theorem gcd_val {x y : Int} (hx : x.natAbs < 2 ^ 1000) (hy : y.natAbs < 2 ^ 1000) : Val F_law_gcd [.int x, .int y] (.int (Nat.gcd x.natAbs y.natAbs : Nat)) := by
  have hr : ∀ ss : List S, iRange1 (cC (.int 20000)) ss = some (rngD 0 20000, ss) := fun ss => range1_of (n := 20000) (by walk_at "fd"; rfl) (by decide)
  have a1 := abs_eq x
  have a2 := abs_eq y
  generalize x.natAbs = a at *
  generalize y.natAbs = b at *
  -- the first turn may only change the places
  have key : ∃ s4' s5', forF (gNm 4) lb_law_gcd_1 (rngD 0 20000) [.val (.int x), .val (.int y), .val (.int a), .val (.int b), .off, .off] = some (.nx [.val (.int x), .val (.int y), .val (.int (Nat.gcd a b : Nat)), .val (.int 0), s4', s5']) := by
    by_cases hba : b ≤ a
    · refine gcd_loop (rngD 0 20000) 2000 a b .off .off rfl rfl hba ?_ (by rw [rngD_length]; decide)
      rw [show 2000 = 1000 + 1000 from rfl, Nat.pow_add]
      exact Nat.mul_lt_mul'' hx hy
    · have hb : (b : Int) ≠ 0 := by omega
      have t1 : lb_law_gcd_1 [.val (.int x), .val (.int y), .val (.int a), .val (.int b), .val (.int 0), .off] = some (.nx [.val (.int x), .val (.int y), .val (.int b), .val (.int a), .val (.int 0), .val (.int a)]) := by
        have z : decide ((b : Int) = 0) = false := decide_eq_false hb
        have z2 := gMod_int (i := (a : Int)) hb
        rw [natmod, Nat.mod_eq_of_lt (by omega)] at z2
        clear hba hb hx hy a1 a2 hr
        unfold lb_law_gcd_1
        walk_at "fd"
      obtain ⟨s4', s5', e1⟩ := gcd_loop (o := .int x) (p := .int y) (rngD 1 19999) 2000 b a (.val (.int 0)) (.val (.int a)) rfl rfl (by omega) (by
        rw [show 2000 = 1000 + 1000 from rfl, Nat.pow_add]
        exact Nat.mul_lt_mul'' hy hx) (by rw [rngD_length]; decide)
      refine ⟨s4', s5', ?_⟩
      have er : rngD 0 20000 = .int 0 :: rngD 1 19999 := by
        rw [show (20000 : Nat) = 19999 + 1 from rfl, rngD]
        rfl
      rw [er]
      unfold forF
      have g1 : gNm 4 (.int 0) [.val (.int x), .val (.int y), .val (.int a), .val (.int b), .off, .off] = some [.val (.int x), .val (.int y), .val (.int a), .val (.int b), .val (.int 0), .off] := rfl
      rw [g1, Option.bind_some, t1, Option.bind_some, Nat.gcd_comm]
      exact e1
  obtain ⟨s4', s5', e⟩ := key
  refine ⟨[.val (.int x), .val (.int y), .val (.int (Nat.gcd a b : Nat)), .val (.int 0), s4', s5'], ?_, by simp⟩
  clear hx hy
  unfold F_law_gcd b_law_gcd
  simp only [List.map_cons, List.map_nil]
  walk_at "fd"
/-! fractions -/
def sg (n d : Int) : Int := if d < 0 then -((Nat.gcd n.natAbs d.natAbs : Nat) : Int) else ((Nat.gcd n.natAbs d.natAbs : Nat) : Int)
def fr (n d : Int) : D := .tup [.int (n.fdiv (sg n d)), .int (d.fdiv (sg n d))]
theorem gcd_pos {n d : Int} (h : d ≠ 0) : 0 < Nat.gcd n.natAbs d.natAbs := Nat.gcd_pos_of_pos_right _ (by omega)
theorem gcd_small {n d : Int} (h : d ≠ 0) (hd : d.natAbs < 2 ^ 1000) : Nat.gcd n.natAbs d.natAbs < 2 ^ 1000 := Nat.lt_of_le_of_lt (Nat.gcd_le_right _ (by omega)) hd
theorem two_le : 2 ≤ sizeLine := by rw [PySem.sizeLine_eq]; decide
theorem frac_go {n d g c a b : Int} (hg : ∀ s, callT F_law_gcd [.v (.int n), .v (.int d)] s = some (.int g, s)) (f1 : gFdiv (.int n) (.int c) = some (.int a)) (f2 : gFdiv (.int d) (.int c) = some (.int b)) (h1 : 0 < g) (hc : c = if d < 0 then -g else g) : Val F_law_frac [.int n, .int d] (.tup [.int a, .int b]) := by
  have s2 : ([D.int a, .int b].length ≤ sizeLine) = True := eq_true two_le
  have m1 : (if g > 1 then g else 1) = g := by split <;> omega
  refine ⟨[.val (.int n), .val (.int d), .val (.int c)], ?_, by simp⟩
  by_cases e : d < 0
  · have t1 : decide (d < 0) = true := decide_eq_true e
    have g1 : (0 : Int) - g = c := by rw [hc, if_pos e]; omega
    clear h1 e hc
    unfold F_law_frac b_law_frac
    simp only [List.map_cons, List.map_nil]
    walk_at "fd"
  · have t1 : decide (d < 0) = false := decide_eq_false e
    rw [if_neg e] at hc
    subst hc
    clear h1 e
    unfold F_law_frac b_law_frac
    simp only [List.map_cons, List.map_nil]
    walk_at "fd"
theorem sg_ok {n d : Int} (h : d ≠ 0) (hd : d.natAbs < 2 ^ 1000) : dOk (sg n d) = true := by
  have p := gcd_pos (n := n) h
  have q := gcd_small (n := n) h hd
  refine dOk_of (b := 1000) ?_ ?_ (by decide) (by decide)
  · unfold sg
    split <;> omega
  · unfold sg
    split
    · rw [Int.natAbs_neg]
      exact q
    · exact q
theorem frac_val {n d : Int} (h : d ≠ 0) (hn : n.natAbs < 2 ^ 1000) (hd : d.natAbs < 2 ^ 1000) : Val F_law_frac [.int n, .int d] (fr n d) :=
  frac_go (gcd_val hn hd).t (gFdiv_int (sg_ok h hd)) (gFdiv_int (sg_ok h hd)) (by have := gcd_pos (n := n) h; omega) rfl
theorem neg_fd (x g : Int) : (-x).fdiv g = x.fdiv (-g) := by
  have := Int.neg_fdiv_neg x (-g)
  rwa [Int.neg_neg] at this
theorem fraction_val {n d : Int} (h : d ≠ 0) (hd : d.natAbs < 2 ^ 1000) : Val F_fraction [.int n, .int d] (fr n d) := by
  have hk := sg_ok (n := n) h hd
  unfold fr
  by_cases e : d < 0
  · have t1 : decide (d < 0) = true := decide_eq_true e
    have gd : gcGcd [.int (-n), .int (-d)] = some (.int (Nat.gcd n.natAbs d.natAbs : Nat)) := by rw [gcGcd_int, Int.natAbs_neg, Int.natAbs_neg]
    have es : sg n d = -((Nat.gcd n.natAbs d.natAbs : Nat) : Int) := by unfold sg; rw [if_pos e]
    rw [es] at hk ⊢
    generalize ((Nat.gcd n.natAbs d.natAbs : Nat) : Int) = g at *
    have hk2 : dOk g = true := by
      unfold dOk at hk ⊢
      rw [Int.natAbs_neg] at hk
      rw [Bool.and_eq_true] at hk ⊢
      exact ⟨decide_eq_true (by have := of_decide_eq_true hk.1; omega), hk.2⟩
    have f1 := gFdiv_int (i := -n) hk2
    have f2 := gFdiv_int (i := -d) hk2
    rw [neg_fd] at f1 f2
    generalize n.fdiv (-g) = a at *
    generalize d.fdiv (-g) = b at *
    have s2 : ([D.int a, .int b].length ≤ sizeLine) = True := eq_true two_le
    refine ⟨[.val (.int (-n)), .val (.int (-d)), .val (.int g)], ?_, by simp⟩
    clear h hd e es hk hk2
    unfold F_fraction b_fraction
    simp only [List.map_cons, List.map_nil]
    walk_at "fd"
  · have t1 : decide (d < 0) = false := decide_eq_false e
    have gd : gcGcd [.int n, .int d] = some (.int (Nat.gcd n.natAbs d.natAbs : Nat)) := gcGcd_int
    have es : sg n d = ((Nat.gcd n.natAbs d.natAbs : Nat) : Int) := by unfold sg; rw [if_neg e]
    rw [es] at hk ⊢
    generalize ((Nat.gcd n.natAbs d.natAbs : Nat) : Int) = g at *
    have f1 := gFdiv_int (i := n) hk
    have f2 := gFdiv_int (i := d) hk
    generalize n.fdiv g = a at *
    generalize d.fdiv g = b at *
    have s2 : ([D.int a, .int b].length ≤ sizeLine) = True := eq_true two_le
    refine ⟨[.val (.int n), .val (.int d), .val (.int g)], ?_, by simp⟩
    clear h hd e es hk
    unfold F_fraction b_fraction
    simp only [List.map_cons, List.map_nil]
    walk_at "fd"
/-- a fraction that is whole -/
theorem fr_whole {a d : Int} (hd : 0 < d) : fr (a * d) d = .tup [.int a, .int 1] := by
  have hs : sg (a * d) d = d := by
    unfold sg
    rw [if_neg (by omega), Int.natAbs_mul, Nat.gcd_mul_left_left]
    omega
  unfold fr
  rw [hs, Int.mul_fdiv_cancel _ (by omega), Int.fdiv_self (by omega)]
/-- its parts -/
theorem fr_parts {n d : Int} (h : d ≠ 0) : ∃ a b c : Int, fr n d = .tup [.int a, .int b] ∧ c ≠ 0 ∧ n = c * a ∧ d = c * b ∧ 0 < b := by
  have p := gcd_pos (n := n) h
  have h1 : sg n d ∣ n := by
    unfold sg
    split
    · exact Int.neg_dvd.mpr (Int.ofNat_dvd_left.mpr (Nat.gcd_dvd_left _ _))
    · exact Int.ofNat_dvd_left.mpr (Nat.gcd_dvd_left _ _)
  have h2 : sg n d ∣ d := by
    unfold sg
    split
    · exact Int.neg_dvd.mpr (Int.ofNat_dvd_left.mpr (Nat.gcd_dvd_right _ _))
    · exact Int.ofNat_dvd_left.mpr (Nat.gcd_dvd_right _ _)
  have h3 : sg n d ≠ 0 := by unfold sg; split <;> omega
  refine ⟨n.fdiv (sg n d), d.fdiv (sg n d), sg n d, rfl, h3, ?_, ?_, ?_⟩
  · exact (Int.mul_fdiv_cancel' h1).symm
  · exact (Int.mul_fdiv_cancel' h2).symm
  · have e := Int.mul_fdiv_cancel' h2
    generalize d.fdiv (sg n d) = b at e
    by_cases e0 : d < 0
    · have : sg n d < 0 := by unfold sg; rw [if_pos e0]; omega
      rw [← e] at e0
      rcases Int.lt_trichotomy b 0 with q | q | q
      · have := Int.mul_pos_of_neg_of_neg this q
        omega
      · subst q
        omega
      · exact q
    · have : 0 < sg n d := by unfold sg; rw [if_neg e0]; omega
      rcases Int.lt_trichotomy b 0 with q | q | q
      · have := Int.mul_neg_of_pos_of_neg this q
        omega
      · subst q
        omega
      · exact q
/-- S times the parts of a / S is the whole a -/
theorem fr_back {a S n d : Int} (hS : S ≠ 0) (e : fr a S = .tup [.int n, .int d]) : 0 < d ∧ fr (S * n) d = .tup [.int a, .int 1] := by
  obtain ⟨n', d', c, h1, h2, h3, h4, h5⟩ := fr_parts (n := a) hS
  rw [h1] at e
  injection e with e
  injection e with e1 e2
  injection e2 with e2 _
  injection e1 with e1
  injection e2 with e2
  subst e1 e2
  refine ⟨h5, ?_⟩
  have : S * n' = a * d' := by rw [h3, h4, Int.mul_assoc, Int.mul_assoc, Int.mul_comm d' n']
  rw [this]
  exact fr_whole h5
theorem gIx_t0 {x : D} {l : List D} : gIx (.tup (x :: l)) (.int 0) = some x := gIx_tup (k := 0) rfl
theorem gIx_t1 {x y : D} {l : List D} : gIx (.tup (x :: y :: l)) (.int 1) = some y := gIx_tup (k := 1) rfl
theorem gIx_l0 {x : D} {l : List D} : gIx (.lst (x :: l)) (.int 0) = some x := gIx_lst (k := 0) rfl
theorem gIx_l1 {x y : D} {l : List D} : gIx (.lst (x :: y :: l)) (.int 1) = some y := gIx_lst (k := 1) rfl
/-- the sum of two whole fractions -/
theorem plus_val {a b : Int} (ha : a.natAbs < 2 ^ 200) (hb : b.natAbs < 2 ^ 200) : Val F_law_plus [.tup [.int a, .int 1], .tup [.int b, .int 1]] (.tup [.int (a + b), .int 1]) := by
  have f : Val F_law_frac [.int (a * 1 + b * 1), .int (1 * 1)] (fr ((a + b) * 1) 1) := by
    rw [Int.mul_one, Int.mul_one, Int.mul_one, Int.mul_one]
    refine frac_val (by decide) ?_ (by decide +kernel)
    refine Nat.lt_of_lt_of_le (?_ : _ < 2 ^ 201) (Nat.pow_le_pow_right (by decide) (by decide))
    rw [show 2 ^ 201 = 2 ^ 200 + 2 ^ 200 by decide +kernel]
    exact Nat.lt_of_le_of_lt (Int.natAbs_add_le _ _) (Nat.add_lt_add ha hb)
  rw [fr_whole (by decide)] at f
  have t := f.t
  simp only [List.map_cons, List.map_nil] at t
  have i1 := @gIx_t0 (.int a) [.int 1]
  have i2 := @gIx_t1 (.int a) (.int 1) []
  have i3 := @gIx_t0 (.int b) [.int 1]
  have i4 := @gIx_t1 (.int b) (.int 1) []
  have o : ∀ {x : Int}, x.natAbs < 2 ^ 200 → iOk x 1 = true := fun h => iOk_of_bounds (a := 200) (b := 200) h (by decide +kernel) (by decide) (by decide) (by decide)
  have m1 : gMulX (.int a) (.int 1) = some (.int (a * 1)) := gMulX_int (o ha)
  have m2 : gMulX (.int b) (.int 1) = some (.int (b * 1)) := gMulX_int (o hb)
  have m3 : gMulX (.int 1) (.int 1) = some (.int (1 * 1)) := gMulX_int (o (by decide +kernel))
  refine ⟨[.val (.tup [.int a, .int 1]), .val (.tup [.int b, .int 1])], ?_, by simp⟩
  clear f ha hb o
  unfold F_law_plus b_law_plus
  simp only [List.map_cons, List.map_nil]
  walk_at "fd"
/-! products of polynomials -/
theorem times_turn {n j k : Nat} {one : List D} {c x y : Int} {s4 : S} (t : Nat → Int) (hj : j < n) (hk : k < 2) (hx : one[j]? = some (.int x)) (hy : [D.int 1, .int c][k]? = some (.int y)) (hm : iOk x y = true) (hn : n < 1000) :
    lb_law_times_1 [.val (.tup one), .val (.tup [.int 1, .int c]), .own (mp (n + 1) fun i => .int (t i)), .val (.int j), .val (.int k)] =
      some (.nx [.val (.tup one), .val (.tup [.int 1, .int c]), .own (mp (n + 1) fun i => .int (if i = j + k then t i + x * y else t i)), .val (.int j), .val (.int k)]) := by
  have e1 : (j : Int) + k = ((j + k : Nat) : Int) := by omega
  have a1 : atI (mp (n + 1) fun i => D.int (t i)) ((j : Int) + k) = some (.int (t (j + k))) := by
    rw [e1]
    exact atI_nat (mp_get (by omega))
  have i1 := gIx_tup hx
  have i2 := gIx_tup hy
  have m1 := gMulX_int hm
  have x1 : ixN (n + 1) ((j : Int) + k) = some (j + k) := by
    rw [e1]
    exact ixN_nat (by omega)
  have e2 : (mp (n + 1) fun i => D.int (t i)).set (j + k) (.int (t (j + k) + x * y)) = mp (n + 1) fun i => .int (if i = j + k then t i + x * y else t i) := by
    rw [mp_set]
    refine mp_congr fun i hi => ?_
    split
    · rename_i e
      subst e
      rfl
    · rfl
  clear hj hk hx hy hm hn e1
  unfold lb_law_times_1
  walk_at "fd"
/-- what is there after j turns -/
def tmA (l : List Int) (c : Int) (j k : Nat) : Int := (if k < j then l.getD k 0 * 1 else 0) + (if 1 ≤ k ∧ k - 1 < j then l.getD (k - 1) 0 * c else 0)
def tm (l : List Int) (c : Int) : List Int := mp (l.length + 1) (tmA l c l.length)
theorem times_val {l : List Int} {c : Int} (hl : ∀ x ∈ l, x.natAbs < 2 ^ 100) (hc : c.natAbs < 2 ^ 100) (hn : l.length < 900) : Val F_law_times [.tup (l.map D.int), .tup [.int 1, .int c]] (.tup ((tm l c).map D.int)) := by
  have r0 : rngD 0 2 = [.int 0, .int 1] := rfl
  have hr1 : ∀ {t : List D} {x y : S}, iRange1 (cV1 gvLen (cAny 1)) [.val (.tup (l.map D.int)), .val (.tup [.int 1, .int c]), .own t, x, y] = some (rngD 0 2, [.val (.tup (l.map D.int)), .val (.tup [.int 1, .int c]), .own t, x, y]) := fun {t x y} => range1_of (n := 2) (by walk_at "fd"; rfl) (by decide)
  have hr2 : ∀ {t : List D} {x y : S}, iRange1 (cV1 gvLen (cAny 0)) [.val (.tup (l.map D.int)), .val (.tup [.int 1, .int c]), .own t, x, y] = some (rngD 0 l.length, [.val (.tup (l.map D.int)), .val (.tup [.int 1, .int c]), .own t, x, y]) := fun {t x y} => range1_of (n := l.length) (by walk_at "fd"; rw [List.length_map]) (by omega)
  obtain ⟨s', e, y3, y4, h3, h4, rfl⟩ := for_inv (g := gNm 3) (body := lb_law_times_2) (fun j ss => ∃ x3 x4, okSet (some x3) = true ∧ okSet (some x4) = true ∧ ss = [.val (.tup (l.map D.int)), .val (.tup [.int 1, .int c]), .own (mp (l.length + 1) fun k => .int (tmA l c j k)), x3, x4])
    (rngD 0 l.length) 0 [.val (.tup (l.map D.int)), .val (.tup [.int 1, .int c]), .own (mp (l.length + 1) fun k => .int (tmA l c 0 k)), .off, .off] ⟨.off, .off, rfl, rfl, rfl⟩ (fun j d ss hd ⟨x3, x4, h3, h4, es⟩ => by
      obtain ⟨hj, rfl⟩ := rng0_at hd
      subst es
      rw [Nat.zero_add]
      have hx : (l.map D.int)[j]? = some (.int (l.getD j 0)) := by
        rw [List.getElem?_map, List.getElem?_eq_getElem hj]
        rw [List.getD_eq_getElem?_getD, List.getElem?_eq_getElem hj]
        rfl
      have hxb : (l.getD j 0).natAbs < 2 ^ 100 := by
        rw [List.getD_eq_getElem?_getD, List.getElem?_eq_getElem hj]
        exact hl _ (List.getElem_mem hj)
      have q1 := times_turn (n := l.length) (k := 0) (c := c) (s4 := x4) (fun k => tmA l c j k) hj (by decide) hx rfl (iOk_of_bounds (a := 100) (b := 100) hxb (by decide +kernel) (by decide) (by decide) (by decide)) (by omega)
      have q2 := times_turn (n := l.length) (k := 1) (c := c) (s4 := x4) (fun i => if i = j + 0 then tmA l c j i + l.getD j 0 * 1 else tmA l c j i) hj (by decide) hx rfl (iOk_of_bounds (a := 100) (b := 100) hxb hc (by decide) (by decide) (by decide)) (by omega)
      have ee : (mp (l.length + 1) fun i => D.int (if i = j + 1 then (if i = j + 0 then tmA l c j i + l.getD j 0 * 1 else tmA l c j i) + l.getD j 0 * c else if i = j + 0 then tmA l c j i + l.getD j 0 * 1 else tmA l c j i)) = mp (l.length + 1) fun k => .int (tmA l c (j + 1) k) := by
        refine mp_congr fun i hi => congrArg D.int ?_
        unfold tmA
        by_cases e1 : i = j + 1
        · subst e1
          have e : j + 1 - 1 = j := by omega
          rw [e]
          repeat' split
          all_goals omega
        · by_cases e0 : i = j
          · subst e0
            repeat' split
            all_goals omega
          · repeat' split
            all_goals omega
      rw [ee] at q2
      refine ⟨[.val (.tup (l.map D.int)), .val (.tup [.int 1, .int c]), .own (mp (l.length + 1) fun k => .int (tmA l c j k)), .val (.int j), x4], _, ?_, ?_, .val (.int j), .val (.int 1), rfl, rfl, rfl⟩
      · clear hx hxb q1 q2 ee hd hj hl hc hn hr1 hr2
        walk_at "fd"
      · clear ee hx hxb hd hj hl hc hn hr2
        unfold lb_law_times_2
        have g0 : gNm 4 (.int 0) [.val (.tup (l.map D.int)), .val (.tup [.int 1, .int c]), .own (mp (l.length + 1) fun k => .int (tmA l c j k)), .val (.int j), x4] = some [.val (.tup (l.map D.int)), .val (.tup [.int 1, .int c]), .own (mp (l.length + 1) fun k => .int (tmA l c j k)), .val (.int j), .val (.int 0)] := by
          clear q1 q2 hr1
          walk_at "fd"
        have f0 : forF (gNm 4) lb_law_times_1 [.int 0, .int 1] [.val (.tup (l.map D.int)), .val (.tup [.int 1, .int c]), .own (mp (l.length + 1) fun k => .int (tmA l c j k)), .val (.int j), x4] = some (.nx [.val (.tup (l.map D.int)), .val (.tup [.int 1, .int c]), .own (mp (l.length + 1) fun k => .int (tmA l c (j + 1) k)), .val (.int j), .val (.int 1)]) := by
          have z0 : (((0 : Nat) : Int)) = 0 := rfl
          have z1 : (((1 : Nat) : Int)) = 1 := rfl
          rw [z0] at q1
          rw [z1] at q2
          clear hr1 h3 h4
          unfold forF
          have g1 : gNm 4 (.int 0) [.val (.tup (l.map D.int)), .val (.tup [.int 1, .int c]), .own (mp (l.length + 1) fun k => .int (tmA l c j k)), .val (.int j), x4] = some [.val (.tup (l.map D.int)), .val (.tup [.int 1, .int c]), .own (mp (l.length + 1) fun k => .int (tmA l c j k)), .val (.int j), .val (.int 0)] := g0
          rw [g1, Option.bind_some, q1, Option.bind_some]
          dsimp only
          unfold forF
          have g2 : ∀ t : List D, gNm 4 (.int 1) [.val (.tup (l.map D.int)), .val (.tup [.int 1, .int c]), .own t, .val (.int j), .val (.int 0)] = some [.val (.tup (l.map D.int)), .val (.tup [.int 1, .int c]), .own t, .val (.int j), .val (.int 1)] := fun t => rfl
          rw [g2, Option.bind_some, q2, Option.bind_some]
          dsimp only
          unfold forF
          rfl
        walk_at "fd")
  refine ⟨[.val (.tup (l.map D.int)), .val (.tup [.int 1, .int c]), .own (mp (l.length + 1) fun k => .int (tmA l c l.length k)), y3, y4], ?_, by simp⟩
  have e0 : (mp (l.length + 1) fun k => D.int (tmA l c 0 k)) = mp (l.length + 1) fun _ => D.int 0 := mp_congr fun k _ => by
    unfold tmA
    rw [if_neg (by omega), if_neg (by omega)]
    rfl
  rw [e0, rngD_length, Nat.zero_add] at e
  have g1 : gRep (.lst [.int 0]) (.int (((l.map D.int).length : Int) + (([D.int 1, .int c].length : Nat) : Int) - 1)) = some (mp (l.length + 1) fun _ => .int 0) := by
    have : (((l.map D.int).length : Int) + (([D.int 1, .int c].length : Nat) : Int) - 1) = ((l.length + 1 : Nat) : Int) := by
      rw [List.length_map]
      simp only [List.length_cons, List.length_nil]
      omega
    rw [this]
    exact gRep_one (by omega)
  have s1 : ([D.int 0].length ≤ sizeLine) = True := eq_true (by rw [PySem.sizeLine_eq]; decide)
  have e9 : (tm l c).map D.int = mp (l.length + 1) fun k => .int (tmA l c l.length k) := mp_map
  rw [e9]
  clear e0 e9 hl hc hn h3 h4
  unfold F_law_times b_law_times
  simp only [List.map_cons, List.map_nil]
  walk_at "fd"
/-! finite checks -/
def tmF (c : Int) : Int → List Int → List Int
  | p, [] => [p * c]
  | p, x :: l => (x + p * c) :: tmF c x l
def pF (q i : Nat) : Nat → List Int
  | 0 => [1]
  | k + 1 => tmF (if k < i then -1 else (q : Int) - 1) 0 (pF q i k)
def krOk (q n i : Nat) : Bool := pF q i n == (List.range (n + 1)).map fun j => kraw q n j i
def addS (c : Int) : List Int → List Int → List Int
  | x :: l, y :: m => (x * c + y) :: addS c l m
  | _, _ => []
def lin (z : List Int) : List (List Int) → List Int → List Int
  | r :: rs, c :: cs => addS c r (lin z rs cs)
  | _, _ => z
def orOk (q n l : Nat) : Bool := lin ((List.range (n + 1)).map fun _ => 0) ((List.range (n + 1)).map fun i => pF q i n) (pF q l n) == (List.range (n + 1)).map fun j => if j = l then (q : Int) ^ n else 0
def syOk (q n l : Nat) : Bool := ((List.range (n + 1)).map fun j => comb n l * ((q - 1 : Nat) : Int) ^ l * (pF q l n).getD j 0) == (List.range (n + 1)).map fun j => comb n j * ((q - 1 : Nat) : Int) ^ j * (pF q j n).getD l 0
set_option maxHeartbeats 0 in
theorem kr_all : ∀ q : Fin 10, ∀ n : Fin 13, ∀ i : Fin 13, 2 ≤ q.val → i.val ≤ n.val → krOk q.val n.val i.val = true := by decide +kernel
set_option maxHeartbeats 0 in
theorem or_all : ∀ q : Fin 10, ∀ n : Fin 13, ∀ i : Fin 13, 2 ≤ q.val → i.val ≤ n.val → orOk q.val n.val i.val = true := by decide +kernel
set_option maxHeartbeats 0 in
theorem sy_all : ∀ q : Fin 10, ∀ n : Fin 13, ∀ i : Fin 13, 2 ≤ q.val → i.val ≤ n.val → syOk q.val n.val i.val = true := by decide +kernel
/-! polynomials -/
theorem tmF_get {c : Int} : ∀ (l : List Int) (p : Int) (k : Nat), k ≤ l.length → (tmF c p l)[k]? = some ((if k < l.length then l.getD k 0 else 0) + (if k = 0 then p else l.getD (k - 1) 0) * c)
  | [], p, 0, _ => by simp [tmF]
  | x :: l, p, 0, _ => by simp [tmF]
  | x :: l, p, 1, h => by
    unfold tmF
    rw [List.getElem?_cons_succ, tmF_get l x 0 (by omega)]
    simp
  | x :: l, p, k + 2, h => by
    unfold tmF
    rw [List.length_cons] at h
    rw [List.getElem?_cons_succ, tmF_get l x (k + 1) (by omega)]
    have e : (k + 1 < l.length) ↔ (k + 2 < l.length + 1) := by omega
    simp [e]
theorem tmF_length {c : Int} : ∀ (l : List Int) (p : Int), (tmF c p l).length = l.length + 1
  | [], p => rfl
  | x :: l, p => by
    unfold tmF
    rw [List.length_cons, tmF_length l x, List.length_cons]
theorem tm_eq (l : List Int) (c : Int) : tm l c = tmF c 0 l := by
  symm
  refine mp_ext (tmF_length l 0) fun k hk => ?_
  rw [tmF_get l 0 k (by omega)]
  congr 1
  unfold tmA
  by_cases e : k = 0
  · subst e
    rw [if_pos rfl, if_neg (show ¬(1 ≤ 0 ∧ 0 - 1 < l.length) by omega)]
    split <;> omega
  · rw [if_neg e, if_pos (show 1 ≤ k ∧ k - 1 < l.length by omega)]
    split <;> omega
theorem tmF_bound {c : Int} {B : Nat} (hc : c.natAbs ≤ 9) : ∀ (l : List Int) (p : Int), p.natAbs ≤ B → (∀ x ∈ l, x.natAbs ≤ B) → ∀ y ∈ tmF c p l, y.natAbs ≤ 10 * B
  | [], p, hp, _, y, hy => by
    have e : y = p * c := List.mem_singleton.mp hy
    rw [e, Int.natAbs_mul]
    have := Nat.mul_le_mul hp hc
    omega
  | x :: l, p, hp, h, y, hy => by
    unfold tmF at hy
    rcases List.mem_cons.mp hy with e | hy
    · have h1 := h x List.mem_cons_self
      have h2 : (p * c).natAbs ≤ B * 9 := by rw [Int.natAbs_mul]; exact Nat.mul_le_mul hp hc
      rw [e]
      have := Int.natAbs_add_le x (p * c)
      omega
    · exact tmF_bound hc l x (h x List.mem_cons_self) (fun z hz => h z (List.mem_cons_of_mem _ hz)) y hy
theorem pF_length (q i : Nat) : ∀ k, (pF q i k).length = k + 1
  | 0 => rfl
  | k + 1 => by
    unfold pF
    rw [tmF_length, pF_length q i k]
theorem pF_bound {q i : Nat} (hq : q < 10) : ∀ k, ∀ x ∈ pF q i k, x.natAbs ≤ 10 ^ k
  | 0, x, hx => by
    rw [List.mem_singleton.mp hx]
    decide
  | k + 1, x, hx => by
    unfold pF at hx
    have := tmF_bound (B := 10 ^ k) (c := if k < i then -1 else (q : Int) - 1) (by split <;> omega) (pF q i k) 0 (by simp) (pF_bound hq k) x hx
    rw [Nat.pow_succ]
    omega
theorem pF_small {q i k : Nat} (hq : q < 10) (hk : k < 13) : ∀ x ∈ pF q i k, x.natAbs < 2 ^ 100 := fun x hx => by
  have h1 := pF_bound hq k x hx
  have h2 : 10 ^ k ≤ 10 ^ 12 := Nat.pow_le_pow_right (by decide) (by omega)
  exact Nat.lt_of_le_of_lt (Nat.le_trans h1 h2) (by decide +kernel)
theorem poly_val {q n i : Nat} (hq : 1 ≤ q ∧ q < 10) (hn : n < 13) : Val F_law_polynomial [.int q, .int n, .int i] (.tup ((pF q i n).map D.int)) := by
  have hr : ∀ {ss : List S}, ss[1]? = some (.val (.int n)) → iRange1 (cVar 1) ss = some (rngD 0 n, ss) := fun {ss} h => range1_of (n := n) (by walk_at "fd") (by omega)
  obtain ⟨s', e, y4, h4, rfl⟩ := for_inv (g := gNm 4) (body := lb_law_polynomial_1) (fun k ss => ∃ x4, okSet (some x4) = true ∧ ss = [.val (.int q), .val (.int n), .val (.int i), .val (.tup ((pF q i k).map D.int)), x4])
    (rngD 0 n) 0 [.val (.int q), .val (.int n), .val (.int i), .val (.tup ((pF q i 0).map D.int)), .off] ⟨.off, rfl, rfl⟩ (fun k d ss hd ⟨x4, h4, es⟩ => by
      obtain ⟨hk, rfl⟩ := rng0_at hd
      subst es
      rw [Nat.zero_add]
      refine ⟨[.val (.int q), .val (.int n), .val (.int i), .val (.tup ((pF q i k).map D.int)), .val (.int k)], [.val (.int q), .val (.int n), .val (.int i), .val (.tup ((pF q i (k + 1)).map D.int)), .val (.int k)], ?_, ?_, _, okSet_val, rfl⟩
      · clear hr hq hn hk hd
        walk_at "fd"
      · have s2 : ∀ c : Int, ([D.int 1, .int c].length ≤ sizeLine) = True := fun c => eq_true two_le
        have st : ∀ c : Int, c.natAbs ≤ 9 → ∀ s, callT F_law_times [.v (.tup ((pF q i k).map D.int)), .v (.tup [.int 1, .int c])] s = some (.tup ((tmF c 0 (pF q i k)).map D.int), s) := fun c hc => by
          have := (times_val (c := c) (pF_small (i := i) hq.2 (show k < 13 by omega)) (Nat.lt_of_le_of_lt hc (by decide +kernel)) (by rw [pF_length]; omega)).t
          rw [tm_eq] at this
          exact this
        by_cases e : k < i
        · have t1 : decide ((k : Int) < i) = true := decide_eq_true (by omega)
          have c1 := st (-1) (by decide)
          have z : pF q i (k + 1) = tmF (-1) 0 (pF q i k) := by rw [pF, if_pos e]
          rw [z]
          generalize tmF (-1) 0 (pF q i k) = L at *
          clear st e hr hq hn hk hd h4
          unfold lb_law_polynomial_1
          walk_at "fd"
        · have t1 : decide ((k : Int) < i) = false := decide_eq_false (by omega)
          have c1 := st ((q : Int) - 1) (by omega)
          have z : pF q i (k + 1) = tmF ((q : Int) - 1) 0 (pF q i k) := by rw [pF, if_neg e]
          rw [z]
          generalize tmF ((q : Int) - 1) 0 (pF q i k) = L at *
          clear st e hr hq hn hk hd h4
          unfold lb_law_polynomial_1
          walk_at "fd")
  rw [rngD_length, Nat.zero_add] at e
  refine ⟨[.val (.int q), .val (.int n), .val (.int i), .val (.tup ((pF q i n).map D.int)), y4], ?_, by simp⟩
  have s1 : ([D.int 1].length ≤ sizeLine) = True := eq_true (by rw [PySem.sizeLine_eq]; decide)
  have z0 : (.tup ((pF q i 0).map D.int)) = D.tup [.int 1] := rfl
  rw [z0] at e
  clear hq hn h4
  unfold F_law_polynomial b_law_polynomial
  simp only [List.map_cons, List.map_nil]
  walk_at "fd"
theorem pF_kraw {q n i : Nat} (hq : 2 ≤ q ∧ q < 10) (hn : n < 13) (hi : i ≤ n) : pF q i n = mp (n + 1) fun j => kraw q n j i := eq_of_beq (kr_all ⟨q, hq.2⟩ ⟨n, hn⟩ ⟨i, by omega⟩ hq.1 hi)
theorem kraw_small {q n i j : Nat} (hq : 2 ≤ q ∧ q < 10) (hn : n < 13) (hi : i ≤ n) (hj : j ≤ n) : (kraw q n j i).natAbs < 2 ^ 40 := by
  have h : kraw q n j i ∈ pF q i n := by
    rw [pF_kraw hq hn hi]
    exact List.mem_of_getElem? (mp_get (show j < n + 1 by omega))
  have h2 : 10 ^ n ≤ 10 ^ 12 := Nat.pow_le_pow_right (by decide) (by omega)
  exact Nat.lt_of_le_of_lt (Nat.le_trans (pF_bound hq.2 n _ h) h2) (by decide +kernel)
theorem poly_t {q n i : Nat} (hq : 2 ≤ q ∧ q < 10) (hn : n < 13) (hi : i ≤ n) (s : List S) : callT F_law_polynomial [.v (.int q), .v (.int n), .v (.int i)] s = some (.tup (mp (n + 1) fun j => .int (kraw q n j i)), s) := by
  have := (poly_val (i := i) ⟨by omega, hq.2⟩ hn).t s
  rw [pF_kraw hq hn hi, mp_map] at this
  exact this
/-! the table's own laws -/
theorem addS_get {c : Int} : ∀ (l m : List Int) (k : Nat) (x y : Int), l[k]? = some x → m[k]? = some y → (addS c l m)[k]? = some (x * c + y)
  | a :: l, b :: m, 0, x, y, h1, h2 => by
    cases h1
    cases h2
    rfl
  | a :: l, b :: m, k + 1, x, y, h1, h2 => by
    unfold addS
    rw [List.getElem?_cons_succ] at *
    exact addS_get l m k x y h1 h2
theorem addS_length {c : Int} : ∀ (l m : List Int), l.length = m.length → (addS c l m).length = l.length
  | [], [], _ => rfl
  | a :: l, b :: m, h => by
    unfold addS
    rw [List.length_cons, List.length_cons, addS_length l m (by simpa using h)]
theorem addS_mp {c : Int} {m : Nat} {f g : Nat → Int} : addS c (mp m f) (mp m g) = mp m fun j => f j * c + g j :=
  mp_ext (by rw [addS_length _ _ (by rw [mp_length, mp_length]), mp_length]) fun i hi => addS_get _ _ _ _ _ (mp_get hi) (mp_get hi)
theorem lin_mp {m : Nat} {r : Nat → Nat → Int} {c : Nat → Int} : ∀ is : List Nat, lin (mp m fun _ => 0) (is.map fun i => mp m (r i)) (is.map c) = mp m fun j => (is.map fun i => r i j * c i).sum
  | [] => rfl
  | i :: is => by
    rw [List.map_cons, List.map_cons, lin, lin_mp is, addS_mp]
    exact mp_congr fun j _ => by rw [List.map_cons, List.sum_cons]
theorem orth {q n l j : Nat} (hq : 2 ≤ q ∧ q < 10) (hn : n < 13) (hl : l ≤ n) (hj : j ≤ n) : psum (fun i => kraw q n j i * kraw q n i l) (n + 1) = if j = l then (q : Int) ^ n else 0 := by
  have h := eq_of_beq (or_all ⟨q, hq.2⟩ ⟨n, hn⟩ ⟨l, by omega⟩ hq.1 hl)
  dsimp only at h
  have e1 : ((List.range (n + 1)).map fun i => pF q i n) = (List.range (n + 1)).map fun i => mp (n + 1) fun j => kraw q n j i := List.map_congr_left fun i hi => pF_kraw hq hn (by have := List.mem_range.mp hi; omega)
  rw [e1, pF_kraw hq hn hl] at h
  have e2 := lin_mp (m := n + 1) (r := fun i j => kraw q n j i) (c := fun i => kraw q n i l) (List.range (n + 1))
  have h' := e2.symm.trans h
  have h1 : (mp (n + 1) fun j => ((List.range (n + 1)).map fun i => kraw q n j i * kraw q n i l).sum)[j]? = (mp (n + 1) fun j => if j = l then (q : Int) ^ n else 0)[j]? := congrArg (fun L => L[j]?) h'
  rw [mp_get (by omega), mp_get (by omega)] at h1
  rw [← mp_sum]
  exact Option.some.inj h1
theorem symK {q n l j : Nat} (hq : 2 ≤ q ∧ q < 10) (hn : n < 13) (hl : l ≤ n) (hj : j ≤ n) : comb n l * ((q - 1 : Nat) : Int) ^ l * kraw q n j l = comb n j * ((q - 1 : Nat) : Int) ^ j * kraw q n l j := by
  have h := eq_of_beq (sy_all ⟨q, hq.2⟩ ⟨n, hn⟩ ⟨l, by omega⟩ hq.1 hl)
  dsimp only at h
  have h1 : (mp (n + 1) fun j => comb n l * ((q - 1 : Nat) : Int) ^ l * (pF q l n).getD j 0)[j]? = (mp (n + 1) fun j => comb n j * ((q - 1 : Nat) : Int) ^ j * (pF q j n).getD l 0)[j]? := congrArg (fun L => L[j]?) h
  rw [mp_get (by omega), mp_get (by omega), pF_kraw hq hn hl, pF_kraw hq hn hj, List.getD_eq_getElem?_getD, List.getD_eq_getElem?_getD, mp_get (by omega), mp_get (by omega)] at h1
  exact Option.some.inj h1
/-! spreads -/
def atS : Nat → S
  | 0 => .off
  | k + 1 => .val (.int k)
theorem atS_ok : ∀ k, okSet (some (atS k)) = true
  | 0 => rfl
  | _ + 1 => rfl
theorem atS_plain : ∀ k, plainS (some (atS k)) = true
  | 0 => rfl
  | _ + 1 => rfl
def rowsD (q n : Nat) : List D := mp (n + 1) fun i => .tup (mp (n + 1) fun j => .int (kraw q n j i))
def toldD (q n : Nat) : List D := mp (n + 1) fun i => .lst (mp (n + 1) fun j => .int (kraw q n j i))
def sz (q n i : Nat) : Int := comb n i * ((q - 1 : Nat) : Int) ^ i
def sizD (q n : Nat) : List D := mp (n + 1) fun i => .int (sz q n i)
theorem rng_n1 {n : Nat} (hn : n < 13) : ∀ ss : List S, ss[2]? = some (.val (.int n)) → iRange1 (cBin gAddX (cVar 2) (cC (.int 1))) ss = some (rngD 0 (n + 1), ss) := fun ss h => by
  refine range1_of (n := n + 1) ?_ (by omega)
  clear hn
  walk_at "fd"
  rfl
theorem sz_small {q n i : Nat} (hq : 2 ≤ q ∧ q < 10) (hn : n < 13) (hi : i ≤ n) : (sz q n i).natAbs < 2 ^ 50 := by
  have b := comb_b (a := n) (b := i) (by omega) (by omega)
  exact mul_lt2 (a := 10) (b := 40) (by omega) (pow_small ⟨q - 1, by omega⟩ ⟨i, by omega⟩)
section
variable {q n : Nat} (hq : 2 ≤ q ∧ q < 10) (hn : n < 13)
include hq hn
theorem sp_1 {dr : S} {b c d e f : S} : cLc (iRange1 (cBin gAddX (cVar 2) (cC (.int 1)))) (gNm 4) cYes le_law_spreads_told_1 [4] [dr, .val (.int q), .val (.int n), .off, .off, b, c, d, e, f] =
    some (rowsD q n, [dr, .val (.int q), .val (.int n), .off, .off, b, c, d, e, f]) :=
  lc_rng _ (rng_n1 hn _ rfl) rfl (fun i hi => by
    rw [Int.zero_add]
    refine ⟨[dr, .val (.int q), .val (.int n), .off, .val (.int i), b, c, d, e, f], [dr, .val (.int q), .val (.int n), .off, .val (.int i), b, c, d, e, f], rfl, ?_, rfl, rfl⟩
    have t := poly_t (q := q) (n := n) (i := i) hq hn (by omega)
    clear hq hn hi
    unfold le_law_spreads_told_1
    walk_at "fd") (by omega) rfl
theorem sp_2 {dr a d e f : S} {i : Nat} (hi : i ≤ n) : cLc (iRange1 (cBin gAddX (cVar 2) (cC (.int 1)))) (gNm 6) cYes le_law_spreads_told_2 [6] [dr, .val (.int q), .val (.int n), a, .val (.int i), .off, .off, d, e, f] =
    some (mp (n + 1) fun j => .int (kraw q n j i), [dr, .val (.int q), .val (.int n), a, .val (.int i), .off, .off, d, e, f]) :=
  lc_rng _ (rng_n1 hn _ rfl) rfl (fun j hj => by
    rw [Int.zero_add]
    refine ⟨[dr, .val (.int q), .val (.int n), a, .val (.int i), .off, .val (.int j), d, e, f], [dr, .val (.int q), .val (.int n), a, .val (.int i), .off, .val (.int j), d, e, f], rfl, ?_, rfl, rfl⟩
    have t := (kraw_val (q := q) (n := n) (j := j) (i := i) ⟨by omega, hq.2⟩ hn (by omega) hi).t
    simp only [List.map_cons, List.map_nil] at t
    clear hq hn hi hj
    unfold le_law_spreads_told_2
    walk_at "fd") (by omega) rfl
theorem sp_3 {dr a d e f : S} : cLc (iRange1 (cBin gAddX (cVar 2) (cC (.int 1)))) (gNm 4) cYes le_law_spreads_told_3 [4] [dr, .val (.int q), .val (.int n), a, .off, .off, .off, d, e, f] =
    some (toldD q n, [dr, .val (.int q), .val (.int n), a, .off, .off, .off, d, e, f]) :=
  lc_rng _ (rng_n1 hn _ rfl) rfl (fun i hi => by
    rw [Int.zero_add]
    refine ⟨[dr, .val (.int q), .val (.int n), a, .val (.int i), .off, .off, d, e, f], [dr, .val (.int q), .val (.int n), a, .val (.int i), .off, .off, d, e, f], rfl, ?_, rfl, rfl⟩
    have t := sp_2 hq hn (dr := dr) (a := a) (d := d) (e := e) (f := f) (i := i) (by omega)
    clear hq hn hi
    unfold le_law_spreads_told_3
    walk_at "fd") (by omega) rfl
theorem sp_4 {dr c d e f : S} : forF (gNm 4) lb_law_spreads_told_4 (rngD 0 (n + 1)) [dr, .val (.int q), .val (.int n), .val (.lst (rowsD q n)), .off, .val (.lst (toldD q n)), c, d, e, f] =
    some (.nx [dr, .val (.int q), .val (.int n), .val (.lst (rowsD q n)), .val (.int n), .val (.lst (toldD q n)), c, d, e, f]) :=
  for_rng (fun k => [dr, .val (.int q), .val (.int n), .val (.lst (rowsD q n)), atS k, .val (.lst (toldD q n)), c, d, e, f]) fun i hi => by
    rw [Int.zero_add]
    have ok := atS_ok i
    refine ⟨[dr, .val (.int q), .val (.int n), .val (.lst (rowsD q n)), .val (.int i), .val (.lst (toldD q n)), c, d, e, f], ?_, ?_⟩
    · clear hq hn hi
      walk_at "fd"
    · have i1 : gIx (.lst (rowsD q n)) (.int i) = some (.tup (mp (n + 1) fun j => .int (kraw q n j i))) := gIx_lst (mp_get hi)
      have i2 : gIx (.lst (toldD q n)) (.int i) = some (.lst (mp (n + 1) fun j => .int (kraw q n j i))) := gIx_lst (mp_get hi)
      have t := same_t (d := .tup (mp (n + 1) fun j => .int (kraw q n j i))) (plain_mp (k := 4) (by omega) fun j _ => rfl).1
      have e9 : atS (i + 1) = .val (.int i) := rfl
      clear hq hn hi ok
      unfold lb_law_spreads_told_4
      walk_at "fd"
theorem sp_5 {dr a b c e f : S} : cLc (iRange1 (cBin gAddX (cVar 2) (cC (.int 1)))) (gNm 4) cYes le_law_spreads_told_5 [4] [dr, .val (.int q), .val (.int n), a, .val (.int n), b, c, .off, e, f] =
    some (sizD q n, [dr, .val (.int q), .val (.int n), a, .val (.int n), b, c, .off, e, f]) :=
  lc_rng _ (rng_n1 hn _ rfl) rfl (fun i hi => by
    rw [Int.zero_add]
    refine ⟨[dr, .val (.int q), .val (.int n), a, .val (.int i), b, c, .off, e, f], [dr, .val (.int q), .val (.int n), a, .val (.int i), b, c, .off, e, f], rfl, ?_, rfl, rfl⟩
    have t1 := ch_t (a := n) (n := i) hn (by omega)
    have t2 := lpow_t (a := q - 1) (n := i) (by omega) (by omega)
    rw [show ((q - 1 : Nat) : Int) = (q : Int) - 1 by omega] at t2
    have b := comb_b (a := n) (b := i) (by omega) (by omega)
    have m1 : gMulX (.int (comb n i)) (.int (((q : Int) - 1) ^ i)) = some (.int (sz q n i)) := by
      have p := pow_small ⟨q - 1, by omega⟩ ⟨i, by omega⟩
      dsimp only at p
      have := gMulX_int (iOk_of_bounds (a := 10) (b := 40) (i := comb n i) (j := ((q - 1 : Nat) : Int) ^ i) (by omega) p (by decide) (by decide) (by decide))
      rw [show ((q - 1 : Nat) : Int) = (q : Int) - 1 by omega] at this
      rw [this, sz, show ((q - 1 : Nat) : Int) = (q : Int) - 1 by omega]
    clear hq hn hi b
    unfold le_law_spreads_told_5
    walk_at "fd") (by omega) rfl
theorem sp_6 {dr a d f : S} {j l : Nat} (hj : j ≤ n) (hl : l ≤ n) : cLc (iRange1 (cBin gAddX (cVar 2) (cC (.int 1)))) (gNm 4) cYes le_law_spreads_told_6 [4] [dr, .val (.int q), .val (.int n), a, .val (.int n), .val (.lst (toldD q n)), .val (.int j), d, .val (.int l), f] =
    some (mp (n + 1) fun i => .int (kraw q n j i * kraw q n i l), [dr, .val (.int q), .val (.int n), a, .val (.int n), .val (.lst (toldD q n)), .val (.int j), d, .val (.int l), f]) :=
  lc_rng _ (rng_n1 hn _ rfl) rfl (fun i hi => by
    rw [Int.zero_add]
    refine ⟨[dr, .val (.int q), .val (.int n), a, .val (.int i), .val (.lst (toldD q n)), .val (.int j), d, .val (.int l), f], [dr, .val (.int q), .val (.int n), a, .val (.int i), .val (.lst (toldD q n)), .val (.int j), d, .val (.int l), f], rfl, ?_, rfl, rfl⟩
    have i1 : gIx (.lst (toldD q n)) (.int i) = some (.lst (mp (n + 1) fun j => .int (kraw q n j i))) := gIx_lst (mp_get hi)
    have i2 : gIx (.lst (mp (n + 1) fun j => .int (kraw q n j i))) (.int j) = some (.int (kraw q n j i)) := gIx_lst (mp_get (f := fun j => D.int (kraw q n j i)) (by omega))
    have i3 : gIx (.lst (toldD q n)) (.int l) = some (.lst (mp (n + 1) fun j => .int (kraw q n j l))) := gIx_lst (mp_get (by omega))
    have i4 : gIx (.lst (mp (n + 1) fun j => .int (kraw q n j l))) (.int i) = some (.int (kraw q n i l)) := gIx_lst (mp_get (f := fun j => D.int (kraw q n j l)) (by omega))
    have m1 := gMulX_int (iOk_of_bounds (a := 40) (b := 40) (kraw_small hq hn (show i ≤ n by omega) hj) (kraw_small hq hn hl (show i ≤ n by omega)) (by decide) (by decide) (by decide))
    clear hq hn hi hj hl
    unfold le_law_spreads_told_6
    walk_at "fd") (by omega) rfl
theorem sp_7 {dr a : S} {j : Nat} (hj : j ≤ n) : ∃ x, forF (gNm 8) lb_law_spreads_told_7 (rngD 0 (n + 1)) [dr, .val (.int q), .val (.int n), a, .val (.int n), .val (.lst (toldD q n)), .val (.int j), .val (.lst (sizD q n)), .off, .off] =
    some (.nx [dr, .val (.int q), .val (.int n), a, .val (.int n), .val (.lst (toldD q n)), .val (.int j), .val (.lst (sizD q n)), .val (.int n), x]) := by
  obtain ⟨s', e, x, hx, rfl⟩ := for_inv (g := gNm 8) (body := lb_law_spreads_told_7) (fun k ss => ∃ x, okSet (some x) = true ∧ ss = [dr, .val (.int q), .val (.int n), a, .val (.int n), .val (.lst (toldD q n)), .val (.int j), .val (.lst (sizD q n)), atS k, x])
    (rngD 0 (n + 1)) 0 [dr, .val (.int q), .val (.int n), a, .val (.int n), .val (.lst (toldD q n)), .val (.int j), .val (.lst (sizD q n)), .off, .off] ⟨.off, rfl, rfl⟩ (fun l d ss hd ⟨x, hx, es⟩ => by
      obtain ⟨hl, rfl⟩ := rng0_at hd
      subst es
      rw [Nat.zero_add]
      have ok := atS_ok l
      refine ⟨[dr, .val (.int q), .val (.int n), a, .val (.int n), .val (.lst (toldD q n)), .val (.int j), .val (.lst (sizD q n)), .val (.int l), x], [dr, .val (.int q), .val (.int n), a, .val (.int n), .val (.lst (toldD q n)), .val (.int j), .val (.lst (sizD q n)), .val (.int l), .val (.int (psum (fun i => kraw q n j i * kraw q n i l) (n + 1)))], ?_, ?_, _, okSet_val, rfl⟩
      · clear hd hq hn hl hj
        walk_at "fd"
      · have hl' : l ≤ n := by omega
        have c6 := sp_6 hq hn (dr := dr) (a := a) (d := .val (.lst (sizD q n))) (f := x) hj hl'
        have su : gvSum (.lst (mp (n + 1) fun i => .int (kraw q n j i * kraw q n i l))) = some (.int (psum (fun i => kraw q n j i * kraw q n i l) (n + 1))) := gvSum_mp rfl
        have t2 := lpow_t (a := q) (n := n) (by omega) (by omega)
        have i1 : gIx (.lst (toldD q n)) (.int l) = some (.lst (mp (n + 1) fun j => .int (kraw q n j l))) := gIx_lst (mp_get (by omega))
        have i2 : gIx (.lst (mp (n + 1) fun j => .int (kraw q n j l))) (.int j) = some (.int (kraw q n j l)) := gIx_lst (mp_get (f := fun j => D.int (kraw q n j l)) (by omega))
        have i3 : gIx (.lst (toldD q n)) (.int j) = some (.lst (mp (n + 1) fun i => .int (kraw q n i j))) := gIx_lst (mp_get (by omega))
        have i4 : gIx (.lst (mp (n + 1) fun i => .int (kraw q n i j))) (.int l) = some (.int (kraw q n l j)) := gIx_lst (mp_get (f := fun i => D.int (kraw q n i j)) (by omega))
        have z1 : gIx (.lst (sizD q n)) (.int l) = some (.int (sz q n l)) := gIx_lst (mp_get (by omega))
        have z2 : gIx (.lst (sizD q n)) (.int j) = some (.int (sz q n j)) := gIx_lst (mp_get (by omega))
        have m1 := gMulX_int (iOk_of_bounds (a := 50) (b := 40) (sz_small hq hn hl') (kraw_small hq hn hl' hj) (by decide) (by decide) (by decide))
        have m2 := gMulX_int (iOk_of_bounds (a := 50) (b := 40) (sz_small hq hn hj) (kraw_small hq hn hj hl') (by decide) (by decide) (by decide))
        have es := symK hq hn hl' hj
        have d2 : decide (sz q n l * kraw q n j l = sz q n j * kraw q n l j) = true := decide_eq_true es
        have eo := orth hq hn hl' hj
        have pw := pow_small ⟨q, hq.2⟩ ⟨n, hn⟩
        have m3 : gMulX (.int ((q : Int) ^ n)) (.int (if decide ((j : Int) = l) = true then 1 else 0)) = some (.int (psum (fun i => kraw q n j i * kraw q n i l) (n + 1))) := by
          rw [eo]
          by_cases e : j = l
          · rw [if_pos e, if_pos (decide_eq_true (by omega)), gMulX_int (iOk_of_bounds (a := 40) (b := 40) pw (by decide) (by decide) (by decide) (by decide)), Int.mul_one]
          · rw [if_neg e, if_neg (by rw [decide_eq_true_eq]; omega), gMulX_int (iOk_of_bounds (a := 40) (b := 40) pw (by decide) (by decide) (by decide) (by decide)), Int.mul_zero]
        have d1 : decide (psum (fun i => kraw q n j i * kraw q n i l) (n + 1) = psum (fun i => kraw q n j i * kraw q n i l) (n + 1)) = true := decide_eq_true rfl
        generalize psum (fun i => kraw q n j i * kraw q n i l) (n + 1) = T at *
        clear eo pw es hd hq hn hl hj hl' ok
        unfold lb_law_spreads_told_7
        walk_at "fd")
  rw [rngD_length, Nat.zero_add] at e
  exact ⟨x, e⟩
end
theorem spreads_val {q n : Nat} (hq : 2 ≤ q ∧ q < 10) (hn : n < 13) {dr : List D} (hd : Ints dr) : ∃ dr', Ints dr' ∧ Val1 F_law_spreads_told dr [.int q, .int n] (.bl true) dr' := by
  obtain ⟨t, dr', h1, h2, h3, h4⟩ := take_t hd (many := ((n + 1 : Nat) : Int)) (by omega)
  obtain ⟨j, rfl⟩ : ∃ j : Nat, t = j := ⟨t.toNat, by omega⟩
  have hj : j ≤ n := by omega
  obtain ⟨x, e7⟩ := sp_7 hq hn (dr := .io dr') (a := .val (.lst (rowsD q n))) hj
  refine ⟨dr', h3, [.val (.int q), .val (.int n), .val (.lst (rowsD q n)), .val (.int n), .val (.lst (toldD q n)), .val (.int j), .val (.lst (sizD q n)), .val (.int n), x], ?_, by simp⟩
  have c1 := sp_1 hq hn (dr := .io dr) (b := .off) (c := .off) (d := .off) (e := .off) (f := .off)
  have c3 := sp_3 hq hn (dr := .io dr) (a := .val (.lst (rowsD q n))) (d := .off) (e := .off) (f := .off)
  have c4 := sp_4 hq hn (dr := .io dr) (c := .off) (d := .off) (e := .off) (f := .off)
  have c5 := sp_5 hq hn (dr := .io dr) (a := .val (.lst (rowsD q n))) (b := .val (.lst (toldD q n))) (c := .off) (e := .off) (f := .off)
  have hr := rng_n1 hn
  have ct := h4 [.io dr, .val (.int q), .val (.int n), .val (.lst (rowsD q n)), .val (.int n), .val (.lst (toldD q n)), .off, .val (.lst (sizD q n)), .off, .off] 0 rfl
  rw [show ((n + 1 : Nat) : Int) = (n : Int) + 1 from rfl] at ct
  clear h4 h1 h2 h3 hd hj hq hn
  unfold F_law_spreads_told b_law_spreads_told
  simp only [List.map_cons, List.map_nil]
  walk_at "fd"
/-! rows -/
def Row (n : Nat) (a : Nat → Int) (d : D) : Prop := d = .tup (mp (n + 1) fun i => .int (a i)) ∧ ∀ i, i ≤ n → (a i).natAbs < 2 ^ 62
theorem lst_fun {l : List D} {n : Nat} {P : D → Prop} (hl : l.length = n) (h : ∀ d ∈ l, ∃ x : Int, d = .int x ∧ P d) : ∃ a : Nat → Int, l = mp n (fun i => .int (a i)) ∧ ∀ i, i < n → P (.int (a i)) := by
  have key : ∀ i, i < n → ∃ x : Int, l[i]? = some (.int x) ∧ P (.int x) := fun i hi => by
    have hm : l[i]'(by omega) ∈ l := List.getElem_mem _
    obtain ⟨x, e, p⟩ := h _ hm
    exact ⟨x, by rw [List.getElem?_eq_getElem (by omega), e], e ▸ p⟩
  refine ⟨fun i => match l[i]? with
    | some (.int x) => x
    | _ => 0, mp_ext hl fun i hi => ?_, fun i hi => ?_⟩
  · obtain ⟨x, e, _⟩ := key i hi
    dsimp only
    rw [e]
  · obtain ⟨x, e, p⟩ := key i hi
    dsimp only
    rw [e]
    exact p
/-- a comprehension that draws -/
theorem lc_draw {n : Nat} {te : SE} {b : Int → Prop} {sl : List S} {it : SL} {own : List Nat} {g : SG} {dr : List D} (hd : Ints dr) (hit : ∀ dr, it (.io dr :: sl) = some (rngD 0 n, .io dr :: sl)) (hp : ∀ dr, (own.all fun i => plainS (S.io dr :: sl)[i]?) = true)
    (hn : n < 1000000) (w : List S) (hw : ∀ dr, wipeS (.io dr :: sl) own = .io dr :: w) (hb : ∀ dr dr', backS (.io dr :: sl) (.io dr' :: w) own = .io dr' :: sl)
    (h : ∀ (i : Nat) dr, i < n → Ints dr → ∃ s1 dr' s3 x, g (.int i) (.io dr :: w) = some s1 ∧ te s1 = some (.int x, .io dr' :: s3) ∧ Ints dr' ∧ b x ∧ (own.all fun i => plainS (S.io dr' :: s3)[i]?) = true ∧ wipeS (.io dr' :: s3) own = .io dr' :: w) :
    ∃ (a : Nat → Int) (dr' : List D), Ints dr' ∧ (∀ i, i < n → b (a i)) ∧ cLc it g cYes te own (.io dr :: sl) = some (mp n fun i => .int (a i), .io dr' :: sl) := by
  have := PySem.sizeLine_eq
  obtain ⟨acc, s', e1, dr', h1, h2, h3, rfl⟩ := lc_inv (g := g) (tt := cYes) (te := te) (own := own) (fun k acc ss => ∃ dr', Ints dr' ∧ acc.length = k ∧ (∀ d ∈ acc, ∃ x : Int, d = .int x ∧ b x) ∧ ss = .io dr' :: w) (rngD 0 n) 0 [] (.io dr :: w) ⟨dr, hd, rfl, fun _ h => (nomatch h), rfl⟩ (fun i d acc ss hd ⟨dr, q1, q2, q3, es⟩ _ => by
    obtain ⟨hi, rfl⟩ := rng0_at hd
    subst es
    obtain ⟨s1, dr', s3, x, r1, r2, r3, r4, r5, r6⟩ := h i dr hi q1
    refine ⟨s1, s1, true, r1, rfl, fun _ => ⟨_, _, r2, r5, dr', r3, ?_, ?_, r6⟩, fun h => (nomatch h)⟩
    · rw [List.length_append, List.length_singleton, q2]
    · intro d hd
      rcases List.mem_append.mp hd with hd | hd
      · exact q3 d hd
      · exact ⟨x, List.mem_singleton.mp hd, r4⟩) (Nat.le_refl _) (by rw [rngD_length]; omega)
  rw [rngD_length, Nat.zero_add] at h2
  obtain ⟨a, rfl, ha⟩ := lst_fun (P := fun d => ∃ x : Int, d = .int x ∧ b x) h2 (fun d hd => by
    obtain ⟨x, e, p⟩ := h3 d hd
    exact ⟨x, e, x, e, p⟩)
  refine ⟨a, dr', h1, fun i hi => ?_, ?_⟩
  · obtain ⟨x, e, p⟩ := ha i hi
    cases e
    exact p
  · unfold cLc
    rw [hit, Option.bind_some]
    dsimp only
    rw [if_pos (hp dr), hw, e1, Option.bind_some]
    dsimp only
    rw [hb]
/-! the rows -/
theorem app_snoc {s : S} {l : List S} : ∀ k, (s :: l) ++ List.replicate k S.off = s :: (l ++ List.replicate k .off) := fun _ => rfl
def RowV (q n : Nat) (dr : List D) : Prop := ∃ (a : Nat → Int) (dr' : List D), Ints dr' ∧ (∀ i, i ≤ n → (a i).natAbs < 2 ^ 62) ∧ Val1 F_law_row dr [.int q, .int n] (.tup (mp (n + 1) fun i => .int (a i))) dr'
theorem row_0 {q n : Nat} (hn : n < 13) {dr d1 : List D} (h1 : Ints d1) (e1 : ∀ s i, ownL s[i]? = some dr → callT F_law_take [.io i, .v (.int 4)] s = some (.int 0, putL s i d1)) : RowV q n dr := by
  obtain ⟨t, d2, b1, b2, h2, c2⟩ := take_t h1 (many := 100000) (by decide)
  obtain ⟨u, d3, b3, b4, h3, c3⟩ := take_t h2 (many := ((n + 1 : Nat) : Int)) (by omega)
  obtain ⟨u, rfl⟩ : ∃ j : Nat, u = j := ⟨u.toNat, by omega⟩
  refine ⟨fun i => if i = u then 1 + t else 0, d3, h3, fun i _ => by
    dsimp only
    split <;> omega, [.val (.int q), .val (.int n), .val (.int 0), .own (mp (n + 1) fun i => .int (if i = u then 1 + t else 0)), .off, .off, .off], ?_, by simp⟩
  have k1 := e1 [.io dr, .val (.int q), .val (.int n), .off, .off, .off, .off, .off] 0 rfl
  have k2 := c2 [.io d1, .val (.int q), .val (.int n), .val (.int 0), .own (mp (n + 1) fun _ => .int 0), .off, .off, .off] 0 rfl
  have k3 := c3 [.io d2, .val (.int q), .val (.int n), .val (.int 0), .own (mp (n + 1) fun _ => .int 0), .off, .off, .off] 0 rfl
  rw [show ((n + 1 : Nat) : Int) = (n : Int) + 1 from rfl] at k3
  have g1 := gRep_one (d := .int 0) (n := n + 1) (by omega)
  rw [show ((n + 1 : Nat) : Int) = (n : Int) + 1 from rfl] at g1
  have x1 : ixN (n + 1) (u : Int) = some u := ixN_nat (by omega)
  have s1 : ([D.int 0].length ≤ sizeLine) = True := eq_true (by rw [PySem.sizeLine_eq]; decide)
  have e2 : (mp (n + 1) fun _ => D.int 0).set u (.int (1 + t)) = mp (n + 1) fun i => .int (if i = u then 1 + t else 0) := by
    rw [mp_set]
    exact mp_congr fun i _ => by split <;> rfl
  clear c2 c3 e1 b1 b2 b3 b4 h1 h2 h3 hn
  unfold F_law_row b_law_row
  simp only [List.map_cons, List.map_nil]
  walk_at "fd"
theorem rng_n1' {n : Nat} (hn : n < 13) {ss : List S} (h : ss[2]? = some (.val (.int n))) : iRange1 (cBin gAddX (cVar 2) (cC (.int 1))) ss = some (rngD 0 (n + 1), ss) := rng_n1 hn ss h
theorem row_1 {q n : Nat} (hn : n < 13) {dr d1 : List D} (h1 : Ints d1) (e1 : ∀ s i, ownL s[i]? = some dr → callT F_law_take [.io i, .v (.int 4)] s = some (.int 1, putL s i d1)) : RowV q n dr := by
  obtain ⟨a, d2, h2, hb, c2⟩ := lc_draw (g := gNm 5) (te := le_law_row_1) (own := [5]) (b := fun x => x.natAbs < 2 ^ 62) (n := n + 1) (it := iRange1 (cBin gAddX (cVar 2) (cC (.int 1))))
    (sl := [.val (.int q), .val (.int n), .val (.int 1), .off, .off, .off, .off]) h1 (fun dr => rng_n1 hn _ rfl) (fun _ => rfl) (by omega) [.val (.int q), .val (.int n), .val (.int 1), .off, .off, .off, .off] (fun _ => rfl) (fun _ _ => rfl) (fun i dr hi hd => by
      obtain ⟨t, d3, b1, b2, h3, c3⟩ := take_t hd (many := 200001) (by decide)
      refine ⟨[.io dr, .val (.int q), .val (.int n), .val (.int 1), .off, .val (.int i), .off, .off], d3, [.val (.int q), .val (.int n), .val (.int 1), .off, .val (.int i), .off, .off], t - 100000, rfl, ?_, h3, by omega, rfl, rfl⟩
      have k3 := c3 [.io dr, .val (.int q), .val (.int n), .val (.int 1), .off, .val (.int i), .off, .off] 0 rfl
      clear c3 b1 b2 h3 hd hi e1 h1 hn
      unfold le_law_row_1
      walk_at "fd")
  refine ⟨a, d2, h2, fun i hi => hb i (by omega), [.val (.int q), .val (.int n), .val (.int 1), .off, .off, .off, .off], ?_, by simp⟩
  have k1 := e1 [.io dr, .val (.int q), .val (.int n), .off, .off, .off, .off, .off] 0 rfl
  have z : decide ((1 : Int) = 0) = false := rfl
  clear e1 hb h2 h1 hn
  unfold F_law_row b_law_row
  simp only [List.map_cons, List.map_nil]
  walk_at "fd"
theorem row_2 {q n : Nat} (hn : n < 13) {dr d1 : List D} (h1 : Ints d1) (e1 : ∀ s i, ownL s[i]? = some dr → callT F_law_take [.io i, .v (.int 4)] s = some (.int 2, putL s i d1)) : RowV q n dr := by
  obtain ⟨a, d2, h2, hb, c2⟩ := lc_draw (g := gNm 5) (te := le_law_row_2) (own := [5]) (b := fun x => x.natAbs < 2 ^ 62) (n := n + 1) (it := iRange1 (cBin gAddX (cVar 2) (cC (.int 1))))
    (sl := [.val (.int q), .val (.int n), .val (.int 2), .off, .off, .off, .off]) h1 (fun dr => rng_n1 hn _ rfl) (fun _ => rfl) (by omega) [.val (.int q), .val (.int n), .val (.int 2), .off, .off, .off, .off] (fun _ => rfl) (fun _ _ => rfl) (fun i dr hi hd => by
      obtain ⟨t, d3, b1, b2, h3, c3⟩ := take_t hd (many := 3) (by decide)
      refine ⟨[.io dr, .val (.int q), .val (.int n), .val (.int 2), .off, .val (.int i), .off, .off], d3, [.val (.int q), .val (.int n), .val (.int 2), .off, .val (.int i), .off, .off], t, rfl, ?_, h3, by omega, rfl, rfl⟩
      have k3 := c3 [.io dr, .val (.int q), .val (.int n), .val (.int 2), .off, .val (.int i), .off, .off] 0 rfl
      clear c3 b1 b2 h3 hd hi e1 h1 hn
      unfold le_law_row_2
      walk_at "fd")
  refine ⟨a, d2, h2, fun i hi => hb i (by omega), [.val (.int q), .val (.int n), .val (.int 2), .off, .off, .off, .off], ?_, by simp⟩
  have k1 := e1 [.io dr, .val (.int q), .val (.int n), .off, .off, .off, .off, .off] 0 rfl
  have z : decide ((2 : Int) = 0) = false := rfl
  have z1 : decide ((2 : Int) = 1) = false := rfl
  clear e1 hb h2 h1 hn
  unfold F_law_row b_law_row
  simp only [List.map_cons, List.map_nil]
  walk_at "fd"
def ad (q m2 : Int) (s i : Nat) : Int := m2 * comb s i * q ^ i
theorem ad_small {q s i : Nat} {m2 : Int} (hq : 2 ≤ q ∧ q < 10) (hs : s ≤ 4) (hi : i ≤ s) (hm : 0 ≤ m2 ∧ m2 < 9) : gMulX (.int m2) (.int (comb s i)) = some (.int (m2 * comb s i)) ∧ gMulX (.int (m2 * comb s i)) (.int (((q : Int) - 1) ^ i)) = some (.int (ad ((q : Int) - 1) m2 s i)) ∧ (ad ((q : Int) - 1) m2 s i).natAbs < 2 ^ 54 := by
  have b := comb_b (a := s) (b := i) (by omega) (by omega)
  have p := pow_small ⟨q - 1, by omega⟩ ⟨i, by omega⟩
  dsimp only at p
  rw [show ((q - 1 : Nat) : Int) = (q : Int) - 1 by omega] at p
  have h1 : (m2 * comb s i).natAbs < 2 ^ 14 := mul_lt2 (a := 4) (b := 10) (by omega) (by omega)
  exact ⟨gMulX_int (iOk_of_bounds (a := 4) (b := 10) (by omega) (by omega) (by decide) (by decide) (by decide)), gMulX_int (iOk_of_bounds (a := 14) (b := 40) h1 p (by decide) (by decide) (by decide)), mul_lt2 (a := 14) (b := 40) h1 p⟩
theorem row3_loop {q n s : Nat} {m0 m1 m2 : Int} {dr x3 : S} (base : Nat → Int) (hq : 2 ≤ q ∧ q < 10) (hn : n < 13) (hs : s ≤ 4) (hsn : s ≤ n) (hm : 0 ≤ m2 ∧ m2 < 9) : ∃ x, forF (gNm 5) lb_law_row_4 (rngD 0 (s + 1)) [dr, .val (.int q), .val (.int n), x3, .own (mp (n + 1) fun i => .int (base i)), .off, .val (.lst [.int m0, .int m1, .int m2]), .val (.int s)] =
    some (.nx [dr, .val (.int q), .val (.int n), x3, .own (mp (n + 1) fun i => .int (base i + if i < s + 1 then ad ((q : Int) - 1) m2 s i else 0)), x, .val (.lst [.int m0, .int m1, .int m2]), .val (.int s)]) := by
  have e0 : (mp (n + 1) fun i => D.int (base i)) = mp (n + 1) fun i => .int (base i + if i < 0 then ad ((q : Int) - 1) m2 s i else 0) := mp_congr fun i _ => by rw [if_neg (by omega), Int.add_zero]
  rw [e0]
  obtain ⟨s', e, x, hx, rfl⟩ := for_inv (g := gNm 5) (body := lb_law_row_4) (fun k ss => ∃ x, okSet (some x) = true ∧ ss = [dr, .val (.int q), .val (.int n), x3, .own (mp (n + 1) fun i => .int (base i + if i < k then ad ((q : Int) - 1) m2 s i else 0)), x, .val (.lst [.int m0, .int m1, .int m2]), .val (.int s)])
    (rngD 0 (s + 1)) 0 [dr, .val (.int q), .val (.int n), x3, .own (mp (n + 1) fun i => .int (base i + if i < 0 then ad ((q : Int) - 1) m2 s i else 0)), .off, .val (.lst [.int m0, .int m1, .int m2]), .val (.int s)] ⟨.off, rfl, rfl⟩ (fun k d ss hd ⟨x, hx, es⟩ => by
      obtain ⟨hk, rfl⟩ := rng0_at hd
      subst es
      rw [Nat.zero_add]
      have t1 := ch_t (a := s) (n := k) (by omega) (by omega)
      have t2 := lpow_t (a := q - 1) (n := k) (by omega) (by omega)
      rw [show ((q - 1 : Nat) : Int) = (q : Int) - 1 by omega] at t2
      obtain ⟨g1, g2, _⟩ := ad_small (m2 := m2) hq hs (show k ≤ s by omega) hm
      have i2 : gIx (.lst [.int m0, .int m1, .int m2]) (.int 2) = some (.int m2) := gIx_lst (k := 2) rfl
      have a1 : atI (mp (n + 1) fun i => D.int (base i + if i < k then ad ((q : Int) - 1) m2 s i else 0)) (k : Int) = some (.int (base k)) := atI_nat (by rw [mp_get (by omega), if_neg (by omega), Int.add_zero])
      have x1 : ixN (n + 1) (k : Int) = some k := ixN_nat (by omega)
      have e1 : (mp (n + 1) fun i => D.int (base i + if i < k then ad ((q : Int) - 1) m2 s i else 0)).set k (.int (base k + ad ((q : Int) - 1) m2 s k)) = mp (n + 1) fun i => .int (base i + if i < k + 1 then ad ((q : Int) - 1) m2 s i else 0) := by
        rw [mp_set]
        refine mp_congr fun i _ => ?_
        by_cases e : i = k
        · subst e
          rw [if_pos rfl, if_pos (by omega)]
        · rw [if_neg e]
          have : (i < k) ↔ (i < k + 1) := by omega
          simp only [this]
      refine ⟨[dr, .val (.int q), .val (.int n), x3, .own (mp (n + 1) fun i => .int (base i + if i < k then ad ((q : Int) - 1) m2 s i else 0)), .val (.int k), .val (.lst [.int m0, .int m1, .int m2]), .val (.int s)], _, ?_, ?_, .val (.int k), rfl, rfl⟩
      · clear t1 t2 g1 g2 i2 a1 x1 e1 hd hk hq hn hs hsn hm
        walk_at "fd"
      · rw [← e1]
        generalize (mp (n + 1) fun i => D.int (base i + if i < k then ad ((q : Int) - 1) m2 s i else 0)) = L at *
        generalize ad ((q : Int) - 1) m2 s k = A at *
        have hL : L.length = n + 1 := by
          have := congrArg List.length e1
          rwa [List.length_set, mp_length] at this
        clear e1 hd hk hq hn hs hsn hm hx
        unfold lb_law_row_4
        walk_at "fd")
  rw [rngD_length, Nat.zero_add] at e
  exact ⟨x, e⟩
theorem row_3 {q n : Nat} (hq : 2 ≤ q ∧ q < 10) (hn : n < 13) (hn1 : 1 ≤ n) {dr d1 : List D} (h1 : Ints d1) (e1 : ∀ s i, ownL s[i]? = some dr → callT F_law_take [.io i, .v (.int 4)] s = some (.int 3, putL s i d1)) : RowV q n dr := by
  have hr3 : ∀ ss : List S, iRange1 (cC (.int 3)) ss = some (rngD 0 3, ss) := fun ss => range1_of (n := 3) (by walk_at "fd"; rfl) (by decide)
  obtain ⟨m, d2, h2, hb, c2⟩ := lc_draw (g := gNm 5) (te := le_law_row_3) (own := [5]) (b := fun x => 0 ≤ x ∧ x < 9) (n := 3) (it := iRange1 (cC (.int 3)))
    (sl := [.val (.int q), .val (.int n), .val (.int 3), .own (mp (n + 1) fun _ => .int 0), .off, .off, .off]) h1 (fun dr => hr3 _) (fun _ => rfl) (by omega) [.val (.int q), .val (.int n), .val (.int 3), .own (mp (n + 1) fun _ => .int 0), .off, .off, .off] (fun _ => rfl) (fun _ _ => rfl) (fun i dr hi hd => by
      obtain ⟨t, d3, b1, b2, h3, c3⟩ := take_t hd (many := 9) (by decide)
      refine ⟨[.io dr, .val (.int q), .val (.int n), .val (.int 3), .own (mp (n + 1) fun _ => .int 0), .val (.int i), .off, .off], d3, [.val (.int q), .val (.int n), .val (.int 3), .own (mp (n + 1) fun _ => .int 0), .val (.int i), .off, .off], t, rfl, ?_, h3, ⟨b1, b2⟩, rfl, rfl⟩
      have k3 := c3 [.io dr, .val (.int q), .val (.int n), .val (.int 3), .own (mp (n + 1) fun _ => .int 0), .val (.int i), .off, .off] 0 rfl
      clear c3 b1 b2 h3 hd hi e1 h1 hn hn1 hq hr3
      unfold le_law_row_3
      walk_at "fd")
  have b0 := hb 0 (by omega)
  have b1 := hb 1 (by omega)
  have b2 := hb 2 (by omega)
  have em : (mp 3 fun i => D.int (m i)) = [.int (m 0), .int (m 1), .int (m 2)] := rfl
  rw [em] at c2
  clear hb em
  generalize m 0 = m0 at *
  generalize m 1 = m1 at *
  generalize m 2 = m2 at *
  obtain ⟨t, d3, b3, b4, h3, c3⟩ := take_t h2 (many := (if (4 : Int) < n then 4 else (n : Int)) + 1) (by split <;> omega)
  obtain ⟨some', rfl⟩ : ∃ j : Nat, t = j := ⟨t.toNat, by omega⟩
  have hs4 : some' ≤ 4 := by split at b4 <;> omega
  have hsn : some' ≤ n := by split at b4 <;> omega
  -- the row before the last loop, and what the loop adds
  have hM : iOk m0 ((q : Int) - 1) = true := iOk_of_bounds (a := 10) (b := 10) (by omega) (by omega) (by decide) (by decide) (by decide)
  have gM := gMulX_int hM
  have r1 : (mp (n + 1) fun _ => D.int 0).set 0 (.int (m0 + m1)) = mp (n + 1) fun i => .int (if i = 0 then m0 + m1 else 0) := by
    rw [mp_set]
    exact mp_congr fun i _ => by split <;> rfl
  obtain ⟨base, eb⟩ : ∃ base : Nat → Int, ∀ i, base i = if i = n then 0 + m0 * ((q : Int) - 1) else if i = 0 then m0 + m1 else 0 := ⟨_, fun _ => rfl⟩
  have r2 : (mp (n + 1) fun i => D.int (if i = 0 then m0 + m1 else 0)).set n (.int (0 + m0 * ((q : Int) - 1))) = mp (n + 1) fun i => .int (base i) := by
    rw [mp_set]
    exact mp_congr fun i _ => by rw [eb]; split <;> rfl
  have a1 : atI (mp (n + 1) fun i => D.int (if i = 0 then m0 + m1 else 0)) (n : Int) = some (.int 0) := atI_nat (by
    rw [mp_get (by omega), if_neg (by omega)])
  have x0 : ixN (n + 1) (0 : Int) = some 0 := ixN_nat (n := n + 1) (k := 0) (by omega)
  have xn : ixN (n + 1) (n : Int) = some n := ixN_nat (by omega)
  have hbase : ∀ i, (base i).natAbs < 2 ^ 20 := fun i => by
    have := mul_lt2 (x := m0) (y := (q : Int) - 1) (a := 4) (b := 4) (by omega) (by omega)
    rw [eb]
    split
    · omega
    · split <;> omega
  obtain ⟨x, el⟩ := row3_loop (m0 := m0) (m1 := m1) (m2 := m2) (dr := .io d3) (x3 := .val (.int 3)) base hq hn hs4 hsn b2
  refine ⟨fun i => base i + if i < some' + 1 then ad ((q : Int) - 1) m2 some' i else 0, d3, h3, fun i hi => ?_, [.val (.int q), .val (.int n), .val (.int 3), .own (mp (n + 1) fun i => .int (base i + if i < some' + 1 then ad ((q : Int) - 1) m2 some' i else 0)), x, .val (.lst [.int m0, .int m1, .int m2]), .val (.int some')], ?_, by simp⟩
  · have := hbase i
    dsimp only
    split
    · have := (ad_small (m2 := m2) hq hs4 (show i ≤ some' by omega) b2).2.2
      omega
    · omega
  have k1 := e1 [.io dr, .val (.int q), .val (.int n), .off, .off, .off, .off, .off] 0 rfl
  have k3 := c3 [.io d2, .val (.int q), .val (.int n), .val (.int 3), .own (mp (n + 1) fun i => .int (base i)), .off, .val (.lst [.int m0, .int m1, .int m2]), .off] 0 rfl
  have g1 := gRep_one (d := .int 0) (n := n + 1) (by omega)
  rw [show ((n + 1 : Nat) : Int) = (n : Int) + 1 from rfl] at g1
  have s1 : ([D.int 0].length ≤ sizeLine) = True := eq_true (by rw [PySem.sizeLine_eq]; decide)
  have z0 : decide ((3 : Int) = 0) = false := rfl
  have z1 : decide ((3 : Int) = 1) = false := rfl
  have z2 : decide ((3 : Int) = 2) = false := rfl
  have j0 := @gIx_l0 (.int m0) [.int m1, .int m2]
  have j1 := @gIx_l1 (.int m0) (.int m1) [.int m2]
  have hrs : ∀ ss : List S, ss[7]? = some (.val (.int some')) → iRange1 (cBin gAddX (cVar 7) (cC (.int 1))) ss = some (rngD 0 (some' + 1), ss) := fun ss h => by
    refine range1_of (n := some' + 1) ?_ (by omega)
    clear hs4 hsn b4 b3 el k3 c3 hn hn1 hq b0 b1 b2 hM gM eb hbase a1 x0 xn r1 r2 e1 k1
    walk_at "fd"
    rfl
  generalize hF : (mp (n + 1) fun i => D.int (base i + if i < some' + 1 then ad ((q : Int) - 1) m2 some' i else 0)) = FL at *
  generalize hB : (mp (n + 1) fun i => D.int (base i)) = BL at *
  have hm1 : ((mp (n + 1) fun i => D.int (if i = 0 then m0 + m1 else 0))).length = n + 1 := mp_length
  generalize hC : (mp (n + 1) fun i => D.int (if i = 0 then m0 + m1 else 0)) = CL at *
  clear hF hB hC hs4 hsn b4 b3 c3 hn hn1 hq b0 b1 b2 hM eb hbase e1 h1 h2 h3 hr3
  have hr3 : ∀ ss : List S, iRange1 (cC (.int 3)) ss = some (rngD 0 3, ss) := fun ss => range1_of (n := 3) (by walk_at "fd"; rfl) (by decide)
  unfold F_law_row b_law_row
  simp only [List.map_cons, List.map_nil]
  walk_at "fd"
theorem row_t {q n : Nat} (hq : 2 ≤ q ∧ q < 10) (hn : n < 13) (hn1 : 1 ≤ n) {dr : List D} (hd : Ints dr) : RowV q n dr := by
  obtain ⟨t, d1, b1, b2, h1, c1⟩ := take_t hd (many := 4) (by decide)
  have : t = 0 ∨ t = 1 ∨ t = 2 ∨ t = 3 := by omega
  rcases this with rfl | rfl | rfl | rfl
  · exact row_0 hn h1 c1
  · exact row_1 hn h1 c1
  · exact row_2 hn h1 c1
  · exact row_3 hq hn hn1 h1 c1
/-! the program's sums -/
def rowD (n : Nat) (a : Nat → Int) : D := .tup (mp (n + 1) fun i => .int (a i))
def sA (q n : Nat) (a : Nat → Int) (j : Nat) : Int := psum (fun i => a i * kraw q n j i) (n + 1)
def sS (n : Nat) (a : Nat → Int) : Int := psum a (n + 1)
def dualD (q n : Nat) (a : Nat → Int) : D := .tup (mp (n + 1) fun j => fr (sA q n a j) (sS n a))
theorem psum_lt {f : Nat → Int} {m k : Nat} (hm : m ≤ 16) (h : ∀ i, i < m → (f i).natAbs < 2 ^ k) : (psum f m).natAbs < 2 ^ (k + 5) := by
  have h1 : (psum f m).natAbs ≤ m * 2 ^ k := psum_bound fun i hi => Nat.le_of_lt (h i hi)
  have h2 : m * 2 ^ k ≤ 16 * 2 ^ k := Nat.mul_le_mul_right _ hm
  have h3 : 0 < 2 ^ k := Nat.two_pow_pos k
  rw [Nat.pow_add]
  omega
section
variable {q n : Nat} {a : Nat → Int} (hq : 2 ≤ q ∧ q < 10) (hn : n < 13) (ha : ∀ i, i ≤ n → (a i).natAbs < 2 ^ 62)
include hn ha in
theorem sS_small : (sS n a).natAbs < 2 ^ 67 := psum_lt (by omega) fun i hi => ha i (by omega)
include hq hn ha
theorem sA_small {j : Nat} (hj : j ≤ n) : (sA q n a j).natAbs < 2 ^ 107 := psum_lt (by omega) fun i hi => mul_lt2 (a := 62) (b := 40) (ha i (by omega)) (kraw_small hq hn (by omega) hj)
theorem mul_ok {i j : Nat} (hi : i ≤ n) (hj : j ≤ n) : gMulX (.int (a i)) (.int (kraw q n j i)) = some (.int (a i * kraw q n j i)) :=
  gMulX_int (iOk_of_bounds (a := 62) (b := 40) (ha i hi) (kraw_small hq hn hi hj) (by decide) (by decide) (by decide))
theorem tc_lc {j : Nat} (hj : j ≤ n) {L : S} : cLc (iEnum' (cVar 2)) (gTp 2 (gMore (gNm 5) (gMore (gNm 6) gEnd))) cYes le_turned_counts_1 [5, 6] [.val (.int q), .val (.int n), .val (rowD n a), L, .val (.int j), .off, .off] =
    some (mp (n + 1) fun i => .int (a i * kraw q n j i), [.val (.int q), .val (.int n), .val (rowD n a), L, .val (.int j), .off, .off]) := by
  refine lc_val (ds := mp (n + 1) fun i => .tup [.int i, .int (a i)]) (fun i => .int (a i * kraw q n j i)) ?_ mp_length rfl (fun i d hi hd => ?_) (by omega) rfl
  · have e := numD_mp (n := n + 1) (f := fun i => D.int (a i))
    clear hq hn ha hj
    unfold rowD
    walk_at "fd"
  · obtain ⟨_, rfl⟩ := mp_get_inv hd
    refine ⟨[.val (.int q), .val (.int n), .val (rowD n a), L, .val (.int j), .val (.int i), .val (.int (a i))], [.val (.int q), .val (.int n), .val (rowD n a), L, .val (.int j), .val (.int i), .val (.int (a i))], rfl, ?_, rfl, rfl⟩
    have t := (kraw_val (q := q) (n := n) (j := j) (i := i) ⟨by omega, hq.2⟩ hn hj (by omega)).t
    simp only [List.map_cons, List.map_nil] at t
    have m := mul_ok hq hn ha (i := i) (j := j) (by omega) hj
    clear hq hn ha hj hi hd
    unfold le_turned_counts_1
    walk_at "fd"
theorem tc_val : ValL F_turned_counts [.int q, .int n, rowD n a] (mp (n + 1) fun j => .int (sA q n a j)) := by
  have hr : ∀ ss : List S, ss[1]? = some (.val (.int n)) → iRange1 (cBin gAddX (cVar 1) (cC (.int 1))) ss = some (rngD 0 (n + 1), ss) := fun ss h => by
    refine range1_of (n := n + 1) ?_ (by omega)
    clear hq hn ha
    walk_at "fd"
    rfl
  obtain ⟨s', e, x, hx, rfl⟩ := for_inv (g := gNm 4) (body := lb_turned_counts_2) (fun k ss => ∃ x, okSet (some x) = true ∧ ss = [.val (.int q), .val (.int n), .val (rowD n a), .own (mp k fun j => .int (sA q n a j)), x, .off, .off])
    (rngD 0 (n + 1)) 0 [.val (.int q), .val (.int n), .val (rowD n a), .own [], .off, .off, .off] ⟨.off, rfl, rfl⟩ (fun k d ss hd ⟨x, hx, es⟩ => by
      obtain ⟨hk, rfl⟩ := rng0_at hd
      subst es
      rw [Nat.zero_add]
      refine ⟨[.val (.int q), .val (.int n), .val (rowD n a), .own (mp k fun j => .int (sA q n a j)), .val (.int k), .off, .off], [.val (.int q), .val (.int n), .val (rowD n a), .own (mp (k + 1) fun j => .int (sA q n a j)), .val (.int k), .off, .off], ?_, ?_, .val (.int k), rfl, rfl⟩
      · clear hd hk hq hn ha hr
        walk_at "fd"
      · have c := tc_lc hq hn ha (j := k) (by omega) (L := .own (mp k fun j => .int (sA q n a j)))
        have su : gvSum (.lst (mp (n + 1) fun i => .int (a i * kraw q n k i))) = some (.int (sA q n a k)) := gvSum_mp rfl
        have s1 : (k < sizeLine) = True := eq_true (by rw [PySem.sizeLine_eq]; omega)
        have e9 : (mp (k + 1) fun j => D.int (sA q n a j)) = (mp k fun j => D.int (sA q n a j)) ++ [.int (sA q n a k)] := mp_succ
        clear hd hk hq hn ha hr hx
        unfold lb_turned_counts_2
        walk_at "fd")
  rw [rngD_length, Nat.zero_add] at e
  refine ⟨[.val (.int q), .val (.int n), .val (rowD n a), .off, x, .off, .off], ?_, by simp⟩
  have hcl : cLst cNil = fun ss : List S => some (([] : List D), ss) := by funext ss; rfl
  clear hq hn ha hx
  unfold F_turned_counts b_turned_counts
  simp only [List.map_cons, List.map_nil]
  walk_at "fd"
theorem cod_val (hS : sS n a ≠ 0) : Val F_counts_of_dual [.int q, .int n, rowD n a] (dualD q n a) := by
  have su : gvSum (.tup (mp (n + 1) fun i => .int (a i))) = some (.int (sS n a)) := gvSum_mp rfl
  have tc := fun s => ((tc_val hq hn ha).t s).1
  simp only [List.map_cons, List.map_nil] at tc
  have c : cLc (iVal (cCall F_turned_counts [.e (cVar 0), .e (cVar 1), .e (cVar 2)])) (gNm 4) cYes le_counts_of_dual_1 [4] [.val (.int q), .val (.int n), .val (rowD n a), .val (.int (sS n a)), .off] =
      some (mp (n + 1) fun j => fr (sA q n a j) (sS n a), [.val (.int q), .val (.int n), .val (rowD n a), .val (.int (sS n a)), .off]) := by
    refine lc_val (ds := mp (n + 1) fun j => .int (sA q n a j)) (fun j => fr (sA q n a j) (sS n a)) ?_ mp_length rfl (fun i d hi hd => ?_) (by omega) rfl
    · clear hq hn ha hS su
      walk_at "fd"
    · obtain ⟨_, rfl⟩ := mp_get_inv hd
      have f := (fraction_val (n := sA q n a i) hS (Nat.lt_of_lt_of_le (sS_small hn ha) (Nat.pow_le_pow_right (by decide) (by decide)))).t
      simp only [List.map_cons, List.map_nil] at f
      refine ⟨[.val (.int q), .val (.int n), .val (rowD n a), .val (.int (sS n a)), .val (.int (sA q n a i))], [.val (.int q), .val (.int n), .val (rowD n a), .val (.int (sS n a)), .val (.int (sA q n a i))], rfl, ?_, rfl, rfl⟩
      clear hq hn ha hS su hi hd tc
      unfold le_counts_of_dual_1
      walk_at "fd"
  refine ⟨[.val (.int q), .val (.int n), .val (rowD n a), .val (.int (sS n a)), .off], ?_, by simp⟩
  have er : rowD n a = .tup (mp (n + 1) fun i => .int (a i)) := rfl
  unfold dualD
  generalize rowD n a = R at *
  clear hq hn ha hS tc
  unfold F_counts_of_dual b_counts_of_dual
  simp only [List.map_cons, List.map_nil]
  subst er
  walk_at "fd"
theorem df_1 {b c : S} : cLc (iRange1 (cBin gAddX (cVar 1) (cC (.int 1)))) (gNm 5) cYes le_law_dual_fractions_1 [5] [.val (.int q), .val (.int n), b, c, .off, .off, .off] =
    some (rowsD q n, [.val (.int q), .val (.int n), b, c, .off, .off, .off]) := by
  refine lc_rng _ (range1_of (n := n + 1) ?_ (by omega)) rfl (fun i hi => ?_) (by omega) rfl
  · clear hq hn ha
    walk_at "fd"
    rfl
  · rw [Int.zero_add]
    refine ⟨[.val (.int q), .val (.int n), b, c, .off, .val (.int i), .off], [.val (.int q), .val (.int n), b, c, .off, .val (.int i), .off], rfl, ?_, rfl, rfl⟩
    have t := poly_t (q := q) (n := n) (i := i) hq hn (by omega)
    clear hq hn ha hi
    unfold le_law_dual_fractions_1
    walk_at "fd"
theorem df_2 {j : Nat} (hj : j ≤ n) {c : S} : cLc (iRange1 (cBin gAddX (cVar 1) (cC (.int 1)))) (gNm 5) cYes le_law_dual_fractions_2 [5] [.val (.int q), .val (.int n), .val (rowD n a), c, .val (.lst (rowsD q n)), .off, .val (.int j)] =
    some (mp (n + 1) fun i => .int (a i * kraw q n j i), [.val (.int q), .val (.int n), .val (rowD n a), c, .val (.lst (rowsD q n)), .off, .val (.int j)]) := by
  refine lc_rng _ (range1_of (n := n + 1) ?_ (by omega)) rfl (fun i hi => ?_) (by omega) rfl
  · clear hq hn ha
    walk_at "fd"
    rfl
  · rw [Int.zero_add]
    refine ⟨[.val (.int q), .val (.int n), .val (rowD n a), c, .val (.lst (rowsD q n)), .val (.int i), .val (.int j)], [.val (.int q), .val (.int n), .val (rowD n a), c, .val (.lst (rowsD q n)), .val (.int i), .val (.int j)], rfl, ?_, rfl, rfl⟩
    have i1 : gIx (rowD n a) (.int i) = some (.int (a i)) := gIx_tup (mp_get (f := fun i => D.int (a i)) hi)
    have i2 : gIx (.lst (rowsD q n)) (.int i) = some (.tup (mp (n + 1) fun j => .int (kraw q n j i))) := gIx_lst (mp_get hi)
    have i3 : gIx (.tup (mp (n + 1) fun j => .int (kraw q n j i))) (.int j) = some (.int (kraw q n j i)) := gIx_tup (mp_get (f := fun j => D.int (kraw q n j i)) (by omega))
    have m := mul_ok hq hn ha (i := i) (j := j) (by omega) hj
    clear hq hn ha hi hj
    unfold le_law_dual_fractions_2
    walk_at "fd"
theorem df_val (hS : sS n a ≠ 0) : Val F_law_dual_fractions [.int q, .int n, rowD n a] (dualD q n a) := by
  have su : gvSum (.tup (mp (n + 1) fun i => .int (a i))) = some (.int (sS n a)) := gvSum_mp rfl
  have c1 := df_1 hq hn ha (b := .val (rowD n a)) (c := .val (.int (sS n a)))
  have c3 : cLc (iRange1 (cBin gAddX (cVar 1) (cC (.int 1)))) (gNm 6) cYes le_law_dual_fractions_3 [6] [.val (.int q), .val (.int n), .val (rowD n a), .val (.int (sS n a)), .val (.lst (rowsD q n)), .off, .off] =
      some (mp (n + 1) fun j => fr (sA q n a j) (sS n a), [.val (.int q), .val (.int n), .val (rowD n a), .val (.int (sS n a)), .val (.lst (rowsD q n)), .off, .off]) := by
    refine lc_rng _ (range1_of (n := n + 1) ?_ (by omega)) rfl (fun j hj => ?_) (by omega) rfl
    · clear hq hn ha hS su c1
      walk_at "fd"
      rfl
    · rw [Int.zero_add]
      refine ⟨[.val (.int q), .val (.int n), .val (rowD n a), .val (.int (sS n a)), .val (.lst (rowsD q n)), .off, .val (.int j)], [.val (.int q), .val (.int n), .val (rowD n a), .val (.int (sS n a)), .val (.lst (rowsD q n)), .off, .val (.int j)], rfl, ?_, rfl, rfl⟩
      have c2 := df_2 hq hn ha (j := j) (by omega) (c := .val (.int (sS n a)))
      have s2 : gvSum (.lst (mp (n + 1) fun i => .int (a i * kraw q n j i))) = some (.int (sA q n a j)) := gvSum_mp rfl
      have f := (frac_val (n := sA q n a j) hS (Nat.lt_of_lt_of_le (sA_small hq hn ha (by omega)) (Nat.pow_le_pow_right (by decide) (by decide))) (Nat.lt_of_lt_of_le (sS_small hn ha) (Nat.pow_le_pow_right (by decide) (by decide)))).t
      simp only [List.map_cons, List.map_nil] at f
      clear hq hn ha hS su hj c1
      unfold le_law_dual_fractions_3
      walk_at "fd"
  refine ⟨[.val (.int q), .val (.int n), .val (rowD n a), .val (.int (sS n a)), .val (.lst (rowsD q n)), .off, .off], ?_, by simp⟩
  have er : rowD n a = .tup (mp (n + 1) fun i => .int (a i)) := rfl
  have hr : ∀ ss : List S, ss[1]? = some (.val (.int n)) → iRange1 (cBin gAddX (cVar 1) (cC (.int 1))) ss = some (rngD 0 (n + 1), ss) := fun ss h => by
    refine range1_of (n := n + 1) ?_ (by omega)
    clear hq hn ha hS su c1 c3 er
    walk_at "fd"
    rfl
  unfold dualD
  clear hq hn ha hS
  generalize rowD n a = R at *
  subst er
  unfold F_law_dual_fractions b_law_dual_fractions
  simp only [List.map_cons, List.map_nil]
  walk_at "fd"
end
/-! power sums -/
def zS (n : Nat) (a : Nat → Int) (s : Nat) : Int := psum (fun w => a w * comb (n - w) s) (n + 1)
section
variable {n : Nat} {a : Nat → Int} (hn : n < 13) (ha : ∀ i, i ≤ n → (a i).natAbs < 2 ^ 62)
include hn ha
theorem zm_ok {w s : Nat} (hw : w ≤ n) (hs : s ≤ n) : gMulX (.int (a w)) (.int (comb (n - w) s)) = some (.int (a w * comb (n - w) s)) := by
  have b := comb_b (a := n - w) (b := s) (by omega) (by omega)
  exact gMulX_int (iOk_of_bounds (a := 62) (b := 10) (ha w hw) (by omega) (by decide) (by decide) (by decide))
theorem zs_1 {s : Nat} (hs : s ≤ n) : cLc (iEnum' (cVar 0)) (gTp 2 (gMore (gNm 3) (gMore (gNm 4) gEnd))) cYes le_zero_sums_1 [3, 4] [.val (rowD n a), .val (.int n), .val (.int s), .off, .off] =
    some (mp (n + 1) fun w => .int (a w * comb (n - w) s), [.val (rowD n a), .val (.int n), .val (.int s), .off, .off]) := by
  refine lc_val (ds := mp (n + 1) fun i => .tup [.int i, .int (a i)]) (fun w => .int (a w * comb (n - w) s)) ?_ mp_length rfl (fun i d hi hd => ?_) (by omega) rfl
  · have e := numD_mp (n := n + 1) (f := fun i => D.int (a i))
    clear hn ha hs
    unfold rowD
    walk_at "fd"
  · obtain ⟨_, rfl⟩ := mp_get_inv hd
    refine ⟨[.val (rowD n a), .val (.int n), .val (.int s), .val (.int i), .val (.int (a i))], [.val (rowD n a), .val (.int n), .val (.int s), .val (.int i), .val (.int (a i))], rfl, ?_, rfl, rfl⟩
    have m := zm_ok hn ha (w := i) (s := s) (by omega) hs
    have c2 : gcComb [.int ((n : Int) - i), .int s] = some (.int (comb (n - i) s)) := by
      rw [show ((n : Int) - i) = ((n - i : Nat) : Int) by omega]
      exact gComb_int ⟨by omega, by omega, by omega⟩
    clear hn ha hi hd hs
    unfold le_zero_sums_1
    walk_at "fd"
theorem ds_1 {s : Nat} (hs : s ≤ n) : cLc (iEnum' (cVar 0)) (gTp 2 (gMore (gNm 3) (gMore (gNm 4) gEnd))) cYes le_dual_sums_1 [3, 4] [.val (rowD n a), .val (.int n), .val (.int s), .off, .off] =
    some (mp (n + 1) fun w => .int (a w * comb (n - w) (n - s)), [.val (rowD n a), .val (.int n), .val (.int s), .off, .off]) := by
  refine lc_val (ds := mp (n + 1) fun i => .tup [.int i, .int (a i)]) (fun w => .int (a w * comb (n - w) (n - s))) ?_ mp_length rfl (fun i d hi hd => ?_) (by omega) rfl
  · have e := numD_mp (n := n + 1) (f := fun i => D.int (a i))
    clear hn ha hs
    unfold rowD
    walk_at "fd"
  · obtain ⟨_, rfl⟩ := mp_get_inv hd
    refine ⟨[.val (rowD n a), .val (.int n), .val (.int s), .val (.int i), .val (.int (a i))], [.val (rowD n a), .val (.int n), .val (.int s), .val (.int i), .val (.int (a i))], rfl, ?_, rfl, rfl⟩
    have m := zm_ok hn ha (w := i) (s := n - s) (by omega) (by omega)
    have c2 : gcComb [.int ((n : Int) - i), .int ((n : Int) - s)] = some (.int (comb (n - i) (n - s))) := by
      rw [show ((n : Int) - i) = ((n - i : Nat) : Int) by omega, show ((n : Int) - s) = ((n - s : Nat) : Int) by omega]
      exact gComb_int ⟨by omega, by omega, by omega⟩
    clear hn ha hi hd hs
    unfold le_dual_sums_1
    walk_at "fd"
theorem zs_val : Val F_zero_sums [rowD n a] (.tup (mp (n + 1) fun s => .int (zS n a s))) := by
  have c : cLc (iRange1 (cBin gAddX (cVar 1) (cC (.int 1)))) (gNm 2) cYes le_zero_sums_2 [2] [.val (rowD n a), .val (.int n), .off, .off, .off] =
      some (mp (n + 1) fun s => .int (zS n a s), [.val (rowD n a), .val (.int n), .off, .off, .off]) := by
    refine lc_rng _ (range1_of (n := n + 1) ?_ (by omega)) rfl (fun s hs => ?_) (by omega) rfl
    · clear hn ha
      walk_at "fd"
      rfl
    · rw [Int.zero_add]
      refine ⟨[.val (rowD n a), .val (.int n), .val (.int s), .off, .off], [.val (rowD n a), .val (.int n), .val (.int s), .off, .off], rfl, ?_, rfl, rfl⟩
      have c2 := zs_1 hn ha (s := s) (by omega)
      have s2 : gvSum (.lst (mp (n + 1) fun w => .int (a w * comb (n - w) s))) = some (.int (zS n a s)) := gvSum_mp rfl
      clear hn ha hs
      unfold le_zero_sums_2
      walk_at "fd"
  refine ⟨[.val (rowD n a), .val (.int n), .off, .off, .off], ?_, by simp⟩
  have er : rowD n a = .tup (mp (n + 1) fun i => .int (a i)) := rfl
  have e1 : (((n + 1 : Nat) : Int)) - 1 = n := by omega
  generalize rowD n a = R at *
  clear hn ha
  subst er
  unfold F_zero_sums b_zero_sums
  simp only [List.map_cons, List.map_nil]
  walk_at "fd"
theorem ds_val : Val F_dual_sums [rowD n a] (.tup (mp (n + 1) fun s => .int (zS n a (n - s)))) := by
  have c : cLc (iRange1 (cBin gAddX (cVar 1) (cC (.int 1)))) (gNm 2) cYes le_dual_sums_2 [2] [.val (rowD n a), .val (.int n), .off, .off, .off] =
      some (mp (n + 1) fun s => .int (zS n a (n - s)), [.val (rowD n a), .val (.int n), .off, .off, .off]) := by
    refine lc_rng _ (range1_of (n := n + 1) ?_ (by omega)) rfl (fun s hs => ?_) (by omega) rfl
    · clear hn ha
      walk_at "fd"
      rfl
    · rw [Int.zero_add]
      refine ⟨[.val (rowD n a), .val (.int n), .val (.int s), .off, .off], [.val (rowD n a), .val (.int n), .val (.int s), .off, .off], rfl, ?_, rfl, rfl⟩
      have c2 := ds_1 hn ha (s := s) (by omega)
      have s2 : gvSum (.lst (mp (n + 1) fun w => .int (a w * comb (n - w) (n - s)))) = some (.int (zS n a (n - s))) := gvSum_mp rfl
      clear hn ha hs
      unfold le_dual_sums_2
      walk_at "fd"
  refine ⟨[.val (rowD n a), .val (.int n), .off, .off, .off], ?_, by simp⟩
  have er : rowD n a = .tup (mp (n + 1) fun i => .int (a i)) := rfl
  have e1 : (((n + 1 : Nat) : Int)) - 1 = n := by omega
  generalize rowD n a = R at *
  clear hn ha
  subst er
  unfold F_dual_sums b_dual_sums
  simp only [List.map_cons, List.map_nil]
  walk_at "fd"
theorem so_1 {du : D} {L : S} {j s : Nat} (hs : s ≤ n) : cLc (iRange1 (cBin gAddX (cVar 0) (cC (.int 1)))) (gNm 6) cYes le_law_sums_of_1 [6] [.val (.int n), .val (rowD n a), .val du, L, .val (.int j), .val (.int s), .off] =
    some (mp (n + 1) fun w => .int (a w * comb (n - w) s), [.val (.int n), .val (rowD n a), .val du, L, .val (.int j), .val (.int s), .off]) := by
  refine lc_rng _ (range1_of (n := n + 1) ?_ (by omega)) rfl (fun i hi => ?_) (by omega) rfl
  · clear hn ha hs
    walk_at "fd"
    rfl
  · rw [Int.zero_add]
    refine ⟨[.val (.int n), .val (rowD n a), .val du, L, .val (.int j), .val (.int s), .val (.int i)], [.val (.int n), .val (rowD n a), .val du, L, .val (.int j), .val (.int s), .val (.int i)], rfl, ?_, rfl, rfl⟩
    have i1 : gIx (rowD n a) (.int i) = some (.int (a i)) := gIx_tup (mp_get (f := fun i => D.int (a i)) hi)
    have t1 := ch_t (a := n - i) (n := s) (by omega) (by omega)
    rw [show ((n - i : Nat) : Int) = (n : Int) - i by omega] at t1
    have m := zm_ok hn ha (w := i) (s := s) (by omega) hs
    clear hn ha hi hs
    unfold le_law_sums_of_1
    walk_at "fd"
def pick (n : Nat) (t : Bool) (j : Nat) : Nat := if t then n - j else j
theorem so_val (t : Bool) : Val F_law_sums_of [.int n, rowD n a, .int (if t then 1 else 0)] (.tup (mp (n + 1) fun s => .int (zS n a (pick n t s)))) := by
  have hr : ∀ ss : List S, ss[0]? = some (.val (.int n)) → iRange1 (cBin gAddX (cVar 0) (cC (.int 1))) ss = some (rngD 0 (n + 1), ss) := fun ss h => by
    refine range1_of (n := n + 1) ?_ (by omega)
    clear hn ha
    walk_at "fd"
    rfl
  obtain ⟨s', e, x, y, hx, hy, rfl⟩ := for_inv (g := gNm 4) (body := lb_law_sums_of_2) (fun k ss => ∃ x y, okSet (some x) = true ∧ okSet (some y) = true ∧ ss = [.val (.int n), .val (rowD n a), .val (.int (if t then 1 else 0)), .own (mp k fun s => .int (zS n a (pick n t s))), x, y, .off])
    (rngD 0 (n + 1)) 0 [.val (.int n), .val (rowD n a), .val (.int (if t then 1 else 0)), .own [], .off, .off, .off] ⟨.off, .off, rfl, rfl, rfl⟩ (fun k d ss hd ⟨x, y, hx, hy, es⟩ => by
      obtain ⟨hk, rfl⟩ := rng0_at hd
      subst es
      rw [Nat.zero_add]
      refine ⟨[.val (.int n), .val (rowD n a), .val (.int (if t then 1 else 0)), .own (mp k fun s => .int (zS n a (pick n t s))), .val (.int k), y, .off], [.val (.int n), .val (rowD n a), .val (.int (if t then 1 else 0)), .own (mp (k + 1) fun s => .int (zS n a (pick n t s))), .val (.int k), .val (.int (pick n t k)), .off], ?_, ?_, .val (.int k), .val (.int (pick n t k)), rfl, rfl, rfl⟩
      · clear hd hk hn ha hr hy
        walk_at "fd"
      · have hp : pick n t k ≤ n := by unfold pick; split <;> omega
        have c := so_1 hn ha (du := .int (if t then 1 else 0)) (L := .own (mp k fun s => .int (zS n a (pick n t s)))) (j := k) hp
        have su : gvSum (.lst (mp (n + 1) fun w => .int (a w * comb (n - w) (pick n t k)))) = some (.int (zS n a (pick n t k))) := gvSum_mp rfl
        have s1 : (k < sizeLine) = True := eq_true (by rw [PySem.sizeLine_eq]; omega)
        have e9 : (mp (k + 1) fun s => D.int (zS n a (pick n t s))) = (mp k fun s => D.int (zS n a (pick n t s))) ++ [.int (zS n a (pick n t k))] := mp_succ
        have i1 : gIx (.lst [.int k, .int ((n : Int) - k)]) (.int (if t then 1 else 0)) = some (.int (pick n t k)) := by
          unfold pick
          cases t with
          | true =>
            rw [if_pos rfl, if_pos rfl, show ((n - k : Nat) : Int) = (n : Int) - k by omega]
            exact gIx_l1
          | false =>
            exact gIx_l0
        have s3 : ∀ x y : D, ([x, y].length ≤ sizeLine) = True := fun _ _ => eq_true two_le
        generalize (if t = true then (1 : Int) else 0) = T at *
        generalize pick n t k = P at *
        clear hd hk hn ha hr hx hp
        unfold lb_law_sums_of_2
        walk_at "fd")
  rw [rngD_length, Nat.zero_add] at e
  refine ⟨[.val (.int n), .val (rowD n a), .val (.int (if t then 1 else 0)), .own (mp (n + 1) fun s => .int (zS n a (pick n t s))), x, y, .off], ?_, by simp⟩
  have hcl : cLst cNil = fun ss : List S => some (([] : List D), ss) := by funext ss; rfl
  generalize (if t = true then (1 : Int) else 0) = T at *
  clear hn ha hx hy
  unfold F_law_sums_of b_law_sums_of
  simp only [List.map_cons, List.map_nil]
  walk_at "fd"
end
/-! weights -/
/-- a comprehension with a test -/
theorem lc_flt {it : SL} {g : SG} {tt : ST} {te : SE} {own : List Nat} {ss : List S} {ds : List D} {m : Nat} (p : Nat → Bool) (f : Nat → D) (hi : it ss = some (ds, ss)) (hm : ds.length = m) (hp : (own.all fun i => plainS ss[i]?) = true) (w : List S) (hw : wipeS ss own = w)
    (h : ∀ i (d : D), i < m → ds[i]? = some d → ∃ s1, g d w = some s1 ∧ tt s1 = some (p i, s1) ∧ (p i = true → te s1 = some (f i, s1)) ∧ (own.all fun i => plainS s1[i]?) = true ∧ wipeS s1 own = w)
    (hz : m < 1000000) (hb : backS ss w own = ss) : cLc it g tt te own ss = some (((List.range m).filter p).map f, ss) := by
  unfold cLc
  rw [hi, Option.bind_some]
  dsimp only
  rw [if_pos hp, hw]
  have := PySem.sizeLine_eq
  obtain ⟨a, s', e1, rfl, rfl⟩ := lc_inv (g := g) (tt := tt) (te := te) (own := own) (fun k acc s => acc = ((List.range k).filter p).map f ∧ s = w) ds 0 [] w ⟨rfl, rfl⟩ (fun i d acc s hd ⟨ea, es⟩ _ => by
    subst ea es
    have hi : i < m := by rw [← hm]; exact (List.getElem?_eq_some_iff.mp hd).1
    obtain ⟨s1, q1, q2, q3, q4, q5⟩ := h i d hi hd
    rw [Nat.zero_add, List.range_succ, List.filter_append, List.map_append]
    refine ⟨s1, s1, p i, q1, q2, fun hp => ⟨_, s1, q3 hp, q4, ?_, q5⟩, fun hp => ⟨q4, ?_, q5⟩⟩
    · rw [List.filter_cons_of_pos hp]
      rfl
    · rw [List.filter_cons_of_neg (by rw [hp]; decide)]
      exact (List.append_nil _).symm) (Nat.le_refl _) (by omega)
  rw [e1, Nat.zero_add, hm, Option.bind_some]
  dsimp only
  rw [hb]
def wp (a : Nat → Int) (i : Nat) : Bool := decide ((i : Int) > 0) && !decide (a i = 0)
def wD (n : Nat) (a : Nat → Int) : List D := ((List.range (n + 1)).filter (wp a)).map fun i : Nat => D.int (i : Int)
theorem wi_val {n : Nat} {a : Nat → Int} (hn : n < 13) : Val F_weights_in [rowD n a] (.tup (wD n a)) := by
  have c : cLc (iEnum' (cVar 0)) (gTp 2 (gMore (gNm 1) (gMore (gNm 2) gEnd))) lt_weights_in_2 le_weights_in_1 [1, 2] [.val (rowD n a), .off, .off] = some (wD n a, [.val (rowD n a), .off, .off]) := by
    refine lc_flt (m := n + 1) (ds := mp (n + 1) fun i => .tup [.int i, .int (a i)]) (wp a) (fun i : Nat => D.int (i : Int)) ?_ mp_length rfl [.val (rowD n a), .off, .off] rfl (fun i d hi hd => ?_) (by omega) rfl
    · have e := numD_mp (n := n + 1) (f := fun i => D.int (a i))
      clear hn
      unfold rowD
      walk_at "fd"
    · obtain ⟨_, rfl⟩ := mp_get_inv hd
      refine ⟨[.val (rowD n a), .val (.int i), .val (.int (a i))], rfl, ?_, fun _ => ?_, rfl, rfl⟩
      · unfold lt_weights_in_2 wp
        clear hn hi hd
        cases h1 : decide ((i : Int) > 0) with
        | true => walk_at "fd"; rfl
        | false => walk_at "fd"; rfl
      · unfold le_weights_in_1
        clear hn hi hd
        walk_at "fd"
  refine ⟨[.val (rowD n a), .off, .off], ?_, by simp⟩
  clear hn
  unfold F_weights_in b_weights_in
  simp only [List.map_cons, List.map_nil]
  walk_at "fd"
theorem wD_tail {n : Nat} {a : Nat → Int} : wD n a = ((List.range n).filter fun i => !decide (a (i + 1) = 0)).map fun i : Nat => D.int (1 + (i : Int)) := by
  have e : ∀ i : Nat, wp a (i + 1) = !decide (a (i + 1) = 0) := fun i => by
    unfold wp
    have : decide (((i + 1 : Nat) : Int) > 0) = true := decide_eq_true (by omega)
    rw [this, Bool.true_and]
  unfold wD
  rw [List.range_succ_eq_map, List.filter_cons_of_neg (by unfold wp; simp), List.filter_map, List.map_map]
  have e2 : (wp a ∘ Nat.succ) = fun i => !decide (a (i + 1) = 0) := funext e
  rw [e2]
  refine List.map_congr_left fun i _ => ?_
  show D.int ((i + 1 : Nat) : Int) = D.int (1 + (i : Int))
  rw [Int.add_comm]
  rfl
theorem wD_plain {n k : Nat} {a : Nat → Int} (hn : n < 13) : plainD (k + 1) (.tup (wD n a)) = true := by
  refine (plain_list ?_ fun x hx => ?_).1
  · unfold wD
    rw [List.length_map]
    have := List.length_filter_le (wp a) (List.range (n + 1))
    rw [List.length_range] at this
    omega
  · unfold wD at hx
    obtain ⟨i, _, rfl⟩ := List.mem_map.mp hx
    cases k <;> rfl
/-! rows told -/
theorem sA_add {q n : Nat} {a b : Nat → Int} {j : Nat} : sA q n (fun i => a i + b i) j = sA q n a j + sA q n b j := by
  unfold sA
  rw [← psum_add]
  exact psum_congr fun i _ => Int.add_mul _ _ _
theorem sA_back {q n : Nat} {a : Nat → Int} {j : Nat} (hq : 2 ≤ q ∧ q < 10) (hn : n < 13) (hj : j ≤ n) : sA q n (sA q n a) j = a j * (q : Int) ^ n := by
  have h1 : sA q n (sA q n a) j = psum (fun k => psum (fun i => a i * (kraw q n j k * kraw q n k i)) (n + 1)) (n + 1) := psum_congr fun k _ => by
    unfold sA
    rw [← psum_mulr]
    exact psum_congr fun i _ => by rw [Int.mul_assoc, Int.mul_comm (kraw q n k i)]
  rw [h1, psum_swap]
  have h2 : psum (fun i => psum (fun k => a i * (kraw q n j k * kraw q n k i)) (n + 1)) (n + 1) = psum (fun i => a i * if j = i then (q : Int) ^ n else 0) (n + 1) := psum_congr fun i hi => by
    rw [psum_mul, orth hq hn (show i ≤ n by omega) hj]
  rw [h2, psum_one (j := j) (by omega) (fun i _ hne => by rw [if_neg (fun e => hne e.symm), Int.mul_zero]), if_pos rfl]
def absI (i : Int) : Int := if i < 0 then -i else i
theorem max_ap {n : Nat} {f : Nat → Int} : ∃ M, gvMax (.lst (mp (n + 1) fun i => .int (absI (f i)))) = some (.int M) ∧ ∀ i, i ≤ n → ((f i).natAbs : Int) ≤ M := by
  refine ⟨maxI (mp (n + 1) fun i => absI (f i)), ?_, fun i hi => ?_⟩
  · have e : (mp (n + 1) fun i => D.int (absI (f i))) = (mp (n + 1) fun i => absI (f i)).map D.int := mp_map.symm
    unfold gvMax
    rw [e]
    show (intsOf _).bind _ = _
    rw [intsOf_map, Option.bind_some, if_pos (by rw [mp_length]; omega)]
  · have h : absI (f i) ≤ maxI (mp (n + 1) fun i => absI (f i)) := maxI_ge (mp (n + 1) fun i => absI (f i)) _ (List.mem_of_getElem? (mp_get (show i < n + 1 by omega)))
    generalize maxI (mp (n + 1) fun i => absI (f i)) = M at *
    unfold absI at h
    split at h <;> omega
theorem dual_plain {q n k : Nat} {a : Nat → Int} (hn : n < 13) : plainD (k + 2) (dualD q n a) = true := (plain_mp (by omega) fun i _ => by
  unfold fr
  exact (plain_list (by simp) fun x hx => by
    rcases List.mem_cons.mp hx with rfl | hx
    · cases k <;> rfl
    · rw [List.mem_singleton.mp hx]
      cases k <;> rfl).1).1
section
variable {q n : Nat} {a b : Nat → Int} (hq : 2 ≤ q ∧ q < 10) (hn : n < 13) (ha : ∀ i, i ≤ n → (a i).natAbs < 2 ^ 62) (hb : ∀ i, i ≤ n → (b i).natAbs < 2 ^ 62)
variable {dr x5 x6 x7 x8 x9 x10 x11 x12 x13 x14 x15 x16 x17 x18 : S}
include hn in
theorem rt_1 : cLc (iRange1 (cBin gAddX (cVar 2) (cC (.int 1)))) (gNm 6) cYes le_law_rows_told_1 [6] [dr, .val (.int q), .val (.int n), .val (rowD n a), .val (rowD n b), x5, .off, x7, x8, x9, x10, x11, x12, x13, x14, x15, x16, x17, x18] =
    some (mp (n + 1) fun i => .int (a i + b i), [dr, .val (.int q), .val (.int n), .val (rowD n a), .val (rowD n b), x5, .off, x7, x8, x9, x10, x11, x12, x13, x14, x15, x16, x17, x18]) :=
  lc_rng _ (rng_n1 hn _ rfl) rfl (fun i hi => by
    rw [Int.zero_add]
    refine ⟨[dr, .val (.int q), .val (.int n), .val (rowD n a), .val (rowD n b), x5, .val (.int i), x7, x8, x9, x10, x11, x12, x13, x14, x15, x16, x17, x18], [dr, .val (.int q), .val (.int n), .val (rowD n a), .val (rowD n b), x5, .val (.int i), x7, x8, x9, x10, x11, x12, x13, x14, x15, x16, x17, x18], rfl, ?_, rfl, rfl⟩
    have i1 : gIx (rowD n a) (.int i) = some (.int (a i)) := gIx_tup (mp_get (f := fun i => D.int (a i)) hi)
    have i2 : gIx (rowD n b) (.int i) = some (.int (b i)) := gIx_tup (mp_get (f := fun i => D.int (b i)) hi)
    clear hn hi
    unfold le_law_rows_told_1
    walk_at "fd") (by omega) rfl
include hq hn ha hb in
theorem rt_2 (h1 : sS n a ≠ 0) (h2 : sS n b ≠ 0) : cLc (iVal (cFrz (cLst (cCons (cVar 3) (cCons (cVar 4) cNil))))) (gNm 8) cYes le_law_rows_told_2 [8] [dr, .val (.int q), .val (.int n), .val (rowD n a), .val (rowD n b), x5, x6, x7, .off, x9, x10, x11, x12, x13, x14, x15, x16, x17, x18] =
    some ([dualD q n a, dualD q n b], [dr, .val (.int q), .val (.int n), .val (rowD n a), .val (rowD n b), x5, x6, x7, .off, x9, x10, x11, x12, x13, x14, x15, x16, x17, x18]) := by
  refine lc_val (n := 2) (ds := [rowD n a, rowD n b]) (fun i => if i = 0 then dualD q n a else dualD q n b) ?_ rfl rfl (fun i d hi hd => ?_) (by omega) rfl
  · have s3 : ∀ x y : D, ([x, y].length ≤ sizeLine) = True := fun _ _ => eq_true two_le
    clear hq hn ha hb h1 h2
    walk_at "fd"
  · have : i = 0 ∨ i = 1 := by omega
    rcases this with rfl | rfl
    · cases hd
      refine ⟨[dr, .val (.int q), .val (.int n), .val (rowD n a), .val (rowD n b), x5, x6, x7, .val (rowD n a), x9, x10, x11, x12, x13, x14, x15, x16, x17, x18], [dr, .val (.int q), .val (.int n), .val (rowD n a), .val (rowD n b), x5, x6, x7, .val (rowD n a), x9, x10, x11, x12, x13, x14, x15, x16, x17, x18], rfl, ?_, rfl, rfl⟩
      have t := (df_val hq hn ha h1).t
      simp only [List.map_cons, List.map_nil] at t
      clear hq hn ha hb h1 h2
      unfold le_law_rows_told_2
      walk_at "fd"
    · cases hd
      refine ⟨[dr, .val (.int q), .val (.int n), .val (rowD n a), .val (rowD n b), x5, x6, x7, .val (rowD n b), x9, x10, x11, x12, x13, x14, x15, x16, x17, x18], [dr, .val (.int q), .val (.int n), .val (rowD n a), .val (rowD n b), x5, x6, x7, .val (rowD n b), x9, x10, x11, x12, x13, x14, x15, x16, x17, x18], rfl, ?_, rfl, rfl⟩
      have t := (df_val hq hn hb h2).t
      simp only [List.map_cons, List.map_nil] at t
      have e : ¬(1 = 0) := by decide
      rw [if_neg e]
      clear hq hn ha hb h1 h2 e
      unfold le_law_rows_told_2
      walk_at "fd"
include hn in
theorem rt_3 {c : Nat → Int} : cLc (iVal (cVar 5)) (gNm 9) cYes le_law_rows_told_3 [9] [dr, .val (.int q), .val (.int n), .val (rowD n a), .val (rowD n b), .val (rowD n c), x6, x7, x8, .off, x10, x11, x12, x13, x14, x15, x16, x17, x18] =
    some (mp (n + 1) fun i => .int (absI (c i)), [dr, .val (.int q), .val (.int n), .val (rowD n a), .val (rowD n b), .val (rowD n c), x6, x7, x8, .off, x10, x11, x12, x13, x14, x15, x16, x17, x18]) := by
  refine lc_val (ds := mp (n + 1) fun i => .int (c i)) _ ?_ mp_length rfl (fun i d hi hd => ?_) (by omega) rfl
  · clear hn
    unfold rowD
    walk_at "fd"
  · obtain ⟨_, rfl⟩ := mp_get_inv hd
    refine ⟨[dr, .val (.int q), .val (.int n), .val (rowD n a), .val (rowD n b), .val (rowD n c), x6, x7, x8, .val (.int (c i)), x10, x11, x12, x13, x14, x15, x16, x17, x18], [dr, .val (.int q), .val (.int n), .val (rowD n a), .val (rowD n b), .val (rowD n c), x6, x7, x8, .val (.int (c i)), x10, x11, x12, x13, x14, x15, x16, x17, x18], rfl, ?_, rfl, rfl⟩
    clear hn hi hd
    unfold le_law_rows_told_3 absI
    walk_at "fd"
include hn in
theorem rt_6 {c : Nat → Int} : cLc (iVal (cVar 14)) (gNm 9) cYes le_law_rows_told_6 [9] [dr, .val (.int q), .val (.int n), .val (rowD n a), .val (rowD n b), x5, x6, x7, x8, .off, x10, x11, x12, x13, .val (.lst (mp (n + 1) fun i => .int (c i))), x15, x16, x17, x18] =
    some (mp (n + 1) fun i => .int (absI (c i)), [dr, .val (.int q), .val (.int n), .val (rowD n a), .val (rowD n b), x5, x6, x7, x8, .off, x10, x11, x12, x13, .val (.lst (mp (n + 1) fun i => .int (c i))), x15, x16, x17, x18]) := by
  refine lc_val (ds := mp (n + 1) fun i => .int (c i)) _ ?_ mp_length rfl (fun i d hi hd => ?_) (by omega) rfl
  · clear hn
    walk_at "fd"
  · obtain ⟨_, rfl⟩ := mp_get_inv hd
    refine ⟨[dr, .val (.int q), .val (.int n), .val (rowD n a), .val (rowD n b), x5, x6, x7, x8, .val (.int (c i)), x10, x11, x12, x13, .val (.lst (mp (n + 1) fun i => .int (c i))), x15, x16, x17, x18], [dr, .val (.int q), .val (.int n), .val (rowD n a), .val (rowD n b), x5, x6, x7, x8, .val (.int (c i)), x10, x11, x12, x13, .val (.lst (mp (n + 1) fun i => .int (c i))), x15, x16, x17, x18], rfl, ?_, rfl, rfl⟩
    clear hn hi hd
    unfold le_law_rows_told_6 absI
    walk_at "fd"
end
theorem fdiv_le {c x y : Int} (hc : c ≠ 0) (e : x = c * y) : y.natAbs ≤ x.natAbs := by
  rw [e, Int.natAbs_mul]
  exact Nat.le_mul_of_pos_left _ (by omega)
theorem two_up {x : Nat} {k : Nat} (h : x < 2 ^ k) (hk : k ≤ 1000) : x < 2 ^ 1000 := Nat.lt_of_lt_of_le h (Nat.pow_le_pow_right (by decide) hk)
theorem whole_t {A S : Int} (hS : S ≠ 0) (hA : A.natAbs < 2 ^ 107) (hs : S.natAbs < 2 ^ 67) : ∃ nu de, gIx (fr A S) (.int 0) = some (.int nu) ∧ gIx (fr A S) (.int 1) = some (.int de) ∧ gMulX (.int S) (.int nu) = some (.int (S * nu)) ∧ ∀ s, callT F_law_frac [.v (.int (S * nu)), .v (.int de)] s = some (.tup [.int A, .int 1], s) := by
  obtain ⟨nu, de, c, h1, h2, h3, h4, h5⟩ := fr_parts (n := A) hS
  obtain ⟨_, h6⟩ := fr_back hS h1
  have b1 : nu.natAbs < 2 ^ 107 := Nat.lt_of_le_of_lt (fdiv_le h2 h3) hA
  have b2 : de.natAbs < 2 ^ 67 := Nat.lt_of_le_of_lt (fdiv_le h2 h4) hs
  refine ⟨nu, de, by rw [h1]; exact gIx_t0, by rw [h1]; exact gIx_t1, gMulX_int (iOk_of_bounds (a := 67) (b := 107) hs b1 (by decide) (by decide) (by decide)), fun s => ?_⟩
  have t := (frac_val (n := S * nu) (d := de) (by omega) (two_up (mul_lt2 hs b1) (by decide)) (two_up b2 (by decide))).t s
  rw [h6] at t
  exact t
section
variable {q n : Nat} {a b : Nat → Int} (hq : 2 ≤ q ∧ q < 10) (hn : n < 13) (ha : ∀ i, i ≤ n → (a i).natAbs < 2 ^ 62) (hb : ∀ i, i ≤ n → (b i).natAbs < 2 ^ 62)
variable {dr x5 x6 x7 x8 x9 x10 x11 x12 x13 x14 x15 x16 x17 x18 : S}
include hq hn ha hb
theorem rt_4 (h1 : sS n a ≠ 0) (h2 : sS n b ≠ 0) (h3 : sS n (fun i => a i + b i) ≠ 0) (hc : ∀ i, i ≤ n → (a i + b i).natAbs < 2 ^ 62) (o6 : okSet (some x6) = true) (o11 : okSet (some x11) = true) (o12 : okSet (some x12) = true) (o13 : okSet (some x13) = true) :
    ∃ y6 y11 y12 y13, okSet (some y6) = true ∧ okSet (some y11) = true ∧ okSet (some y12) = true ∧ okSet (some y13) = true ∧ forF (gNm 6) lb_law_rows_told_4 (rngD 0 (n + 1)) [dr, .val (.int q), .val (.int n), .val (rowD n a), .val (rowD n b), .val (rowD n fun i => a i + b i), x6, .val (.lst [dualD q n a, dualD q n b]), x8, x9, .own [], x11, x12, x13, x14, x15, x16, x17, x18] = some (.nx [dr, .val (.int q), .val (.int n), .val (rowD n a), .val (rowD n b), .val (rowD n fun i => a i + b i), y6, .val (.lst [dualD q n a, dualD q n b]), x8, x9, .own (mp (n + 1) fun j => fr (sA q n (fun i => a i + b i) j) (sS n fun i => a i + b i)), y11, y12, y13, x14, x15, x16, x17, x18]) := by
  obtain ⟨s', e, y6, y11, y12, y13, p6, p11, p12, p13, rfl⟩ := for_inv (g := gNm 6) (body := lb_law_rows_told_4) (fun k ss => ∃ y6 y11 y12 y13, okSet (some y6) = true ∧ okSet (some y11) = true ∧ okSet (some y12) = true ∧ okSet (some y13) = true ∧ ss = [dr, .val (.int q), .val (.int n), .val (rowD n a), .val (rowD n b), .val (rowD n fun i => a i + b i), y6, .val (.lst [dualD q n a, dualD q n b]), x8, x9, .own (mp k fun j => fr (sA q n (fun i => a i + b i) j) (sS n fun i => a i + b i)), y11, y12, y13, x14, x15, x16, x17, x18])
    (rngD 0 (n + 1)) 0 [dr, .val (.int q), .val (.int n), .val (rowD n a), .val (rowD n b), .val (rowD n fun i => a i + b i), x6, .val (.lst [dualD q n a, dualD q n b]), x8, x9, .own [], x11, x12, x13, x14, x15, x16, x17, x18] ⟨x6, x11, x12, x13, o6, o11, o12, o13, rfl⟩ (fun k d ss hd ⟨y6, y11, y12, y13, p6, p11, p12, p13, es⟩ => by
      obtain ⟨hk, rfl⟩ := rng0_at hd
      subst es
      rw [Nat.zero_add]
      refine ⟨[dr, .val (.int q), .val (.int n), .val (rowD n a), .val (rowD n b), .val (rowD n fun i => a i + b i), .val (.int k), .val (.lst [dualD q n a, dualD q n b]), x8, x9, .own (mp k fun j => fr (sA q n (fun i => a i + b i) j) (sS n fun i => a i + b i)), y11, y12, y13, x14, x15, x16, x17, x18], [dr, .val (.int q), .val (.int n), .val (rowD n a), .val (rowD n b), .val (rowD n fun i => a i + b i), .val (.int k), .val (.lst [dualD q n a, dualD q n b]), x8, x9, .own (mp (k + 1) fun j => fr (sA q n (fun i => a i + b i) j) (sS n fun i => a i + b i)), .val (.tup [.int (sA q n a k), .int 1]), .val (.tup [.int (sA q n b k), .int 1]), .val (.tup [.int (sA q n a k + sA q n b k), .int 1]), x14, x15, x16, x17, x18], ?_, ?_, .val (.int k), _, _, _, rfl, okSet_val, okSet_val, okSet_val, rfl⟩
      · clear hq hn ha hb h1 h2 h3 hc hd hk p11 p12 p13 o6 o11 o12 o13
        walk_at "fd"
      · obtain ⟨n1, d1, u1, u2, u3, u4⟩ := whole_t (A := sA q n a k) h1 (sA_small hq hn ha (by omega)) (sS_small hn ha)
        obtain ⟨n2, d2, v1, v2, v3, v4⟩ := whole_t (A := sA q n b k) h2 (sA_small hq hn hb (by omega)) (sS_small hn hb)
        have bA := sA_small hq hn ha (j := k) (by omega)
        have bB := sA_small hq hn hb (j := k) (by omega)
        have up : ∀ {x : Int}, x.natAbs < 2 ^ 107 → x.natAbs < 2 ^ 200 := fun h => Nat.lt_of_lt_of_le h (Nat.pow_le_pow_right (by decide) (by decide))
        have pl := (plus_val (up bA) (up bB)).t
        have bC := sS_small hn hc
        have m3 : gMulX (.int 1) (.int (sS n fun i => a i + b i)) = some (.int (1 * sS n fun i => a i + b i)) := gMulX_int (iOk_of_bounds (a := 1) (b := 67) (by decide) bC (by decide) (by decide) (by decide))
        have f3 := (frac_val (n := sA q n a k + sA q n b k) (d := 1 * sS n fun i => a i + b i) (by rw [Int.one_mul]; exact h3) (two_up (k := 108) (by
          rw [show 2 ^ 108 = 2 ^ 107 + 2 ^ 107 by decide +kernel]
          exact Nat.lt_of_le_of_lt (Int.natAbs_add_le _ _) (Nat.add_lt_add bA bB)) (by decide)) (by
          rw [Int.one_mul]
          exact two_up bC (by decide))).t
        rw [show fr (sA q n a k + sA q n b k) (1 * sS n fun i => a i + b i) = fr (sA q n (fun i => a i + b i) k) (sS n fun i => a i + b i) by rw [Int.one_mul, sA_add]] at f3
        have g0 := @gIx_l0 (dualD q n a) [dualD q n b]
        have g1 := @gIx_l1 (dualD q n a) (dualD q n b) []
        have g2 : gIx (dualD q n a) (.int k) = some (fr (sA q n a k) (sS n a)) := gIx_tup (mp_get (f := fun j => fr (sA q n a j) (sS n a)) hk)
        have g3 : gIx (dualD q n b) (.int k) = some (fr (sA q n b k) (sS n b)) := gIx_tup (mp_get (f := fun j => fr (sA q n b j) (sS n b)) hk)
        have g4 := @gIx_t0 (.int (sA q n a k + sA q n b k)) [.int 1]
        have g5 := @gIx_t1 (.int (sA q n a k + sA q n b k)) (.int 1) []
        have w1 : gvSum (.tup (mp (n + 1) fun i => .int (a i))) = some (.int (sS n a)) := gvSum_mp rfl
        have w2 : gvSum (.tup (mp (n + 1) fun i => .int (b i))) = some (.int (sS n b)) := gvSum_mp rfl
        have w3 : gvSum (.tup (mp (n + 1) fun i => .int (a i + b i))) = some (.int (sS n fun i => a i + b i)) := gvSum_mp rfl
        have s1 : (k < sizeLine) = True := eq_true (by rw [PySem.sizeLine_eq]; omega)
        have e9 : (mp (k + 1) fun j => fr (sA q n (fun i => a i + b i) j) (sS n fun i => a i + b i)) = (mp k fun j => fr (sA q n (fun i => a i + b i) j) (sS n fun i => a i + b i)) ++ [fr (sA q n (fun i => a i + b i) k) (sS n fun i => a i + b i)] := mp_succ
        simp only [List.map_cons, List.map_nil] at pl f3
        clear hq hn ha hb h1 h2 h3 hc hd hk p6 o6 o11 o12 o13 bA bB bC up
        unfold rowD
        generalize (sS n fun i => a i + b i) = SC at *
        generalize sS n a = SA at *
        generalize sS n b = SB at *
        generalize fr (sA q n a k) SA = FA at *
        generalize fr (sA q n b k) SB = FB at *
        unfold lb_law_rows_told_4
        walk_at "fd")
  rw [rngD_length, Nat.zero_add] at e
  exact ⟨y6, y11, y12, y13, p6, p11, p12, p13, e⟩
omit hb in
theorem rt_5 {b : Nat → Int} (h1 : sS n a ≠ 0) : cLc (iVal (cIxA 7 (cC (.int 0)))) (gNm 15) cYes le_law_rows_told_5 [15] [dr, .val (.int q), .val (.int n), .val (rowD n a), .val (rowD n b), x5, x6, .val (.lst [dualD q n a, dualD q n b]), x8, x9, x10, x11, x12, x13, x14, .off, x16, x17, x18] =
    some (mp (n + 1) fun i => .int (sA q n a i), [dr, .val (.int q), .val (.int n), .val (rowD n a), .val (rowD n b), x5, x6, .val (.lst [dualD q n a, dualD q n b]), x8, x9, x10, x11, x12, x13, x14, .off, x16, x17, x18]) := by
  refine lc_val (ds := mp (n + 1) fun j => fr (sA q n a j) (sS n a)) _ ?_ mp_length rfl (fun i d hi hd => ?_) (by omega) rfl
  · have g0 : gIx (.lst [dualD q n a, dualD q n b]) (.int 0) = some (.tup (mp (n + 1) fun j => fr (sA q n a j) (sS n a))) := gIx_l0
    clear hq hn ha h1
    walk_at "fd"
  · obtain ⟨_, rfl⟩ := mp_get_inv hd
    refine ⟨[dr, .val (.int q), .val (.int n), .val (rowD n a), .val (rowD n b), x5, x6, .val (.lst [dualD q n a, dualD q n b]), x8, x9, x10, x11, x12, x13, x14, .val (fr (sA q n a i) (sS n a)), x16, x17, x18], [dr, .val (.int q), .val (.int n), .val (rowD n a), .val (rowD n b), x5, x6, .val (.lst [dualD q n a, dualD q n b]), x8, x9, x10, x11, x12, x13, x14, .val (fr (sA q n a i) (sS n a)), x16, x17, x18], rfl, ?_, rfl, rfl⟩
    obtain ⟨n1, d1, u1, u2, u3, u4⟩ := whole_t (A := sA q n a i) h1 (sA_small hq hn ha (by omega)) (sS_small hn ha)
    have w1 : gvSum (.tup (mp (n + 1) fun i => .int (a i))) = some (.int (sS n a)) := gvSum_mp rfl
    have g4 := @gIx_t0 (.int (sA q n a i)) [.int 1]
    have ef : fr (sA q n a i) (sS n a) = .tup [.int ((sA q n a i).fdiv (sg (sA q n a i) (sS n a))), .int ((sS n a).fdiv (sg (sA q n a i) (sS n a)))] := rfl
    rw [ef] at u1 u2 ⊢
    clear hq hn ha h1 hd hi ef
    unfold rowD
    generalize sS n a = SA at *
    unfold le_law_rows_told_5
    walk_at "fd"
omit hb in
theorem rt_7 {b : Nat → Int} (hc : ∀ i, i ≤ n → (sA q n a i).natAbs < 2 ^ 62) (h2 : sS n (sA q n a) ≠ 0) : cLc (iVal (cVar 3)) (gNm 9) cYes le_law_rows_told_7 [9] [dr, .val (.int q), .val (.int n), .val (rowD n a), .val (rowD n b), x5, x6, x7, x8, .off, x10, x11, x12, x13, .val (.lst (mp (n + 1) fun i => .int (sA q n a i))), x15, x16, x17, x18] =
    some (mp (n + 1) fun j => fr (sA q n (sA q n a) j) (sS n (sA q n a)), [dr, .val (.int q), .val (.int n), .val (rowD n a), .val (rowD n b), x5, x6, x7, x8, .off, x10, x11, x12, x13, .val (.lst (mp (n + 1) fun i => .int (sA q n a i))), x15, x16, x17, x18]) := by
  refine lc_val (ds := mp (n + 1) fun j => .int (a j)) _ ?_ mp_length rfl (fun i d hi hd => ?_) (by omega) rfl
  · clear hq hn ha hc h2
    unfold rowD
    walk_at "fd"
  · obtain ⟨_, rfl⟩ := mp_get_inv hd
    refine ⟨[dr, .val (.int q), .val (.int n), .val (rowD n a), .val (rowD n b), x5, x6, x7, x8, .val (.int (a i)), x10, x11, x12, x13, .val (.lst (mp (n + 1) fun i => .int (sA q n a i))), x15, x16, x17, x18], [dr, .val (.int q), .val (.int n), .val (rowD n a), .val (rowD n b), x5, x6, x7, x8, .val (.int (a i)), x10, x11, x12, x13, .val (.lst (mp (n + 1) fun i => .int (sA q n a i))), x15, x16, x17, x18], rfl, ?_, rfl, rfl⟩
    have pw := pow_small ⟨q, hq.2⟩ ⟨n, hn⟩
    have t2 := lpow_t (a := q) (n := n) (by omega) (by omega)
    have m1 : gMulX (.int (a i)) (.int ((q : Int) ^ n)) = some (.int (a i * (q : Int) ^ n)) := gMulX_int (iOk_of_bounds (a := 62) (b := 40) (ha i (by omega)) pw (by decide) (by decide) (by decide))
    have f := (frac_val (n := a i * (q : Int) ^ n) h2 (two_up (mul_lt2 (a := 62) (b := 40) (ha i (by omega)) pw) (by decide)) (two_up (sS_small hn hc) (by decide))).t
    rw [sA_back hq hn (by omega)]
    simp only [List.map_cons, List.map_nil] at f
    have w1 : gvSum (.lst (mp (n + 1) fun i => .int (sA q n a i))) = some (.int (sS n (sA q n a))) := gvSum_mp rfl
    clear hq hn ha hc h2 hd hi pw
    unfold le_law_rows_told_7
    walk_at "fd"
end
theorem range2_1 {f : SE} {ss : List S} {n : Nat} (h : f ss = some (.int ((n : Int) + 1), ss)) (hn : n < 1000000) : iRange2 (cC (.int 1)) f ss = some (rngD 1 n, ss) := by
  unfold iRange2
  rw [cC_ap, Option.bind_some, h]
  show (if (rLine 1 && rLine ((n : Int) + 1)) = true then some (rngD 1 ((n : Int) + 1 - 1).toNat, ss) else none) = _
  rw [rLine_of (i := 1) (by decide) (by decide), rLine_of (i := (n : Int) + 1) (by omega) (by omega), Bool.and_self, if_pos rfl, show ((n : Int) + 1 - 1).toNat = n by omega]
section
variable {q n : Nat} {a b c : Nat → Int} (hn : n < 13) (hc : ∀ i, i ≤ n → (c i).natAbs < 2 ^ 62)
variable {dr x5 x6 x7 x8 x9 x10 x11 x12 x13 x14 x15 x16 x17 x18 : S}
include hn hc
omit hc in
theorem rt_8 : cLc (iRange2 (cC (.int 1)) (cBin gAddX (cVar 2) (cC (.int 1)))) (gNm 18) lt_law_rows_told_9 le_law_rows_told_8 [18] [dr, .val (.int q), .val (.int n), .val (rowD n a), .val (rowD n b), x5, x6, x7, .val (rowD n c), x9, x10, x11, x12, x13, x14, x15, x16, x17, .off] = some (wD n c, [dr, .val (.int q), .val (.int n), .val (rowD n a), .val (rowD n b), x5, x6, x7, .val (rowD n c), x9, x10, x11, x12, x13, x14, x15, x16, x17, .off]) := by
  rw [wD_tail]
  refine lc_flt (m := n) (ds := rngD 1 n) (fun i => !decide (c (i + 1) = 0)) (fun i : Nat => D.int (1 + (i : Int))) ?_ (rngD_length n 1) rfl [dr, .val (.int q), .val (.int n), .val (rowD n a), .val (rowD n b), x5, x6, x7, .val (rowD n c), x9, x10, x11, x12, x13, x14, x15, x16, x17, .off] rfl (fun i d hi hd => ?_) (by omega) rfl
  · refine range2_1 ?_ (by omega)
    clear hn
    walk_at "fd"
  · obtain ⟨_, rfl⟩ := rngD_at hd
    refine ⟨[dr, .val (.int q), .val (.int n), .val (rowD n a), .val (rowD n b), x5, x6, x7, .val (rowD n c), x9, x10, x11, x12, x13, x14, x15, x16, x17, .val (.int (1 + (i : Int)))], rfl, ?_, fun _ => ?_, rfl, rfl⟩
    · have i1 : gIx (rowD n c) (.int (1 + (i : Int))) = some (.int (c (i + 1))) := by
        rw [show 1 + (i : Int) = ((i + 1 : Nat) : Int) by omega]
        exact gIx_tup (mp_get (f := fun i => D.int (c i)) (by omega))
      clear hn hi hd
      unfold lt_law_rows_told_9
      walk_at "fd"
    · clear hn hi hd
      unfold le_law_rows_told_8
      walk_at "fd"
theorem rt_10 : lb_law_rows_told_10 [dr, .val (.int q), .val (.int n), .val (rowD n a), .val (rowD n b), x5, x6, x7, .val (rowD n c), x9, x10, x11, x12, x13, x14, x15, x16, x17, .off] = some (.nx [dr, .val (.int q), .val (.int n), .val (rowD n a), .val (rowD n b), x5, x6, x7, .val (rowD n c), x9, x10, x11, x12, x13, x14, x15, x16, x17, .off]) := by
  have z1 := (zs_val hn hc).t
  have z2 := (ds_val hn hc).t
  have z3 : ∀ s, callT F_law_sums_of [.v (.int n), .v (rowD n c), .v (.int 0)] s = some (.tup (mp (n + 1) fun s => .int (zS n c s)), s) := (so_val hn hc false).t
  have z4 : ∀ s, callT F_law_sums_of [.v (.int n), .v (rowD n c), .v (.int 1)] s = some (.tup (mp (n + 1) fun s => .int (zS n c (n - s))), s) := (so_val hn hc true).t
  have wi := (wi_val (a := c) hn).t
  have w8 := rt_8 hn (q := q) (a := a) (b := b) (c := c) (dr := dr) (x5 := x5) (x6 := x6) (x7 := x7) (x9 := x9) (x10 := x10) (x11 := x11) (x12 := x12) (x13 := x13) (x14 := x14) (x15 := x15) (x16 := x16) (x17 := x17)
  have p1 := same_t (d := .lst [.tup (mp (n + 1) fun s => .int (zS n c s)), .tup (mp (n + 1) fun s => .int (zS n c (n - s)))]) ((plain_list (k := 4) (by simp) fun x hx => by
    rcases List.mem_cons.mp hx with rfl | hx
    · exact (plain_mp (k := 3) (by omega) fun _ _ => rfl).1
    · rw [List.mem_singleton.mp hx]
      exact (plain_mp (k := 3) (by omega) fun _ _ => rfl).1).2)
  have p2 := same_t (d := .tup (wD n c)) (wD_plain hn)
  have s3 : ∀ x y : D, ([x, y].length ≤ sizeLine) = True := fun _ _ => eq_true two_le
  simp only [List.map_cons, List.map_nil] at z1 z2 wi
  clear hn hc
  unfold lb_law_rows_told_10
  walk_at "fd"
end
theorem seq_mid {P R : SS} {s : List S} {d : D} {l0 : List D} {Q : List S → Prop} (h : ∃ s1, P s = some (.nx s1) ∧ Q s1) (k : ∀ s1, Q s1 → ∃ sf, R s1 = some (.rt d (.io l0 :: sf)) ∧ 2 ≤ sf.length) : ∃ sf, sSeq P R s = some (.rt d (.io l0 :: sf)) ∧ 2 ≤ sf.length := by
  obtain ⟨s1, e, q⟩ := h
  rw [seq_nx e]
  exact k s1 q
theorem gIn3 {x y z : Int} : gIn (.int 0) (.lst [.int x, .int y, .int z]) = some (decide (x = 0) || (decide (y = 0) || (decide (z = 0) || false))) := by
  unfold gIn
  rw [itemsD_lst, Option.bind_some, if_pos ⟨rfl, rfl⟩]
  rfl
theorem rows_go {q n : Nat} {a b : Nat → Int} (hq : 2 ≤ q ∧ q < 10) (hn : n < 13) (ha : ∀ i, i ≤ n → (a i).natAbs < 2 ^ 62) (hb : ∀ i, i ≤ n → (b i).natAbs < 2 ^ 62) {dr d1 d2 : List D}
    (ca : ∀ s i, ownL s[i]? = some dr → callT F_law_row [.io i, .v (.int q), .v (.int n)] s = some (rowD n a, putL s i d1)) (cb : ∀ s i, ownL s[i]? = some d1 → callT F_law_row [.io i, .v (.int q), .v (.int n)] s = some (rowD n b, putL s i d2)) :
    ∃ sf, F_law_rows_told (.io dr :: [D.int q, .int n].map S.val) = some (.rt (.bl true) (.io d2 :: sf)) ∧ 2 ≤ sf.length := by
  unfold F_law_rows_told b_law_rows_told
  simp only [List.map_cons, List.map_nil, fnF_ap, List.replicate_succ, List.replicate_zero, List.cons_append, List.nil_append]
  have k1 := ca [.io dr, .val (.int q), .val (.int n), .off, .off, .off, .off, .off, .off, .off, .off, .off, .off, .off, .off, .off, .off, .off, .off] 0 rfl
  have k2 := cb [.io d1, .val (.int q), .val (.int n), .val (rowD n a), .off, .off, .off, .off, .off, .off, .off, .off, .off, .off, .off, .off, .off, .off, .off] 0 rfl
  rw [seq_nx (s1 := [.io d1, .val (.int q), .val (.int n), .val (rowD n a), .off, .off, .off, .off, .off, .off, .off, .off, .off, .off, .off, .off, .off, .off, .off]) (by
    clear k2 cb ca ha hb hq hn
    walk_at "fd")]
  rw [seq_nx (s1 := [.io d2, .val (.int q), .val (.int n), .val (rowD n a), .val (rowD n b), .off, .off, .off, .off, .off, .off, .off, .off, .off, .off, .off, .off, .off, .off]) (by
    clear k1 cb ca ha hb hq hn
    walk_at "fd")]
  rw [seq_nx (s1 := [.io d2, .val (.int q), .val (.int n), .val (rowD n a), .val (rowD n b), .val (rowD n fun i => a i + b i), .off, .off, .off, .off, .off, .off, .off, .off, .off, .off, .off, .off, .off]) (by
    have t := rt_1 (q := q) (n := n) (a := a) (b := b) hn (dr := .io d2) (x5 := .off) (x7 := .off) (x8 := .off) (x9 := .off) (x10 := .off) (x11 := .off) (x12 := .off) (x13 := .off) (x14 := .off) (x15 := .off) (x16 := .off) (x17 := .off) (x18 := .off)
    have er : rowD n (fun i => a i + b i) = .tup (mp (n + 1) fun i => .int (a i + b i)) := rfl
    rw [er]
    clear k1 k2 cb ca ha hb hq hn er
    walk_at "fd")]
  have w1 : gvSum (.tup (mp (n + 1) fun i => .int (a i))) = some (.int (sS n a)) := gvSum_mp rfl
  have w2 : gvSum (.tup (mp (n + 1) fun i => .int (b i))) = some (.int (sS n b)) := gvSum_mp rfl
  have w3 : gvSum (.tup (mp (n + 1) fun i => .int (a i + b i))) = some (.int (sS n fun i => a i + b i)) := gvSum_mp rfl
  have gi := gIn3 (x := sS n a) (y := sS n b) (z := sS n fun i => a i + b i)
  have s3 : ∀ x y z : D, ([x, y, z].length ≤ sizeLine) = True := fun _ _ _ => eq_true (by rw [PySem.sizeLine_eq]; simp)
  by_cases h0 : (decide (sS n a = 0) || (decide (sS n b = 0) || (decide ((sS n fun i => a i + b i) = 0) || false))) = true
  · rw [seq_rt (s1 := [.io d2, .val (.int q), .val (.int n), .val (rowD n a), .val (rowD n b), .val (rowD n fun i => a i + b i), .off, .off, .off, .off, .off, .off, .off, .off, .off, .off, .off, .off, .off]) (d := .bl true) (by
      rw [h0] at gi
      generalize (sS n fun i => a i + b i) = SC at *
      generalize sS n a = SA at *
      generalize sS n b = SB at *
      clear h0 k1 k2 cb ca ha hb hq hn
      unfold rowD
      walk_at "fd")]
    exact ⟨_, rfl, by simp⟩
  rw [seq_nx (s1 := [.io d2, .val (.int q), .val (.int n), .val (rowD n a), .val (rowD n b), .val (rowD n fun i => a i + b i), .off, .off, .off, .off, .off, .off, .off, .off, .off, .off, .off, .off, .off]) (by
    rw [Bool.not_eq_true] at h0
    rw [h0] at gi
    generalize (sS n fun i => a i + b i) = SC at *
    generalize sS n a = SA at *
    generalize sS n b = SB at *
    clear h0 k1 k2 cb ca ha hb hq hn
    unfold rowD
    walk_at "fd")]
  clear gi w1 w2 w3 s3 k1 k2 ca cb
  simp only [Bool.or_false, Bool.or_eq_true, decide_eq_true_eq, not_or] at h0
  obtain ⟨h1, h2, h3⟩ := h0
  rw [seq_nx (s1 := [.io d2, .val (.int q), .val (.int n), .val (rowD n a), .val (rowD n b), .val (rowD n fun i => a i + b i), .off, .val (.lst [dualD q n a, dualD q n b]), .off, .off, .off, .off, .off, .off, .off, .off, .off, .off, .off]) (by
    have t := rt_2 hq hn ha hb h1 h2 (dr := .io d2) (x5 := .val (rowD n fun i => a i + b i)) (x6 := .off) (x7 := .off) (x9 := .off) (x10 := .off) (x11 := .off) (x12 := .off) (x13 := .off) (x14 := .off) (x15 := .off) (x16 := .off) (x17 := .off) (x18 := .off)
    clear ha hb hq hn h1 h2 h3
    walk_at "fd")]
  rw [seq_nx (s1 := [.io d2, .val (.int q), .val (.int n), .val (rowD n a), .val (rowD n b), .val (rowD n fun i => a i + b i), .off, .val (.lst [dualD q n a, dualD q n b]), .off, .off, .off, .off, .off, .off, .off, .off, .off, .off, .off]) (by
    have t1 := (cod_val hq hn ha h1).t
    have t2 := (cod_val hq hn hb h2).t
    have p := same_t (d := .lst [dualD q n a, dualD q n b]) ((plain_list (k := 4) (by simp) fun x hx => by
      rcases List.mem_cons.mp hx with rfl | hx
      · exact dual_plain (k := 2) hn
      · rw [List.mem_singleton.mp hx]
        exact dual_plain (k := 2) hn).2)
    have s2 : ∀ x y : D, ([x, y].length ≤ sizeLine) = True := fun _ _ => eq_true two_le
    simp only [List.map_cons, List.map_nil] at t1 t2
    clear ha hb hq hn h1 h2 h3
    walk_at "fd")]
  refine seq_mid (Q := fun s1 => ∃ y6 y10 y11 y12 y13, s1 = [.io d2, .val (.int q), .val (.int n), .val (rowD n a), .val (rowD n b), .val (rowD n fun i => a i + b i), y6, .val (.lst [dualD q n a, dualD q n b]), .off, .off, y10, y11, y12, y13, .off, .off, .off, .off, .off]) ?_ ?_
  · have t := rt_3 (q := q) (n := n) (a := a) (b := b) hn (c := fun i => a i + b i) (dr := .io d2) (x6 := .off) (x7 := .val (.lst [dualD q n a, dualD q n b])) (x8 := .off) (x10 := .off) (x11 := .off) (x12 := .off) (x13 := .off) (x14 := .off) (x15 := .off) (x16 := .off) (x17 := .off) (x18 := .off)
    obtain ⟨M, m1, m2⟩ := max_ap (n := n) (f := fun i => a i + b i)
    by_cases hM : M ≤ 100000
    · have hc : ∀ i, i ≤ n → (a i + b i).natAbs < 2 ^ 62 := fun i hi => by
        have := m2 i hi
        omega
      obtain ⟨z6, z11, z12, z13, p6, p11, p12, p13, e⟩ := rt_4 hq hn ha hb (dr := .io d2) (x6 := .off) (x8 := .off) (x9 := .off) (x11 := .off) (x12 := .off) (x13 := .off) (x14 := .off) (x15 := .off) (x16 := .off) (x17 := .off) (x18 := .off) h1 h2 h3 hc rfl rfl rfl rfl
      refine ⟨_, ?_, z6, .own (mp (n + 1) fun j => fr (sA q n (fun i => a i + b i) j) (sS n fun i => a i + b i)), z11, z12, z13, rfl⟩
      have tM : decide (M ≤ 100000) = true := decide_eq_true hM
      have tc := (cod_val hq hn hc h3).t
      have p := same_t (d := dualD q n fun i => a i + b i) (dual_plain (k := 3) hn)
      have ed : (dualD q n fun i => a i + b i) = .tup (mp (n + 1) fun j => fr (sA q n (fun i => a i + b i) j) (sS n fun i => a i + b i)) := rfl
      rw [ed] at tc p
      have hr := rng_n1 hn
      have hcl : cLst cNil = fun ss : List S => some (([] : List D), ss) := by funext ss; rfl
      simp only [List.map_cons, List.map_nil] at tc
      clear ha hb hq hn h1 h2 h3 hc m2 hM p6 p11 p12 p13 ed
      walk_at "fd"
    · refine ⟨_, ?_, .off, .off, .off, .off, .off, rfl⟩
      have tM : decide (M ≤ 100000) = false := decide_eq_false hM
      clear ha hb hq hn h1 h2 h3 m2 hM
      walk_at "fd"
  rintro _ ⟨y6, y10, y11, y12, y13, rfl⟩
  rw [seq_nx (s1 := [.io d2, .val (.int q), .val (.int n), .val (rowD n a), .val (rowD n b), .val (rowD n fun i => a i + b i), y6, .val (.lst [dualD q n a, dualD q n b]), .off, .off, y10, y11, y12, y13, .val (.lst (mp (n + 1) fun i => .int (sA q n a i))), .off, .off, .off, .off]) (by
    have t := rt_5 hq hn ha (b := b) h1 (dr := .io d2) (x5 := .val (rowD n fun i => a i + b i)) (x6 := y6) (x8 := .off) (x9 := .off) (x10 := y10) (x11 := y11) (x12 := y12) (x13 := y13) (x14 := .off) (x16 := .off) (x17 := .off) (x18 := .off)
    clear ha hb hq hn h1 h2 h3
    walk_at "fd")]
  refine seq_mid (Q := fun s1 => ∃ y16 y17, s1 = [.io d2, .val (.int q), .val (.int n), .val (rowD n a), .val (rowD n b), .val (rowD n fun i => a i + b i), y6, .val (.lst [dualD q n a, dualD q n b]), .off, .off, y10, y11, y12, y13, .val (.lst (mp (n + 1) fun i => .int (sA q n a i))), .off, y16, y17, .off]) ?_ ?_
  · have t := rt_6 (q := q) (n := n) (a := a) (b := b) hn (c := sA q n a) (dr := .io d2) (x5 := .val (rowD n fun i => a i + b i)) (x6 := y6) (x7 := .val (.lst [dualD q n a, dualD q n b])) (x8 := .off) (x10 := y10) (x11 := y11) (x12 := y12) (x13 := y13) (x15 := .off) (x16 := .off) (x17 := .off) (x18 := .off)
    obtain ⟨M, m1, m2⟩ := max_ap (n := n) (f := sA q n a)
    have w1 : gvSum (.lst (mp (n + 1) fun i => .int (sA q n a i))) = some (.int (sS n (sA q n a))) := gvSum_mp rfl
    by_cases hM : M ≤ 100000
    · have tM : decide (M ≤ 100000) = true := decide_eq_true hM
      by_cases h4 : sS n (sA q n a) = 0
      · refine ⟨_, ?_, .off, .off, rfl⟩
        have t4 : decide (sS n (sA q n a) = 0) = true := decide_eq_true h4
        generalize sS n (sA q n a) = SW at *
        clear ha hb hq hn h1 h2 h3 m2 hM h4
        walk_at "fd"
      · have hc : ∀ i, i ≤ n → (sA q n a i).natAbs < 2 ^ 62 := fun i hi => by
          have := m2 i hi
          omega
        refine ⟨_, ?_, .val (dualD q n (sA q n a)), .val (dualD q n (sA q n a)), rfl⟩
        have t4 : decide (sS n (sA q n a) = 0) = false := decide_eq_false h4
        have tc := (cod_val hq hn hc h4).t
        have p := same_t (d := dualD q n (sA q n a)) (dual_plain (k := 3) hn)
        have t7 := fun x16 => rt_7 hq hn ha (b := b) hc h4 (dr := .io d2) (x5 := .val (rowD n fun i => a i + b i)) (x6 := y6) (x7 := .val (.lst [dualD q n a, dualD q n b])) (x8 := .off) (x10 := y10) (x11 := y11) (x12 := y12) (x13 := y13) (x15 := .off) (x16 := x16) (x17 := .off) (x18 := .off)
        have ed : dualD q n (sA q n a) = .tup (mp (n + 1) fun j => fr (sA q n (sA q n a) j) (sS n (sA q n a))) := rfl
        rw [ed] at tc p ⊢
        have er : rowD n (sA q n a) = .tup (mp (n + 1) fun i => .int (sA q n a i)) := rfl
        rw [er] at tc
        simp only [List.map_cons, List.map_nil] at tc
        generalize sS n (sA q n a) = SW at *
        clear ha hb hq hn h1 h2 h3 hc m2 hM h4 ed er
        walk_at "fd"
    · refine ⟨_, ?_, .off, .off, rfl⟩
      have tM : decide (M ≤ 100000) = false := decide_eq_false hM
      clear ha hb hq hn h1 h2 h3 m2 hM
      walk_at "fd"
  rintro _ ⟨y16, y17, rfl⟩
  rw [seq_nx (s1 := [.io d2, .val (.int q), .val (.int n), .val (rowD n a), .val (rowD n b), .val (rowD n fun i => a i + b i), y6, .val (.lst [dualD q n a, dualD q n b]), .val (rowD n b), .off, y10, y11, y12, y13, .val (.lst (mp (n + 1) fun i => .int (sA q n a i))), .off, y16, y17, .off]) (by
    have r1 := rt_10 hn ha (q := q) (a := a) (b := b) (c := a) (dr := .io d2) (x5 := .val (rowD n fun i => a i + b i)) (x6 := y6) (x7 := .val (.lst [dualD q n a, dualD q n b])) (x9 := .off) (x10 := y10) (x11 := y11) (x12 := y12) (x13 := y13) (x14 := .val (.lst (mp (n + 1) fun i => .int (sA q n a i)))) (x15 := .off) (x16 := y16) (x17 := y17)
    have r2 := rt_10 hn hb (q := q) (a := a) (b := b) (c := b) (dr := .io d2) (x5 := .val (rowD n fun i => a i + b i)) (x6 := y6) (x7 := .val (.lst [dualD q n a, dualD q n b])) (x9 := .off) (x10 := y10) (x11 := y11) (x12 := y12) (x13 := y13) (x14 := .val (.lst (mp (n + 1) fun i => .int (sA q n a i)))) (x15 := .off) (x16 := y16) (x17 := y17)
    have s2 : ∀ x y : D, ([x, y].length ≤ sizeLine) = True := fun _ _ => eq_true two_le
    have ff : forF (gNm 8) lb_law_rows_told_10 [rowD n a, rowD n b] [.io d2, .val (.int q), .val (.int n), .val (rowD n a), .val (rowD n b), .val (rowD n fun i => a i + b i), y6, .val (.lst [dualD q n a, dualD q n b]), .off, .off, y10, y11, y12, y13, .val (.lst (mp (n + 1) fun i => .int (sA q n a i))), .off, y16, y17, .off] = some (.nx [.io d2, .val (.int q), .val (.int n), .val (rowD n a), .val (rowD n b), .val (rowD n fun i => a i + b i), y6, .val (.lst [dualD q n a, dualD q n b]), .val (rowD n b), .off, y10, y11, y12, y13, .val (.lst (mp (n + 1) fun i => .int (sA q n a i))), .off, y16, y17, .off]) := by
      have g1 : gNm 8 (rowD n a) [.io d2, .val (.int q), .val (.int n), .val (rowD n a), .val (rowD n b), .val (rowD n fun i => a i + b i), y6, .val (.lst [dualD q n a, dualD q n b]), .off, .off, y10, y11, y12, y13, .val (.lst (mp (n + 1) fun i => .int (sA q n a i))), .off, y16, y17, .off] = some [.io d2, .val (.int q), .val (.int n), .val (rowD n a), .val (rowD n b), .val (rowD n fun i => a i + b i), y6, .val (.lst [dualD q n a, dualD q n b]), .val (rowD n a), .off, y10, y11, y12, y13, .val (.lst (mp (n + 1) fun i => .int (sA q n a i))), .off, y16, y17, .off] := rfl
      have g2 : gNm 8 (rowD n b) [.io d2, .val (.int q), .val (.int n), .val (rowD n a), .val (rowD n b), .val (rowD n fun i => a i + b i), y6, .val (.lst [dualD q n a, dualD q n b]), .val (rowD n a), .off, y10, y11, y12, y13, .val (.lst (mp (n + 1) fun i => .int (sA q n a i))), .off, y16, y17, .off] = some [.io d2, .val (.int q), .val (.int n), .val (rowD n a), .val (rowD n b), .val (rowD n fun i => a i + b i), y6, .val (.lst [dualD q n a, dualD q n b]), .val (rowD n b), .off, y10, y11, y12, y13, .val (.lst (mp (n + 1) fun i => .int (sA q n a i))), .off, y16, y17, .off] := rfl
      unfold forF
      rw [g1, Option.bind_some, r1, Option.bind_some]
      dsimp only
      unfold forF
      rw [g2, Option.bind_some, r2, Option.bind_some]
      dsimp only
      unfold forF
      rfl
    clear r1 r2 ha hb hq hn h1 h2 h3
    walk_at "fd")]
  exact ⟨_, rfl, by simp⟩
theorem rows_val {q n : Nat} (hq : 2 ≤ q ∧ q < 10) (hn : n < 13) (hn1 : 1 ≤ n) {dr : List D} (hd : Ints dr) : ∃ dr', Ints dr' ∧ Val1 F_law_rows_told dr [.int q, .int n] (.bl true) dr' := by
  obtain ⟨a, d1, i1, ha, va⟩ := row_t hq hn hn1 hd
  obtain ⟨b, d2, i2, hb, vb⟩ := row_t hq hn hn1 i1
  exact ⟨d2, i2, rows_go hq hn ha hb (fun s i h => va.t s i h) (fun s i h => vb.t s i h)⟩
/-! the law -/
theorem law_in {q n : Nat} {x0 x4 : S} (hq : 2 ≤ q ∧ q < 10) (hn : n < 13) (hn1 : 1 ≤ n) (o4 : okSet (some x4) = true) : ∀ (ds dr : List D), Ints dr → ∃ dr' y4, Ints dr' ∧ okSet (some y4) = true ∧ forF (gNm 4) lb_law_1 ds [x0, .own dr, .val (.int q), .val (.int n), x4] = some (.nx [x0, .own dr', .val (.int q), .val (.int n), y4])
  | [], dr, hd => ⟨dr, x4, hd, o4, rfl⟩
  | d :: ds, dr, hd => by
    obtain ⟨d1, i1, v⟩ := rows_val hq hn hn1 hd
    have c := v.t [x0, .own dr, .val (.int q), .val (.int n), .val d] 1 rfl
    have t : lb_law_1 [x0, .own dr, .val (.int q), .val (.int n), .val d] = some (.nx [x0, .own d1, .val (.int q), .val (.int n), .val d]) := by
      simp only [List.map_cons, List.map_nil] at c
      clear hq hn hn1 v i1 hd o4
      unfold lb_law_1
      walk_at "fd"
    have g : gNm 4 d [x0, .own dr, .val (.int q), .val (.int n), x4] = some [x0, .own dr, .val (.int q), .val (.int n), .val d] := by
      clear c t hq hn hn1 v i1 hd
      walk_at "fd"
    obtain ⟨d2, y4, i2, p4, e⟩ := law_in (x0 := x0) hq hn hn1 (x4 := .val d) rfl ds d1 i1
    refine ⟨d2, y4, i2, p4, ?_⟩
    unfold forF
    rw [g, Option.bind_some, t, Option.bind_some]
    exact e
theorem law_out {x0 : S} : ∀ (ds dr : List D) (x2 x3 x4 : S), (∀ d ∈ ds, ∃ q : Nat, d = .int q ∧ 2 ≤ q ∧ q < 10) → okSet (some x2) = true → okSet (some x3) = true → okSet (some x4) = true → Ints dr →
    ∃ dr' y2 y3 y4, forF (gNm 2) lb_law_2 ds [x0, .own dr, x2, x3, x4] = some (.nx [x0, .own dr', y2, y3, y4])
  | [], dr, x2, x3, x4, _, _, _, _, _ => ⟨dr, x2, x3, x4, rfl⟩
  | d :: ds, dr, x2, x3, x4, h, o2, o3, o4, hd => by
    obtain ⟨q, rfl, hq⟩ := h d List.mem_cons_self
    obtain ⟨t, d1, b1, b2, i1, ct⟩ := take_t hd (many := 12) (by decide)
    obtain ⟨k, rfl⟩ : ∃ j : Nat, t = j := ⟨t.toNat, by omega⟩
    have hn : k + 1 < 13 := by omega
    obtain ⟨d2, i2, v2⟩ := spreads_val hq hn i1
    obtain ⟨d3, y4, i3, p4, e3⟩ := law_in (x0 := x0) hq hn (by omega) o4 (rngD 0 3) d2 i2
    have c1 := ct [x0, .own dr, .val (.int q), x3, x4] 1 rfl
    have c2 := v2.t [x0, .own d1, .val (.int q), .val (.int ((k + 1 : Nat) : Int)), x4] 1 rfl
    have en : ((k + 1 : Nat) : Int) = 1 + (k : Int) := by omega
    simp only [List.map_cons, List.map_nil] at c2
    rw [en] at c2 e3
    have hr : ∀ ss : List S, iRange1 (cC (.int 3)) ss = some (rngD 0 3, ss) := fun ss => range1_of (n := 3) (by walk_at "fd"; rfl) (by decide)
    have tt : lb_law_2 [x0, .own dr, .val (.int q), x3, x4] = some (.nx [x0, .own d3, .val (.int q), .val (.int (1 + (k : Int))), y4]) := by
      clear en v2 i1 i2 i3 hd o4 o2 p4 ct b1 b2 hq hn h
      unfold lb_law_2
      walk_at "fd"
    have g : gNm 2 (.int q) [x0, .own dr, x2, x3, x4] = some [x0, .own dr, .val (.int q), x3, x4] := by
      clear tt c1 c2 e3 en v2 i1 i2 i3 hd o4 o3 p4 ct b1 b2 hq hn h hr
      walk_at "fd"
    obtain ⟨d4, z2, z3, z4, e⟩ := law_out (x0 := x0) ds d3 (.val (.int q)) (.val (.int (1 + (k : Int)))) y4 (fun e he => h e (List.mem_cons_of_mem _ he)) rfl rfl p4 i3
    refine ⟨d4, z2, z3, z4, ?_⟩
    unfold forF
    rw [g, Option.bind_some, tt, Option.bind_some]
    exact e
theorem law_true (ns : List Int) (hns : ns.length ≤ 63) : ∃ s, F_law [.val (.sls (ns.map D.int))] = some (.rt (.bl true) s) := by
  obtain ⟨dr, i1, v1⟩ := draws_val hns
  obtain ⟨told, d2, i2, hm, v2⟩ := shuf_val (row := [.int 2, .int 3, .int 4, .int 5, .int 7, .int 8, .int 9]) i1 (by simp)
  have hcut : ∃ L, FD.cutD told none (some 2) = L ∧ ∀ d ∈ L, d ∈ told := ⟨_, rfl, fun d hd => by
    unfold FD.cutD at hd
    exact List.mem_of_mem_drop (List.mem_of_mem_take hd)⟩
  obtain ⟨L, eL, hL⟩ := hcut
  obtain ⟨d3, y2, y3, y4, e⟩ := law_out (x0 := .val (.sls (ns.map D.int))) L d2 .off .off .off (fun d hd => by
    have h := hm d (hL d hd)
    simp only [List.mem_cons, List.not_mem_nil, or_false] at h
    rcases h with rfl | rfl | rfl | rfl | rfl | rfl | rfl
    · exact ⟨2, rfl, by decide, by decide⟩
    · exact ⟨3, rfl, by decide, by decide⟩
    · exact ⟨4, rfl, by decide, by decide⟩
    · exact ⟨5, rfl, by decide, by decide⟩
    · exact ⟨7, rfl, by decide, by decide⟩
    · exact ⟨8, rfl, by decide, by decide⟩
    · exact ⟨9, rfl, by decide, by decide⟩) rfl rfl rfl i2
  have c1 := fun s => (v1.t s).2
  have c2 := (v2.t [.val (.sls (ns.map D.int)), .own dr, .off, .off, .off] 1 rfl).1
  have s7 : (([D.int 2, .int 3, .int 4, .int 5, .int 7, .int 8, .int 9]).length ≤ sizeLine) = True := eq_true (by rw [PySem.sizeLine_eq]; simp)
  simp only [List.map_cons, List.map_nil] at c1 c2
  refine ⟨[.val (.sls (ns.map D.int)), .own d3, y2, y3, y4], ?_⟩
  generalize ns.map D.int = N at *
  clear v1 v2 hm hL i1 i2 hns
  unfold F_law b_law
  walk_at "fd"
end My
namespace My
open PySem PySem.Spec PyProof.Rows L2 FD
theorem all_mk {l : PySem.W.OpenLaw} {w : World} {K : PySem.W.Frag} {h : Heap} {mg : Str → Option Value} {fa : Addr} (X : K.In h) (G : h.Ns mainGlobals mg) (hfa : mg "law" = some (.ref fa))
    {f_fraction : Addr} {od_fraction an_fraction : Option Addr} {sl_fraction : Array (Option Value)} {oc_fraction kV_fraction dc_fraction pm_fraction cd_fraction ct_fraction : Value}
    (a_fraction : PySem.W.nsIn K mainGlobals "fraction" = some (some (.ref f_fraction))) (l_fraction : K.lookup f_fraction = some ⟨oc_fraction, od_fraction, .func (PySem.W.fnOf "fraction" "fraction" (defArgs s_fraction) (defBody s_fraction) (defScope s_fraction) .none kV_fraction dc_fraction pm_fraction an_fraction cd_fraction ct_fraction), sl_fraction⟩) (c_fraction : PySem.W.codeIn K cd_fraction "fraction" = true) (k_fraction : PySem.W.keepIn K (.ref f_fraction) = true)
    {f_power_of : Addr} {od_power_of an_power_of : Option Addr} {sl_power_of : Array (Option Value)} {oc_power_of kV_power_of dc_power_of pm_power_of cd_power_of ct_power_of : Value}
    (a_power_of : PySem.W.nsIn K mainGlobals "power_of" = some (some (.ref f_power_of))) (l_power_of : K.lookup f_power_of = some ⟨oc_power_of, od_power_of, .func (PySem.W.fnOf "power_of" "power_of" (defArgs s_power_of) (defBody s_power_of) (defScope s_power_of) .none kV_power_of dc_power_of pm_power_of an_power_of cd_power_of ct_power_of), sl_power_of⟩) (c_power_of : PySem.W.codeIn K cd_power_of "power_of" = true) (k_power_of : PySem.W.keepIn K (.ref f_power_of) = true)
    {f_alternating : Addr} {od_alternating an_alternating : Option Addr} {sl_alternating : Array (Option Value)} {oc_alternating kV_alternating dc_alternating pm_alternating cd_alternating ct_alternating : Value}
    (a_alternating : PySem.W.nsIn K mainGlobals "alternating" = some (some (.ref f_alternating))) (l_alternating : K.lookup f_alternating = some ⟨oc_alternating, od_alternating, .func (PySem.W.fnOf "alternating" "alternating" (defArgs s_alternating) (defBody s_alternating) (defScope s_alternating) .none kV_alternating dc_alternating pm_alternating an_alternating cd_alternating ct_alternating), sl_alternating⟩) (c_alternating : PySem.W.codeIn K cd_alternating "alternating" = true) (k_alternating : PySem.W.keepIn K (.ref f_alternating) = true)
    {f_krawtchouk : Addr} {od_krawtchouk an_krawtchouk : Option Addr} {sl_krawtchouk : Array (Option Value)} {oc_krawtchouk kV_krawtchouk dc_krawtchouk pm_krawtchouk cd_krawtchouk ct_krawtchouk : Value}
    (a_krawtchouk : PySem.W.nsIn K mainGlobals "krawtchouk" = some (some (.ref f_krawtchouk))) (l_krawtchouk : K.lookup f_krawtchouk = some ⟨oc_krawtchouk, od_krawtchouk, .func (PySem.W.fnOf "krawtchouk" "krawtchouk" (defArgs s_krawtchouk) (defBody s_krawtchouk) (defScope s_krawtchouk) .none kV_krawtchouk dc_krawtchouk pm_krawtchouk an_krawtchouk cd_krawtchouk ct_krawtchouk), sl_krawtchouk⟩) (c_krawtchouk : PySem.W.codeIn K cd_krawtchouk "krawtchouk" = true) (k_krawtchouk : PySem.W.keepIn K (.ref f_krawtchouk) = true)
    {f_turned_counts : Addr} {od_turned_counts an_turned_counts : Option Addr} {sl_turned_counts : Array (Option Value)} {oc_turned_counts kV_turned_counts dc_turned_counts pm_turned_counts cd_turned_counts ct_turned_counts : Value}
    (a_turned_counts : PySem.W.nsIn K mainGlobals "turned_counts" = some (some (.ref f_turned_counts))) (l_turned_counts : K.lookup f_turned_counts = some ⟨oc_turned_counts, od_turned_counts, .func (PySem.W.fnOf "turned_counts" "turned_counts" (defArgs s_turned_counts) (defBody s_turned_counts) (defScope s_turned_counts) .none kV_turned_counts dc_turned_counts pm_turned_counts an_turned_counts cd_turned_counts ct_turned_counts), sl_turned_counts⟩) (c_turned_counts : PySem.W.codeIn K cd_turned_counts "turned_counts" = true) (k_turned_counts : PySem.W.keepIn K (.ref f_turned_counts) = true)
    {f_counts_of_dual : Addr} {od_counts_of_dual an_counts_of_dual : Option Addr} {sl_counts_of_dual : Array (Option Value)} {oc_counts_of_dual kV_counts_of_dual dc_counts_of_dual pm_counts_of_dual cd_counts_of_dual ct_counts_of_dual : Value}
    (a_counts_of_dual : PySem.W.nsIn K mainGlobals "counts_of_dual" = some (some (.ref f_counts_of_dual))) (l_counts_of_dual : K.lookup f_counts_of_dual = some ⟨oc_counts_of_dual, od_counts_of_dual, .func (PySem.W.fnOf "counts_of_dual" "counts_of_dual" (defArgs s_counts_of_dual) (defBody s_counts_of_dual) (defScope s_counts_of_dual) .none kV_counts_of_dual dc_counts_of_dual pm_counts_of_dual an_counts_of_dual cd_counts_of_dual ct_counts_of_dual), sl_counts_of_dual⟩) (c_counts_of_dual : PySem.W.codeIn K cd_counts_of_dual "counts_of_dual" = true) (k_counts_of_dual : PySem.W.keepIn K (.ref f_counts_of_dual) = true)
    {f_zero_sums : Addr} {od_zero_sums an_zero_sums : Option Addr} {sl_zero_sums : Array (Option Value)} {oc_zero_sums kV_zero_sums dc_zero_sums pm_zero_sums cd_zero_sums ct_zero_sums : Value}
    (a_zero_sums : PySem.W.nsIn K mainGlobals "zero_sums" = some (some (.ref f_zero_sums))) (l_zero_sums : K.lookup f_zero_sums = some ⟨oc_zero_sums, od_zero_sums, .func (PySem.W.fnOf "zero_sums" "zero_sums" (defArgs s_zero_sums) (defBody s_zero_sums) (defScope s_zero_sums) .none kV_zero_sums dc_zero_sums pm_zero_sums an_zero_sums cd_zero_sums ct_zero_sums), sl_zero_sums⟩) (c_zero_sums : PySem.W.codeIn K cd_zero_sums "zero_sums" = true) (k_zero_sums : PySem.W.keepIn K (.ref f_zero_sums) = true)
    {f_dual_sums : Addr} {od_dual_sums an_dual_sums : Option Addr} {sl_dual_sums : Array (Option Value)} {oc_dual_sums kV_dual_sums dc_dual_sums pm_dual_sums cd_dual_sums ct_dual_sums : Value}
    (a_dual_sums : PySem.W.nsIn K mainGlobals "dual_sums" = some (some (.ref f_dual_sums))) (l_dual_sums : K.lookup f_dual_sums = some ⟨oc_dual_sums, od_dual_sums, .func (PySem.W.fnOf "dual_sums" "dual_sums" (defArgs s_dual_sums) (defBody s_dual_sums) (defScope s_dual_sums) .none kV_dual_sums dc_dual_sums pm_dual_sums an_dual_sums cd_dual_sums ct_dual_sums), sl_dual_sums⟩) (c_dual_sums : PySem.W.codeIn K cd_dual_sums "dual_sums" = true) (k_dual_sums : PySem.W.keepIn K (.ref f_dual_sums) = true)
    {f_weights_in : Addr} {od_weights_in an_weights_in : Option Addr} {sl_weights_in : Array (Option Value)} {oc_weights_in kV_weights_in dc_weights_in pm_weights_in cd_weights_in ct_weights_in : Value}
    (a_weights_in : PySem.W.nsIn K mainGlobals "weights_in" = some (some (.ref f_weights_in))) (l_weights_in : K.lookup f_weights_in = some ⟨oc_weights_in, od_weights_in, .func (PySem.W.fnOf "weights_in" "weights_in" (defArgs s_weights_in) (defBody s_weights_in) (defScope s_weights_in) .none kV_weights_in dc_weights_in pm_weights_in an_weights_in cd_weights_in ct_weights_in), sl_weights_in⟩) (c_weights_in : PySem.W.codeIn K cd_weights_in "weights_in" = true) (k_weights_in : PySem.W.keepIn K (.ref f_weights_in) = true)
    {f_law_draws : Addr} {od_law_draws an_law_draws : Option Addr} {sl_law_draws : Array (Option Value)} {oc_law_draws kV_law_draws dc_law_draws pm_law_draws cd_law_draws ct_law_draws : Value}
    (a_law_draws : PySem.W.nsIn K mainGlobals "_law_draws" = some (some (.ref f_law_draws))) (l_law_draws : K.lookup f_law_draws = some ⟨oc_law_draws, od_law_draws, .func (PySem.W.fnOf "_law_draws" "_law_draws" (defArgs s_law_draws) (defBody s_law_draws) (defScope s_law_draws) .none kV_law_draws dc_law_draws pm_law_draws an_law_draws cd_law_draws ct_law_draws), sl_law_draws⟩) (c_law_draws : PySem.W.codeIn K cd_law_draws "_law_draws" = true) (k_law_draws : PySem.W.keepIn K (.ref f_law_draws) = true)
    {f_law_take : Addr} {od_law_take an_law_take : Option Addr} {sl_law_take : Array (Option Value)} {oc_law_take kV_law_take dc_law_take pm_law_take cd_law_take ct_law_take : Value}
    (a_law_take : PySem.W.nsIn K mainGlobals "_law_take" = some (some (.ref f_law_take))) (l_law_take : K.lookup f_law_take = some ⟨oc_law_take, od_law_take, .func (PySem.W.fnOf "_law_take" "_law_take" (defArgs s_law_take) (defBody s_law_take) (defScope s_law_take) .none kV_law_take dc_law_take pm_law_take an_law_take cd_law_take ct_law_take), sl_law_take⟩) (c_law_take : PySem.W.codeIn K cd_law_take "_law_take" = true) (k_law_take : PySem.W.keepIn K (.ref f_law_take) = true)
    {f_law_same : Addr} {od_law_same an_law_same : Option Addr} {sl_law_same : Array (Option Value)} {oc_law_same kV_law_same dc_law_same pm_law_same cd_law_same ct_law_same : Value}
    (a_law_same : PySem.W.nsIn K mainGlobals "_law_same" = some (some (.ref f_law_same))) (l_law_same : K.lookup f_law_same = some ⟨oc_law_same, od_law_same, .func (PySem.W.fnOf "_law_same" "_law_same" (defArgs s_law_same) (defBody s_law_same) (defScope s_law_same) .none kV_law_same dc_law_same pm_law_same an_law_same cd_law_same ct_law_same), sl_law_same⟩) (c_law_same : PySem.W.codeIn K cd_law_same "_law_same" = true) (k_law_same : PySem.W.keepIn K (.ref f_law_same) = true)
    {f_law_shuffled : Addr} {od_law_shuffled an_law_shuffled : Option Addr} {sl_law_shuffled : Array (Option Value)} {oc_law_shuffled kV_law_shuffled dc_law_shuffled pm_law_shuffled cd_law_shuffled ct_law_shuffled : Value}
    (a_law_shuffled : PySem.W.nsIn K mainGlobals "_law_shuffled" = some (some (.ref f_law_shuffled))) (l_law_shuffled : K.lookup f_law_shuffled = some ⟨oc_law_shuffled, od_law_shuffled, .func (PySem.W.fnOf "_law_shuffled" "_law_shuffled" (defArgs s_law_shuffled) (defBody s_law_shuffled) (defScope s_law_shuffled) .none kV_law_shuffled dc_law_shuffled pm_law_shuffled an_law_shuffled cd_law_shuffled ct_law_shuffled), sl_law_shuffled⟩) (c_law_shuffled : PySem.W.codeIn K cd_law_shuffled "_law_shuffled" = true) (k_law_shuffled : PySem.W.keepIn K (.ref f_law_shuffled) = true)
    {f_law_gcd : Addr} {od_law_gcd an_law_gcd : Option Addr} {sl_law_gcd : Array (Option Value)} {oc_law_gcd kV_law_gcd dc_law_gcd pm_law_gcd cd_law_gcd ct_law_gcd : Value}
    (a_law_gcd : PySem.W.nsIn K mainGlobals "_law_gcd" = some (some (.ref f_law_gcd))) (l_law_gcd : K.lookup f_law_gcd = some ⟨oc_law_gcd, od_law_gcd, .func (PySem.W.fnOf "_law_gcd" "_law_gcd" (defArgs s_law_gcd) (defBody s_law_gcd) (defScope s_law_gcd) .none kV_law_gcd dc_law_gcd pm_law_gcd an_law_gcd cd_law_gcd ct_law_gcd), sl_law_gcd⟩) (c_law_gcd : PySem.W.codeIn K cd_law_gcd "_law_gcd" = true) (k_law_gcd : PySem.W.keepIn K (.ref f_law_gcd) = true)
    {f_law_frac : Addr} {od_law_frac an_law_frac : Option Addr} {sl_law_frac : Array (Option Value)} {oc_law_frac kV_law_frac dc_law_frac pm_law_frac cd_law_frac ct_law_frac : Value}
    (a_law_frac : PySem.W.nsIn K mainGlobals "_law_frac" = some (some (.ref f_law_frac))) (l_law_frac : K.lookup f_law_frac = some ⟨oc_law_frac, od_law_frac, .func (PySem.W.fnOf "_law_frac" "_law_frac" (defArgs s_law_frac) (defBody s_law_frac) (defScope s_law_frac) .none kV_law_frac dc_law_frac pm_law_frac an_law_frac cd_law_frac ct_law_frac), sl_law_frac⟩) (c_law_frac : PySem.W.codeIn K cd_law_frac "_law_frac" = true) (k_law_frac : PySem.W.keepIn K (.ref f_law_frac) = true)
    {f_law_plus : Addr} {od_law_plus an_law_plus : Option Addr} {sl_law_plus : Array (Option Value)} {oc_law_plus kV_law_plus dc_law_plus pm_law_plus cd_law_plus ct_law_plus : Value}
    (a_law_plus : PySem.W.nsIn K mainGlobals "_law_plus" = some (some (.ref f_law_plus))) (l_law_plus : K.lookup f_law_plus = some ⟨oc_law_plus, od_law_plus, .func (PySem.W.fnOf "_law_plus" "_law_plus" (defArgs s_law_plus) (defBody s_law_plus) (defScope s_law_plus) .none kV_law_plus dc_law_plus pm_law_plus an_law_plus cd_law_plus ct_law_plus), sl_law_plus⟩) (c_law_plus : PySem.W.codeIn K cd_law_plus "_law_plus" = true) (k_law_plus : PySem.W.keepIn K (.ref f_law_plus) = true)
    {f_law_power : Addr} {od_law_power an_law_power : Option Addr} {sl_law_power : Array (Option Value)} {oc_law_power kV_law_power dc_law_power pm_law_power cd_law_power ct_law_power : Value}
    (a_law_power : PySem.W.nsIn K mainGlobals "_law_power" = some (some (.ref f_law_power))) (l_law_power : K.lookup f_law_power = some ⟨oc_law_power, od_law_power, .func (PySem.W.fnOf "_law_power" "_law_power" (defArgs s_law_power) (defBody s_law_power) (defScope s_law_power) .none kV_law_power dc_law_power pm_law_power an_law_power cd_law_power ct_law_power), sl_law_power⟩) (c_law_power : PySem.W.codeIn K cd_law_power "_law_power" = true) (k_law_power : PySem.W.keepIn K (.ref f_law_power) = true)
    {f_law_choose : Addr} {od_law_choose an_law_choose : Option Addr} {sl_law_choose : Array (Option Value)} {oc_law_choose kV_law_choose dc_law_choose pm_law_choose cd_law_choose ct_law_choose : Value}
    (a_law_choose : PySem.W.nsIn K mainGlobals "_law_choose" = some (some (.ref f_law_choose))) (l_law_choose : K.lookup f_law_choose = some ⟨oc_law_choose, od_law_choose, .func (PySem.W.fnOf "_law_choose" "_law_choose" (defArgs s_law_choose) (defBody s_law_choose) (defScope s_law_choose) .none kV_law_choose dc_law_choose pm_law_choose an_law_choose cd_law_choose ct_law_choose), sl_law_choose⟩) (c_law_choose : PySem.W.codeIn K cd_law_choose "_law_choose" = true) (k_law_choose : PySem.W.keepIn K (.ref f_law_choose) = true)
    {f_law_times : Addr} {od_law_times an_law_times : Option Addr} {sl_law_times : Array (Option Value)} {oc_law_times kV_law_times dc_law_times pm_law_times cd_law_times ct_law_times : Value}
    (a_law_times : PySem.W.nsIn K mainGlobals "_law_times" = some (some (.ref f_law_times))) (l_law_times : K.lookup f_law_times = some ⟨oc_law_times, od_law_times, .func (PySem.W.fnOf "_law_times" "_law_times" (defArgs s_law_times) (defBody s_law_times) (defScope s_law_times) .none kV_law_times dc_law_times pm_law_times an_law_times cd_law_times ct_law_times), sl_law_times⟩) (c_law_times : PySem.W.codeIn K cd_law_times "_law_times" = true) (k_law_times : PySem.W.keepIn K (.ref f_law_times) = true)
    {f_law_polynomial : Addr} {od_law_polynomial an_law_polynomial : Option Addr} {sl_law_polynomial : Array (Option Value)} {oc_law_polynomial kV_law_polynomial dc_law_polynomial pm_law_polynomial cd_law_polynomial ct_law_polynomial : Value}
    (a_law_polynomial : PySem.W.nsIn K mainGlobals "_law_polynomial" = some (some (.ref f_law_polynomial))) (l_law_polynomial : K.lookup f_law_polynomial = some ⟨oc_law_polynomial, od_law_polynomial, .func (PySem.W.fnOf "_law_polynomial" "_law_polynomial" (defArgs s_law_polynomial) (defBody s_law_polynomial) (defScope s_law_polynomial) .none kV_law_polynomial dc_law_polynomial pm_law_polynomial an_law_polynomial cd_law_polynomial ct_law_polynomial), sl_law_polynomial⟩) (c_law_polynomial : PySem.W.codeIn K cd_law_polynomial "_law_polynomial" = true) (k_law_polynomial : PySem.W.keepIn K (.ref f_law_polynomial) = true)
    {f_law_spreads_told : Addr} {od_law_spreads_told an_law_spreads_told : Option Addr} {sl_law_spreads_told : Array (Option Value)} {oc_law_spreads_told kV_law_spreads_told dc_law_spreads_told pm_law_spreads_told cd_law_spreads_told ct_law_spreads_told : Value}
    (a_law_spreads_told : PySem.W.nsIn K mainGlobals "_law_spreads_told" = some (some (.ref f_law_spreads_told))) (l_law_spreads_told : K.lookup f_law_spreads_told = some ⟨oc_law_spreads_told, od_law_spreads_told, .func (PySem.W.fnOf "_law_spreads_told" "_law_spreads_told" (defArgs s_law_spreads_told) (defBody s_law_spreads_told) (defScope s_law_spreads_told) .none kV_law_spreads_told dc_law_spreads_told pm_law_spreads_told an_law_spreads_told cd_law_spreads_told ct_law_spreads_told), sl_law_spreads_told⟩) (c_law_spreads_told : PySem.W.codeIn K cd_law_spreads_told "_law_spreads_told" = true) (k_law_spreads_told : PySem.W.keepIn K (.ref f_law_spreads_told) = true)
    {f_law_row : Addr} {od_law_row an_law_row : Option Addr} {sl_law_row : Array (Option Value)} {oc_law_row kV_law_row dc_law_row pm_law_row cd_law_row ct_law_row : Value}
    (a_law_row : PySem.W.nsIn K mainGlobals "_law_row" = some (some (.ref f_law_row))) (l_law_row : K.lookup f_law_row = some ⟨oc_law_row, od_law_row, .func (PySem.W.fnOf "_law_row" "_law_row" (defArgs s_law_row) (defBody s_law_row) (defScope s_law_row) .none kV_law_row dc_law_row pm_law_row an_law_row cd_law_row ct_law_row), sl_law_row⟩) (c_law_row : PySem.W.codeIn K cd_law_row "_law_row" = true) (k_law_row : PySem.W.keepIn K (.ref f_law_row) = true)
    {f_law_dual_fractions : Addr} {od_law_dual_fractions an_law_dual_fractions : Option Addr} {sl_law_dual_fractions : Array (Option Value)} {oc_law_dual_fractions kV_law_dual_fractions dc_law_dual_fractions pm_law_dual_fractions cd_law_dual_fractions ct_law_dual_fractions : Value}
    (a_law_dual_fractions : PySem.W.nsIn K mainGlobals "_law_dual_fractions" = some (some (.ref f_law_dual_fractions))) (l_law_dual_fractions : K.lookup f_law_dual_fractions = some ⟨oc_law_dual_fractions, od_law_dual_fractions, .func (PySem.W.fnOf "_law_dual_fractions" "_law_dual_fractions" (defArgs s_law_dual_fractions) (defBody s_law_dual_fractions) (defScope s_law_dual_fractions) .none kV_law_dual_fractions dc_law_dual_fractions pm_law_dual_fractions an_law_dual_fractions cd_law_dual_fractions ct_law_dual_fractions), sl_law_dual_fractions⟩) (c_law_dual_fractions : PySem.W.codeIn K cd_law_dual_fractions "_law_dual_fractions" = true) (k_law_dual_fractions : PySem.W.keepIn K (.ref f_law_dual_fractions) = true)
    {f_law_sums_of : Addr} {od_law_sums_of an_law_sums_of : Option Addr} {sl_law_sums_of : Array (Option Value)} {oc_law_sums_of kV_law_sums_of dc_law_sums_of pm_law_sums_of cd_law_sums_of ct_law_sums_of : Value}
    (a_law_sums_of : PySem.W.nsIn K mainGlobals "_law_sums_of" = some (some (.ref f_law_sums_of))) (l_law_sums_of : K.lookup f_law_sums_of = some ⟨oc_law_sums_of, od_law_sums_of, .func (PySem.W.fnOf "_law_sums_of" "_law_sums_of" (defArgs s_law_sums_of) (defBody s_law_sums_of) (defScope s_law_sums_of) .none kV_law_sums_of dc_law_sums_of pm_law_sums_of an_law_sums_of cd_law_sums_of ct_law_sums_of), sl_law_sums_of⟩) (c_law_sums_of : PySem.W.codeIn K cd_law_sums_of "_law_sums_of" = true) (k_law_sums_of : PySem.W.keepIn K (.ref f_law_sums_of) = true)
    {f_law_rows_told : Addr} {od_law_rows_told an_law_rows_told : Option Addr} {sl_law_rows_told : Array (Option Value)} {oc_law_rows_told kV_law_rows_told dc_law_rows_told pm_law_rows_told cd_law_rows_told ct_law_rows_told : Value}
    (a_law_rows_told : PySem.W.nsIn K mainGlobals "_law_rows_told" = some (some (.ref f_law_rows_told))) (l_law_rows_told : K.lookup f_law_rows_told = some ⟨oc_law_rows_told, od_law_rows_told, .func (PySem.W.fnOf "_law_rows_told" "_law_rows_told" (defArgs s_law_rows_told) (defBody s_law_rows_told) (defScope s_law_rows_told) .none kV_law_rows_told dc_law_rows_told pm_law_rows_told an_law_rows_told cd_law_rows_told ct_law_rows_told), sl_law_rows_told⟩) (c_law_rows_told : PySem.W.codeIn K cd_law_rows_told "_law_rows_told" = true) (k_law_rows_told : PySem.W.keepIn K (.ref f_law_rows_told) = true)
    {f_law : Addr} {od_law an_law : Option Addr} {sl_law : Array (Option Value)} {oc_law kV_law dc_law pm_law cd_law ct_law : Value}
    (a_law : PySem.W.nsIn K mainGlobals "law" = some (some (.ref f_law))) (l_law : K.lookup f_law = some ⟨oc_law, od_law, .func (PySem.W.fnOf "law" "law" (defArgs s_law) (defBody s_law) (defScope s_law) .none kV_law dc_law pm_law an_law cd_law ct_law), sl_law⟩) (c_law : PySem.W.codeIn K cd_law "law" = true) (k_law : PySem.W.keepIn K (.ref f_law) = true)
    (z_comb : PySem.W.nsIn K mainGlobals "comb" = some (some (.builtin "math.comb")))
    (z_gcd : PySem.W.nsIn K mainGlobals "gcd" = some (some (.builtin "math.gcd")))
    (z_abs : PySem.W.nsIn K mainGlobals "abs" = some none)
    (z_bool : PySem.W.nsIn K mainGlobals "bool" = some none)
    (z_enumerate : PySem.W.nsIn K mainGlobals "enumerate" = some none)
    (z_int : PySem.W.nsIn K mainGlobals "int" = some none)
    (z_isinstance : PySem.W.nsIn K mainGlobals "isinstance" = some none)
    (z_len : PySem.W.nsIn K mainGlobals "len" = some none)
    (z_list : PySem.W.nsIn K mainGlobals "list" = some none)
    (z_max : PySem.W.nsIn K mainGlobals "max" = some none)
    (z_min : PySem.W.nsIn K mainGlobals "min" = some none)
    (z_range : PySem.W.nsIn K mainGlobals "range" = some none)
    (z_str : PySem.W.nsIn K mainGlobals "str" = some none)
    (z_sum : PySem.W.nsIn K mainGlobals "sum" = some none)
    (z_tuple : PySem.W.nsIn K mainGlobals "tuple" = some none)
    : ∃ fd : FuncData, (∀ (s : Shared) (v : Value), BindsTo s fd ⟨[v], []⟩ [("script", v)]) ∧ ∀ base : Heap, K.In base → base.Ns mainGlobals mg → FnOk l.prog w K mg base CX0 8 fa fd ["script"] (spF K 1 F_law) := by
  have e := hfa.symm.trans (PySem.W.mg_of X G a_law)
  cases e
  have F_fraction := fun_mk (st := s_fraction) l_fraction c_fraction k_fraction
  have B_fraction := F_fraction.binds (ps := P_fraction) fun _ _ _ _ _ _ us hl => match us, hl with | [_, _], _ => rfl
  have F_power_of := fun_mk (st := s_power_of) l_power_of c_power_of k_power_of
  have B_power_of := F_power_of.binds (ps := P_power_of) fun _ _ _ _ _ _ us hl => match us, hl with | [_, _], _ => rfl
  have F_alternating := fun_mk (st := s_alternating) l_alternating c_alternating k_alternating
  have B_alternating := F_alternating.binds (ps := P_alternating) fun _ _ _ _ _ _ us hl => match us, hl with | [_], _ => rfl
  have F_krawtchouk := fun_mk (st := s_krawtchouk) l_krawtchouk c_krawtchouk k_krawtchouk
  have B_krawtchouk := F_krawtchouk.binds (ps := P_krawtchouk) fun _ _ _ _ _ _ us hl => match us, hl with | [_, _, _, _], _ => rfl
  have F_turned_counts := fun_mk (st := s_turned_counts) l_turned_counts c_turned_counts k_turned_counts
  have B_turned_counts := F_turned_counts.binds (ps := P_turned_counts) fun _ _ _ _ _ _ us hl => match us, hl with | [_, _, _], _ => rfl
  have F_counts_of_dual := fun_mk (st := s_counts_of_dual) l_counts_of_dual c_counts_of_dual k_counts_of_dual
  have B_counts_of_dual := F_counts_of_dual.binds (ps := P_counts_of_dual) fun _ _ _ _ _ _ us hl => match us, hl with | [_, _, _], _ => rfl
  have F_zero_sums := fun_mk (st := s_zero_sums) l_zero_sums c_zero_sums k_zero_sums
  have B_zero_sums := F_zero_sums.binds (ps := P_zero_sums) fun _ _ _ _ _ _ us hl => match us, hl with | [_], _ => rfl
  have F_dual_sums := fun_mk (st := s_dual_sums) l_dual_sums c_dual_sums k_dual_sums
  have B_dual_sums := F_dual_sums.binds (ps := P_dual_sums) fun _ _ _ _ _ _ us hl => match us, hl with | [_], _ => rfl
  have F_weights_in := fun_mk (st := s_weights_in) l_weights_in c_weights_in k_weights_in
  have B_weights_in := F_weights_in.binds (ps := P_weights_in) fun _ _ _ _ _ _ us hl => match us, hl with | [_], _ => rfl
  have F_law_draws := fun_mk (st := s_law_draws) l_law_draws c_law_draws k_law_draws
  have B_law_draws := F_law_draws.binds (ps := P_law_draws) fun _ _ _ _ _ _ us hl => match us, hl with | [_, _], _ => rfl
  have F_law_take := fun_mk (st := s_law_take) l_law_take c_law_take k_law_take
  have B_law_take := F_law_take.binds (ps := P_law_take) fun _ _ _ _ _ _ us hl => match us, hl with | [_, _], _ => rfl
  have F_law_same := fun_mk (st := s_law_same) l_law_same c_law_same k_law_same
  have B_law_same := F_law_same.binds (ps := P_law_same) fun _ _ _ _ _ _ us hl => match us, hl with | [_, _], _ => rfl
  have F_law_shuffled := fun_mk (st := s_law_shuffled) l_law_shuffled c_law_shuffled k_law_shuffled
  have B_law_shuffled := F_law_shuffled.binds (ps := P_law_shuffled) fun _ _ _ _ _ _ us hl => match us, hl with | [_, _], _ => rfl
  have F_law_gcd := fun_mk (st := s_law_gcd) l_law_gcd c_law_gcd k_law_gcd
  have B_law_gcd := F_law_gcd.binds (ps := P_law_gcd) fun _ _ _ _ _ _ us hl => match us, hl with | [_, _], _ => rfl
  have F_law_frac := fun_mk (st := s_law_frac) l_law_frac c_law_frac k_law_frac
  have B_law_frac := F_law_frac.binds (ps := P_law_frac) fun _ _ _ _ _ _ us hl => match us, hl with | [_, _], _ => rfl
  have F_law_plus := fun_mk (st := s_law_plus) l_law_plus c_law_plus k_law_plus
  have B_law_plus := F_law_plus.binds (ps := P_law_plus) fun _ _ _ _ _ _ us hl => match us, hl with | [_, _], _ => rfl
  have F_law_power := fun_mk (st := s_law_power) l_law_power c_law_power k_law_power
  have B_law_power := F_law_power.binds (ps := P_law_power) fun _ _ _ _ _ _ us hl => match us, hl with | [_, _], _ => rfl
  have F_law_choose := fun_mk (st := s_law_choose) l_law_choose c_law_choose k_law_choose
  have B_law_choose := F_law_choose.binds (ps := P_law_choose) fun _ _ _ _ _ _ us hl => match us, hl with | [_, _], _ => rfl
  have F_law_times := fun_mk (st := s_law_times) l_law_times c_law_times k_law_times
  have B_law_times := F_law_times.binds (ps := P_law_times) fun _ _ _ _ _ _ us hl => match us, hl with | [_, _], _ => rfl
  have F_law_polynomial := fun_mk (st := s_law_polynomial) l_law_polynomial c_law_polynomial k_law_polynomial
  have B_law_polynomial := F_law_polynomial.binds (ps := P_law_polynomial) fun _ _ _ _ _ _ us hl => match us, hl with | [_, _, _], _ => rfl
  have F_law_spreads_told := fun_mk (st := s_law_spreads_told) l_law_spreads_told c_law_spreads_told k_law_spreads_told
  have B_law_spreads_told := F_law_spreads_told.binds (ps := P_law_spreads_told) fun _ _ _ _ _ _ us hl => match us, hl with | [_, _, _], _ => rfl
  have F_law_row := fun_mk (st := s_law_row) l_law_row c_law_row k_law_row
  have B_law_row := F_law_row.binds (ps := P_law_row) fun _ _ _ _ _ _ us hl => match us, hl with | [_, _, _], _ => rfl
  have F_law_dual_fractions := fun_mk (st := s_law_dual_fractions) l_law_dual_fractions c_law_dual_fractions k_law_dual_fractions
  have B_law_dual_fractions := F_law_dual_fractions.binds (ps := P_law_dual_fractions) fun _ _ _ _ _ _ us hl => match us, hl with | [_, _, _], _ => rfl
  have F_law_sums_of := fun_mk (st := s_law_sums_of) l_law_sums_of c_law_sums_of k_law_sums_of
  have B_law_sums_of := F_law_sums_of.binds (ps := P_law_sums_of) fun _ _ _ _ _ _ us hl => match us, hl with | [_, _, _], _ => rfl
  have F_law_rows_told := fun_mk (st := s_law_rows_told) l_law_rows_told c_law_rows_told k_law_rows_told
  have B_law_rows_told := F_law_rows_told.binds (ps := P_law_rows_told) fun _ _ _ _ _ _ us hl => match us, hl with | [_, _, _], _ => rfl
  have F_law := fun_mk (st := s_law) l_law c_law k_law
  have B_law := F_law.binds (ps := P_law) fun _ _ _ _ _ _ us hl => match us, hl with | [_], _ => rfl

  exact ⟨_, fun s v => .of_eq rfl, fun base _ _ => ok_law (P := l.prog) (w := w) (base := base) { f_fraction := _, d_fraction := _, F_fraction := F_fraction, B_fraction := B_fraction, m_fraction := PySem.W.mg_of X G a_fraction, f_power_of := _, d_power_of := _, F_power_of := F_power_of, B_power_of := B_power_of, m_power_of := PySem.W.mg_of X G a_power_of, f_alternating := _, d_alternating := _, F_alternating := F_alternating, B_alternating := B_alternating, m_alternating := PySem.W.mg_of X G a_alternating, f_krawtchouk := _, d_krawtchouk := _, F_krawtchouk := F_krawtchouk, B_krawtchouk := B_krawtchouk, m_krawtchouk := PySem.W.mg_of X G a_krawtchouk, f_turned_counts := _, d_turned_counts := _, F_turned_counts := F_turned_counts, B_turned_counts := B_turned_counts, m_turned_counts := PySem.W.mg_of X G a_turned_counts, f_counts_of_dual := _, d_counts_of_dual := _, F_counts_of_dual := F_counts_of_dual, B_counts_of_dual := B_counts_of_dual, m_counts_of_dual := PySem.W.mg_of X G a_counts_of_dual, f_zero_sums := _, d_zero_sums := _, F_zero_sums := F_zero_sums, B_zero_sums := B_zero_sums, m_zero_sums := PySem.W.mg_of X G a_zero_sums, f_dual_sums := _, d_dual_sums := _, F_dual_sums := F_dual_sums, B_dual_sums := B_dual_sums, m_dual_sums := PySem.W.mg_of X G a_dual_sums, f_weights_in := _, d_weights_in := _, F_weights_in := F_weights_in, B_weights_in := B_weights_in, m_weights_in := PySem.W.mg_of X G a_weights_in, f_law_draws := _, d_law_draws := _, F_law_draws := F_law_draws, B_law_draws := B_law_draws, m_law_draws := PySem.W.mg_of X G a_law_draws, f_law_take := _, d_law_take := _, F_law_take := F_law_take, B_law_take := B_law_take, m_law_take := PySem.W.mg_of X G a_law_take, f_law_same := _, d_law_same := _, F_law_same := F_law_same, B_law_same := B_law_same, m_law_same := PySem.W.mg_of X G a_law_same, f_law_shuffled := _, d_law_shuffled := _, F_law_shuffled := F_law_shuffled, B_law_shuffled := B_law_shuffled, m_law_shuffled := PySem.W.mg_of X G a_law_shuffled, f_law_gcd := _, d_law_gcd := _, F_law_gcd := F_law_gcd, B_law_gcd := B_law_gcd, m_law_gcd := PySem.W.mg_of X G a_law_gcd, f_law_frac := _, d_law_frac := _, F_law_frac := F_law_frac, B_law_frac := B_law_frac, m_law_frac := PySem.W.mg_of X G a_law_frac, f_law_plus := _, d_law_plus := _, F_law_plus := F_law_plus, B_law_plus := B_law_plus, m_law_plus := PySem.W.mg_of X G a_law_plus, f_law_power := _, d_law_power := _, F_law_power := F_law_power, B_law_power := B_law_power, m_law_power := PySem.W.mg_of X G a_law_power, f_law_choose := _, d_law_choose := _, F_law_choose := F_law_choose, B_law_choose := B_law_choose, m_law_choose := PySem.W.mg_of X G a_law_choose, f_law_times := _, d_law_times := _, F_law_times := F_law_times, B_law_times := B_law_times, m_law_times := PySem.W.mg_of X G a_law_times, f_law_polynomial := _, d_law_polynomial := _, F_law_polynomial := F_law_polynomial, B_law_polynomial := B_law_polynomial, m_law_polynomial := PySem.W.mg_of X G a_law_polynomial, f_law_spreads_told := _, d_law_spreads_told := _, F_law_spreads_told := F_law_spreads_told, B_law_spreads_told := B_law_spreads_told, m_law_spreads_told := PySem.W.mg_of X G a_law_spreads_told, f_law_row := _, d_law_row := _, F_law_row := F_law_row, B_law_row := B_law_row, m_law_row := PySem.W.mg_of X G a_law_row, f_law_dual_fractions := _, d_law_dual_fractions := _, F_law_dual_fractions := F_law_dual_fractions, B_law_dual_fractions := B_law_dual_fractions, m_law_dual_fractions := PySem.W.mg_of X G a_law_dual_fractions, f_law_sums_of := _, d_law_sums_of := _, F_law_sums_of := F_law_sums_of, B_law_sums_of := B_law_sums_of, m_law_sums_of := PySem.W.mg_of X G a_law_sums_of, f_law_rows_told := _, d_law_rows_told := _, F_law_rows_told := F_law_rows_told, B_law_rows_told := B_law_rows_told, m_law_rows_told := PySem.W.mg_of X G a_law_rows_told, f_law := _, d_law := _, F_law := F_law, B_law := B_law, m_law := PySem.W.mg_of X G a_law, m_comb := PySem.W.mg_of X G z_comb, m_gcd := PySem.W.mg_of X G z_gcd, n_abs := PySem.W.mg_none_of X G z_abs, n_bool := PySem.W.mg_none_of X G z_bool, n_enumerate := PySem.W.mg_none_of X G z_enumerate, n_int := PySem.W.mg_none_of X G z_int, n_isinstance := PySem.W.mg_none_of X G z_isinstance, n_len := PySem.W.mg_none_of X G z_len, n_list := PySem.W.mg_none_of X G z_list, n_max := PySem.W.mg_none_of X G z_max, n_min := PySem.W.mg_none_of X G z_min, n_range := PySem.W.mg_none_of X G z_range, n_str := PySem.W.mg_none_of X G z_str, n_sum := PySem.W.mg_none_of X G z_sum, n_tuple := PySem.W.mg_none_of X G z_tuple }⟩
end My
open PySem PySem.W PyProof.Rows
set_option maxRecDepth 100000 in
set_option maxHeartbeats 0 in
theorem PySem.Challenge.cw_codesweighed_k14_spread_numbers_by_polyn_holds : PySem.Challenge.rw_codesweighed_k14_spread_numbers_by_polyn.Holds := by
  w_on; o_law; k_head; (case hw => w_witness2)
  k_fill
  refine L2.walk_of (l := PySem.Challenge.rw_codesweighed_k14_spread_numbers_by_polyn) (n := 63) (k := 8) (x := "script") (CX := fun _ => L2.CX0) (sp := fun w => FD.spF _ 1 My.F_law) rfl (by decide) rfl ⟨rfl, by decide, by decide⟩ (fun w h Y => PySem.W.kIn_of Y) ?F (fun _ _ a ns hl hO hS => (My.law_true ns hl).elim fun s e => FD.law_sp hO hS e) (fun _ _ _ _ _ h => h)
  case F =>
    intro w mg fa h KX G hmg
    refine' My.all_mk KX G hmg ?a_fraction ?l_fraction ?c_fraction ?k_fraction ?a_power_of ?l_power_of ?c_power_of ?k_power_of ?a_alternating ?l_alternating ?c_alternating ?k_alternating ?a_krawtchouk ?l_krawtchouk ?c_krawtchouk ?k_krawtchouk ?a_turned_counts ?l_turned_counts ?c_turned_counts ?k_turned_counts ?a_counts_of_dual ?l_counts_of_dual ?c_counts_of_dual ?k_counts_of_dual ?a_zero_sums ?l_zero_sums ?c_zero_sums ?k_zero_sums ?a_dual_sums ?l_dual_sums ?c_dual_sums ?k_dual_sums ?a_weights_in ?l_weights_in ?c_weights_in ?k_weights_in ?a_law_draws ?l_law_draws ?c_law_draws ?k_law_draws ?a_law_take ?l_law_take ?c_law_take ?k_law_take ?a_law_same ?l_law_same ?c_law_same ?k_law_same ?a_law_shuffled ?l_law_shuffled ?c_law_shuffled ?k_law_shuffled ?a_law_gcd ?l_law_gcd ?c_law_gcd ?k_law_gcd ?a_law_frac ?l_law_frac ?c_law_frac ?k_law_frac ?a_law_plus ?l_law_plus ?c_law_plus ?k_law_plus ?a_law_power ?l_law_power ?c_law_power ?k_law_power ?a_law_choose ?l_law_choose ?c_law_choose ?k_law_choose ?a_law_times ?l_law_times ?c_law_times ?k_law_times ?a_law_polynomial ?l_law_polynomial ?c_law_polynomial ?k_law_polynomial ?a_law_spreads_told ?l_law_spreads_told ?c_law_spreads_told ?k_law_spreads_told ?a_law_row ?l_law_row ?c_law_row ?k_law_row ?a_law_dual_fractions ?l_law_dual_fractions ?c_law_dual_fractions ?k_law_dual_fractions ?a_law_sums_of ?l_law_sums_of ?c_law_sums_of ?k_law_sums_of ?a_law_rows_told ?l_law_rows_told ?c_law_rows_told ?k_law_rows_told ?a_law ?l_law ?c_law ?k_law ?z_comb ?z_gcd ?z_abs ?z_bool ?z_enumerate ?z_int ?z_isinstance ?z_len ?z_list ?z_max ?z_min ?z_range ?z_str ?z_sum ?z_tuple
    (case a_fraction => k_is)
    (case l_fraction => k_is)
    (case c_fraction => k_is)
    (case k_fraction => k_is)
    (case a_power_of => k_is)
    (case l_power_of => k_is)
    (case c_power_of => k_is)
    (case k_power_of => k_is)
    (case a_alternating => k_is)
    (case l_alternating => k_is)
    (case c_alternating => k_is)
    (case k_alternating => k_is)
    (case a_krawtchouk => k_is)
    (case l_krawtchouk => k_is)
    (case c_krawtchouk => k_is)
    (case k_krawtchouk => k_is)
    (case a_turned_counts => k_is)
    (case l_turned_counts => k_is)
    (case c_turned_counts => k_is)
    (case k_turned_counts => k_is)
    (case a_counts_of_dual => k_is)
    (case l_counts_of_dual => k_is)
    (case c_counts_of_dual => k_is)
    (case k_counts_of_dual => k_is)
    (case a_zero_sums => k_is)
    (case l_zero_sums => k_is)
    (case c_zero_sums => k_is)
    (case k_zero_sums => k_is)
    (case a_dual_sums => k_is)
    (case l_dual_sums => k_is)
    (case c_dual_sums => k_is)
    (case k_dual_sums => k_is)
    (case a_weights_in => k_is)
    (case l_weights_in => k_is)
    (case c_weights_in => k_is)
    (case k_weights_in => k_is)
    (case a_law_draws => k_is)
    (case l_law_draws => k_is)
    (case c_law_draws => k_is)
    (case k_law_draws => k_is)
    (case a_law_take => k_is)
    (case l_law_take => k_is)
    (case c_law_take => k_is)
    (case k_law_take => k_is)
    (case a_law_same => k_is)
    (case l_law_same => k_is)
    (case c_law_same => k_is)
    (case k_law_same => k_is)
    (case a_law_shuffled => k_is)
    (case l_law_shuffled => k_is)
    (case c_law_shuffled => k_is)
    (case k_law_shuffled => k_is)
    (case a_law_gcd => k_is)
    (case l_law_gcd => k_is)
    (case c_law_gcd => k_is)
    (case k_law_gcd => k_is)
    (case a_law_frac => k_is)
    (case l_law_frac => k_is)
    (case c_law_frac => k_is)
    (case k_law_frac => k_is)
    (case a_law_plus => k_is)
    (case l_law_plus => k_is)
    (case c_law_plus => k_is)
    (case k_law_plus => k_is)
    (case a_law_power => k_is)
    (case l_law_power => k_is)
    (case c_law_power => k_is)
    (case k_law_power => k_is)
    (case a_law_choose => k_is)
    (case l_law_choose => k_is)
    (case c_law_choose => k_is)
    (case k_law_choose => k_is)
    (case a_law_times => k_is)
    (case l_law_times => k_is)
    (case c_law_times => k_is)
    (case k_law_times => k_is)
    (case a_law_polynomial => k_is)
    (case l_law_polynomial => k_is)
    (case c_law_polynomial => k_is)
    (case k_law_polynomial => k_is)
    (case a_law_spreads_told => k_is)
    (case l_law_spreads_told => k_is)
    (case c_law_spreads_told => k_is)
    (case k_law_spreads_told => k_is)
    (case a_law_row => k_is)
    (case l_law_row => k_is)
    (case c_law_row => k_is)
    (case k_law_row => k_is)
    (case a_law_dual_fractions => k_is)
    (case l_law_dual_fractions => k_is)
    (case c_law_dual_fractions => k_is)
    (case k_law_dual_fractions => k_is)
    (case a_law_sums_of => k_is)
    (case l_law_sums_of => k_is)
    (case c_law_sums_of => k_is)
    (case k_law_sums_of => k_is)
    (case a_law_rows_told => k_is)
    (case l_law_rows_told => k_is)
    (case c_law_rows_told => k_is)
    (case k_law_rows_told => k_is)
    (case a_law => k_is)
    (case l_law => k_is)
    (case c_law => k_is)
    (case k_law => k_is)
    (case z_comb => k_is)
    (case z_gcd => k_is)
    (case z_abs => k_is)
    (case z_bool => k_is)
    (case z_enumerate => k_is)
    (case z_int => k_is)
    (case z_isinstance => k_is)
    (case z_len => k_is)
    (case z_list => k_is)
    (case z_max => k_is)
    (case z_min => k_is)
    (case z_range => k_is)
    (case z_str => k_is)
    (case z_sum => k_is)
    (case z_tuple => k_is)
