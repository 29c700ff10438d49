import PyProof.Rows.All
import Wide.All
import OpenK.AllK
import Wide.FinOn
import KE.RegKIsAll
import HandS.ForMost
import HandS.Flow
import HandS.SortInts
import HandS.Zip
import HandS.Style
import HandS.TupLe
import HandS.Deep
import HandS.Conv
import HandS.IsInst
import HandS.TupMul
import HandS.TupAny
import KE.GoesEnum
import KE.GoesMore
import KE.GoesZip
import HandS.SetFor
import HandS.Strs
import PySem.Challenge.RW_calmcrews_k79_whole_runs_over_days
set_option Elab.async false
set_option linter.all false
set_option maxRecDepth 100000
/-! DL1: data without the heap (D), how a value of the heap is such data, a def's slots by data, steps of the heap. -/
namespace DL
open PySem PySem.Spec PyProof.Rows L2

abbrev St := L2.St
/-- plain data -/
inductive D where
  | non | bl (b : Bool) | int (i : Int) | str (x : Str)
  | lst (xs : List D) | frz (xs : List D) | tup (xs : List D) | dct (kvs : List (Key × D)) | ins (c : Str) (fs : List (Str × D))

mutual
/-- the value v is the datum d over the frozen heap F -/
inductive Dr (K : PySem.W.Frag) (mg : Str → Option Value) (F : Hp) : V → D → Prop
  | non : Dr K mg F .non .non
  | bl (b : Bool) : Dr K mg F (.bl b) (.bl b)
  | int (i : Int) : Dr K mg F (.int i) (.int i)
  | str (x : Str) : Dr K mg F (.str x) (.str x)
  | lst {a : Addr} {xs : List V} {ds : List D} : F a = some (.lst xs) → DrA K mg F xs ds → Dr K mg F (.ref a) (.lst ds)
  | frz {a : Addr} {xs : List V} {ds : List D} : SqL K F a xs → DrA K mg F xs ds → Dr K mg F (.ref a) (.frz ds)
  | tup {a : Addr} {xs : List V} {ds : List D} : SqT K F a xs → DrA K mg F xs ds → Dr K mg F (.ref a) (.tup ds)
  | dct {a : Addr} {xs : List (Key × V)} {ds : List (Key × D)} : F a = some (.dK xs) → DrK K mg F xs ds → Dr K mg F (.ref a) (.dct ds)
  | ins {a C dx : Addr} {c : Str} {xs : List (Str × V)} {ds : List (Str × D)} : F a = some (.ins C dx xs) → mg c = some (.ref C) → DrF K mg F xs ds → Dr K mg F (.ref a) (.ins c ds)
inductive DrA (K : PySem.W.Frag) (mg : Str → Option Value) (F : Hp) : List V → List D → Prop
  | nil : DrA K mg F [] []
  | cons {v : V} {vs : List V} {d : D} {ds : List D} : Dr K mg F v d → DrA K mg F vs ds → DrA K mg F (v :: vs) (d :: ds)
inductive DrK (K : PySem.W.Frag) (mg : Str → Option Value) (F : Hp) : List (Key × V) → List (Key × D) → Prop
  | nil : DrK K mg F [] []
  | cons {k : Key} {v : V} {vs : List (Key × V)} {d : D} {ds : List (Key × D)} : Dr K mg F v d → DrK K mg F vs ds → DrK K mg F ((k, v) :: vs) ((k, d) :: ds)
inductive DrF (K : PySem.W.Frag) (mg : Str → Option Value) (F : Hp) : List (Str × V) → List (Str × D) → Prop
  | nil : DrF K mg F [] []
  | cons {k : Str} {v : V} {vs : List (Str × V)} {d : D} {ds : List (Str × D)} : Dr K mg F v d → DrF K mg F vs ds → DrF K mg F ((k, v) :: vs) ((k, d) :: ds)
end

theorem sqT_mono {K : PySem.W.Frag} {H H' : Hp} {a : Addr} {xs : List V} (e : Same H H') (h : SqT K H a xs) : SqT K H' a xs := by
  rcases h with (h | ⟨o, h⟩) | h
  · exact .inl (.inl (e _ _ h))
  · exact .inl (.inr ⟨o, e _ _ h⟩)
  · exact .inr h

section
variable {K : PySem.W.Frag} {mg : Str → Option Value} {F F' : Hp}
mutual
theorem Dr.mono (s : Same F F') : ∀ {v : V} {d : D}, Dr K mg F v d → Dr K mg F' v d
  | _, _, .non => .non
  | _, _, .bl b => .bl b
  | _, _, .int b => .int b
  | _, _, .str b => .str b
  | _, _, .lst h r => .lst (s _ _ h) (DrA.mono s r)
  | _, _, .frz h r => .frz (s.seq h) (DrA.mono s r)
  | _, _, .tup h r => .tup (sqT_mono s h) (DrA.mono s r)
  | _, _, .dct h r => .dct (s _ _ h) (DrK.mono s r)
  | _, _, .ins h m r => .ins (s _ _ h) m (DrF.mono s r)
theorem DrA.mono (s : Same F F') : ∀ {v : List V} {d : List D}, DrA K mg F v d → DrA K mg F' v d
  | _, _, .nil => .nil
  | _, _, .cons h r => .cons (Dr.mono s h) (DrA.mono s r)
theorem DrK.mono (s : Same F F') : ∀ {v : List (Key × V)} {d : List (Key × D)}, DrK K mg F v d → DrK K mg F' v d
  | _, _, .nil => .nil
  | _, _, .cons h r => .cons (Dr.mono s h) (DrK.mono s r)
theorem DrF.mono (s : Same F F') : ∀ {v : List (Str × V)} {d : List (Str × D)}, DrF K mg F v d → DrF K mg F' v d
  | _, _, .nil => .nil
  | _, _, .cons h r => .cons (Dr.mono s h) (DrF.mono s r)
end

theorem DrA.length : ∀ {v : List V} {d : List D}, DrA K mg F v d → v.length = d.length
  | _, _, .nil => rfl
  | _, _, .cons _ r => by rw [List.length_cons, List.length_cons, DrA.length r]
theorem DrA.get : ∀ {v : List V} {d : List D} {i : Nat} {x : D}, DrA K mg F v d → d[i]? = some x → ∃ u, v[i]? = some u ∧ Dr K mg F u x
  | _, _, _, _, .nil, e => by simp at e
  | _, _, 0, _, .cons r _, e => by simp at e; subst e; exact ⟨_, rfl, r⟩
  | _, _, i + 1, x, .cons _ t, e => by
    obtain ⟨u, h1, h2⟩ := DrA.get (i := i) (x := x) t (by simpa using e)
    exact ⟨u, by simpa using h1, h2⟩
theorem DrA.getV : ∀ {v : List V} {d : List D} {i : Nat} {u : V}, DrA K mg F v d → v[i]? = some u → ∃ x, d[i]? = some x ∧ Dr K mg F u x
  | _, _, _, _, .nil, e => by simp at e
  | _, _, 0, _, .cons r _, e => by simp at e; subst e; exact ⟨_, rfl, r⟩
  | _, _, i + 1, x, .cons _ t, e => by
    obtain ⟨u, h1, h2⟩ := DrA.getV (i := i) (u := x) t (by simpa using e)
    exact ⟨u, by simpa using h1, h2⟩
theorem DrA.append : ∀ {v w : List V} {d e : List D}, DrA K mg F v d → DrA K mg F w e → DrA K mg F (v ++ w) (d ++ e)
  | _, _, _, _, .nil, s => s
  | _, _, _, _, .cons r t, s => .cons r (DrA.append t s)
theorem DrA.take : ∀ {v : List V} {d : List D} (n : Nat), DrA K mg F v d → DrA K mg F (v.take n) (d.take n)
  | _, _, 0, _ => .nil
  | _, _, _ + 1, .nil => .nil
  | _, _, n + 1, .cons r t => .cons r (DrA.take n t)
theorem DrA.drop : ∀ {v : List V} {d : List D} (n : Nat), DrA K mg F v d → DrA K mg F (v.drop n) (d.drop n)
  | _, _, 0, r => r
  | _, _, _ + 1, .nil => .nil
  | _, _, n + 1, .cons _ t => DrA.drop n t
theorem DrA.set {x : V} {y : D} (r : Dr K mg F x y) : ∀ {v : List V} {d : List D} (i : Nat), DrA K mg F v d → DrA K mg F (v.set i x) (d.set i y)
  | _, _, _, .nil => .nil
  | _, _, 0, .cons _ t => .cons r t
  | _, _, i + 1, .cons q t => .cons q (DrA.set r i t)
theorem DrA.erase : ∀ {v : List V} {d : List D} (i : Nat), DrA K mg F v d → DrA K mg F (v.eraseIdx i) (d.eraseIdx i)
  | _, _, _, .nil => .nil
  | _, _, 0, .cons _ t => t
  | _, _, i + 1, .cons q t => .cons q (DrA.erase i t)
theorem DrA.reverse : ∀ {v : List V} {d : List D}, DrA K mg F v d → DrA K mg F v.reverse d.reverse
  | _, _, .nil => .nil
  | _, _, .cons r t => by
    rw [List.reverse_cons, List.reverse_cons]
    exact (DrA.reverse t).append (.cons r .nil)
theorem DrA.dropLast {v : List V} {d : List D} (r : DrA K mg F v d) : DrA K mg F v.dropLast d.dropLast := by
  rw [List.dropLast_eq_take, List.dropLast_eq_take, r.length]
  exact r.take _
theorem DrA.replicate {v : V} {d : D} (r : Dr K mg F v d) : ∀ n : Nat, DrA K mg F (List.replicate n v) (List.replicate n d)
  | 0 => .nil
  | n + 1 => .cons r (DrA.replicate r n)
theorem DrA.flat {v : List V} {d : List D} (r : DrA K mg F v d) : ∀ n : Nat, DrA K mg F (List.replicate n v).flatten (List.replicate n d).flatten
  | 0 => .nil
  | n + 1 => by
    rw [List.replicate_succ, List.replicate_succ, List.flatten_cons, List.flatten_cons]
    exact r.append (DrA.flat r n)
theorem DrA.snoc {v : List V} {d : List D} {x : V} {y : D} (r : DrA K mg F v d) (q : Dr K mg F x y) : DrA K mg F (v ++ [x]) (d ++ [y]) := r.append (.cons q .nil)
theorem DrF.lookup : ∀ {v : List (Str × V)} {d : List (Str × D)} {k : Str} {x : D}, DrF K mg F v d → d.lookup k = some x → ∃ u, v.lookup k = some u ∧ Dr K mg F u x
  | _, _, _, _, .nil, e => by simp at e
  | _, _, k, x, .cons (k := k') r t, e => by
    by_cases h : k = k'
    · subst h
      rw [List.lookup_cons_self] at e ⊢
      cases e
      exact ⟨_, rfl, r⟩
    · have h' : (k == k') = false := by simpa using h
      rw [List.lookup_cons, h'] at e ⊢
      exact DrF.lookup t e
theorem DrF.length : ∀ {v : List (Str × V)} {d : List (Str × D)}, DrF K mg F v d → v.length = d.length
  | _, _, .nil => rfl
  | _, _, .cons _ r => by rw [List.length_cons, List.length_cons, DrF.length r]
theorem DrF.keys : ∀ {v : List (Str × V)} {d : List (Str × D)}, DrF K mg F v d → v.map (·.1) = d.map (·.1)
  | _, _, .nil => rfl
  | _, _, .cons _ r => by rw [List.map_cons, List.map_cons, DrF.keys r]
theorem DrF.snoc : ∀ {v : List (Str × V)} {d : List (Str × D)} {k : Str} {x : V} {y : D}, DrF K mg F v d → Dr K mg F x y → DrF K mg F (v ++ [(k, x)]) (d ++ [(k, y)])
  | _, _, _, _, _, .nil, q => .cons q .nil
  | _, _, _, _, _, .cons r t, q => .cons r (DrF.snoc t q)
/-- ints all -/
theorem drA_ints : ∀ {v : List V} {ns : List Int}, DrA K mg F v (ns.map D.int) → v = ns.map V.int
  | _, [], .nil => rfl
  | _, n :: ns, .cons (.int _) t => by rw [drA_ints t]; rfl
theorem ints_drA : ∀ (ns : List Int), DrA K mg F (ns.map V.int) (ns.map D.int)
  | [] => .nil
  | n :: ns => .cons (.int n) (ints_drA ns)
theorem drA_bools : ∀ {v : List V} {ns : List Bool}, DrA K mg F v (ns.map D.bl) → v = ns.map V.bl
  | _, [], .nil => rfl
  | _, n :: ns, .cons (.bl _) t => by rw [drA_bools t]; rfl
end

/-! ### objects that one slot alone holds -/
inductive Ob where
  | lst (xs : List D) | ins (c : Str) (fs : List (Str × D)) | dct (kvs : List (Key × D))
def Ob.d : Ob → D
  | .lst xs => .lst xs
  | .ins c fs => .ins c fs
  | .dct kvs => .dct kvs
def OR (K : PySem.W.Frag) (mg : Str → Option Value) (F : Hp) : HO → Ob → Prop
  | .lst vs, .lst ds => DrA K mg F vs ds
  | .ins C _ fs, .ins c ds => mg c = some (.ref C) ∧ DrF K mg F fs ds
  | .dK kvs, .dct ds => DrK K mg F kvs ds
  | _, _ => False
theorem OR.mono {K : PySem.W.Frag} {mg : Str → Option Value} {F F' : Hp} (s : Same F F') {h : HO} {o : Ob} (x : OR K mg F h o) : OR K mg F' h o := by
  cases h <;> cases o <;> first | exact x.elim | exact DrA.mono s x | exact ⟨x.1, DrF.mono s x.2⟩ | exact DrK.mono s x
theorem OR.dr {K : PySem.W.Frag} {mg : Str → Option Value} {F F' : Hp} (s : Same F F') {h : HO} {o : Ob} {p : Addr} (x : OR K mg F h o) (hp : F' p = some h) : Dr K mg F' (.ref p) o.d := by
  cases h <;> cases o <;> first | exact x.elim | exact .lst hp (DrA.mono s x) | exact .ins hp x.1 (DrF.mono s x.2) | exact .dct hp (DrK.mono s x)
theorem OR.mut {K : PySem.W.Frag} {mg : Str → Option Value} {F : Hp} {h : HO} {o : Ob} (x : OR K mg F h o) : Mut (some h) := by
  cases h <;> cases o <;> first | exact x.elim | trivial

inductive Slot where
  | non | val (d : D) | own (o : Ob)
abbrev DEnv := List Slot
/-- what an expression yields: data; an object that nobody else holds; the object that a slot holds -/
inductive Dv where
  | val (d : D) | own (o : Ob) | slot (i : Nat)
/-- what a call hands back -/
inductive R where
  | val (d : D) | own (o : Ob)
def R.d : R → D
  | .val d => d
  | .own o => o.d
inductive Exn where
  | stuck | exn (c : Str) (as : List D)
inductive Res (α : Type) where
  | ok (a : α) (ρ : DEnv) | err (x : Exn)
def Res.bind {α β : Type} (r : Res α) (f : α → DEnv → Res β) : Res β := match r with
  | .ok a ρ => f a ρ
  | .err x => .err x
theorem Res.bind_ok {α β : Type} {a : α} {ρ : DEnv} {f : α → DEnv → Res β} : (Res.ok a ρ).bind f = f a ρ := rfl
theorem Res.bind_inv {α β : Type} {r : Res α} {f : α → DEnv → Res β} {b : β} {ρ' : DEnv} (h : r.bind f = .ok b ρ') : ∃ a ρ, r = .ok a ρ ∧ f a ρ = .ok b ρ' := by
  cases r with
  | ok a ρ => exact ⟨a, ρ, rfl, h⟩
  | err x => cases h
def Res.ofO {α : Type} (o : Option α) (ρ : DEnv) : Res α := match o with
  | some a => .ok a ρ
  | none => .err .stuck
theorem Res.ofO_inv {α : Type} {o : Option α} {ρ ρ' : DEnv} {a : α} (h : Res.ofO o ρ = .ok a ρ') : o = some a ∧ ρ' = ρ := by
  cases o with
  | none => cases h
  | some b => cases h; exact ⟨rfl, rfl⟩

/-- p is the object of a slot -/
def Ch (σ : St) (ρ : DEnv) (p : Addr) : Prop := ∃ (i : Nat) (o : Ob), ρ[i]? = some (Slot.own o) ∧ σ[i]? = some (some (.ref p))
structure Rel (K : PySem.W.Frag) (mg : Str → Option Value) (F H : Hp) (σ : St) (ρ : DEnv) : Prop where
  sub : Same F H
  len : ρ.length = σ.length
  val : ∀ (i : Nat) (d : D), ρ[i]? = some (Slot.val d) → ∃ v, σ[i]? = some (some v) ∧ Dr K mg F v d
  own : ∀ (i : Nat) (o : Ob), ρ[i]? = some (Slot.own o) → ∃ p h, σ[i]? = some (some (.ref p)) ∧ H p = some h ∧ F p = none ∧ OR K mg F h o
  apart : ∀ (i j : Nat) (o o' : Ob) (p : Addr), ρ[i]? = some (Slot.own o) → ρ[j]? = some (Slot.own o') → σ[i]? = some (some (.ref p)) → σ[j]? = some (some (.ref p)) → i = j
structure Stp (σ : St) (F H : Hp) (ρ : DEnv) (σ' : St) (F' H' : Hp) (ρ' : DEnv) : Prop where
  fle : Same F F'
  keep : ∀ p o, H p = some o → ¬ Ch σ ρ p → H' p = some o
  new : ∀ p, F' p ≠ none → F p ≠ none ∨ H p = none ∨ Ch σ ρ p
  chs : ∀ p, Ch σ' ρ' p → Ch σ ρ p ∨ H p = none
  dom : ∀ p, H' p = none → H p = none
section
variable {σ σ1 σ2 : St} {F F1 F2 H H1 H2 : Hp} {ρ ρ1 ρ2 : DEnv}
theorem Stp.refl : Stp σ F H ρ σ F H ρ := ⟨Same.refl _, fun _ _ h _ => h, fun _ h => .inl h, fun _ h => .inl h, fun _ h => h⟩
theorem Stp.none1 (a : Stp σ F H ρ σ1 F1 H1 ρ1) {p : Addr} (h : H1 p = none) : H p = none ∨ Ch σ ρ p := by
  by_cases c : Ch σ ρ p
  · exact .inr c
  · cases e : H p with
    | none => exact .inl rfl
    | some o => rw [a.keep p o e c] at h; cases h
theorem Stp.trans (a : Stp σ F H ρ σ1 F1 H1 ρ1) (b : Stp σ1 F1 H1 ρ1 σ2 F2 H2 ρ2) : Stp σ F H ρ σ2 F2 H2 ρ2 where
  fle := a.fle.trans b.fle
  keep := fun p o h c => by
    refine b.keep p o (a.keep p o h c) fun c1 => ?_
    rcases a.chs p c1 with q | q
    · exact c q
    · rw [q] at h; cases h
  new := fun p h => by
    rcases b.new p h with q | q | q
    · exact a.new p q
    · rcases a.none1 q with z | z
      · exact .inr (.inl z)
      · exact .inr (.inr z)
    · rcases a.chs p q with z | z
      · exact .inr (.inr z)
      · exact .inr (.inl z)
  chs := fun p h => by
    rcases b.chs p h with q | q
    · exact a.chs p q
    · rcases a.none1 q with z | z
      · exact .inr z
      · exact .inl z
  dom := fun p h => a.dom p (b.dom p h)
end
/-- slots that hold something go on to -/
def Liv (ρ ρ' : DEnv) : Prop := ∀ (i : Nat) (s : Slot), ρ[i]? = some s → s ≠ Slot.non → ∃ s', ρ'[i]? = some s' ∧ s' ≠ Slot.non
theorem Liv.refl (ρ : DEnv) : Liv ρ ρ := fun _ s h n => ⟨s, h, n⟩
theorem Liv.trans {ρ ρ1 ρ2 : DEnv} (a : Liv ρ ρ1) (b : Liv ρ1 ρ2) : Liv ρ ρ2 := fun i s h n => by
  obtain ⟨s', h', n'⟩ := a i s h n
  exact b i s' h' n'

def DvR (K : PySem.W.Frag) (mg : Str → Option Value) (F H : Hp) (σ : St) (ρ : DEnv) (v : V) : Dv → Prop
  | .val d => Dr K mg F v d
  | .own o => ∃ p h, v = .ref p ∧ H p = some h ∧ F p = none ∧ OR K mg F h o ∧ ¬ Ch σ ρ p
  | .slot i => σ[i]? = some (some v) ∧ ∃ s : Slot, ρ[i]? = some s ∧ s ≠ Slot.non
def FreshR (H : Hp) (v : V) : Dv → Prop
  | .own _ => ∃ p, v = .ref p ∧ H p = none
  | _ => True
theorem DvR.step {K : PySem.W.Frag} {mg : Str → Option Value} {F F' H H' : Hp} {σ : St} {ρ ρ' : DEnv} {v : V} {r : Dv} (x : DvR K mg F H σ ρ v r) (s : Stp σ F H ρ σ F' H' ρ') (l : Liv ρ ρ') : DvR K mg F' H' σ ρ' v r := by
  cases r with
  | val d => exact Dr.mono s.fle x
  | own o =>
    obtain ⟨p, h, e, hp, fp, r, c⟩ := x
    have nc : ¬ Ch σ ρ' p := fun z => by
      rcases s.chs p z with q | q
      · exact c q
      · rw [q] at hp; cases hp
    refine ⟨p, h, e, s.keep p h hp c, ?_, r.mono s.fle, nc⟩
    cases q : F' p with
    | none => rfl
    | some z =>
      rcases s.new p (by rw [q]; simp) with y | y | y
      · exact absurd fp y
      · rw [hp] at y; cases y
      · exact absurd y c
  | slot i =>
    obtain ⟨e, q, h, n⟩ := x
    exact ⟨e, l i q h n⟩
def Dv.dat (ρ : DEnv) : Dv → Option D
  | .val d => some d
  | .own o => some o.d
  | .slot i => match ρ[i]? with
    | some (.val d) => some d
    | some (.own o) => some o.d
    | _ => none
/-- readable at H, its parts over F -/
def Rd1 (K : PySem.W.Frag) (mg : Str → Option Value) (F H : Hp) (v : V) (d : D) : Prop :=
  Dr K mg F v d ∨ ∃ p h o, v = .ref p ∧ H p = some h ∧ OR K mg F h o ∧ d = o.d
theorem DvR.rd {K : PySem.W.Frag} {mg : Str → Option Value} {F H : Hp} {σ : St} {ρ : DEnv} {v : V} {r : Dv} {d : D} (x : DvR K mg F H σ ρ v r) (R : Rel K mg F H σ ρ) (e : r.dat ρ = some d) : Rd1 K mg F H v d := by
  cases r with
  | val d' => cases e; exact .inl x
  | own o =>
    cases e
    obtain ⟨p, h, e, hp, fp, r, c⟩ := x
    exact .inr ⟨p, h, o, e, hp, r, rfl⟩
  | slot i =>
    obtain ⟨e1, s, h, n⟩ := x
    simp only [Dv.dat, h] at e
    cases s with
    | non => cases e
    | val d' =>
      cases e
      obtain ⟨v', e2, q⟩ := R.val i d h
      rw [e1] at e2; cases e2
      exact .inl q
    | own o =>
      cases e
      obtain ⟨p, h', e2, hp, fp, r⟩ := R.own i o h
      rw [e1] at e2; cases e2
      exact .inr ⟨p, h', o, rfl, hp, r, rfl⟩
theorem Rd1.dr {K : PySem.W.Frag} {mg : Str → Option Value} {F H : Hp} {v : V} {d : D} (s : Same F H) (x : Rd1 K mg F H v d) : Dr K mg H v d := by
  rcases x with x | ⟨p, h, o, rfl, hp, r, rfl⟩
  · exact x.mono s
  · exact r.dr s hp
/-- new objects alone -/
structure Al (F H F' H' : Hp) : Prop where
  fle : Same F F'
  hle : Same H H'
  new : ∀ p, F' p ≠ none → F p ≠ none ∨ H p = none
  sub : Same F' H'
theorem Al.refl {F H : Hp} (s : Same F H) : Al F H F H := ⟨Same.refl _, Same.refl _, fun _ h => .inl h, s⟩
theorem Al.upd {F H : Hp} (s : Same F H) {p : Addr} {o : HO} (hp : H p = none) : Al F H (L2.upd F p o) (L2.upd H p o) := by
  have fp : F p = none := s.free hp
  refine ⟨fun q z h => ?_, fun q z h => ?_, fun q h => ?_, fun q z h => ?_⟩
  · rw [upd_ne (ne_of_none h fp)]; exact h
  · rw [upd_ne (ne_of_none h hp)]; exact h
  · by_cases e : q = p
    · subst e; exact .inr hp
    · rw [upd_ne e] at h; exact .inl h
  · by_cases e : q = p
    · subst e; rw [upd_same] at h ⊢; exact h
    · rw [upd_ne e] at h ⊢; exact s _ _ h
theorem Al.updH {F H : Hp} (s : Same F H) {p : Addr} {o : HO} (hp : H p = none) : Al F H F (L2.upd H p o) := by
  refine ⟨Same.refl _, fun q z h => ?_, fun q h => .inl h, fun q z h => ?_⟩
  · rw [upd_ne (ne_of_none h hp)]; exact h
  · have h' := s _ _ h
    rw [upd_ne (ne_of_none h' hp)]; exact h'
theorem Al.stp {F H F' H' : Hp} (a : Al F H F' H') {σ : St} {ρ : DEnv} : Stp σ F H ρ σ F' H' ρ :=
  ⟨a.fle, fun p o h _ => a.hle p o h, fun p h => (a.new p h).elim .inl fun z => .inr (.inl z), fun p h => .inl h, fun p h => a.hle.free h⟩
theorem Al.rel {K : PySem.W.Frag} {mg : Str → Option Value} {F H F' H' : Hp} {σ : St} {ρ : DEnv} (a : Al F H F' H') (R : Rel K mg F H σ ρ) : Rel K mg F' H' σ ρ := by
  refine ⟨a.sub, R.len, fun i d h => ?_, fun i o h => ?_, R.apart⟩
  · obtain ⟨v, e, r⟩ := R.val i d h
    exact ⟨v, e, r.mono a.fle⟩
  · obtain ⟨p, q, e, hp, fp, r⟩ := R.own i o h
    refine ⟨p, q, e, a.hle _ _ hp, ?_, r.mono a.fle⟩
    cases z : F' p with
    | none => rfl
    | some y =>
      rcases a.new p (by rw [z]; simp) with w | w
      · exact absurd fp w
      · rw [hp] at w; cases w
theorem Al.trans {F H F1 H1 F2 H2 : Hp} (a : Al F H F1 H1) (b : Al F1 H1 F2 H2) : Al F H F2 H2 :=
  ⟨a.fle.trans b.fle, a.hle.trans b.hle, fun p h => by
    rcases b.new p h with q | q
    · exact a.new p q
    · exact .inr (a.hle.free q), b.sub⟩

/-- the end of something that yields z over new objects alone -/
def RR (K : PySem.W.Frag) (mg : Str → Option Value) (F' H H' : Hp) (v : V) : R → Prop
  | .val u => Dr K mg F' v u
  | .own o => ∃ p h, v = .ref p ∧ H p = none ∧ H' p = some h ∧ F' p = none ∧ OR K mg F' h o
def PostR (K : PySem.W.Frag) (mg : Str → Option Value) (F H : Hp) (z : R) (Q : VK) : Prop :=
  ∀ F' H' v, Al F H F' H' → RR K mg F' H H' v z → Q v H'
def R.dv : R → Dv
  | .val d => .val d
  | .own o => .own o
end DL


set_option Elab.async false
set_option linter.all false
set_option maxRecDepth 100000
set_option maxHeartbeats 4000000
/-! DL2: expressions by data: readings tE, tF, tA, tT and a rule a construct. -/
namespace DL
open PySem PySem.Spec PyProof.Rows L2

theorem PE.mono {X : Cx} {e : Expr} {t t' : TE} (h : PE X e t) (k : ∀ σ H Q, t' σ H Q → t σ H Q) : PE X e t' := ⟨fun pins s σ H Q I q => h.run pins s σ H Q I (k σ H Q q)⟩
theorem PT.mono {X : Cx} {e : Expr} {t t' : TT} (h : PT X e t) (k : ∀ σ H Q, t' σ H Q → t σ H Q) : PT X e t' := ⟨fun pins s σ H Q I q => h.run pins s σ H Q I (k σ H Q q)⟩
theorem PW.mono {X : Cx} {e : Expr} {t t' : TT} (h : PW X e t) (k : ∀ σ H Q, t' σ H Q → t σ H Q) : PW X e t' := ⟨fun w pins s σ H Q I q => h.run w pins s σ H Q I (k σ H Q q)⟩
theorem PA.mono {X : Cx} {e : List Expr} {t t' : TA} (h : PA X e t) (k : ∀ σ H Q, t' σ H Q → t σ H Q) : PA X e t' := ⟨fun p pins s σ H Q I q => h.run p pins s σ H Q I (k σ H Q q)⟩
theorem PS.mono {X : Cx} {e : Stmt} {t t' : TS} (h : PS X e t) (k : ∀ D σ H, t' D σ H → t D σ H) : PS X e t' := ⟨fun pins s σ H D I q => h.run pins s σ H D I (k D σ H q)⟩
theorem PSs.mono {X : Cx} {e : List Stmt} {t t' : TS} (h : PSs X e t) (k : ∀ D σ H, t' D σ H → t D σ H) : PSs X e t' := ⟨fun pins s σ H D I q => h.run pins s σ H D I (k D σ H q)⟩
theorem PI.mono {X : Cx} {tg e : Expr} {t t' : TI} (h : PI X tg e t) (k : ∀ σ H R, t' σ H R → t σ H R) : PI X tg e t' := ⟨fun pins s σ H R I q => h.run pins s σ H R I (k σ H R q)⟩

section
variable (K : PySem.W.Frag) (mg : Str → Option Value)
def tE (f : DEnv → Res Dv) : TE := fun σ H Q => ∃ F ρ r ρ', Rel K mg F H σ ρ ∧ f ρ = .ok r ρ' ∧
  ∀ F' H' v, Stp σ F H ρ σ F' H' ρ' → Liv ρ ρ' → Rel K mg F' H' σ ρ' → DvR K mg F' H' σ ρ' v r → FreshR H v r → Q v H'
/-- frozen -/
def tF (f : DEnv → Res D) : TE := fun σ H Q => ∃ F ρ d ρ', Rel K mg F H σ ρ ∧ f ρ = .ok d ρ' ∧
  ∀ F' H' v, Stp σ F H ρ σ F' H' ρ' → Liv ρ ρ' → Rel K mg F' H' σ ρ' → Dr K mg F' v d → Q v H'
/-- frozen, several -/
def tA (f : DEnv → Res (List D)) : TA := fun σ H Q => ∃ F ρ ds ρ', Rel K mg F H σ ρ ∧ f ρ = .ok ds ρ' ∧
  ∀ F' H' vs, Stp σ F H ρ σ F' H' ρ' → Liv ρ ρ' → Rel K mg F' H' σ ρ' → DrA K mg F' vs ds → Q vs H'
def DvA (F H : Hp) (σ : St) (ρ : DEnv) : List V → List Dv → Prop := Paired (DvR K mg F H σ ρ)
/-- as they are, several -/
def tB (f : DEnv → Res (List Dv)) : TA := fun σ H Q => ∃ F ρ rs ρ', Rel K mg F H σ ρ ∧ f ρ = .ok rs ρ' ∧
  ∀ F' H' vs, Stp σ F H ρ σ F' H' ρ' → Liv ρ ρ' → Rel K mg F' H' σ ρ' → DvA K mg F' H' σ ρ' vs rs → Q vs H'
def tT (f : DEnv → Res Bool) : TT := fun σ H Q => ∃ F ρ b ρ', Rel K mg F H σ ρ ∧ f ρ = .ok b ρ' ∧
  ∀ F' H', Stp σ F H ρ σ F' H' ρ' → Liv ρ ρ' → Rel K mg F' H' σ ρ' → Q b H'
end
abbrev DE (X : Cx) (e : Expr) (f : DEnv → Res Dv) : Prop := PE X e (tE X.K X.mg f)
abbrev DF (X : Cx) (e : Expr) (f : DEnv → Res D) : Prop := PE X e (tF X.K X.mg f)
abbrev DA (X : Cx) (es : List Expr) (f : DEnv → Res (List D)) : Prop := PA X es (tA X.K X.mg f)
abbrev DB (X : Cx) (es : List Expr) (f : DEnv → Res (List Dv)) : Prop := PA X es (tB X.K X.mg f)
abbrev DT (X : Cx) (e : Expr) (f : DEnv → Res Bool) : Prop := PT X e (tT X.K X.mg f)

/-! ### names, constants -/
def dVar (i : Nat) : DEnv → Res Dv := fun ρ => match ρ[i]? with
  | some (.val d) => .ok (.val d) ρ
  | some (.own _) => .ok (.slot i) ρ
  | _ => .err .stuck
def dCon (d : D) : DEnv → Res Dv := fun ρ => .ok (.val d) ρ
section
variable {X : Cx} {a b e : Expr} {pos : Pos}
theorem de_var {i : Nat} {x : Str} (hN : X.N[i]? = some x) (hv : Vis X.env.scope x) (hd : (x == ("__debug__" : Str)) = false) (hcd : (x == ("__classdict__" : Str)) = false) : DE X (.Name x pos) (dVar i) := by
  refine PE.mono (pe_var hN hv hd hcd) fun σ H Q h => ?_
  obtain ⟨F, ρ, r, ρ', R, e, q⟩ := h
  unfold dVar at e
  split at e
  · rename_i d hd
    cases e
    obtain ⟨v, e1, dr⟩ := R.val i d hd
    exact ⟨v, e1, q F H v .refl (.refl _) R dr trivial⟩
  · rename_i o ho
    cases e
    obtain ⟨p, h, e1, hp, fp, r⟩ := R.own i o ho
    exact ⟨_, e1, q F H _ .refl (.refl _) R ⟨e1, _, ho, by simp⟩ trivial⟩
  · cases e
theorem de_con {d : D} {v : V} (h : PE X e (tC v)) (hd : ∀ F, Dr X.K X.mg F v d) : DE X e (dCon d) := by
  refine PE.mono h fun σ H Q h => ?_
  obtain ⟨F, ρ, r, ρ', R, e, q⟩ := h
  cases e
  exact q F H v .refl (.refl _) R (hd F) trivial
theorem de_int {i j} : DE X (.Constant (.int i) j pos) (dCon (.int i)) := de_con pe_int fun _ => .int i
theorem de_bl {i j} : DE X (.Constant (.bool i) j pos) (dCon (.bl i)) := de_con pe_bl fun _ => .bl i
theorem de_non {j} : DE X (.Constant .none j pos) (dCon .non) := de_con pe_non fun _ => .non
theorem de_str {i j} : DE X (.Constant (.str i) j pos) (dCon (.str i)) := de_con pe_str fun _ => .str i

/-! ### freezing -/
def frz : Dv → DEnv → Res D
  | .val d, ρ => .ok d ρ
  | .own o, ρ => .ok o.d ρ
  | .slot i, ρ => match ρ[i]? with
    | some (.val d) => .ok d ρ
    | some (.own o) => .ok o.d (ρ.set i (.val o.d))
    | _ => .err .stuck
def dFrz (f : DEnv → Res Dv) : DEnv → Res D := fun ρ => (f ρ).bind frz
theorem getElem?_set_slot {ρ : DEnv} {i j : Nat} {s s' : Slot} (h : (ρ.set i s)[j]? = some s') : (j = i ∧ s' = s) ∨ (j ≠ i ∧ ρ[j]? = some s') := by
  by_cases e : i = j
  · subst e
    by_cases l : i < ρ.length
    · rw [List.getElem?_set_self l] at h
      cases h
      exact .inl ⟨rfl, rfl⟩
    · rw [List.getElem?_eq_none (by simpa using l)] at h
      cases h
  · rw [List.getElem?_set_ne e] at h
    exact .inr ⟨fun z => e z.symm, h⟩
theorem fpNone {K : PySem.W.Frag} {mg : Str → Option Value} {F H : Hp} {σ : St} {ρ : DEnv} (R : Rel K mg F H σ ρ) {p q : Addr} {h : HO} (fp : F p = none) (n : p ≠ q) : (upd F q h) p = none := by
  rw [upd_ne n]; exact fp
theorem freeze_ok {K : PySem.W.Frag} {mg : Str → Option Value} {F0 H0 F H : Hp} {σ : St} {ρ0 ρ ρ' : DEnv} {v : V} {r : Dv} {d : D} (s : Stp σ F0 H0 ρ0 σ F H ρ) (l : Liv ρ0 ρ) (R : Rel K mg F H σ ρ) (x : DvR K mg F H σ ρ v r) (fr : FreshR H0 v r) (e : frz r ρ = .ok d ρ') :
    ∃ F', Stp σ F0 H0 ρ0 σ F' H ρ' ∧ Liv ρ0 ρ' ∧ Rel K mg F' H σ ρ' ∧ Dr K mg F' v d := by
  cases r with
  | val d' => cases e; exact ⟨F, s, l, R, x⟩
  | own o =>
    cases e
    obtain ⟨p, h, rfl, hp, fp, r, c⟩ := x
    obtain ⟨p', e', hp0⟩ := fr
    cases e'
    have sm : Same F (upd F p h) := fun q z hz => by rw [upd_ne (ne_of_none hz fp)]; exact hz
    refine ⟨upd F p h, ⟨s.fle.trans sm, s.keep, fun q hq => ?_, s.chs, s.dom⟩, l, ⟨fun q z hz => ?_, R.len, fun i d hd => ?_, fun i o' ho => ?_, R.apart⟩, r.dr sm upd_same⟩
    · by_cases z : q = p
      · subst z; exact .inr (.inl hp0)
      · rw [upd_ne z] at hq; exact s.new q hq
    · by_cases y : q = p
      · subst y; rw [upd_same] at hz; cases hz; exact hp
      · rw [upd_ne y] at hz; exact R.sub _ _ hz
    · obtain ⟨v, e1, dr⟩ := R.val i d hd
      exact ⟨v, e1, dr.mono sm⟩
    · obtain ⟨p2, h2, e1, hp2, fp2, r2⟩ := R.own i o' ho
      have ne : p2 ≠ p := fun z => c ⟨i, o', ho, by rw [← z]; exact e1⟩
      exact ⟨p2, h2, e1, hp2, by rw [upd_ne ne]; exact fp2, r2.mono sm⟩
  | slot i =>
    obtain ⟨e1, s1, hs, n⟩ := x
    simp only [frz, hs] at e
    cases s1 with
    | non => exact absurd rfl n
    | val d' =>
      cases e
      obtain ⟨v', e2, q⟩ := R.val i d hs
      rw [e1] at e2; cases e2
      exact ⟨F, s, l, R, q⟩
    | own o =>
      cases e
      obtain ⟨p, h, e2, hp, fp, r⟩ := R.own i o hs
      rw [e1] at e2; cases e2
      have sm : Same F (upd F p h) := fun q z hz => by rw [upd_ne (ne_of_none hz fp)]; exact hz
      have chp : Ch σ ρ p := ⟨i, o, hs, e1⟩
      refine ⟨upd F p h, ⟨s.fle.trans sm, s.keep, fun q hq => ?_, fun q hq => ?_, s.dom⟩, fun j s2 h2 n2 => ?_, ⟨fun q z hz => ?_, by rw [List.length_set]; exact R.len, fun j d hd => ?_, fun j o' ho => ?_, fun j k oj ok q hj hk ej ek => ?_⟩, r.dr sm upd_same⟩
      · by_cases z : q = p
        · subst z
          rcases s.chs _ chp with w | w
          · exact .inr (.inr w)
          · exact .inr (.inl w)
        · rw [upd_ne z] at hq; exact s.new q hq
      · obtain ⟨j, o', ho, ej⟩ := hq
        rcases getElem?_set_slot ho with ⟨_, z⟩ | ⟨_, z⟩
        · cases z
        · exact s.chs q ⟨j, o', z, ej⟩
      · obtain ⟨s3, h3, n3⟩ := l j s2 h2 n2
        by_cases z : i = j
        · subst z
          have il : i < ρ.length := (List.getElem?_eq_some_iff.mp hs).1
          exact ⟨_, List.getElem?_set_self il, by simp⟩
        · exact ⟨s3, by rw [List.getElem?_set_ne z]; exact h3, n3⟩
      · by_cases y : q = p
        · subst y; rw [upd_same] at hz; cases hz; exact hp
        · rw [upd_ne y] at hz; exact R.sub _ _ hz
      · rcases getElem?_set_slot hd with ⟨z, w⟩ | ⟨_, z⟩
        · subst z; cases w
          exact ⟨_, e1, r.dr sm upd_same⟩
        · obtain ⟨v, e3, dr⟩ := R.val j d z
          exact ⟨v, e3, dr.mono sm⟩
      · rcases getElem?_set_slot ho with ⟨_, z⟩ | ⟨nj, z⟩
        · cases z
        · obtain ⟨p2, h2, e3, hp2, fp2, r2⟩ := R.own j o' z
          have ne : p2 ≠ p := fun w => by
            subst w
            exact nj (R.apart j i o' o p2 z hs e3 e1)
          exact ⟨p2, h2, e3, hp2, by rw [upd_ne ne]; exact fp2, r2.mono sm⟩
      · rcases getElem?_set_slot hj with ⟨_, z⟩ | ⟨_, zj⟩
        · cases z
        rcases getElem?_set_slot hk with ⟨_, z⟩ | ⟨_, zk⟩
        · cases z
        exact R.apart j k oj ok q zj zk ej ek
theorem df_of {f : DEnv → Res Dv} (h : DE X e f) : DF X e (dFrz f) := by
  refine PE.mono h fun σ H Q h => ?_
  obtain ⟨F, ρ, r, ρ', R, e, q⟩ := h
  obtain ⟨x, ρ1, e1, e2⟩ := Res.bind_inv e
  refine ⟨F, ρ, x, ρ1, R, e1, fun F' H' v s l R' dv fr => ?_⟩
  obtain ⟨F2, s2, l2, R2, dr⟩ := freeze_ok s l R' dv fr e2
  exact q F2 H' v s2 l2 R2 dr

/-! ### lists of expressions -/
def dNil {α : Type} : DEnv → Res (List α) := fun ρ => .ok [] ρ
def dCons {α : Type} (f : DEnv → Res α) (g : DEnv → Res (List α)) : DEnv → Res (List α) := fun ρ => (f ρ).bind fun d ρ1 => (g ρ1).bind fun ds ρ2 => .ok (d :: ds) ρ2
theorem dCons_inv {α : Type} {f : DEnv → Res α} {g : DEnv → Res (List α)} {ρ ρ' : DEnv} {ds : List α} (e : dCons f g ρ = .ok ds ρ') : ∃ x ρ1 xs, f ρ = .ok x ρ1 ∧ g ρ1 = .ok xs ρ' ∧ ds = x :: xs := by
  obtain ⟨x, ρ1, e1, e2⟩ := Res.bind_inv e
  obtain ⟨xs, ρ2, e3, e4⟩ := Res.bind_inv e2
  cases e4
  exact ⟨x, ρ1, xs, e1, e3, rfl⟩
theorem da_nil : DA X [] dNil := by
  refine PA.mono pa_nil fun σ H Q h => ?_
  obtain ⟨F, ρ, r, ρ', R, e, q⟩ := h
  cases e
  exact q F H [] .refl (.refl _) R .nil
theorem da_cons {es : List Expr} {f : DEnv → Res D} {g : DEnv → Res (List D)} (ha : DF X a f) (hr : DA X es g) (hs : starEach (a :: es) X.env = (false, eval a X.env) :: starEach es X.env) : DA X (a :: es) (dCons f g) := by
  refine PA.mono (pa_cons ha hr hs) fun σ H Q h => ?_
  obtain ⟨F, ρ, r, ρ', R, e, q⟩ := h
  obtain ⟨x, ρ1, xs, e1, e2, rfl⟩ := dCons_inv e
  refine ⟨F, ρ, x, ρ1, R, e1, fun F1 H1 v s1 l1 R1 d1 => ⟨F1, ρ1, xs, ρ', R1, e2, fun F2 H2 vs s2 l2 R2 d2 => ?_⟩⟩
  exact q F2 H2 _ (s1.trans s2) (l1.trans l2) R2 (.cons (d1.mono s2.fle) d2)
theorem db_nil : DB X [] dNil := by
  refine PA.mono pa_nil fun σ H Q h => ?_
  obtain ⟨F, ρ, r, ρ', R, e, q⟩ := h
  cases e
  exact q F H [] .refl (.refl _) R .nil
theorem db_cons {es : List Expr} {f : DEnv → Res Dv} {g : DEnv → Res (List Dv)} (ha : DE X a f) (hr : DB X es g) (hs : starEach (a :: es) X.env = (false, eval a X.env) :: starEach es X.env) : DB X (a :: es) (dCons f g) := by
  refine PA.mono (pa_cons ha hr hs) fun σ H Q h => ?_
  obtain ⟨F, ρ, r, ρ', R, e, q⟩ := h
  obtain ⟨x, ρ1, xs, e1, e2, rfl⟩ := dCons_inv e
  refine ⟨F, ρ, x, ρ1, R, e1, fun F1 H1 v s1 l1 R1 d1 _ => ⟨F1, ρ1, xs, ρ', R1, e2, fun F2 H2 vs s2 l2 R2 d2 => ?_⟩⟩
  exact q F2 H2 _ (s1.trans s2) (l1.trans l2) R2 (.cons (d1.step s2 l2) d2)

/-! ### operations upon data -/
def datA (ρ : DEnv) : List Dv → Option (List D)
  | [] => some []
  | r :: rs => match r.dat ρ, datA ρ rs with
    | some d, some ds => some (d :: ds)
    | _, _ => none
def RdA (K : PySem.W.Frag) (mg : Str → Option Value) (F H : Hp) : List V → List D → Prop := Paired (Rd1 K mg F H)
theorem DvA.rd {K : PySem.W.Frag} {mg : Str → Option Value} {F H : Hp} {σ : St} {ρ : DEnv} (R : Rel K mg F H σ ρ) : ∀ {vs : List V} {rs : List Dv} {ds : List D}, DvA K mg F H σ ρ vs rs → datA ρ rs = some ds → RdA K mg F H vs ds
  | _, [], _, .nil, e => by cases e; exact .nil
  | _, r :: rs, ds, .cons x t, e => by
    simp only [datA] at e
    split at e
    · rename_i d ds' e1 e2
      cases e
      exact .cons (x.rd R e1) (DvA.rd R t e2)
    · cases e
def PureL (K : PySem.W.Frag) (mg : Str → Option Value) (r : List V → Hp → VK → Prop) (o : List D → Option R) : Prop :=
  ∀ (F H : Hp) (vs : List V) (ds : List D) (z : R) (Q : VK), Same F H → RdA K mg F H vs ds → o ds = some z → PostR K mg F H z Q → r vs H Q
def Pure2 (K : PySem.W.Frag) (mg : Str → Option Value) (r : R2) (o : List D → Option R) : Prop := PureL K mg (fun vs H Q => ∃ x y, vs = [x, y] ∧ r x y H Q) o
def pureD (o : List D → Option R) (f : DEnv → Res (List Dv)) : DEnv → Res Dv := fun ρ => (f ρ).bind fun rs ρ1 => match (datA ρ1 rs).bind o with
  | some z => .ok z.dv ρ1
  | none => .err .stuck
theorem pureD_inv {o : List D → Option R} {f : DEnv → Res (List Dv)} {ρ ρ' : DEnv} {r : Dv} (e : pureD o f ρ = .ok r ρ') : ∃ rs ds z, f ρ = .ok rs ρ' ∧ datA ρ' rs = some ds ∧ o ds = some z ∧ r = z.dv := by
  obtain ⟨rs, ρ1, e1, e2⟩ := Res.bind_inv e
  split at e2
  · rename_i z ez
    cases e2
    obtain ⟨ds, e3, e4⟩ := Option.bind_eq_some_iff.mp ez
    exact ⟨rs, ds, z, e1, e3, e4, rfl⟩
  · cases e2
theorem RR.dvR {K : PySem.W.Frag} {mg : Str → Option Value} {F H F' H' : Hp} {σ : St} {ρ : DEnv} {v : V} {z : R} (R : Rel K mg F H σ ρ) (x : RR K mg F' H H' v z) (al : Al F H F' H') : DvR K mg F' H' σ ρ v z.dv := by
  cases z with
  | val d => exact x
  | own o =>
    obtain ⟨p, h, e, hp, hp', fp, r⟩ := x
    refine ⟨p, h, e, hp', fp, r, fun c => ?_⟩
    obtain ⟨i, o', ho, ei⟩ := c
    obtain ⟨p2, h2, e2, hp2, _⟩ := R.own i o' ho
    rw [ei] at e2; cases e2
    rw [hp] at hp2; cases hp2
theorem RR.fresh {K : PySem.W.Frag} {mg : Str → Option Value} {F' H H0 H' : Hp} {v : V} {z : R} (x : RR K mg F' H H' v z) (d : ∀ p, H p = none → H0 p = none) : FreshR H0 v z.dv := by
  cases z with
  | val d => trivial
  | own o =>
    obtain ⟨p, h, e, hp, _⟩ := x
    exact ⟨p, e, d p hp⟩
/-- the end of an operation -/
theorem pure_end {K : PySem.W.Frag} {mg : Str → Option Value} {r : List V → Hp → VK → Prop} {o : List D → Option R} (P : PureL K mg r o) {F0 H0 F H : Hp} {σ : St} {ρ0 ρ : DEnv} {vs : List V} {rs : List Dv} {ds : List D} {z : R} {Q : VK}
    (s : Stp σ F0 H0 ρ0 σ F H ρ) (l : Liv ρ0 ρ) (R : Rel K mg F H σ ρ) (x : DvA K mg F H σ ρ vs rs) (e : datA ρ rs = some ds) (ez : o ds = some z)
    (q : ∀ F' H' v, Stp σ F0 H0 ρ0 σ F' H' ρ → Liv ρ0 ρ → Rel K mg F' H' σ ρ → DvR K mg F' H' σ ρ v z.dv → FreshR H0 v z.dv → Q v H') : r vs H Q :=
  P F H vs ds z Q R.sub (x.rd R e) ez fun F' H' v al rr => q F' H' v (s.trans al.stp) l (al.rel R) (rr.dvR R al) (rr.fresh s.dom)
theorem de_op {t : TE} {f : DEnv → Res (List Dv)} {r : List V → Hp → VK → Prop} {o : List D → Option R} (h : PE X e t) (P : PureL X.K X.mg r o) (k : ∀ σ H Q, tB X.K X.mg f σ H (fun vs H1 => r vs H1 Q) → t σ H Q) : DE X e (pureD o f) := by
  refine PE.mono h fun σ H Q h => k σ H Q ?_
  obtain ⟨F, ρ, r', ρ', R, e, q⟩ := h
  obtain ⟨rs, ds, z, e1, e2, e3, rfl⟩ := pureD_inv e
  exact ⟨F, ρ, rs, ρ', R, e1, fun F' H' vs s l R' x => pure_end P s l R' x e2 e3 q⟩
theorem two_of {f g : DEnv → Res Dv} {K : PySem.W.Frag} {mg : Str → Option Value} {r : R2} {σ : St} {H : Hp} {Q : VK} (h : tB K mg (dCons f (dCons g dNil)) σ H (fun vs H1 => ∃ x y, vs = [x, y] ∧ r x y H1 Q)) :
    tE K mg f σ H fun x H1 => tE K mg g σ H1 fun y H2 => r x y H2 Q := by
  obtain ⟨F, ρ, rs, ρ', R, e, q⟩ := h
  obtain ⟨x, ρ1, xs, e1, e2, rfl⟩ := dCons_inv e
  obtain ⟨y, ρ2, ys, e3, e4, rfl⟩ := dCons_inv e2
  cases e4
  refine ⟨F, ρ, x, ρ1, R, e1, fun F1 H1 v s1 l1 R1 d1 _ => ⟨F1, ρ1, y, ρ', R1, e3, fun F2 H2 w s2 l2 R2 d2 _ => ?_⟩⟩
  obtain ⟨a, b, eq, qq⟩ := q F2 H2 [v, w] (s1.trans s2) (l1.trans l2) R2 (.cons (d1.step s2 l2) (.cons d2 .nil))
  cases eq
  exact qq
theorem one_of {f : DEnv → Res Dv} {K : PySem.W.Frag} {mg : Str → Option Value} {r : V → Hp → Prop} {σ : St} {H : Hp} (h : tB K mg (dCons f dNil) σ H (fun vs H1 => ∃ x, vs = [x] ∧ r x H1)) : tE K mg f σ H fun x H1 => r x H1 := by
  obtain ⟨F, ρ, rs, ρ', R, e, q⟩ := h
  obtain ⟨x, ρ1, xs, e1, e2, rfl⟩ := dCons_inv e
  cases e2
  refine ⟨F, ρ, x, _, R, e1, fun F1 H1 v s1 l1 R1 d1 _ => ?_⟩
  obtain ⟨a, eq, qq⟩ := q F1 H1 [v] s1 l1 R1 (.cons d1 .nil)
  cases eq
  exact qq
theorem de_bin {op : Operator} {r : R2} {o : List D → Option R} {f g : DEnv → Res Dv} (ho : OpR X (binaryOp op) r) (P : Pure2 X.K X.mg r o) (ha : DE X a f) (hb : DE X b g) : DE X (.BinOp a op b pos) (pureD o (dCons f (dCons g dNil))) :=
  de_op (pe_op ho ha hb) P fun σ H Q h => two_of h
theorem de_cmp {op : CmpOp} {r : R2} {o : List D → Option R} {f g : DEnv → Res Dv} (ho : OpR X (compareOp op) r) (P : Pure2 X.K X.mg r o) (ha : DE X a f) (hb : DE X b g) (hm : behindInMarks op b = false) : DE X (.Compare a [op] [b] pos) (pureD o (dCons f (dCons g dNil))) :=
  de_op (pe_cmpR ho ha hb hm) P fun σ H Q h => two_of h
theorem de_un {op : UnaryOp} {r : V → Hp → VK → Prop} {o : List D → Option R} {f : DEnv → Res Dv} (ho : UnR X (unaryOp op) r) (P : PureL X.K X.mg (fun vs H Q => ∃ x, vs = [x] ∧ r x H Q) o) (ha : DE X a f) : DE X (.UnaryOp op a pos) (pureD o (dCons f dNil)) :=
  de_op (pe_un ho ha) P fun σ H Q h => one_of h
theorem de_ix {r : R2} {o : List D → Option R} {f g : DEnv → Res Dv} (hr : IxR X r) (P : Pure2 X.K X.mg r o) (ha : DE X a f) (hb : DE X b g) (hs : PlainIx b) : DE X (.Subscript a b pos) (pureD o (dCons f (dCons g dNil))) :=
  de_op (pe_ix hr ha hb hs) P fun σ H Q h => two_of h
/-- a built-in, a built-in class by its name -/
theorem de_callB {x : Str} {p : Pos} {es : List Expr} {id : String} {r : List V → Hp → VK → Prop} {o : List D → Option R} {f : DEnv → Res (List Dv)} (hc : CallR X (.builtin id) r) (P : PureL X.K X.mg r o) (hg : Gl X x) (hm : X.mg x = none) (hv : bootBuiltins x = some (.builtin id)) (ha : DB X (e :: es) f)
    (hn : x ≠ "__name__") (hdb : (x == ("__debug__" : Str)) = false) (he : starEach (e :: es) X.env = (false, eval e X.env) :: starEach es X.env) (hpl : (backTo pos (starEach es X.env)).any (·.1) = false) : DE X (.Call (.Name x p) (e :: es) [] pos) (pureD o f) :=
  de_op (pe_callB hc hg hm hv ha hn hdb he hpl) P fun σ H Q h => h
theorem de_callTy {x : Str} {p : Pos} {es : List Expr} {T : String} {r : List V → Hp → VK → Prop} {o : List D → Option R} {f : DEnv → Res (List Dv)} (hc : CallR X (.type T) r) (P : PureL X.K X.mg r o) (hg : Gl X x) (hm : X.mg x = none) (hv : bootBuiltins x = some (.type T)) (ha : DB X (e :: es) f)
    (hn : x ≠ "__name__") (hdb : (x == ("__debug__" : Str)) = false) (he : starEach (e :: es) X.env = (false, eval e X.env) :: starEach es X.env) (hpl : (backTo pos (starEach es X.env)).any (·.1) = false) : DE X (.Call (.Name x p) (e :: es) [] pos) (pureD o f) :=
  de_op (pe_callTy hc hg hm hv ha hn hdb he hpl) P fun σ H Q h => h

/-! ### displays -/
def dTup (f : DEnv → Res (List D)) : DEnv → Res Dv := fun ρ => (f ρ).bind fun ds ρ1 => if ds.length ≤ sizeLine then .ok (.val (.tup ds)) ρ1 else .err .stuck
def dLst (f : DEnv → Res (List D)) : DEnv → Res Dv := fun ρ => (f ρ).bind fun ds ρ1 => if ds.length ≤ sizeLine then .ok (.own (.lst ds)) ρ1 else .err .stuck
theorem de_tup {es : List Expr} {k : Nat} {f : DEnv → Res (List D)} (h : DA X es f) : DE X (.Tuple es k pos) (dTup f) := by
  refine PE.mono (pe_tup h) fun σ H Q h => ?_
  obtain ⟨F, ρ, r, ρ', R, e, q⟩ := h
  obtain ⟨ds, ρ1, e1, e2⟩ := Res.bind_inv e
  split at e2
  · rename_i hl
    cases e2
    refine ⟨F, ρ, ds, ρ', R, e1, fun F' H' vs s l R' x => ⟨by rw [x.length]; exact hl, fun p hp => ?_⟩⟩
    have al := Al.upd (o := .tup vs) R'.sub hp
    exact q _ _ _ (s.trans al.stp) l (al.rel R') (.tup (.inl (.inl upd_same)) (x.mono al.fle)) trivial
  · cases e2
theorem de_lst {es : List Expr} {f : DEnv → Res (List D)} (h : DA X es f) : DE X (.List es pos) (dLst f) := by
  refine PE.mono (pe_lst h) fun σ H Q h => ?_
  obtain ⟨F, ρ, r, ρ', R, e, q⟩ := h
  obtain ⟨ds, ρ1, e1, e2⟩ := Res.bind_inv e
  split at e2
  · rename_i hl
    cases e2
    refine ⟨F, ρ, ds, ρ', R, e1, fun F' H' vs s l R' x => ⟨by rw [x.length]; exact hl, fun p hp => ?_⟩⟩
    have al := Al.updH (o := .lst vs) R'.sub hp
    refine q _ _ _ (s.trans al.stp) l (al.rel R') ⟨p, _, rfl, upd_same, R'.sub.free hp, x, fun c => ?_⟩ ⟨p, rfl, s.dom p hp⟩
    obtain ⟨i, o', ho, ei⟩ := c
    obtain ⟨p2, h2, e2, hp2, _⟩ := R'.own i o' ho
    rw [ei] at e2; cases e2
    rw [hp] at hp2; cases hp2
  · cases e2

/-! ### tests -/
def D.truth : D → Option Bool
  | .non => some false
  | .bl b => some b
  | .int i => some (i != 0)
  | .lst xs => some (!xs.isEmpty)
  | .tup xs => some (!xs.isEmpty)
  | .dct xs => some (!xs.isEmpty)
  | _ => none
theorem truth_ok {K : PySem.W.Frag} {mg : Str → Option Value} {H : Hp} {v : V} {d : D} {k : Bool} (x : Dr K mg H v d) (e : d.truth = some k) : TruV K v H k := by
  cases x with
  | non => cases e; rfl
  | bl b => cases e; rfl
  | int i => cases e; rfl
  | str x => cases e
  | lst h r =>
    cases e
    refine .inl ⟨_, .inl (.inl h), ?_⟩
    cases r <;> rfl
  | frz h r => cases e
  | tup h r =>
    cases e
    refine .inr (.inl ⟨_, h, ?_⟩)
    cases r <;> rfl
  | dct h r =>
    cases e
    refine .inr (.inr ⟨_, h, ?_⟩)
    cases r <;> rfl
  | ins h m r => cases e
end
end DL


set_option Elab.async false
set_option linter.all false
set_option maxRecDepth 100000
set_option maxHeartbeats 4000000
/-! DL3: tests, and, or, not, conditional expressions, calls. -/
namespace DL
open PySem PySem.Spec PyProof.Rows L2

/-! ### tests -/
def dTruth (f : DEnv → Res Dv) : DEnv → Res Bool := fun ρ => (f ρ).bind fun r ρ1 => match (r.dat ρ1).bind D.truth with
  | some k => .ok k ρ1
  | none => .err .stuck
theorem dTruth_inv {f : DEnv → Res Dv} {ρ ρ' : DEnv} {k : Bool} (e : dTruth f ρ = .ok k ρ') : ∃ r d, f ρ = .ok r ρ' ∧ r.dat ρ' = some d ∧ d.truth = some k := by
  obtain ⟨r, ρ1, e1, e2⟩ := Res.bind_inv e
  split at e2
  · rename_i k' ek
    cases e2
    obtain ⟨d, e3, e4⟩ := Option.bind_eq_some_iff.mp ek
    exact ⟨r, d, e1, e3, e4⟩
  · cases e2
def dAndT (f g : DEnv → Res Bool) : DEnv → Res Bool := fun ρ => (f ρ).bind fun b ρ1 => if b = true then g ρ1 else .ok false ρ1
def dOrT (f g : DEnv → Res Bool) : DEnv → Res Bool := fun ρ => (f ρ).bind fun b ρ1 => if b = true then .ok true ρ1 else g ρ1
def dNotT (f : DEnv → Res Bool) : DEnv → Res Bool := fun ρ => (f ρ).bind fun b ρ1 => .ok (!b) ρ1
section
variable {X : Cx} {a b e : Expr} {pos : Pos} {rest : List Expr}
theorem dt_truth {f : DEnv → Res Dv} (ha : DE X a f) (he : ∀ whole, isTrue a X.env whole = (do let v ← whole; standAt a.pos; holding [v] (truthy v))) : DT X a (dTruth f) := by
  refine PT.mono (pt_truth ha he) fun σ H Q h => ?_
  obtain ⟨F, ρ, k, ρ', R, e, q⟩ := h
  obtain ⟨r, d, e1, e2, e3⟩ := dTruth_inv e
  exact ⟨F, ρ, r, ρ', R, e1, fun F' H' v s l R' x fr => ⟨k, truth_ok ((x.rd R' e2).dr R'.sub) e3, q F' H' s l R'⟩⟩
/-- o yields True or False -/
def YieldsB (o : List D → Option R) : Prop := ∀ ds z, o ds = some z → ∃ k, z = .val (.bl k)
theorem dt_cmp {op : CmpOp} {r : R2} {o : List D → Option R} {f g : DEnv → Res Dv} (ho : OpR X (compareOp op) r) (P : Pure2 X.K X.mg r o) (yb : YieldsB o) (ha : DE X a f) (hb : DE X b g) (hm : behindInMarks op b = false) : DT X (.Compare a [op] [b] pos) (dTruth (pureD o (dCons f (dCons g dNil)))) := by
  refine PT.mono (pt_cmpR ho ha hb hm) fun σ H Q h => ?_
  obtain ⟨F, ρ, k, ρ', R, e, q⟩ := h
  obtain ⟨r', d, e1, e2, e3⟩ := dTruth_inv e
  obtain ⟨rs, ds, z, f1, f2, f3, rfl⟩ := pureD_inv e1
  obtain ⟨k', rfl⟩ := yb ds z f3
  cases e2
  cases e3
  refine two_of (r := fun x y H Q => r x y H Q) ⟨F, ρ, rs, ρ', R, f1, fun F' H' vs s l R' x => pure_end P s l R' x f2 f3 fun F2 H2 v s2 l2 R2 dv fr => ?_⟩
  cases dv
  exact ⟨_, rfl, q F2 H2 s2 l2 R2⟩
theorem dt_not {f : DEnv → Res Bool} (ha : DT X a f) : DT X (.UnaryOp .Not a pos) (dNotT f) := by
  refine PT.mono (pt_not ha) fun σ H Q h => ?_
  obtain ⟨F, ρ, k, ρ', R, e, q⟩ := h
  obtain ⟨b, ρ1, e1, e2⟩ := Res.bind_inv e
  cases e2
  exact ⟨F, ρ, b, ρ', R, e1, q⟩
abbrev DW (X : Cx) (e : Expr) (f : DEnv → Res Bool) : Prop := PW X e (tT X.K X.mg f)
theorem DW.dt {f : DEnv → Res Bool} (h : DW X e f) : DT X e f := h.pt
theorem dw_and1 {f : DEnv → Res Bool} (ha : DT X a f) : DW X (.BoolOp .And [a] pos) f := pw_and1 ha
theorem dw_or1 {f : DEnv → Res Bool} (ha : DT X a f) : DW X (.BoolOp .Or [a] pos) f := pw_or1 ha
theorem dw_and {f g : DEnv → Res Bool} (ha : DT X a f) (hb : DW X (.BoolOp .And (b :: rest) pos) g) : DW X (.BoolOp .And (a :: b :: rest) pos) (dAndT f g) := by
  refine PW.mono (pw_and ha hb) fun σ H Q h => ?_
  obtain ⟨F, ρ, k, ρ', R, e, q⟩ := h
  obtain ⟨c, ρ1, e1, e2⟩ := Res.bind_inv e
  refine ⟨F, ρ, c, ρ1, R, e1, fun F' H' s l R' => ?_⟩
  cases c with
  | true => exact ⟨F', ρ1, k, ρ', R', e2, fun F2 H2 s2 l2 R2 => q F2 H2 (s.trans s2) (l.trans l2) R2⟩
  | false => cases e2; exact q F' H' s l R'
theorem dw_or {f g : DEnv → Res Bool} (ha : DT X a f) (hb : DW X (.BoolOp .Or (b :: rest) pos) g) : DW X (.BoolOp .Or (a :: b :: rest) pos) (dOrT f g) := by
  refine PW.mono (pw_or ha hb) fun σ H Q h => ?_
  obtain ⟨F, ρ, k, ρ', R, e, q⟩ := h
  obtain ⟨c, ρ1, e1, e2⟩ := Res.bind_inv e
  refine ⟨F, ρ, c, ρ1, R, e1, fun F' H' s l R' => ?_⟩
  cases c with
  | true => cases e2; exact q F' H' s l R'
  | false => exact ⟨F', ρ1, k, ρ', R', e2, fun F2 H2 s2 l2 R2 => q F2 H2 (s.trans s2) (l.trans l2) R2⟩

/-! ### as values -/
def dAnd (f g : DEnv → Res Dv) : DEnv → Res Dv := fun ρ => (f ρ).bind fun r ρ1 => match (r.dat ρ1).bind D.truth with
  | some true => g ρ1
  | some false => .ok r ρ1
  | none => .err .stuck
def dOr (f g : DEnv → Res Dv) : DEnv → Res Dv := fun ρ => (f ρ).bind fun r ρ1 => match (r.dat ρ1).bind D.truth with
  | some true => .ok r ρ1
  | some false => g ρ1
  | none => .err .stuck
def dNot (f : DEnv → Res Dv) : DEnv → Res Dv := fun ρ => (f ρ).bind fun r ρ1 => match (r.dat ρ1).bind D.truth with
  | some k => .ok (.val (.bl (!k))) ρ1
  | none => .err .stuck
def dIfE (c : DEnv → Res Bool) (f g : DEnv → Res Dv) : DEnv → Res Dv := fun ρ => (c ρ).bind fun b ρ1 => if b = true then f ρ1 else g ρ1
theorem FreshR.back {H H1 : Hp} {v : V} {r : Dv} (x : FreshR H1 v r) (d : ∀ p, H1 p = none → H p = none) : FreshR H v r := by
  cases r with
  | val _ => trivial
  | slot _ => trivial
  | own o => obtain ⟨p, e, h⟩ := x; exact ⟨p, e, d p h⟩
theorem de_and {f g : DEnv → Res Dv} (ha : DE X a f) (hb : DE X (.BoolOp .And (b :: rest) pos) g) : DE X (.BoolOp .And (a :: b :: rest) pos) (dAnd f g) := by
  refine PE.mono (pe_andT ha hb) fun σ H Q h => ?_
  obtain ⟨F, ρ, r, ρ', R, e, q⟩ := h
  obtain ⟨c, ρ1, e1, e2⟩ := Res.bind_inv e
  refine ⟨F, ρ, c, ρ1, R, e1, fun F' H' v s l R' dv fr => ?_⟩
  split at e2
  · rename_i ek
    obtain ⟨d, e3, e4⟩ := Option.bind_eq_some_iff.mp ek
    exact ⟨true, truth_ok ((dv.rd R' e3).dr R'.sub) e4, F', ρ1, r, ρ', R', e2, fun F2 H2 v2 s2 l2 R2 d2 f2 => q F2 H2 v2 (s.trans s2) (l.trans l2) R2 d2 (f2.back s.dom)⟩
  · rename_i ek
    obtain ⟨d, e3, e4⟩ := Option.bind_eq_some_iff.mp ek
    cases e2
    exact ⟨false, truth_ok ((dv.rd R' e3).dr R'.sub) e4, q F' H' v s l R' dv fr⟩
  · cases e2
theorem de_or {f g : DEnv → Res Dv} (ha : DE X a f) (hb : DE X (.BoolOp .Or (b :: rest) pos) g) : DE X (.BoolOp .Or (a :: b :: rest) pos) (dOr f g) := by
  refine PE.mono (pe_orT ha hb) fun σ H Q h => ?_
  obtain ⟨F, ρ, r, ρ', R, e, q⟩ := h
  obtain ⟨c, ρ1, e1, e2⟩ := Res.bind_inv e
  refine ⟨F, ρ, c, ρ1, R, e1, fun F' H' v s l R' dv fr => ?_⟩
  split at e2
  · rename_i ek
    obtain ⟨d, e3, e4⟩ := Option.bind_eq_some_iff.mp ek
    cases e2
    exact ⟨true, truth_ok ((dv.rd R' e3).dr R'.sub) e4, q F' H' v s l R' dv fr⟩
  · rename_i ek
    obtain ⟨d, e3, e4⟩ := Option.bind_eq_some_iff.mp ek
    exact ⟨false, truth_ok ((dv.rd R' e3).dr R'.sub) e4, F', ρ1, r, ρ', R', e2, fun F2 H2 v2 s2 l2 R2 d2 f2 => q F2 H2 v2 (s.trans s2) (l.trans l2) R2 d2 (f2.back s.dom)⟩
  · cases e2
theorem de_one {op : BoolOp} {f : DEnv → Res Dv} (h : DE X a f) : DE X (.BoolOp op [a] pos) f := pe_one h
theorem de_not {f : DEnv → Res Dv} (ha : DE X a f) : DE X (.UnaryOp .Not a pos) (dNot f) := by
  refine PE.mono (pe_notT ha) fun σ H Q h => ?_
  obtain ⟨F, ρ, r, ρ', R, e, q⟩ := h
  obtain ⟨c, ρ1, e1, e2⟩ := Res.bind_inv e
  refine ⟨F, ρ, c, ρ1, R, e1, fun F' H' v s l R' dv fr => ?_⟩
  split at e2
  · rename_i k ek
    obtain ⟨d, e3, e4⟩ := Option.bind_eq_some_iff.mp ek
    cases e2
    exact ⟨k, truth_ok ((dv.rd R' e3).dr R'.sub) e4, q F' H' _ s l R' (.bl _) trivial⟩
  · cases e2
theorem de_ifE {c : Expr} {k : DEnv → Res Bool} {f g : DEnv → Res Dv} (hc : DT X c k) (ha : DE X a f) (hb : DE X b g) : DE X (.IfExp c a b pos) (dIfE k f g) := by
  refine PE.mono (pe_ifExp hc ha hb) fun σ H Q h => ?_
  obtain ⟨F, ρ, r, ρ', R, e, q⟩ := h
  obtain ⟨d, ρ1, e1, e2⟩ := Res.bind_inv e
  refine ⟨F, ρ, d, ρ1, R, e1, fun F' H' s l R' => ?_⟩
  cases d with
  | true => exact ⟨F', ρ1, r, ρ', R', e2, fun F2 H2 v2 s2 l2 R2 d2 f2 => q F2 H2 v2 (s.trans s2) (l.trans l2) R2 d2 (f2.back s.dom)⟩
  | false => exact ⟨F', ρ1, r, ρ', R', e2, fun F2 H2 v2 s2 l2 R2 d2 f2 => q F2 H2 v2 (s.trans s2) (l.trans l2) R2 d2 (f2.back s.dom)⟩

/-! ### a chain of two comparisons: ints -/
def dChain (o o' : List D → Option R) (f g h : DEnv → Res Dv) : DEnv → Res Dv := fun ρ => (f ρ).bind fun x ρ1 => (g ρ1).bind fun y ρ2 => match (datA ρ2 [x, y]).bind o with
  | some (.val (.bl true)) => (h ρ2).bind fun z ρ3 => match (datA ρ3 [y, z]).bind o' with
    | some w => .ok w.dv ρ3
    | none => .err .stuck
  | some (.val (.bl false)) => .ok (.val (.bl false)) ρ2
  | _ => .err .stuck
theorem chain_read {r r' : R2} {o o' : List D → Option R} {f g h : DEnv → Res Dv} (P : Pure2 X.K X.mg r o) (P' : Pure2 X.K X.mg r' o') {σ : St} {H : Hp} {Q : VK} (hh : tE X.K X.mg (dChain o o' f g h) σ H Q) :
    tChain r r' (tE X.K X.mg f) (tE X.K X.mg g) (tE X.K X.mg h) σ H Q := by
  obtain ⟨F, ρ, r, ρ', R, e, q⟩ := hh
  obtain ⟨x, ρ1, e1, e2⟩ := Res.bind_inv e
  obtain ⟨y, ρ2, e3, e4⟩ := Res.bind_inv e2
  refine ⟨F, ρ, x, ρ1, R, e1, fun F1 H1 v s1 l1 R1 d1 _ => ⟨F1, ρ1, y, ρ2, R1, e3, fun F2 H2 w s2 l2 R2 d2 _ => ?_⟩⟩
  have xa : DvA X.K X.mg F2 H2 σ ρ2 [v, w] [x, y] := .cons (d1.step s2 l2) (.cons d2 .nil)
  split at e4
  · rename_i ek
    obtain ⟨ds, k1, k2⟩ := Option.bind_eq_some_iff.mp ek
    obtain ⟨z, ρ3, e5, e6⟩ := Res.bind_inv e4
    split at e6
    · rename_i u eu
      obtain ⟨ds', k3, k4⟩ := Option.bind_eq_some_iff.mp eu
      cases e6
      obtain ⟨_, _, eq, qq⟩ := pure_end (Q := fun z H3 => ∃ k, z = .bl k ∧ if k = true then tE X.K X.mg h σ H3 (fun w' H4 => r' w w' H4 Q) else Q (.bl false) H3) P (Stp.refl) (.refl _) R2 xa k1 k2 fun F3 H3 v3 s3 l3 R3 d3 f3 => ⟨true, by cases d3; rfl, by
        rw [if_pos rfl]
        refine ⟨F3, ρ2, z, _, R3, e5, fun F4 H4 v4 s4 l4 R4 d4 _ => ?_⟩
        have xa2 : DvA X.K X.mg F4 H4 σ _ [w, v4] [y, z] := .cons ((d2.step s3 l3).step s4 l4) (.cons d4 .nil)
        obtain ⟨_, _, eq, qq⟩ := pure_end P' (((s1.trans s2).trans s3).trans s4) (((l1.trans l2).trans l3).trans l4) R4 xa2 k3 k4 q
        cases eq
        exact qq⟩
      cases eq
      exact qq
    · cases e6
  · rename_i ek
    obtain ⟨ds, k1, k2⟩ := Option.bind_eq_some_iff.mp ek
    cases e4
    obtain ⟨_, _, eq, qq⟩ := pure_end (Q := fun z H3 => ∃ k, z = .bl k ∧ if k = true then tE X.K X.mg h σ H3 (fun w' H4 => r' w w' H4 Q) else Q (.bl false) H3) P (Stp.refl) (.refl _) R2 xa k1 k2 fun F3 H3 v3 s3 l3 R3 d3 f3 => ⟨false, by cases d3; rfl, by
      rw [if_neg Bool.false_ne_true]
      exact q F3 H3 _ ((s1.trans s2).trans s3) ((l1.trans l2).trans l3) R3 (.bl false) trivial⟩
    cases eq
    exact qq
  · cases e4
theorem de_chain {c : Expr} {op op' : CmpOp} {r r' : R2} {o o' : List D → Option R} {f g h : DEnv → Res Dv} (ho : OpR X (compareOp op) r) (ho' : OpR X (compareOp op') r') (P : Pure2 X.K X.mg r o) (P' : Pure2 X.K X.mg r' o')
    (ha : DE X a f) (hb : DE X b g) (hc : DE X c h) (hm : lastMarks [op, op'] [b, c] = false) : DE X (.Compare a [op, op'] [b, c] pos) (dChain o o' f g h) := by
  exact PE.mono (pe_chain ho ho' ha hb hc hm) fun σ H Q hh => chain_read P P' hh
theorem test_of {K : PySem.W.Frag} {mg : Str → Option Value} {f : DEnv → Res Dv} (yb : ∀ ρ r ρ', f ρ = .ok r ρ' → ∃ k, r = .val (.bl k)) {σ : St} {H : Hp} {Q : Bool → Hp → Prop} (h : tT K mg (dTruth f) σ H Q) :
    tE K mg f σ H (fun x H' => ∃ k, x = .bl k ∧ Q k H') := by
  obtain ⟨F, ρ, k, ρ', R, e, q⟩ := h
  obtain ⟨r, d, e1, e2, e3⟩ := dTruth_inv e
  obtain ⟨k', rfl⟩ := yb _ _ _ e1
  cases e2
  cases e3
  exact ⟨F, ρ, _, ρ', R, e1, fun F' H' v s l R' dv _ => ⟨_, by cases dv; rfl, q F' H' s l R'⟩⟩
theorem dChain_b {o o' : List D → Option R} {f g h : DEnv → Res Dv} (yb : YieldsB o') (ρ : DEnv) (r : Dv) (ρ' : DEnv) (e : dChain o o' f g h ρ = .ok r ρ') : ∃ k, r = .val (.bl k) := by
  obtain ⟨x, ρ1, e1, e2⟩ := Res.bind_inv e
  obtain ⟨y, ρ2, e3, e4⟩ := Res.bind_inv e2
  split at e4
  · obtain ⟨z, ρ3, e5, e6⟩ := Res.bind_inv e4
    split at e6
    · rename_i u eu
      obtain ⟨ds', k3, k4⟩ := Option.bind_eq_some_iff.mp eu
      obtain ⟨k, rfl⟩ := yb _ _ k4
      cases e6
      exact ⟨k, rfl⟩
    · cases e6
  · cases e4
    exact ⟨false, rfl⟩
  · cases e4
theorem dt_chain {c : Expr} {op op' : CmpOp} {r r' : R2} {o o' : List D → Option R} {f g h : DEnv → Res Dv} (ho : OpR X (compareOp op) r) (ho' : OpR X (compareOp op') r') (P : Pure2 X.K X.mg r o) (P' : Pure2 X.K X.mg r' o') (yb : YieldsB o')
    (ha : DE X a f) (hb : DE X b g) (hc : DE X c h) (hm : lastMarks [op, op'] [b, c] = false) : DT X (.Compare a [op, op'] [b, c] pos) (dTruth (dChain o o' f g h)) := by
  refine PT.mono (pt_chain ho ho' ha hb hc hm) fun σ H Q hh => ?_
  exact chain_read P P' (test_of (dChain_b yb) hh)
end
end DL


set_option Elab.async false
set_option linter.all false
set_option maxRecDepth 100000
set_option maxHeartbeats 4000000
/-! DL4: enumerate and zip over lists and tuples in any mix, as walks of the hand layer. -/
namespace DL
open PySem PySem.Spec PyProof.Rows L2

/-- a list (k = false), a tuple (k = true) -/
def SqK (k : Bool) (K : PySem.W.Frag) (H : Hp) (a : Addr) (xs : List V) : Prop := match k with
  | false => SqL K H a xs
  | true => SqT K H a xs
def IterK (k : Bool) (h : Heap) (it a : Addr) (i : Nat) : Prop := match k with
  | false => h.IsListIter it a i
  | true => h.IsTupleIter it a i
def IsK (k : Bool) (h : Heap) (a : Addr) (its : Array Value) : Prop := match k with
  | false => h.IsList a its
  | true => h.IsTuple a its
def itObj (k : Bool) (a : Addr) : Obj := match k with
  | false => { cls := .type "list_iterator", data := .fields #[.ref a, .int 0 0] }
  | true => { cls := .type "tuple_iterator", data := .fields #[.ref a, .int 0 0] }
section
variable {X : Cx} {pins : List (Addr × Obj)} {σ : St} {H : Hp} {s : Shared} {a : Addr} {xs ys : List V}
theorem seqK (I : Inv X pins σ H s) {k : Bool} (h : SqK k X.K H a xs) : ∃ its : List Value, Vals xs its ∧ IsK k s.heap a its.toArray ∧ xs.length ≤ sizeLine := by
  cases k with
  | false =>
    obtain ⟨its, r, p, z⟩ := I.list h
    exact ⟨its, r, p.isList, z⟩
  | true =>
    obtain ⟨its, r, p, z⟩ := I.tuple h
    exact ⟨its, r, p, z⟩
theorem seqK_inj (I : Inv X pins σ H s) {k : Bool} (h : SqK k X.K H a xs) (h' : SqK k X.K H a ys) : xs = ys := by
  cases k with
  | false => exact I.list_inj h h'
  | true => exact I.tuple_inj h h'
end
theorem drawsK {prog : Program} {w : World} {A : Around} (k : Bool) (hh : A.handled = none) (it a : Addr) (hne : a ≠ it) (items : Array Value) :
    Draws prog w A it [it, a] items.size (fun i v => items[i]? = some v) (fun i h => IterK k h it a i ∧ IsK k h a items) := by
  cases k with
  | false => exact Draws.list hh it a hne items
  | true => exact Draws.tuple hh it a hne items
theorem beginsK (k : Bool) (a : Addr) (items : Array Value) : Begins (.ref a) (itObj k a) fun h => IsK k h a items := by
  cases k with
  | false => exact begins_list a items
  | true => exact begins_tuple a items
theorem IterK.obj {k : Bool} {h : Heap} {it a : Addr} {i : Nat} (x : IterK k h it a i) : ∃ o n u, h.get? it = some o ∧ o.data = .fields #[.ref a, .int n u] := by
  cases k with
  | false => obtain ⟨o, e, c, d⟩ := x; exact ⟨o, _, _, e, d⟩
  | true => obtain ⟨o, e, c, d⟩ := x; exact ⟨o, _, _, e, d⟩
theorem IsK.ne {k k' : Bool} {h : Heap} {it a b : Addr} {i : Nat} {its : Array Value} (x : IsK k h a its) (y : IterK k' h it b i) : a ≠ it := by
  obtain ⟨o, n, u, e, d⟩ := y.obj
  rintro rfl
  cases k with
  | false => obtain ⟨o', e', c', n', d'⟩ := x; rw [e] at e'; cases e'; rw [d] at d'; cases d'
  | true => obtain ⟨o', e', c', n', d'⟩ := x; rw [e] at e'; cases e'; rw [d] at d'; cases d'
theorem IterK.at {k : Bool} {h h' : Heap} {it a : Addr} {i : Nat} (x : IterK k h it a i) (kp : ∀ o, h.get? it = some o → h'.get? it = some o) : IterK k h' it a i := by
  cases k with
  | false => exact Heap.IsListIter.at x kp
  | true => exact Heap.IsTupleIter.at x kp
theorem IterK.new {k : Bool} {h : Heap} {it a : Addr} (e : h.get? it = some (itObj k a)) : IterK k h it a 0 := by
  cases k with
  | false => exact ⟨_, e, rfl, rfl⟩
  | true => exact ⟨_, e, rfl, rfl⟩

/-! ### enumerate -/
def ItE (k : Bool) (K : PySem.W.Frag) (a : Addr) : It :=
  ⟨fun i H => ∃ (xs : List V) (x : V), SqK k K H a xs ∧ xs[i]? = some x, fun i H v H' => ∃ T x, v = .ref T ∧ H T = none ∧ H' = upd H T (.tup [.int (i : Nat), x]) ∧ ∀ xs, SqK k K H a xs → xs[i]? = some x, fun i H => ∃ xs : List V, SqK k K H a xs ∧ xs.length = i⟩
theorem turn_en {P : Program} {w : World} {K : PySem.W.Frag} {elts : List Expr} {kk : Nat} {tpos : Pos} (k : Bool) (a e it : Addr) :
    Turn P w K (.Tuple elts kk tpos) (ItE k K a) [e, it] e (fun i h => (∃ old, IsEnum h e it ((0 : Int) + (i : Nat)) old) ∧ IterK k h it a i ∧ e ≠ it) where
  mem := by simp
  obj := fun i h st b hb => by
    obtain ⟨⟨old, he⟩, hi, _⟩ := st
    obtain ⟨o, n, u, ho, hd⟩ := hi.obj
    have e' : b = e ∨ b = it := by simpa using hb
    rcases e' with z | z
    · rw [z]; exact ⟨_, he, fun v q => nomatch q⟩
    · rw [z]; exact ⟨o, ho, fun v q => by rw [hd] at q; cases q⟩
  keep := fun i h h' st kp => let ⟨⟨old, he⟩, hi, hne⟩ := st; ⟨⟨old, kp e (by simp) _ he⟩, hi.at fun o q => kp it (by simp) o q, hne⟩
  item := by
    intro X hP hw hK hc i pins s σ H E I hf st hg
    subst hP hw hK
    obtain ⟨⟨old, he⟩, hit, hne⟩ := st
    obtain ⟨xs, x, hq, hx⟩ := hg
    obtain ⟨its, rv, p, hz⟩ := seqK I hq
    have hal : a ≠ it := p.ne hit
    have hea : e ∉ [it, a] := by
      intro z
      have z' : e = it ∨ e = a := by simpa using z
      rcases z' with z | z
      · exact hne z
      · subst z
        cases k with
        | false => obtain ⟨o', e', c', n', d'⟩ := p; rw [show s.heap.get? e = _ from he] at e'; cases e'; cases d'
        | true => obtain ⟨o', e', c', n', d'⟩ := p; rw [show s.heap.get? e = _ from he] at e'; cases e'; cases d'
    have hil : i < its.toArray.size := by
      have := (List.getElem?_eq_some_iff.mp hx).1
      have := rv.length
      simp; omega
    have hh : X.A.in1.handled = none := I.ok.hd hc
    have W := WalksT.enumFrom 0 (drawsK (prog := X.prog) (w := X.w) k hh it a hal its.toArray) e hne hea (by simp)
    have hel : e < s.heap.objs.size := Heap.lt_size he
    have hil' : it < s.heap.objs.size := by obtain ⟨o, _, _, q, _⟩ := hit.obj; exact Heap.lt_size q
    refine W.item i s _ _ hil ⟨⟨old, he⟩, hit, p⟩ fun T vals h' tk hPt hTs hT hm hk => ?_
    obtain ⟨t, u, hu, rfl⟩ := hPt
    refine ⟨_, rfl, W.go elts kk tpos i T { s with heap := h', toks := tk } _ _ hm fun h'' hst hk2 => ?_⟩
    obtain ⟨x', hx', ru⟩ : ∃ x', xs[i]? = some x' ∧ RelV x' u := by
      obtain ⟨u', hu', ru⟩ := rv.get hx
      have e1 : its[i]? = some u := by simpa using hu
      rw [e1] at hu'; cases hu'
      exact ⟨x, hx, ru⟩
    rw [hx] at hx'; cases hx'
    have hT2 : h''.IsTuple T #[.int (0 + (i : Int)) t, u] := hT.at fun o q => hk2 T o (W.apart i T h' hm) q
    have new : ObjOk X.prog X.w (upd H T (.tup [.int (i : Nat), x])) h'' T (.tup [.int (i : Nat), x]) :=
      ⟨by show 2 ≤ sizeLine; decide, [.int (0 + (i : Int)) t, u], .cons ⟨_, by rw [Int.zero_add]⟩ (.cons ru .nil), hT2⟩
    have I1 : Inv X pins σ (upd H T (.tup [.int (i : Nat), x])) { s with heap := h'', toks := tk } :=
      I.turnedNew (ch := [e, it]) (fun b ob hb q => hk2 b ob hb (hk b ob hb q)) hf hTs new
    obtain ⟨⟨old', he'⟩, hit', p'⟩ := hst
    refine ⟨.ref T, _, I1, rfl, ⟨_, x, rfl, I.hok.fresh hTs, rfl, fun ys hy => by rw [seqK_inj I hy hq]; exact hx⟩, ⟨⟨old', he'⟩, hit', hne⟩, fun b hb => ?_⟩
    have hb' : b < s.heap.objs.size := by
      have e' : b = e ∨ b = it := by simpa using hb
      rcases e' with z | z
      · rw [z]; exact hel
      · rw [z]; exact hil'
    rw [upd_ne (Nat.ne_of_lt (Nat.lt_of_lt_of_le hb' hTs))]
    exact (hf b hb).1
  done := by
    intro X hP hw hK hc i pins s σ H E I hf st hg
    subst hP hw hK
    obtain ⟨⟨old, he⟩, hit, hne⟩ := st
    obtain ⟨xs, hq, hx⟩ := hg
    obtain ⟨its, rv, p, hz⟩ := seqK I hq
    have hal : a ≠ it := p.ne hit
    have hea : e ∉ [it, a] := by
      intro z
      have z' : e = it ∨ e = a := by simpa using z
      rcases z' with z | z
      · exact hne z
      · subst z
        cases k with
        | false => obtain ⟨o', e', c', n', d'⟩ := p; rw [show s.heap.get? e = _ from he] at e'; cases e'; cases d'
        | true => obtain ⟨o', e', c', n', d'⟩ := p; rw [show s.heap.get? e = _ from he] at e'; cases e'; cases d'
    have hh : X.A.in1.handled = none := I.ok.hd hc
    have W := WalksT.enumFrom 0 (drawsK (prog := X.prog) (w := X.w) k hh it a hal its.toArray) e hne hea (by simp)
    have en : its.toArray.size = i := by have := rv.length; simp; omega
    subst en
    exact W.done s _ _ ⟨⟨old, he⟩, hit, p⟩ fun h' tk hk => ⟨rfl, I.turnedL (ch := [e, it]) hk hf⟩
  self := fun A i s Q E st h => let ⟨⟨_, he⟩, _⟩ := st; wpAny_pyIter_enum he h
def iEn (K : PySem.W.Frag) (ta : TA) : TI := fun σ H R => ta σ H fun vs H1 => ∃ k a xs, vs = [.ref a] ∧ SqK k K H1 a xs ∧ R (ItE k K a) H1
end DL
namespace PySem
open Sem (wp)
open AutoSeq1 (wpAny_loadPart')
set_option maxHeartbeats 2000000 in
theorem dl_enumerate_newB1 {v : Value} {o : Obj} {H : Heap → Prop} (B : Begins v o H) :
    Meets (Builtin.«enumerate.__new__» ⟨[.type "enumerate", v], []⟩) (fun _ R s => H s.heap ∧
      R (.ok (.ret (.ref (s.heap.push o).objs.size))) { s with heap := (s.heap.push o).push { cls := .type "enumerate", data := .fields #[.none, .bool false, .ref s.heap.objs.size, rawInt 0, .none, .none] } }) :=
  .of_wp fun prog w A R s h => by
    obtain ⟨hp, g, d, tk, os⟩ := s; obtain ⟨h1, h⟩ := h
    have hsub := sub_enumerate
    have q1 : ∀ {A' : Around} {E : Value → Shared → Prop} {Q : Value → Shared → Prop}, Q (.ref hp.objs.size) ⟨hp.push o, g, d, tk, os⟩ → wpAny (model prog w) A' (pyIter v) Q E ⟨hp, g, d, tk, os⟩ :=
      fun q => B.iter prog w _ _ ⟨hp, g, d, tk, os⟩ _ h1 q
    wp_walk using q1
    refine wpAny_stack_any fun st => wpAny_pure ?_
    split
    · rename_i c _ _ _ _ _
      cases (c == Value.type "enumerate")
      · wp_walk using q1
        exact ⟨_, rfl, h⟩
      · wp_walk using q1
        exact ⟨_, rfl, h⟩
    · wp_walk using q1
      exact ⟨_, rfl, h⟩
theorem dl_enum_begins1 {prog : Program} {w : World} {A : Around} {E : Value → Shared → Prop} {s : Shared} {v : Value} {o : Obj} {H : Heap → Prop} {Q : Value → Shared → Prop} (B : Begins v o H) (h1 : H s.heap)
    (h : ∀ h', IsEnum h' (s.heap.objs.size + 1) s.heap.objs.size 0 .none → h'.get? s.heap.objs.size = some o → (∀ b o, s.heap.get? b = some o → h'.get? b = some o) → Q (.ref (s.heap.objs.size + 1)) { s with heap := h' }) :
    wpAny (model prog w) A (call (.type "enumerate") [v]) Q E s := by
  refine callType_new F.called_enumerate (by decide) (F.typeCall_enumerate_1 _) (F.newCall_enumerate_1 _) (fun obj => F.args_object_init_2 obj _) F.entry_enumerate_new
    (dl_enumerate_newB1 B) ⟨h1, ?_⟩
  have hz : (s.heap.push o).objs.size = s.heap.objs.size + 1 := Heap.size_push ..
  show _ ∧ _
  rw [hz]
  have he : IsEnum ((s.heap.push o).push { cls := .type "enumerate", data := .fields #[.none, .bool false, .ref s.heap.objs.size, rawInt 0, .none, .none] }) (s.heap.objs.size + 1) s.heap.objs.size 0 .none := by
    have := Heap.get?_push_size (s.heap.push o) (o := { cls := .type "enumerate", data := .fields #[.none, .bool false, .ref s.heap.objs.size, rawInt 0, .none, .none] }) rfl
    rw [hz] at this; exact this
  exact ⟨⟨_, he, rfl⟩, h _ he (Heap.get?_push_of_some _ (Heap.get?_push_size _ B.free)) fun b o x => Heap.get?_push_of_some _ (Heap.get?_push_of_some _ x)⟩
end PySem
namespace DL
open PySem PySem.Spec PyProof.Rows L2
theorem pi_en {X : Cx} {e : Expr} {ta : TA} {p pos tpos : Pos} {elts : List Expr} {kk : Nat} (hg : Gl X "enumerate") (hm : X.mg "enumerate" = none) (ha : PA X [e] ta) (hs : starEach [e] X.env = [(false, eval e X.env)]) :
    PI X (.Tuple elts kk tpos) (.Call (.Name "enumerate" p) [e] [] pos) (iEn X.K ta) := by
  refine ⟨fun pins s σ H R I h => ?_⟩
  refine Call_ (ld_blt I hg hm boot_enumerate (PyProof.Rows.callWith_type1 (thn (ha.run pos pins s σ H _ I h) fun us s1 ⟨vs, H1, I1, r1, q1⟩ => ?_) hs rfl))
  obtain ⟨k, a, xs, ex, hq, q⟩ := q1
  subst ex
  cases r1 with
  | cons r rr =>
    cases rr
    cases r
    obtain ⟨its, rv, p', hz⟩ := seqK I1 hq
    refine dl_enum_begins1 (beginsK k a its.toArray) p' fun h' he hit hk => wpAny_pyIter_enum he ?_
    have I2 : Inv X pins σ H1 { s1 with heap := h' } := I1.kept (t' := s1.toks) hk
    refine ⟨s1.heap.objs.size + 1, [s1.heap.objs.size + 1, s1.heap.objs.size], _, _, H1, rfl, I2, turn_en k a (s1.heap.objs.size + 1) s1.heap.objs.size, ⟨⟨.none, he⟩, IterK.new hit, Nat.succ_ne_self _⟩, fun b hb => ?_, q⟩
    have e' : b = s1.heap.objs.size + 1 ∨ b = s1.heap.objs.size := by simpa using hb
    have hle : s1.heap.objs.size ≤ b := by
      rcases e' with z | z
      · rw [z]; exact Nat.le_add_right _ _
      · rw [z]; exact Nat.le_refl _
    exact I1.fpOk hle (I1.hok.fresh hle)

/-! ### zip -/
theorem IsK.cls {k : Bool} {h : Heap} {a : Addr} {its : Array Value} (x : IsK k h a its) : ∃ o n, h.get? a = some o ∧ o.cls = .type (cond k "tuple" "list") ∧ o.data = .seq its n := by
  cases k with
  | false => obtain ⟨o', e', c', n', d'⟩ := x; exact ⟨o', n', e', c', d'⟩
  | true => obtain ⟨o', e', c', n', d'⟩ := x; exact ⟨o', n', e', c', d'⟩
def ItZ (k k' : Bool) (K : PySem.W.Frag) (a b : Addr) : It :=
  ⟨fun i H => ∃ (xs ys : List V) (x y : V), SqK k K H a xs ∧ SqK k' K H b ys ∧ xs[i]? = some x ∧ ys[i]? = some y,
    fun i H v H' => ∃ T x y, v = .ref T ∧ H T = none ∧ H' = upd H T (.tup [x, y]) ∧ (∀ xs, SqK k K H a xs → xs[i]? = some x) ∧ ∀ ys, SqK k' K H b ys → ys[i]? = some y,
    fun i H => ∃ xs ys : List V, SqK k K H a xs ∧ SqK k' K H b ys ∧ i = min xs.length ys.length⟩
theorem zip_sep {z TI TO i1 i2 a b : Addr} (S : [z, TI, TO, i1, i2].Nodup) (na : a ∉ [z, TI, TO, i1, i2]) (nb : b ∉ [z, TI, TO, i1, i2]) : ZipSep2 z TI TO i1 i2 [i1, a] [i2, b] := by
  simp only [List.nodup_cons, List.mem_cons, List.not_mem_nil, or_false, not_or, List.nodup_nil, and_true, not_false_eq_true] at S na nb
  obtain ⟨⟨s1, s2, s3, s4⟩, ⟨s5, s6, s7⟩, ⟨s8, s9⟩, s10⟩ := S
  obtain ⟨n1, n2, n3, n4, n5⟩ := na
  obtain ⟨m1, m2, m3, m4, m5⟩ := nb
  have two : ∀ {x p q : Addr}, x ≠ p → x ≠ q → x ∉ [p, q] := fun {x p q} h1 h2 h => by
    rcases List.mem_cons.mp h with h | h
    · exact h1 h
    · exact h2 (List.mem_singleton.mp h)
  exact ⟨Ne.symm s1, Ne.symm s2, s5, s6, by simp, two s3 (Ne.symm n1), two s8 (Ne.symm n3), s7, by simp, two s4 (Ne.symm m1), two s9 (Ne.symm m3), two s10 (Ne.symm m4), two (Ne.symm s10) (Ne.symm n5)⟩
theorem zip_nd (n : Nat) : [n + 4, n + 2, n + 3, n, n + 1].Nodup := by
  simp only [List.nodup_cons, List.mem_cons, List.not_mem_nil, or_false, not_or, List.nodup_nil, and_true, not_false_eq_true]
  omega
theorem zip_off {a n : Nat} (h : a < n) : a ∉ [n + 4, n + 2, n + 3, n, n + 1] := by
  simp only [List.mem_cons, List.not_mem_nil, or_false, not_or]
  omega
theorem turn_zp {P : Program} {w : World} {K : PySem.W.Frag} {elts : List Expr} {kk : Nat} {tpos : Pos} (k k' : Bool) {a b z TI TO i1 i2 : Addr} (S : [z, TI, TO, i1, i2].Nodup) :
    Turn P w K (.Tuple elts kk tpos) (ItZ k k' K a b) [z, TI, TO, i1, i2] z (fun i h => IsZip h z TI TO .none ∧ IsTupOf2 h TI (.ref i1) (.ref i2) ∧ (∃ x y, IsTupOf2 h TO x y) ∧ IterK k h i1 a i ∧ IterK k' h i2 b i ∧ a ∉ [z, TI, TO, i1, i2] ∧ b ∉ [z, TI, TO, i1, i2]) where
  mem := by simp
  obj := fun i h st c hc => by
    obtain ⟨hz, hTI, ⟨x, y, hTO⟩, h1, h2, _, _⟩ := st
    obtain ⟨o1, n1, u1, e1, d1⟩ := h1.obj
    obtain ⟨o2, n2, u2, e2, d2⟩ := h2.obj
    have e' : c = z ∨ c = TI ∨ c = TO ∨ c = i1 ∨ c = i2 := by simpa using hc
    rcases e' with q | q | q | q | q
    · rw [q]; exact ⟨_, hz, fun v q => nomatch q⟩
    · rw [q]; exact ⟨_, hTI, fun v q => nomatch q⟩
    · rw [q]; exact ⟨_, hTO, fun v q => nomatch q⟩
    · rw [q]; exact ⟨o1, e1, fun v q => by rw [d1] at q; cases q⟩
    · rw [q]; exact ⟨o2, e2, fun v q => by rw [d2] at q; cases q⟩
  keep := fun i h h' st kp => by
    obtain ⟨hz, hTI, ⟨x, y, hTO⟩, h1, h2, na, nb⟩ := st
    exact ⟨kp z (by simp) _ hz, kp TI (by simp) _ hTI, ⟨x, y, kp TO (by simp) _ hTO⟩, h1.at fun o q => kp i1 (by simp) o q, h2.at fun o q => kp i2 (by simp) o q, na, nb⟩
  item := by
    intro X hP hw hK hc i pins s σ H E I hf st hg
    subst hP hw hK
    obtain ⟨hz, hTI, hTO, h1, h2, na, nb⟩ := st
    obtain ⟨xs, ys, x, y, hqx, hqy, hx, hy⟩ := hg
    obtain ⟨its, rv, p, _⟩ := seqK I hqx
    obtain ⟨its2, rv2, p2, _⟩ := seqK I hqy
    have hh : X.A.in1.handled = none := I.ok.hd hc
    have S2 := zip_sep S na nb
    have na1 : a ≠ i1 := fun q => na (by simp [q])
    have nb2 : b ≠ i2 := fun q => nb (by simp [q])
    have W := WalksT.zipD2 S2 (drawsK (prog := X.prog) (w := X.w) k hh i1 a na1 its.toArray) (drawsK (prog := X.prog) (w := X.w) k' hh i2 b nb2 its2.toArray)
    have hil : i < min its.toArray.size its2.toArray.size := by
      have q1 := (List.getElem?_eq_some_iff.mp hx).1
      have q2 := (List.getElem?_eq_some_iff.mp hy).1
      have l1 := rv.length
      have l2 := rv2.length
      simp; omega
    have lt : ∀ c ∈ [z, TI, TO, i1, i2], c < s.heap.objs.size := fun c hcm => by
      obtain ⟨x0, y0, hTO⟩ := hTO
      obtain ⟨o1, _, _, e1, _⟩ := h1.obj
      obtain ⟨o2, _, _, e2, _⟩ := h2.obj
      have e' : c = z ∨ c = TI ∨ c = TO ∨ c = i1 ∨ c = i2 := by simpa using hcm
      rcases e' with q | q | q | q | q
      · rw [q]; exact Heap.lt_size hz
      · rw [q]; exact Heap.lt_size hTI
      · rw [q]; exact Heap.lt_size hTO
      · rw [q]; exact Heap.lt_size e1
      · rw [q]; exact Heap.lt_size e2
    have sub : ∀ c ∈ [z, TO, i1, i2], c ∈ [z, TI, TO, i1, i2] := fun c q => by
      have q' : c = z ∨ c = TO ∨ c = i1 ∨ c = i2 := by simpa using q
      rcases q' with q | q | q | q <;> simp [q]
    refine W.item i s _ _ hil ⟨hz, hTI, hTO, ⟨h1, p⟩, ⟨h2, p2⟩⟩ fun T vals h' tk hPt hTs hT hm hk => ?_
    obtain ⟨u, u2, hu, hu2, rfl⟩ := hPt
    refine ⟨_, rfl, W.go elts kk tpos i T { s with heap := h', toks := tk } _ _ hm fun h'' hst hk2 => ?_⟩
    have ru : RelV x u := by
      obtain ⟨u', hu', ru⟩ := rv.get hx
      have e1 : its[i]? = some u := by simpa using hu
      rw [e1] at hu'; cases hu'
      exact ru
    have ru2 : RelV y u2 := by
      obtain ⟨u', hu', ru⟩ := rv2.get hy
      have e1 : its2[i]? = some u2 := by simpa using hu2
      rw [e1] at hu'; cases hu'
      exact ru
    have hT2 : h''.IsTuple T #[u, u2] := hT.at fun o q => hk2 T o (W.apart i T h' hm) q
    have new : ObjOk X.prog X.w (upd H T (.tup [x, y])) h'' T (.tup [x, y]) := ⟨by show 2 ≤ sizeLine; decide, [u, u2], .cons ru (.cons ru2 .nil), hT2⟩
    have I1 : Inv X pins σ (upd H T (.tup [x, y])) { s with heap := h'', toks := tk } :=
      I.turnedNew (ch := [z, TO, i1, i2]) (fun b ob hb q => hk2 b ob hb (hk b ob hb q)) (fun c hc => hf c (sub c hc)) hTs new
    obtain ⟨hz', hTI', hTO', ⟨h1', _⟩, ⟨h2', _⟩⟩ := hst
    refine ⟨.ref T, _, I1, rfl, ⟨_, x, y, rfl, I.hok.fresh hTs, rfl, fun ys hy' => by rw [seqK_inj I hy' hqx]; exact hx, fun ys hy' => by rw [seqK_inj I hy' hqy]; exact hy⟩, ⟨hz', hTI', hTO', h1', h2', na, nb⟩, fun c hcm => ?_⟩
    rw [upd_ne (Nat.ne_of_lt (Nat.lt_of_lt_of_le (lt c hcm) hTs))]
    exact (hf c hcm).1
  done := by
    intro X hP hw hK hc i pins s σ H E I hf st hg
    subst hP hw hK
    obtain ⟨hz, hTI, hTO, h1, h2, na, nb⟩ := st
    obtain ⟨xs, ys, hqx, hqy, he⟩ := hg
    obtain ⟨its, rv, p, _⟩ := seqK I hqx
    obtain ⟨its2, rv2, p2, _⟩ := seqK I hqy
    have hh : X.A.in1.handled = none := I.ok.hd hc
    have S2 := zip_sep S na nb
    have na1 : a ≠ i1 := fun q => na (by simp [q])
    have nb2 : b ≠ i2 := fun q => nb (by simp [q])
    have W := WalksT.zipD2 S2 (drawsK (prog := X.prog) (w := X.w) k hh i1 a na1 its.toArray) (drawsK (prog := X.prog) (w := X.w) k' hh i2 b nb2 its2.toArray)
    have en : min its.toArray.size its2.toArray.size = i := by
      have l1 := rv.length
      have l2 := rv2.length
      simp; omega
    have sub : ∀ c ∈ [z, TO, i1, i2], c ∈ [z, TI, TO, i1, i2] := fun c q => by
      have q' : c = z ∨ c = TO ∨ c = i1 ∨ c = i2 := by simpa using q
      rcases q' with q | q | q | q <;> simp [q]
    subst en
    exact W.done s _ _ ⟨hz, hTI, hTO, ⟨h1, p⟩, ⟨h2, p2⟩⟩ fun h' tk hk => ⟨rfl, I.turnedL (ch := [z, TO, i1, i2]) hk fun c hc => hf c (sub c hc)⟩
  self := fun A i s Q E st h => wpAny_pyIter_zip st.1 h
def iZp (K : PySem.W.Frag) (ta : TA) : TI := fun σ H R => ta σ H fun vs H1 => ∃ k k' a b xs ys, vs = [.ref a, .ref b] ∧ SqK k K H1 a xs ∧ SqK k' K H1 b ys ∧ R (ItZ k k' K a b) H1
theorem pi_zp {X : Cx} {e e2 : Expr} {ta : TA} {p pos tpos : Pos} {elts : List Expr} {kk : Nat} (hg : Gl X "zip") (hm : X.mg "zip" = none) (ha : PA X [e, e2] ta)
    (hs : starEach [e, e2] X.env = (false, eval e X.env) :: starEach [e2] X.env) (hpl : (backTo pos (starEach [e2] X.env)).any (·.1) = false) :
    PI X (.Tuple elts kk tpos) (.Call (.Name "zip" p) [e, e2] [] pos) (iZp X.K ta) := by
  refine ⟨fun pins s σ H R I h => ?_⟩
  refine Call_ (ld_blt I hg hm PyProof.Rows.boot_zip (PyProof.Rows.callWith_type1 (thn (ha.run pos pins s σ H _ I h) fun us s1 ⟨vs, H1, I1, r1, q1⟩ => ?_) hs hpl))
  obtain ⟨k, k', a, b, xs, ys, ex, hqx, hqy, q⟩ := q1
  subst ex
  cases r1 with
  | cons r rr =>
    cases rr with
    | cons r' rr =>
      cases rr
      cases r
      cases r'
      obtain ⟨its, rv, p1, _⟩ := seqK I1 hqx
      obtain ⟨its2, rv2, p2, _⟩ := seqK I1 hqy
      have la : a < s1.heap.objs.size := by obtain ⟨o, n, e, _⟩ := p1.cls; exact Heap.lt_size e
      have lb : b < s1.heap.objs.size := by obtain ⟨o, n, e, _⟩ := p2.cls; exact Heap.lt_size e
      refine zip_begins2 (beginsK k a its.toArray) (beginsK k' b its2.toArray) p1 p2 fun h' hz hTI hTO g1 g2 hsz hk => wpAny_pyIter_zip hz ?_
      have I2 : Inv X pins σ H1 { s1 with heap := h' } := I1.kept (t' := s1.toks) hk
      refine ⟨s1.heap.objs.size + 4, [s1.heap.objs.size + 4, s1.heap.objs.size + 2, s1.heap.objs.size + 3, s1.heap.objs.size, s1.heap.objs.size + 1], _, _, H1, rfl, I2, turn_zp k k' (zip_nd _), ⟨hz, hTI, ⟨_, _, hTO⟩, IterK.new g1, IterK.new g2, zip_off la, zip_off lb⟩, fun c hcm => ?_, q⟩
      have e' : c = s1.heap.objs.size + 4 ∨ c = s1.heap.objs.size + 2 ∨ c = s1.heap.objs.size + 3 ∨ c = s1.heap.objs.size ∨ c = s1.heap.objs.size + 1 := by simpa using hcm
      have hle : s1.heap.objs.size ≤ c := by
        rcases e' with z | z | z | z | z
        · rw [z]; exact Nat.le_add_right _ _
        · rw [z]; exact Nat.le_add_right _ _
        · rw [z]; exact Nat.le_add_right _ _
        · rw [z]; exact Nat.le_refl _
        · rw [z]; exact Nat.le_add_right _ _
      exact I1.fpOk hle (I1.hok.fresh hle)
end DL


set_option Elab.async false
set_option linter.all false
set_option maxRecDepth 100000
set_option maxHeartbeats 4000000
/-! DL5: what is walked, targets, list comprehensions by data. -/
namespace DL
open PySem PySem.Spec PyProof.Rows L2

/-! ### sources -/
inductive Src where
  | sq (k : Bool) (r : Dv) | rng (lo : Int) (n : Nat) | rgc (lo c : Int) (n : Nat) | en (k : Bool) (r : Dv) | zp (k k' : Bool) (r r' : Dv)
def seqOf : Bool → Option D → Option (List D)
  | false, some (.lst xs) => some xs
  | false, some (.frz xs) => some xs
  | true, some (.tup xs) => some xs
  | _, _ => none
def enumD : Nat → List D → List D
  | _, [] => []
  | i, x :: xs => .tup [.int (i : Nat), x] :: enumD (i + 1) xs
def zipD : List D → List D → List D
  | x :: xs, y :: ys => .tup [x, y] :: zipD xs ys
  | _, _ => []
def Src.items (ρ : DEnv) : Src → Option (List D)
  | .sq k r => seqOf k (r.dat ρ)
  | .rng lo n => some ((List.range n).map fun (i : Nat) => D.int (lo + i))
  | .rgc lo c n => some ((List.range n).map fun (i : Nat) => D.int (lo + i * c))
  | .en k r => (seqOf k (r.dat ρ)).map (enumD 0)
  | .zp k k' r r' => match seqOf k (r.dat ρ), seqOf k' (r'.dat ρ) with
    | some xs, some ys => some (zipD xs ys)
    | _, _ => none
theorem enumD_get : ∀ (xs : List D) (k i : Nat), (enumD k xs)[i]? = (xs[i]?).map fun x => D.tup [.int ((k + i : Nat) : Int), x]
  | [], _, _ => rfl
  | x :: xs, k, 0 => rfl
  | x :: xs, k, i + 1 => by
    simp only [enumD, List.getElem?_cons_succ]
    rw [enumD_get xs (k + 1) i]
    have e : k + 1 + i = k + (i + 1) := by omega
    rw [e]
theorem enumD_length : ∀ (xs : List D) (k : Nat), (enumD k xs).length = xs.length
  | [], _ => rfl
  | x :: xs, k => by simp only [enumD, List.length_cons, enumD_length xs]
theorem zipD_length : ∀ (xs ys : List D), (zipD xs ys).length = min xs.length ys.length
  | [], _ => by simp [zipD]
  | x :: xs, [] => by simp [zipD]
  | x :: xs, y :: ys => by simp only [zipD, List.length_cons, zipD_length xs ys]; omega
theorem zipD_get : ∀ (xs ys : List D) (i : Nat) (z : D), (zipD xs ys)[i]? = some z → ∃ x y, xs[i]? = some x ∧ ys[i]? = some y ∧ z = .tup [x, y]
  | [], _, _, _, h => by simp [zipD] at h
  | x :: xs, [], _, _, h => by simp [zipD] at h
  | x :: xs, y :: ys, 0, z, h => by simp only [zipD, List.getElem?_cons_zero] at h; cases h; exact ⟨x, y, rfl, rfl, rfl⟩
  | x :: xs, y :: ys, i + 1, z, h => by
    simp only [zipD, List.getElem?_cons_succ] at h
    exact zipD_get xs ys i z h

def It1 (k : Bool) (K : PySem.W.Frag) (a : Addr) : It := match k with
  | false => Itl K a
  | true => Itt K a
/-- the walk J is one of the source s -/
def JOk (K : PySem.W.Frag) (mg : Str → Option Value) (F H : Hp) (σ : St) (ρ : DEnv) (J : It) : Src → Prop
  | .sq k r => ∃ a, J = It1 k K a ∧ DvR K mg F H σ ρ (.ref a) r
  | .rng lo n => J = Itr lo n
  | .rgc lo c n => J = Itc lo c n
  | .en k r => ∃ a, J = ItE k K a ∧ DvR K mg F H σ ρ (.ref a) r
  | .zp k k' r r' => ∃ a b, J = ItZ k k' K a b ∧ DvR K mg F H σ ρ (.ref a) r ∧ DvR K mg F H σ ρ (.ref b) r'
section
variable {K : PySem.W.Frag} {mg : Str → Option Value} {F H F' H' : Hp} {σ : St} {ρ ρ' : DEnv} {J : It} {s : Src}
theorem JOk.step (j : JOk K mg F H σ ρ J s) (st : Stp σ F H ρ σ F' H' ρ') (l : Liv ρ ρ') : JOk K mg F' H' σ ρ' J s := by
  cases s with
  | sq k r => obtain ⟨a, e, d⟩ := j; exact ⟨a, e, d.step st l⟩
  | rng lo n => exact j
  | rgc lo c n => exact j
  | en k r => obtain ⟨a, e, d⟩ := j; exact ⟨a, e, d.step st l⟩
  | zp k k' r r' => obtain ⟨a, b, e, d, d'⟩ := j; exact ⟨a, b, e, d.step st l, d'.step st l⟩
theorem seq_of {k : Bool} {a : Addr} {r : Dv} {xs : List D} (R : Rel K mg F H σ ρ) (d : DvR K mg F H σ ρ (.ref a) r) (e : seqOf k (r.dat ρ) = some xs) : ∃ vs, SqK k K H a vs ∧ DrA K mg F vs xs := by
  cases ed : r.dat ρ with
  | none => rw [ed] at e; cases k <;> cases e
  | some y =>
    rw [ed] at e
    have rd := d.rd R ed
    cases k with
    | false =>
      cases y with
      | lst ys =>
        cases e
        rcases rd with rd | ⟨p, h, o, e1, hp, r, eo⟩
        · cases rd with
          | lst h q => exact ⟨_, .inl (.inl (R.sub _ _ h)), q⟩
        · cases e1
          cases o with
          | lst zs =>
            cases eo
            cases h <;> first | exact r.elim | exact ⟨_, .inl (.inl hp), r⟩
          | ins c fs => cases eo
          | dct kvs => cases eo
      | frz ys =>
        cases e
        rcases rd with rd | ⟨p, h, o, e1, hp, r, eo⟩
        · cases rd with
          | frz h q => exact ⟨_, R.sub.seq h, q⟩
        · cases o <;> cases eo
      | _ => cases e
    | true =>
      cases y with
      | tup ys =>
        cases e
        rcases rd with rd | ⟨p, h, o, e1, hp, r, eo⟩
        · cases rd with
          | tup h q => exact ⟨_, sqT_mono R.sub h, q⟩
        · cases o <;> cases eo
      | _ => cases e
theorem JOk.go (R : Rel K mg F H σ ρ) (j : JOk K mg F H σ ρ J s) {xs : List D} (e : s.items ρ = some xs) {i : Nat} {x : D} (hx : xs[i]? = some x) :
    J.go i H ∧ ∀ v H', J.yld i H v H' → ∃ F', Al F H F' H' ∧ Dr K mg F' v x := by
  cases s with
  | sq k r =>
    obtain ⟨a, rfl, d⟩ := j
    obtain ⟨vs, q, ra⟩ := seq_of R d e
    obtain ⟨u, hu, ru⟩ := ra.get hx
    cases k with
    | false => exact ⟨⟨vs, u, q, hu⟩, fun v H' y => by obtain ⟨rfl, y⟩ := y; have := y _ q; rw [hu] at this; cases this; exact ⟨F, .refl R.sub, ru⟩⟩
    | true => exact ⟨⟨vs, u, q, hu⟩, fun v H' y => by obtain ⟨rfl, y⟩ := y; have := y _ q; rw [hu] at this; cases this; exact ⟨F, .refl R.sub, ru⟩⟩
  | rng lo n =>
    obtain rfl := j
    cases e
    rw [List.getElem?_map] at hx
    cases hr : (List.range n)[i]? with
    | none => rw [hr] at hx; cases hx
    | some m =>
      rw [hr] at hx
      obtain ⟨h1, h2⟩ := List.getElem?_eq_some_iff.mp hr
      rw [List.getElem_range] at h2
      subst h2
      cases hx
      exact ⟨by show i < n; simpa using h1, fun v H' y => by obtain ⟨rfl, rfl⟩ := y; exact ⟨F, .refl R.sub, .int _⟩⟩
  | rgc lo c n =>
    obtain rfl := j
    cases e
    rw [List.getElem?_map] at hx
    cases hr : (List.range n)[i]? with
    | none => rw [hr] at hx; cases hx
    | some m =>
      rw [hr] at hx
      obtain ⟨h1, h2⟩ := List.getElem?_eq_some_iff.mp hr
      rw [List.getElem_range] at h2
      subst h2
      cases hx
      exact ⟨by show i < n; simpa using h1, fun v H' y => by obtain ⟨rfl, rfl⟩ := y; exact ⟨F, .refl R.sub, .int _⟩⟩
  | en k r =>
    obtain ⟨a, rfl, d⟩ := j
    cases es : seqOf k (r.dat ρ) with
    | none => simp only [Src.items, es] at e; cases e
    | some ys =>
      simp only [Src.items, es] at e
      cases e
      rw [enumD_get] at hx
      cases hy : ys[i]? with
      | none => rw [hy] at hx; cases hx
      | some y =>
        rw [hy] at hx
        cases hx
        obtain ⟨vs, q, ra⟩ := seq_of R d es
        obtain ⟨u, hu, ru⟩ := ra.get hy
        refine ⟨⟨vs, u, q, hu⟩, fun v H' yl => ?_⟩
        obtain ⟨T, z, rfl, hT, rfl, hz⟩ := yl
        have := hz _ q
        rw [hu] at this; cases this
        have al := Al.upd (o := .tup [.int (i : Nat), u]) R.sub hT
        exact ⟨_, al, .tup (.inl (.inl upd_same)) (.cons (by rw [Nat.zero_add]; exact .int _) (.cons (ru.mono al.fle) .nil))⟩
  | zp k k' r r' =>
    obtain ⟨a, b, rfl, d, d'⟩ := j
    cases es : seqOf k (r.dat ρ) with
    | none => simp only [Src.items, es] at e; cases e
    | some ys =>
      cases es' : seqOf k' (r'.dat ρ) with
      | none => simp only [Src.items, es, es'] at e; cases e
      | some zs =>
        simp only [Src.items, es, es'] at e
        cases e
        obtain ⟨y, z, hy, hz, rfl⟩ := zipD_get _ _ _ _ hx
        obtain ⟨vs, q, ra⟩ := seq_of R d es
        obtain ⟨vs', q', ra'⟩ := seq_of R d' es'
        obtain ⟨u, hu, ru⟩ := ra.get hy
        obtain ⟨u', hu', ru'⟩ := ra'.get hz
        refine ⟨⟨vs, vs', u, u', q, q', hu, hu'⟩, fun v H' yl => ?_⟩
        obtain ⟨T, w1, w2, rfl, hT, rfl, h1, h2⟩ := yl
        have t1 := h1 _ q
        have t2 := h2 _ q'
        rw [hu] at t1; cases t1
        rw [hu'] at t2; cases t2
        have al := Al.upd (o := .tup [u, u']) R.sub hT
        exact ⟨_, al, .tup (.inl (.inl upd_same)) (.cons (ru.mono al.fle) (.cons (ru'.mono al.fle) .nil))⟩
theorem JOk.stop (R : Rel K mg F H σ ρ) (j : JOk K mg F H σ ρ J s) {xs : List D} (e : s.items ρ = some xs) : J.stop xs.length H := by
  cases s with
  | sq k r =>
    obtain ⟨a, rfl, d⟩ := j
    obtain ⟨vs, q, ra⟩ := seq_of R d e
    have := ra.length
    cases k with
    | false => exact ⟨vs, q, by omega⟩
    | true => exact ⟨vs, q, by omega⟩
  | rng lo n =>
    obtain rfl := j
    cases e
    show n ≤ _
    simp
  | rgc lo c n =>
    obtain rfl := j
    cases e
    show n ≤ _
    simp
  | en k r =>
    obtain ⟨a, rfl, d⟩ := j
    cases es : seqOf k (r.dat ρ) with
    | none => simp only [Src.items, es] at e; cases e
    | some ys =>
      simp only [Src.items, es] at e
      cases e
      obtain ⟨vs, q, ra⟩ := seq_of R d es
      exact ⟨vs, q, by rw [enumD_length]; exact ra.length⟩
  | zp k k' r r' =>
    obtain ⟨a, b, rfl, d, d'⟩ := j
    cases es : seqOf k (r.dat ρ) with
    | none => simp only [Src.items, es] at e; cases e
    | some ys =>
      cases es' : seqOf k' (r'.dat ρ) with
      | none => simp only [Src.items, es, es'] at e; cases e
      | some zs =>
        simp only [Src.items, es, es'] at e
        cases e
        obtain ⟨vs, q, ra⟩ := seq_of R d es
        obtain ⟨vs', q', ra'⟩ := seq_of R d' es'
        exact ⟨vs, vs', q, q', by rw [zipD_length, ra.length, ra'.length]⟩
end
/-- behind the source's expressions -/
def tI (K : PySem.W.Frag) (mg : Str → Option Value) (f : DEnv → Res Src) : TI := fun σ H R => ∃ F ρ s ρ' xs, Rel K mg F H σ ρ ∧ f ρ = .ok s ρ' ∧ s.items ρ' = some xs ∧
  ∀ F' H' J, Stp σ F H ρ σ F' H' ρ' → Liv ρ ρ' → Rel K mg F' H' σ ρ' → JOk K mg F' H' σ ρ' J s → xs.length ≤ sizeLine → R J H'
abbrev DI (X : Cx) (tg e : Expr) (f : DEnv → Res Src) : Prop := PI X tg e (tI X.K X.mg f)
/-- the lengths of what is read are bounded -/
theorem PE.sized {X : Cx} {e : Expr} {t : TE} (h : PE X e t) : PE X e (fun σ H Q => t σ H fun v H' => (∀ a k xs, v = .ref a → SqK k X.K H' a xs → xs.length ≤ sizeLine) → Q v H') := by
  refine ⟨fun pins s σ H Q I q => thn (h.run pins s σ H _ I q) fun u s1 ⟨v, H1, I1, r1, q1⟩ => ⟨v, H1, I1, r1, q1 fun a k xs e hs => ?_⟩⟩
  obtain ⟨its, _, _, z⟩ := seqK I1 hs
  exact z
theorem PA.sized {X : Cx} {es : List Expr} {t : TA} (h : PA X es t) : PA X es (fun σ H Q => t σ H fun vs H' => (∀ a k xs, V.ref a ∈ vs → SqK k X.K H' a xs → xs.length ≤ sizeLine) → Q vs H') := by
  refine ⟨fun pos pins s σ H Q I q => thn (h.run pos pins s σ H _ I q) fun u s1 ⟨v, H1, I1, r1, q1⟩ => ⟨v, H1, I1, r1, q1 fun a k xs e hs => ?_⟩⟩
  obtain ⟨its, _, _, z⟩ := seqK I1 hs
  exact z
def kindD : Option D → Option Bool
  | some (.lst _) => some false
  | some (.frz _) => some false
  | some (.tup _) => some true
  | _ => none
/-- over a list, a tuple -/
def sSeq (f : DEnv → Res Dv) : DEnv → Res Src := fun ρ => (f ρ).bind fun r ρ1 => match kindD (r.dat ρ1) with
  | some k => .ok (.sq k r) ρ1
  | none => .err .stuck
def sEn (f : DEnv → Res Dv) : DEnv → Res Src := fun ρ => (f ρ).bind fun r ρ1 => match kindD (r.dat ρ1) with
  | some k => .ok (.en k r) ρ1
  | none => .err .stuck
def sZp (f g : DEnv → Res Dv) : DEnv → Res Src := fun ρ => (f ρ).bind fun r ρ1 => (g ρ1).bind fun r' ρ2 => match kindD (r.dat ρ2), kindD (r'.dat ρ2) with
  | some k, some k' => .ok (.zp k k' r r') ρ2
  | _, _ => .err .stuck
def okR (i : Int) : Bool := decide (-(2 ^ 62) ≤ i) && decide (i < 2 ^ 62)
theorem okR_of {i : Int} (h : okR i = true) : -(2 ^ 62) ≤ i ∧ i < 2 ^ 62 := by
  simp only [okR, Bool.and_eq_true, decide_eq_true_eq] at h
  exact h
def rngS1 : List D → Option Src
  | [.int n] => if okR n ∧ n.toNat ≤ sizeLine then some (.rng 0 n.toNat) else none
  | _ => none
def rngS2 : List D → Option Src
  | [.int lo, .int hi] => if okR lo ∧ okR hi ∧ (hi - lo).toNat ≤ sizeLine then some (.rng lo (hi - lo).toNat) else none
  | _ => none
def rngS3 : List D → Option Src
  | [.int lo, .int hi, .int c] => if c = -1 ∧ okR lo ∧ okR hi ∧ (lo - hi).toNat ≤ sizeLine then some (.rgc lo (-1) (lo - hi).toNat) else none
  | _ => none
def sRng (o : List D → Option Src) (f : DEnv → Res (List Dv)) : DEnv → Res Src := fun ρ => (f ρ).bind fun rs ρ1 => match (datA ρ1 rs).bind o with
  | some s => .ok s ρ1
  | none => .err .stuck
theorem kind_seq {k : Bool} {d : Option D} (h : kindD d = some k) : ∃ xs, seqOf k d = some xs := by
  cases d with
  | none => cases h
  | some d => cases d <;> cases h <;> exact ⟨_, rfl⟩
theorem rd_ref {K : PySem.W.Frag} {mg : Str → Option Value} {F H : Hp} {v : V} {d : D} {k : Bool} (x : Rd1 K mg F H v d) (h : kindD (some d) = some k) : ∃ a, v = .ref a := by
  rcases x with x | ⟨p, h, o, e, _⟩
  · cases x <;> first | exact ⟨_, rfl⟩ | cases h
  · exact ⟨p, e⟩
section
variable {X : Cx} {a b e tg : Expr} {pos : Pos}
theorem kind_at {K : PySem.W.Frag} {mg : Str → Option Value} {F H : Hp} {σ : St} {ρ : DEnv} {v : V} {r : Dv} {k : Bool} (R : Rel K mg F H σ ρ) (x : DvR K mg F H σ ρ v r) (h : kindD (r.dat ρ) = some k) : ∃ a xs, v = .ref a ∧ seqOf k (r.dat ρ) = some xs := by
  cases e : r.dat ρ with
  | none => rw [e] at h; cases h
  | some d =>
    rw [e] at h
    obtain ⟨a, ha⟩ := rd_ref (x.rd R e) h
    obtain ⟨xs, hx⟩ := kind_seq h
    exact ⟨a, xs, ha, hx⟩
theorem di_seq {f : DEnv → Res Dv} (h : DE X e f) : DI X tg e (sSeq f) := by
  refine ⟨fun pins s σ H R I q => ?_⟩
  obtain ⟨F, ρ, s', ρ', xs, R0, e1, e2, q⟩ := q
  obtain ⟨r, ρ1, f1, f2⟩ := Res.bind_inv e1
  split at f2
  · rename_i k hk
    cases f2
    have rd : tE X.K X.mg f σ H (fun v H' => (∀ a k xs, v = .ref a → SqK k X.K H' a xs → xs.length ≤ sizeLine) → ∃ a, v = .ref a ∧ (∃ xs, SqK k X.K H' a xs) ∧ R (It1 k X.K a) H') := by
      refine ⟨F, ρ, r, ρ', R0, f1, fun F' H' v st l R' dv _ hz => ?_⟩
      obtain ⟨a, ys, rfl, hy⟩ := kind_at R' dv hk
      obtain ⟨vs, sq, ra⟩ := seq_of R' dv hy
      have e3 : some ys = some xs := hy.symm.trans e2
      cases e3
      exact ⟨a, rfl, ⟨vs, sq⟩, q F' H' _ st l R' ⟨a, rfl, dv⟩ (by rw [← ra.length]; exact hz a k vs rfl sq)⟩
    cases k with
    | false => exact (pi_list (X := X) (PE.sized h)).run pins s σ H R I rd
    | true => exact (pi_tup (X := X) (PE.sized h)).run pins s σ H R I rd
  · cases f2
theorem di_en {f : DEnv → Res Dv} {p tpos : Pos} {elts : List Expr} {kk : Nat} (hg : Gl X "enumerate") (hm : X.mg "enumerate" = none) (h : DE X e f) (hs : starEach [e] X.env = [(false, eval e X.env)]) : DI X (.Tuple elts kk tpos) (.Call (.Name "enumerate" p) [e] [] pos) (sEn f) := by
  refine PI.mono (pi_en hg hm (PA.sized (pa_cons h pa_nil hs)) hs) fun σ H R q => ?_
  obtain ⟨F, ρ, s', ρ', xs, R0, e1, e2, q⟩ := q
  obtain ⟨r, ρ1, f1, f2⟩ := Res.bind_inv e1
  split at f2
  · rename_i k hk
    cases f2
    refine ⟨F, ρ, r, ρ', R0, f1, fun F' H' v st l R' dv _ hz => ?_⟩
    obtain ⟨a, ys, rfl, hy⟩ := kind_at R' dv hk
    obtain ⟨vs, sq, ra⟩ := seq_of R' dv hy
    simp only [Src.items, hy] at e2
    cases e2
    exact ⟨k, a, vs, rfl, sq, q F' H' _ st l R' ⟨a, rfl, dv⟩ (by rw [enumD_length, ← ra.length]; exact hz a k vs (by simp) sq)⟩
  · cases f2
theorem di_zp {f g : DEnv → Res Dv} {p tpos : Pos} {elts : List Expr} {kk : Nat} (hg : Gl X "zip") (hm : X.mg "zip" = none) (ha : DE X a f) (hb : DE X b g) (hs : starEach [a, b] X.env = (false, eval a X.env) :: starEach [b] X.env) (hs2 : starEach [b] X.env = [(false, eval b X.env)]) :
    DI X (.Tuple elts kk tpos) (.Call (.Name "zip" p) [a, b] [] pos) (sZp f g) := by
  refine PI.mono (pi_zp hg hm (PA.sized (pa_cons ha (pa_cons hb pa_nil hs2) hs)) hs (by rw [hs2]; rfl)) fun σ H R q => ?_
  obtain ⟨F, ρ, s', ρ', xs, R0, e1, e2, q⟩ := q
  obtain ⟨r, ρ1, f1, f2⟩ := Res.bind_inv e1
  obtain ⟨r', ρ2, f3, f4⟩ := Res.bind_inv f2
  split at f4
  · rename_i k k' hk hk'
    cases f4
    refine ⟨F, ρ, r, ρ1, R0, f1, fun F1 H1 v s1 l1 R1 d1 _ => ⟨F1, ρ1, r', ρ', R1, f3, fun F2 H2 w s2 l2 R2 d2 _ hz => ?_⟩⟩
    have d1' := d1.step s2 l2
    obtain ⟨a, ys, rfl, hy⟩ := kind_at R2 d1' hk
    obtain ⟨b, zs, rfl, hy'⟩ := kind_at R2 d2 hk'
    obtain ⟨vs, sq, ra⟩ := seq_of R2 d1' hy
    obtain ⟨vs', sq', ra'⟩ := seq_of R2 d2 hy'
    simp only [Src.items, hy, hy'] at e2
    cases e2
    refine ⟨k, k', a, b, vs, vs', rfl, sq, sq', q F2 H2 _ (s1.trans s2) (l1.trans l2) R2 ⟨a, b, rfl, d1', d2⟩ ?_⟩
    have z1 := hz a k vs (by simp) sq
    rw [zipD_length, ← ra.length]
    exact Nat.le_trans (Nat.min_le_left _ _) z1
  · cases f4
theorem rng_read {f : DEnv → Res (List Dv)} {σ : St} {H : Hp} {R : It → Hp → Prop} {K : PySem.W.Frag} {mg : Str → Option Value} {o : List D → Option Src} (h : tI K mg (sRng o f) σ H R) :
    ∃ F ρ rs ρ' ds s xs, Rel K mg F H σ ρ ∧ f ρ = .ok rs ρ' ∧ datA ρ' rs = some ds ∧ o ds = some s ∧ s.items ρ' = some xs ∧ ∀ F' H' J, Stp σ F H ρ σ F' H' ρ' → Liv ρ ρ' → Rel K mg F' H' σ ρ' → JOk K mg F' H' σ ρ' J s → xs.length ≤ sizeLine → R J H' := by
  obtain ⟨F, ρ, s', ρ', xs, R0, e1, e2, q⟩ := h
  obtain ⟨rs, ρ1, f1, f2⟩ := Res.bind_inv e1
  split at f2
  · rename_i sr hsr
    cases f2
    obtain ⟨ds, k1, k2⟩ := Option.bind_eq_some_iff.mp hsr
    exact ⟨F, ρ, rs, ρ', ds, s', xs, R0, f1, k1, k2, e2, q⟩
  · cases f2
theorem dv1 {K : PySem.W.Frag} {mg : Str → Option Value} {F H : Hp} {σ : St} {ρ : DEnv} {vs : List V} {rs : List Dv} {ns : List Int} (R : Rel K mg F H σ ρ) (x : DvA K mg F H σ ρ vs rs) (e : datA ρ rs = some (ns.map D.int)) : vs = ns.map V.int := by
  have h := x.rd R e
  clear x e
  induction ns generalizing vs with
  | nil => cases h; rfl
  | cons n ns ih =>
    cases h with
    | cons h t =>
      rw [ih t]
      have := h.dr R.sub
      cases this
      rfl
theorem di_rng1 {f : DEnv → Res (List Dv)} {p : Pos} (hg : Gl X "range") (hm : X.mg "range" = none) (ha : DB X [a] f) (hs : starEach [a] X.env = [(false, eval a X.env)]) : DI X tg (.Call (.Name "range" p) [a] [] pos) (sRng rngS1 f) := by
  refine PI.mono (pi_range1 hg hm ha hs) fun σ H R q => ?_
  obtain ⟨F, ρ, rs, ρ', ds, s, xs, R0, e1, e2, e3, e4, q⟩ := rng_read q
  refine ⟨F, ρ, rs, ρ', R0, e1, fun F' H' vs st l R' x => ?_⟩
  unfold rngS1 at e3
  split at e3
  · rename_i n
    split at e3
    · rename_i hc
      cases e3
      cases e4
      exact ⟨n, dv1 (ns := [n]) R' x e2, (okR_of hc.1).1, (okR_of hc.1).2, q F' H' _ st l R' rfl (by simpa using hc.2)⟩
    · cases e3
  · cases e3
theorem di_rng2 {f : DEnv → Res (List Dv)} {p : Pos} (hg : Gl X "range") (hm : X.mg "range" = none) (ha : DB X [a, b] f) (hs : starEach [a, b] X.env = [(false, eval a X.env), (false, eval b X.env)]) (hs2 : starEach [b] X.env = [(false, eval b X.env)]) : DI X tg (.Call (.Name "range" p) [a, b] [] pos) (sRng rngS2 f) := by
  refine PI.mono (pi_range2 hg hm ha hs hs2) fun σ H R q => ?_
  obtain ⟨F, ρ, rs, ρ', ds, s, xs, R0, e1, e2, e3, e4, q⟩ := rng_read q
  refine ⟨F, ρ, rs, ρ', R0, e1, fun F' H' vs st l R' x => ?_⟩
  unfold rngS2 at e3
  split at e3
  · rename_i lo hi
    split at e3
    · rename_i hc
      cases e3
      cases e4
      exact ⟨lo, hi, dv1 (ns := [lo, hi]) R' x e2, ⟨(okR_of hc.1).1, (okR_of hc.1).2, (okR_of hc.2.1).1, (okR_of hc.2.1).2⟩, q F' H' _ st l R' rfl (by simpa using hc.2.2)⟩
    · cases e3
  · cases e3
theorem di_rng3 {c : Expr} {f : DEnv → Res (List Dv)} {p : Pos} (hg : Gl X "range") (hm : X.mg "range" = none) (ha : DB X [a, b, c] f) (hs : starEach [a, b, c] X.env = (false, eval a X.env) :: starEach [b, c] X.env) (hpl : (backTo pos (starEach [b, c] X.env)).any (·.1) = false) :
    DI X tg (.Call (.Name "range" p) [a, b, c] [] pos) (sRng rngS3 f) := by
  refine PI.mono (pi_range3 hg hm ha hs hpl) fun σ H R q => ?_
  obtain ⟨F, ρ, rs, ρ', ds, s, xs, R0, e1, e2, e3, e4, q⟩ := rng_read q
  refine ⟨F, ρ, rs, ρ', R0, e1, fun F' H' vs st l R' x => ?_⟩
  unfold rngS3 at e3
  split at e3
  · rename_i lo hi c
    split at e3
    · rename_i hc
      obtain ⟨rfl, h1, h2, h3⟩ := hc
      cases e3
      cases e4
      exact ⟨lo, hi, -1, (lo - hi).toNat, dv1 (ns := [lo, hi, -1]) R' x e2, RgC.neg (okR_of h1).1 (okR_of h1).2 (okR_of h2).1 (okR_of h2).2, q F' H' _ st l R' rfl (by simpa using h3)⟩
    · cases e3
  · cases e3
end

/-! ### targets -/
inductive Tg where
  | nm (i : Nat) | tup (is : List Nat)
def setNs : List Nat → List D → DEnv → Option DEnv
  | [], [], ρ => some ρ
  | i :: is, d :: ds, ρ => setNs is ds (ρ.set i (.val d))
  | _, _, _ => none
def Tg.put : Tg → D → DEnv → Option DEnv
  | .nm i, d, ρ => some (ρ.set i (.val d))
  | .tup is, .tup ds, ρ => setNs is ds ρ
  | _, _, _ => none
def Tg.slots : Tg → List Nat
  | .nm i => [i]
  | .tup is => is
/-- slots but is stand -/
def Out (is : List Nat) (σ σ' : St) : Prop := σ'.length = σ.length ∧ ∀ j, j ∉ is → σ'[j]? = σ[j]?
theorem rel_set {K : PySem.W.Frag} {mg : Str → Option Value} {F H : Hp} {σ : St} {ρ : DEnv} {i : Nat} {v : V} {d : D} (R : Rel K mg F H σ ρ) (x : Dr K mg F v d) : Rel K mg F H (σ.set i (some v)) (ρ.set i (.val d)) := by
  have back : ∀ (j : Nat) (o : Ob), (ρ.set i (Slot.val d))[j]? = some (.own o) → j ≠ i ∧ ρ[j]? = some (.own o) := fun j o h => by
    rcases getElem?_set_slot h with ⟨_, z⟩ | z
    · cases z
    · exact z
  refine ⟨R.sub, by rw [List.length_set, List.length_set]; exact R.len, fun j e h => ?_, fun j o h => ?_, fun j k o o' p h1 h2 h3 h4 => ?_⟩
  · rcases getElem?_set_slot h with ⟨z, w⟩ | ⟨n, z⟩
    · subst z; cases w
      have il : j < σ.length := by
        have := (List.getElem?_eq_some_iff.mp h).1
        rw [List.length_set, R.len] at this
        exact this
      exact ⟨v, List.getElem?_set_self il, x⟩
    · obtain ⟨u, e1, r⟩ := R.val j e z
      exact ⟨u, by rw [List.getElem?_set_ne (Ne.symm n)]; exact e1, r⟩
  · obtain ⟨n, z⟩ := back j o h
    obtain ⟨p, q, e1, r⟩ := R.own j o z
    exact ⟨p, q, by rw [List.getElem?_set_ne (Ne.symm n)]; exact e1, r⟩
  · obtain ⟨n1, z1⟩ := back j o h1
    obtain ⟨n2, z2⟩ := back k o' h2
    rw [List.getElem?_set_ne (Ne.symm n1)] at h3
    rw [List.getElem?_set_ne (Ne.symm n2)] at h4
    exact R.apart j k o o' p z1 z2 h3 h4
theorem stp_set {F H : Hp} {σ : St} {ρ : DEnv} {i : Nat} {v : V} {d : D} : Stp σ F H ρ (σ.set i (some v)) F H (ρ.set i (.val d)) := by
  refine ⟨Same.refl _, fun _ _ h _ => h, fun _ h => .inl h, fun p h => ?_, fun _ h => h⟩
  obtain ⟨j, o, h1, h2⟩ := h
  rcases getElem?_set_slot h1 with ⟨_, z⟩ | ⟨n, z⟩
  · cases z
  · rw [List.getElem?_set_ne (Ne.symm n)] at h2
    exact .inl ⟨j, o, z, h2⟩
def tG (K : PySem.W.Frag) (mg : Str → Option Value) (t : Tg) : TG := fun v σ H Q => ∃ F ρ d ρ', Rel K mg F H σ ρ ∧ Dr K mg F v d ∧ t.put d ρ = some ρ' ∧
  ∀ σ', Stp σ F H ρ σ' F H ρ' → Rel K mg F H σ' ρ' → Out t.slots σ σ' → Q σ' H
abbrev DG (X : Cx) (e : Expr) (t : Tg) : Prop := PG X e (tG X.K X.mg t)
theorem PG.mono {X : Cx} {e : Expr} {t t' : TG} (h : PG X e t) (k : ∀ v σ H Q, t' v σ H Q → t v σ H Q) : PG X e t' := ⟨fun pins s σ H v u Q I r q => h.run pins s σ H v u Q I r (k v σ H Q q)⟩
def NmOk (X : Cx) (i : Nat) (x : Str) : Prop := X.N[i]? = some x ∧ Loc X.env.scope x ∧ (X.fn x = true ∨ X.env.scope.names.lookup x = some .local)
theorem out_set {σ : St} {i : Nat} {s : Option V} : Out [i] σ (σ.set i s) := ⟨by rw [List.length_set], fun j hj => List.getElem?_set_ne fun e => hj (by simp [e])⟩
theorem dg_nm {X : Cx} {i : Nat} {x : Str} {pos : Pos} (hN : X.N.Nodup) (h : NmOk X i x) : DG X (.Name x pos) (.nm i) := by
  refine PG.mono (pg_name hN h.1 h.2.1 h.2.2) fun v σ H Q h => ?_
  obtain ⟨F, ρ, d, ρ', R, x, e, q⟩ := h
  cases e
  exact q _ stp_set (rel_set R x) out_set
/-- several names -/
inductive NmsOk (X : Cx) : List Expr → List Nat → Prop
  | nil : NmsOk X [] []
  | cons {x : Str} {pos : Pos} {i : Nat} {es : List Expr} {is : List Nat} : NmOk X i x → NmsOk X es is → NmsOk X (.Name x pos :: es) (i :: is)
def tGs (K : PySem.W.Frag) (mg : Str → Option Value) (is : List Nat) : TGs := fun vs σ H Q => ∃ F ρ ds ρ', Rel K mg F H σ ρ ∧ DrA K mg F vs ds ∧ setNs is ds ρ = some ρ' ∧
  ∀ σ', Stp σ F H ρ σ' F H ρ' → Rel K mg F H σ' ρ' → Out is σ σ' → Q σ' H
theorem PGs.mono {X : Cx} {e : List Expr} {t t' : TGs} (h : PGs X e t) (k : ∀ v σ H Q, t' v σ H Q → t v σ H Q) : PGs X e t' := ⟨fun pins s σ H v u Q I r q => h.run pins s σ H v u Q I r (k v σ H Q q)⟩
theorem dgs_of {X : Cx} (hN : X.N.Nodup) : ∀ {es : List Expr} {is : List Nat}, NmsOk X es is → PGs X es (tGs X.K X.mg is)
  | _, _, .nil => by
    refine PGs.mono pgs_nil fun v σ H Q h => ?_
    obtain ⟨F, ρ, d, ρ', R, x, e, q⟩ := h
    cases x with
    | nil =>
      cases e
      exact ⟨rfl, q σ .refl R ⟨rfl, fun _ _ => rfl⟩⟩
    | cons h t => cases e
  | _, _, .cons (x := x) (pos := pos) (i := i) (es := es) h t => by
    refine PGs.mono (pgs_cons (pg_name hN h.1 h.2.1 h.2.2) (dgs_of hN t) rfl) fun v σ H Q h => ?_
    obtain ⟨F, ρ, d, ρ', R, x, e, q⟩ := h
    cases x with
    | nil => cases e
    | cons h t =>
      refine ⟨_, _, rfl, F, _, _, ρ', rel_set R h, t, e, fun σ' s' R' o => ?_⟩
      refine q σ' (stp_set.trans s') R' ⟨by rw [o.1, List.length_set], fun j hj => ?_⟩
      rw [o.2 j fun z => hj (List.mem_cons_of_mem _ z), List.getElem?_set_ne fun z => hj (by simp [z])]
theorem dg_tup {X : Cx} {es : List Expr} {is : List Nat} {k : Nat} {pos : Pos} (hc : X.calm = true) (hN : X.N.Nodup) (h : NmsOk X es is) (hn : (assignEach es X.env).length = is.length) (hst : (assignEach es X.env).findIdx? (·.1) = none) : DG X (.Tuple es k pos) (.tup is) := by
  refine PG.mono (pg_tup hc (dgs_of hN h) hn hst) fun v σ H Q h => ?_
  obtain ⟨F, ρ, d, ρ', R, x, e, q⟩ := h
  cases d with
  | tup ds =>
    cases x with
    | tup hx r =>
      refine ⟨_, _, rfl, sqT_mono R.sub hx, ?_, F, ρ, ds, ρ', R, r, e, q⟩
      have : ∀ (is : List Nat) (ds : List D) (ρ ρ' : DEnv), setNs is ds ρ = some ρ' → ds.length = is.length := by
        intro is
        induction is with
        | nil => intro ds ρ ρ' h; cases ds with
          | nil => rfl
          | cons _ _ => cases h
        | cons i is ih => intro ds ρ ρ' h; cases ds with
          | nil => cases h
          | cons d ds => rw [List.length_cons, List.length_cons, ih ds _ _ h]
      rw [r.length, this _ _ _ _ e]
  | _ => cases e
end DL


set_option Elab.async false
set_option linter.all false
set_option maxRecDepth 100000
set_option maxHeartbeats 4000000
/-! DL6: list comprehensions by data; calls of defs. -/
namespace DL
open PySem PySem.Spec PyProof.Rows L2

def wipeD (ρ : DEnv) : List Nat → DEnv
  | [] => ρ
  | v :: vs => (wipeD ρ vs).set v .non
def restD (ρ0 ρ : DEnv) : List Nat → DEnv
  | [] => ρ
  | v :: vs => match ρ0[v]? with
    | some s => (restD ρ0 ρ vs).set v s
    | none => restD ρ0 ρ vs
theorem wipeD_length (ρ : DEnv) : ∀ vs, (wipeD ρ vs).length = ρ.length
  | [] => rfl
  | v :: vs => by unfold wipeD; rw [List.length_set, wipeD_length ρ vs]
theorem wipeD_in {ρ : DEnv} {i : Nat} {s : Slot} : ∀ {vs : List Nat}, (wipeD ρ vs)[i]? = some s → s ≠ .non → ρ[i]? = some s ∧ i ∉ vs
  | [], h, n => ⟨h, by simp⟩
  | v :: vs, h, n => by
    unfold wipeD at h
    rcases getElem?_set_slot h with ⟨_, e⟩ | ⟨n1, e⟩
    · exact absurd e n
    · obtain ⟨h1, h2⟩ := wipeD_in e n
      exact ⟨h1, by simp only [List.mem_cons, not_or]; exact ⟨n1, h2⟩⟩
theorem wipeD_out {ρ : DEnv} {i : Nat} : ∀ {vs : List Nat}, i ∉ vs → (wipeD ρ vs)[i]? = ρ[i]?
  | [], _ => rfl
  | v :: vs, h => by
    simp only [List.mem_cons, not_or] at h
    unfold wipeD
    rw [List.getElem?_set_ne (Ne.symm h.1), wipeD_out h.2]
theorem restD_length {ρ0 ρ : DEnv} : ∀ vs, (restD ρ0 ρ vs).length = ρ.length
  | [] => rfl
  | v :: vs => by
    unfold restD
    split
    · rw [List.length_set, restD_length vs]
    · exact restD_length vs
theorem restD_in {ρ0 ρ : DEnv} {i : Nat} (hl : ρ.length = ρ0.length) : ∀ {vs : List Nat}, i ∈ vs → (restD ρ0 ρ vs)[i]? = ρ0[i]?
  | v :: vs, h => by
    unfold restD
    by_cases e : v = i
    · subst e
      cases h0 : ρ0[v]? with
      | none =>
        show (restD ρ0 ρ vs)[v]? = none
        have := List.getElem?_eq_none_iff.mp h0
        exact List.getElem?_eq_none_iff.mpr (by rw [restD_length, hl]; exact this)
      | some s =>
        show ((restD ρ0 ρ vs).set v s)[v]? = some s
        have := (List.getElem?_eq_some_iff.mp h0).1
        exact List.getElem?_set_self (by rw [restD_length, hl]; exact this)
    · have hi : i ∈ vs := by
        rcases List.mem_cons.mp h with q | q
        · exact absurd q.symm e
        · exact q
      split
      · rw [List.getElem?_set_ne e]; exact restD_in hl hi
      · exact restD_in hl hi
theorem restD_out {ρ0 ρ : DEnv} {i : Nat} : ∀ {vs : List Nat}, i ∉ vs → (restD ρ0 ρ vs)[i]? = ρ[i]?
  | [], _ => rfl
  | v :: vs, h => by
    simp only [List.mem_cons, not_or] at h
    unfold restD
    split
    · rw [List.getElem?_set_ne (Ne.symm h.1)]; exact restD_out h.2
    · exact restD_out h.2
theorem wipe_out' {σ : St} {i : Nat} : ∀ {vs : List Nat}, i ∉ vs → (wipe σ vs)[i]? = σ[i]?
  | [], _ => rfl
  | v :: vs, h => by
    simp only [List.mem_cons, not_or] at h
    unfold wipe
    rw [List.getElem?_set_ne (Ne.symm h.1), wipe_out' h.2]
theorem wipe_in' {σ : St} {i : Nat} : ∀ {vs : List Nat}, i ∈ vs → i < σ.length → (wipe σ vs)[i]? = some none
  | v :: vs, h, hl => by
    unfold wipe
    by_cases e : v = i
    · subst e; exact List.getElem?_set_self (by rw [wipe_length]; exact hl)
    · rw [List.getElem?_set_ne e]
      refine wipe_in' ?_ hl
      rcases List.mem_cons.mp h with q | q
      · exact absurd q.symm e
      · exact q
theorem wipe_same {σ σ' : St} {is vs : List Nat} (o : Out is σ σ') (h : ∀ i ∈ is, i ∈ vs) : wipe σ' vs = wipe σ vs := by
  apply List.ext_getElem?
  intro i
  by_cases hi : i ∈ vs
  · by_cases hl : i < σ.length
    · rw [wipe_in' hi hl, wipe_in' hi (by rw [o.1]; exact hl)]
    · have hl2 : ¬ i < σ'.length := by rw [o.1]; exact hl
      rw [List.getElem?_eq_none (by rw [wipe_length]; omega), List.getElem?_eq_none (by rw [wipe_length]; omega)]
  · rw [wipe_out' hi, wipe_out' hi, o.2 i fun z => hi (h i z)]
section
variable {K : PySem.W.Frag} {mg : Str → Option Value} {F H F' H' : Hp} {σ σ' : St} {ρ ρ' : DEnv} {vs : List Nat}
theorem rel_wipe (R : Rel K mg F H σ ρ) (vs : List Nat) : Rel K mg F H (wipe σ vs) (wipeD ρ vs) := by
  refine ⟨R.sub, by rw [wipeD_length, wipe_length]; exact R.len, fun i d h => ?_, fun i o h => ?_, fun i j o o' p h1 h2 h3 h4 => ?_⟩
  · obtain ⟨h1, n⟩ := wipeD_in h (by simp)
    rw [wipe_out' n]
    exact R.val i d h1
  · obtain ⟨h1, n⟩ := wipeD_in h (by simp)
    rw [wipe_out' n]
    exact R.own i o h1
  · obtain ⟨k1, n1⟩ := wipeD_in h1 (by simp)
    obtain ⟨k2, n2⟩ := wipeD_in h2 (by simp)
    rw [wipe_out' n1] at h3
    rw [wipe_out' n2] at h4
    exact R.apart i j o o' p k1 k2 h3 h4
theorem ch_wipe {p : Addr} (c : Ch (wipe σ vs) (wipeD ρ vs) p) : Ch σ ρ p := by
  obtain ⟨i, o, h1, h2⟩ := c
  obtain ⟨k1, n1⟩ := wipeD_in h1 (by simp)
  rw [wipe_out' n1] at h2
  exact ⟨i, o, k1, h2⟩
/-- what stands in H at D may change where D is nobody's -/
theorem rel_updH {p : Addr} {o : HO} (R : Rel K mg F H σ ρ) (fp : F p = none) (c : ¬ Ch σ ρ p) : Rel K mg F (upd H p o) σ ρ := by
  refine ⟨fun q z h => ?_, R.len, R.val, fun i o' h => ?_, R.apart⟩
  · rw [upd_ne (ne_of_none h fp)]; exact R.sub _ _ h
  · obtain ⟨q, h', e, hq, fq, r⟩ := R.own i o' h
    have ne : q ≠ p := fun z => c ⟨i, o', h, by rw [← z]; exact e⟩
    exact ⟨q, h', e, by rw [upd_ne ne]; exact hq, fq, r⟩
end

/-! ### the loop of a comprehension -/
open Classical in
/-- xs: all items; r: those left; acc: what is made so far -/
noncomputable def lcGo (s : Src) (xs : List D) (vs : List Nat) (tg : Tg) (cond : DEnv → Res Bool) (elt : DEnv → Res D) : List D → DEnv → List D → Res (List D)
  | [], ρ, acc => if s.items ρ = some xs then .ok acc ρ else .err .stuck
  | x :: r, ρ, acc => if s.items ρ = some xs then (match tg.put x ρ with
      | none => .err .stuck
      | some ρ1 => (cond ρ1).bind fun b ρ2 => if b = true then (elt ρ2).bind fun d ρ3 => lcGo s xs vs tg cond elt r (wipeD ρ3 vs) (acc ++ [d]) else lcGo s xs vs tg cond elt r (wipeD ρ2 vs) acc) else .err .stuck
noncomputable def dLC (src : DEnv → Res Src) (vs : List Nat) (tg : Tg) (cond : DEnv → Res Bool) (elt : DEnv → Res D) : DEnv → Res Dv := fun ρ => (src ρ).bind fun s ρ1 => match s.items ρ1 with
  | none => .err .stuck
  | some xs => (lcGo s xs vs tg cond elt xs (wipeD ρ1 vs) []).bind fun acc ρ2 => .ok (.own (.lst acc)) (restD ρ1 ρ2 vs)
theorem lcGo_items {s : Src} {xs : List D} {vs : List Nat} {tg : Tg} {cond : DEnv → Res Bool} {elt : DEnv → Res D} {r : List D} {ρ ρ' : DEnv} {acc out : List D} (h : lcGo s xs vs tg cond elt r ρ acc = .ok out ρ') : s.items ρ = some xs := by
  cases r with
  | nil =>
    unfold lcGo at h
    split at h
    · assumption
    · cases h
  | cons x r =>
    unfold lcGo at h
    split at h
    · assumption
    · cases h
/-- the reading of a comprehension -/
theorem lc_read {K : PySem.W.Frag} {mg : Str → Option Value} {src : DEnv → Res Src} {vs : List Nat} {tg : Tg} {cond : DEnv → Res Bool} {elt : DEnv → Res D} {σ : St} {H : Hp} {Q : VK} (hv : ∀ i ∈ tg.slots, i ∈ vs) (h : tE K mg (dLC src vs tg cond elt) σ H Q) :
    tLc (tI K mg src) (tG K mg tg) (tT K mg cond) (tF K mg elt) vs σ H Q := by
  obtain ⟨F, ρ, r, ρ', R, e, q⟩ := h
  obtain ⟨s, ρ1, e1, e2⟩ := Res.bind_inv e
  split at e2
  · cases e2
  rename_i xs hxs
  obtain ⟨out, ρ2, e3, e4⟩ := Res.bind_inv e2
  cases e4
  refine ⟨F, ρ, s, ρ1, xs, R, e1, hxs, fun F1 H1 J s1 l1 R1 j1 hz DD hD => ?_⟩
  have R1w := rel_wipe R1 vs
  have al1 := Al.updH (o := .lst []) R1w.sub hD
  -- the invariant
  refine ⟨fun i m H2 => ∃ F2 ρa acc accV, m = xs.length - i ∧ i ≤ xs.length ∧ lcGo s xs vs tg cond elt (xs.drop i) ρa acc = .ok out ρ2 ∧ Rel K mg F2 H2 (wipe σ vs) ρa ∧ Stp (wipe σ vs) F1 H1 (wipeD ρ1 vs) (wipe σ vs) F2 H2 ρa ∧ Liv (wipeD ρ1 vs) ρa ∧
      H2 DD = some (.lst accV) ∧ F2 DD = none ∧ DrA K mg F2 accV acc ∧ ¬ Ch (wipe σ vs) ρa DD ∧ acc.length ≤ i, ⟨xs.length, F1, wipeD ρ1 vs, [], [], by simp, Nat.zero_le _, by simpa using e3, al1.rel R1w, al1.stp, .refl _, upd_same, R1.sub.free hD, .nil, fun c => ?_, Nat.zero_le _⟩, ?_⟩
  · obtain ⟨i, o, h1, h2⟩ := c
    obtain ⟨p, h, e5, hp, _⟩ := R1w.own i o h1
    rw [h2] at e5; cases e5
    rw [hD] at hp; cases hp
  rintro i m H2 ⟨F2, ρa, acc, accV, rfl, hi, eg, R2, s2, l2, hD2, fD2, ra, cD, hal⟩
  have it2 := lcGo_items eg
  -- the walk stands
  have j2 : JOk K mg F2 H2 (wipe σ vs) ρa J s := by
    have it1 : s.items (wipeD ρ1 vs) = some xs := lcGo_items e3
    have dvw : ∀ {k : Bool} {a : Addr} {r : Dv} {ys : List D}, DvR K mg F1 H1 σ ρ1 (.ref a) r → seqOf k (r.dat (wipeD ρ1 vs)) = some ys → DvR K mg F2 H2 (wipe σ vs) ρa (.ref a) r := fun {k a r ys} d hs => by
      cases r with
      | val d' => exact Dr.mono s2.fle d
      | own o =>
        refine DvR.step (ρ := wipeD ρ1 vs) (H := H1) (F := F1) ?_ s2 l2
        obtain ⟨p, h, e, hp, fp, r, c⟩ := d
        exact ⟨p, h, e, hp, fp, r, fun z => c (ch_wipe z)⟩
      | slot n =>
        refine DvR.step (ρ := wipeD ρ1 vs) (H := H1) (F := F1) ?_ s2 l2
        obtain ⟨e, sl, h, nn⟩ := d
        have hn : n ∉ vs := fun z => by
          cases hw : (wipeD ρ1 vs)[n]? with
          | none =>
            have hs' : seqOf k (match (wipeD ρ1 vs)[n]? with | some (.val d) => some d | some (.own o) => some o.d | _ => none) = some ys := hs
            rw [hw] at hs'
            cases k <;> cases hs'
          | some sw =>
            cases sw with
            | non =>
              have hs' : seqOf k (match (wipeD ρ1 vs)[n]? with | some (.val d) => some d | some (.own o) => some o.d | _ => none) = some ys := hs
              rw [hw] at hs'
              cases k <;> cases hs'
            | val y => exact (wipeD_in hw (by simp)).2 z
            | own y => exact (wipeD_in hw (by simp)).2 z
        exact ⟨by rw [wipe_out' hn]; exact e, sl, by rw [wipeD_out hn]; exact h, nn⟩
    cases s with
    | sq k r =>
      obtain ⟨a, e, d⟩ := j1
      exact ⟨a, e, dvw d it1⟩
    | rng lo n => exact j1
    | rgc lo c n => exact j1
    | en k r =>
      obtain ⟨a, e, d⟩ := j1
      cases es : seqOf k (r.dat (wipeD ρ1 vs)) with
      | none => simp only [Src.items, es] at it1; cases it1
      | some ys => exact ⟨a, e, dvw d es⟩
    | zp k k' r r' =>
      obtain ⟨a, b, e, d, d'⟩ := j1
      cases es : seqOf k (r.dat (wipeD ρ1 vs)) with
      | none => simp only [Src.items, es] at it1; cases it1
      | some ys =>
        cases es' : seqOf k' (r'.dat (wipeD ρ1 vs)) with
        | none => simp only [Src.items, es, es'] at it1; cases it1
        | some zs => exact ⟨a, b, e, dvw d es, dvw d' es'⟩
  by_cases hlt : i < xs.length
  · -- a turn
    have hx : xs[i]? = some xs[i] := List.getElem?_eq_getElem hlt
    have hd : xs.drop i = xs[i] :: xs.drop (i + 1) := List.drop_eq_getElem_cons hlt
    rw [hd] at eg
    unfold lcGo at eg
    rw [if_pos it2] at eg
    obtain ⟨go, yl⟩ := j2.go R2 it2 hx
    split at eg
    · cases eg
    rename_i ρb hput
    obtain ⟨b, ρc, ec, eg⟩ := Res.bind_inv eg
    refine .inr ⟨go, fun H' => ∃ F2 ρa acc accV, lcGo s xs vs tg cond elt (xs.drop (i + 1)) ρa acc = .ok out ρ2 ∧ Rel K mg F2 H' (wipe σ vs) ρa ∧ Stp (wipe σ vs) F1 H1 (wipeD ρ1 vs) (wipe σ vs) F2 H' ρa ∧ Liv (wipeD ρ1 vs) ρa ∧
      H' DD = some (.lst accV) ∧ F2 DD = none ∧ DrA K mg F2 accV acc ∧ ¬ Ch (wipe σ vs) ρa DD ∧ acc.length ≤ i + 1, fun H' hN => ?_, fun v H' hy => ?_⟩
    · obtain ⟨F2, ρa, acc, accV, g1, g2, g3, g4, g5, g6, g7, g8, g9⟩ := hN
      exact ⟨_, by omega, F2, ρa, acc, accV, rfl, hlt, g1, g2, g3, g4, g5, g6, g7, g8, g9⟩
    · obtain ⟨F3, al3, dx⟩ := yl v H' hy
      have R3 := al3.rel R2
      have s3 : Stp (wipe σ vs) F1 H1 (wipeD ρ1 vs) (wipe σ vs) F3 H' ρa := s2.trans al3.stp
      have hD3 : H' DD = some (.lst accV) := al3.hle _ _ hD2
      have fD3 : F3 DD = none := by
        cases z : F3 DD with
        | none => rfl
        | some y =>
          rcases al3.new DD (by rw [z]; simp) with w | w
          · exact absurd fD2 w
          · rw [hD2] at w; cases w
      refine ⟨F3, ρa, xs[i], ρb, R3, dx, hput, fun σ' s4 R4 o4 => ?_⟩
      have ws : wipe σ' vs = wipe σ vs := by
        have := wipe_same o4 hv
        rw [this]
        apply List.ext_getElem?
        intro n
        by_cases hn : n ∈ vs
        · by_cases hl : n < σ.length
          · rw [wipe_in' hn hl, wipe_in' hn (by rw [wipe_length]; exact hl)]
          · rw [List.getElem?_eq_none (by rw [wipe_length, wipe_length]; omega), List.getElem?_eq_none (by rw [wipe_length]; omega)]
        · rw [wipe_out' hn]
      have cD4 : ¬ Ch σ' ρb DD := fun c => by
        rcases s4.chs DD c with z | z
        · exact cD z
        · rw [hD3] at z; cases z
      -- back in the wiped frame
      have back : ∀ {F5 H5 : Hp} {ρ5 : DEnv}, Stp σ' F3 H' ρb σ' F5 H5 ρ5 → Rel K mg F5 H5 σ' ρ5 → Rel K mg F5 H5 (wipe σ vs) (wipeD ρ5 vs) ∧ Stp (wipe σ vs) F1 H1 (wipeD ρ1 vs) (wipe σ vs) F5 H5 (wipeD ρ5 vs) ∧ H5 DD = some (.lst accV) ∧ F5 DD = none ∧ ¬ Ch (wipe σ vs) (wipeD ρ5 vs) DD := fun {F5 H5 ρ5} s5 R5 => by
        have R5w : Rel K mg F5 H5 (wipe σ vs) (wipeD ρ5 vs) := by rw [← ws]; exact rel_wipe R5 vs
        have st := s4.trans s5
        have cw : ∀ p, Ch (wipe σ vs) (wipeD ρ5 vs) p → Ch σ' ρ5 p := fun p c => by rw [← ws] at c; exact ch_wipe c
        have st5 : Stp (wipe σ vs) F3 H' ρa (wipe σ vs) F5 H5 (wipeD ρ5 vs) := ⟨st.fle, st.keep, st.new, fun p c => st.chs p (cw p c), st.dom⟩
        have cD5 : ¬ Ch (wipe σ vs) (wipeD ρ5 vs) DD := fun c => by
          rcases st5.chs DD c with z | z
          · exact cD z
          · rw [hD3] at z; cases z
        refine ⟨R5w, s3.trans st5, st.keep DD _ hD3 cD, ?_, cD5⟩
        cases z : F5 DD with
        | none => rfl
        | some y =>
          rcases st.new DD (by rw [z]; simp) with w | w | w
          · exact absurd fD3 w
          · rw [hD3] at w; cases w
          · exact absurd w cD
      have lvb : ∀ {ρ5 : DEnv}, Liv ρb ρ5 → Liv (wipeD ρ1 vs) (wipeD ρ5 vs) := fun {ρ5} l5 n sl h nn => by
        obtain ⟨k1, k2⟩ := wipeD_in h nn
        obtain ⟨s', h', n'⟩ := l2 n sl h nn
        have hb : ∃ s'', ρb[n]? = some s'' ∧ s'' ≠ .non := by
          have : ρb[n]? = ρa[n]? := by
            have hput' := hput
            cases tg with
            | nm i =>
              cases hput'
              rw [List.getElem?_set_ne fun z => k2 (hv n (by simp [Tg.slots, z]))]
            | tup is =>
              cases hxx : xs[i] with
              | tup ds =>
                rw [hxx] at hput'
                have : ∀ (is : List Nat) (ds : List D) (ρ ρ' : DEnv), setNs is ds ρ = some ρ' → n ∉ is → ρ'[n]? = ρ[n]? := by
                  intro is
                  induction is with
                  | nil => intro ds ρ ρ' h _; cases ds with
                    | nil => cases h; rfl
                    | cons _ _ => cases h
                  | cons i is ih => intro ds ρ ρ' h hn; cases ds with
                    | nil => cases h
                    | cons d ds =>
                      simp only [List.mem_cons, not_or] at hn
                      rw [ih ds _ _ h hn.2, List.getElem?_set_ne (Ne.symm hn.1)]
                exact this is ds _ _ hput' fun z => k2 (hv n z)
              | _ => rw [hxx] at hput'; cases hput'
          exact ⟨s', by rw [this]; exact h', n'⟩
        obtain ⟨s'', h'', n''⟩ := hb
        obtain ⟨s5, h5, n5⟩ := l5 n s'' h'' n''
        exact ⟨s5, by rw [wipeD_out k2]; exact h5, n5⟩
      refine ⟨ws, F3, ρb, b, ρc, R4, ec, fun F5 H5 s5 l5 R5 => ?_⟩
      cases b with
      | false =>
        rw [if_neg Bool.false_ne_true] at eg ⊢
        obtain ⟨g1, g2, g3, g4, g5⟩ := back s5 R5
        exact ⟨F5, _, acc, accV, eg, g1, g2, lvb l5, g3, g4, ra.mono (al3.fle.trans s5.fle), g5, by omega⟩
      | true =>
        rw [if_pos rfl] at eg ⊢
        obtain ⟨d, ρd, ed, eg⟩ := Res.bind_inv eg
        refine ⟨F5, ρc, d, ρd, R5, ed, fun F6 H6 w s6 l6 R6 dw => ?_⟩
        obtain ⟨g1, g2, g3, g4, g5⟩ := back (s5.trans s6) R6
        have hacc : accV.length < sizeLine := by
          have := ra.length
          omega
        refine ⟨accV, g3, hacc, F6, _, acc ++ [d], accV ++ [w], eg, rel_updH g1 g4 g5, ⟨g2.fle, fun p o hp c => ?_, g2.new, g2.chs, fun p hp => ?_⟩, lvb (l5.trans l6), upd_same, g4, (ra.mono (al3.fle.trans (s5.fle.trans s6.fle))).snoc dw, g5, by rw [List.length_append]; simp; omega⟩
        · have ne : p ≠ DD := fun z => by rw [z, hD] at hp; cases hp
          rw [upd_ne ne]
          exact g2.keep p o hp c
        · by_cases ne : p = DD
          · rw [ne]; exact hD
          · rw [upd_ne ne] at hp; exact g2.dom p hp
  · -- the end
    have ei : i = xs.length := by omega
    subst ei
    rw [List.drop_length] at eg
    unfold lcGo at eg
    rw [if_pos it2] at eg
    cases eg
    refine .inl ⟨j2.stop R2 it2, ?_⟩
    have hlen : ρ2.length = ρ1.length := by rw [R2.len, wipe_length, ← R1.len]
    -- slots of the block's names are as ahead
    have ownIn : ∀ (n : Nat) (o : Ob), n ∈ vs → ρ1[n]? = some (.own o) → ∃ p h, σ[n]? = some (some (.ref p)) ∧ H2 p = some h ∧ F2 p = none ∧ OR K mg F2 h o ∧ ¬ Ch (wipe σ vs) ρ2 p ∧ H1 p = some h := fun n o hn ho => by
      obtain ⟨p, h, e5, hp, fp, r⟩ := R1.own n o ho
      have nc : ¬ Ch (wipe σ vs) (wipeD ρ1 vs) p := fun c => by
        obtain ⟨n', o', h1, h2⟩ := c
        obtain ⟨k1, k2⟩ := wipeD_in h1 (by simp)
        rw [wipe_out' k2] at h2
        exact k2 (by rw [R1.apart n' n o' o p k1 ho h2 e5]; exact hn)
      refine ⟨p, h, e5, s2.keep p h hp nc, ?_, r.mono s2.fle, fun c => ?_, hp⟩
      · cases z : F2 p with
        | none => rfl
        | some y =>
          rcases s2.new p (by rw [z]; simp) with w | w | w
          · exact absurd fp w
          · rw [hp] at w; cases w
          · exact absurd w nc
      · rcases s2.chs p c with w | w
        · exact nc w
        · rw [hp] at w; cases w
    have getIn : ∀ {n : Nat}, n ∈ vs → (restD ρ1 ρ2 vs)[n]? = ρ1[n]? := fun hn => restD_in hlen hn
    have getOut : ∀ {n : Nat}, n ∉ vs → (restD ρ1 ρ2 vs)[n]? = ρ2[n]? := fun hn => restD_out hn
    have chOut : ∀ {n : Nat} {o : Ob} {p : Addr}, n ∉ vs → ρ2[n]? = some (.own o) → σ[n]? = some (some (.ref p)) → Ch (wipe σ vs) ρ2 p := fun {n o p} hn ho hp => ⟨n, o, ho, by rw [wipe_out' hn]; exact hp⟩
    have RF : Rel K mg F2 H2 σ (restD ρ1 ρ2 vs) := by
      refine ⟨R2.sub, by rw [restD_length, hlen]; exact R1.len, fun n d h => ?_, fun n o h => ?_, fun n n' o o' p h1 h2 h3 h4 => ?_⟩
      · by_cases hn : n ∈ vs
        · rw [getIn hn] at h
          obtain ⟨v, e5, r⟩ := R1.val n d h
          exact ⟨v, e5, r.mono s2.fle⟩
        · rw [getOut hn] at h
          obtain ⟨v, e5, r⟩ := R2.val n d h
          rw [wipe_out' hn] at e5
          exact ⟨v, e5, r⟩
      · by_cases hn : n ∈ vs
        · rw [getIn hn] at h
          obtain ⟨p, h', e5, k1, k2, k3, _⟩ := ownIn n o hn h
          exact ⟨p, h', e5, k1, k2, k3⟩
        · rw [getOut hn] at h
          obtain ⟨p, h', e5, r⟩ := R2.own n o h
          rw [wipe_out' hn] at e5
          exact ⟨p, h', e5, r⟩
      · by_cases hn : n ∈ vs
        · by_cases hn' : n' ∈ vs
          · rw [getIn hn] at h1
            rw [getIn hn'] at h2
            exact R1.apart n n' o o' p h1 h2 h3 h4
          · rw [getIn hn] at h1
            rw [getOut hn'] at h2
            obtain ⟨p', h', e5, _, _, _, k4, _⟩ := ownIn n o hn h1
            rw [h3] at e5; cases e5
            exact absurd (chOut hn' h2 h4) k4
        · by_cases hn' : n' ∈ vs
          · rw [getOut hn] at h1
            rw [getIn hn'] at h2
            obtain ⟨p', h', e5, _, _, _, k4, _⟩ := ownIn n' o' hn' h2
            rw [h4] at e5; cases e5
            exact absurd (chOut hn h1 h3) k4
          · rw [getOut hn] at h1
            rw [getOut hn'] at h2
            exact R2.apart n n' o o' p h1 h2 (by rw [wipe_out' hn]; exact h3) (by rw [wipe_out' hn']; exact h4)
    have SF : Stp σ F1 H1 ρ1 σ F2 H2 (restD ρ1 ρ2 vs) := by
      refine ⟨s2.fle, fun p o hp c => s2.keep p o hp fun z => c (ch_wipe z), fun p hp => ?_, fun p c => ?_, s2.dom⟩
      · rcases s2.new p hp with w | w | w
        · exact .inl w
        · exact .inr (.inl w)
        · exact .inr (.inr (ch_wipe w))
      · obtain ⟨n, o, h1, h2⟩ := c
        by_cases hn : n ∈ vs
        · rw [getIn hn] at h1
          exact .inl ⟨n, o, h1, h2⟩
        · rw [getOut hn] at h1
          rcases s2.chs p (chOut hn h1 h2) with w | w
          · exact .inl (ch_wipe w)
          · exact .inr w
    have LF : Liv ρ1 (restD ρ1 ρ2 vs) := fun n sl h nn => by
      by_cases hn : n ∈ vs
      · exact ⟨sl, by rw [getIn hn]; exact h, nn⟩
      · rw [getOut hn]
        exact l2 n sl (by rw [wipeD_out hn]; exact h) nn
    refine q F2 H2 (.ref DD) (s1.trans SF) (l1.trans LF) RF ⟨DD, _, rfl, hD2, fD2, ra, fun c => ?_⟩ ⟨DD, rfl, s1.dom DD hD⟩
    obtain ⟨n, o, h1, h2⟩ := c
    by_cases hn : n ∈ vs
    · rw [getIn hn] at h1
      obtain ⟨p, h', e5, _, _, _, _, k5⟩ := ownIn n o hn h1
      rw [h2] at e5; cases e5
      rw [hD] at k5; cases k5
    · rw [getOut hn] at h1
      exact cD (chOut hn h1 h2)
end DL


set_option Elab.async false
set_option linter.all false
set_option maxRecDepth 100000
set_option maxHeartbeats 4000000
/-! DL7: comprehensions as expressions; attributes; calls of defs by data; new instances. -/
namespace DL
open PySem PySem.Spec PyProof.Rows L2

abbrev DTs (X : Cx) (ifs : List Expr) (f : DEnv → Res Bool) : Prop := PTs X ifs (tT X.K X.mg f)
section
variable {X : Cx} {a b e o : Expr} {pos : Pos}
def dYes : DEnv → Res Bool := fun ρ => .ok true ρ
theorem PTs.mono {ifs : List Expr} {t t' : TT} (h : PTs X ifs t) (k : ∀ σ H Q, t' σ H Q → t σ H Q) : PTs X ifs t' := ⟨fun pins s σ H Q I q => h.run pins s σ H Q I (k σ H Q q)⟩
theorem dts_nil : DTs X [] dYes := by
  refine PTs.mono pts_nil fun σ H Q h => ?_
  obtain ⟨F, ρ, b, ρ', R, e, q⟩ := h
  cases e
  exact q F H .refl (.refl _) R
theorem dts_one {c : Expr} {f : DEnv → Res Bool} (h : DT X c f) : DTs X [c] f := pts_one h
theorem de_lc {elt tg iter : Expr} {ifs : List Expr} {scope : Scope} {own : List (Str × Nat)} {src : DEnv → Res Src} {t : Tg} {cond : DEnv → Res Bool} {f : DEnv → Res D} (hc : X.calm = true) (hN : X.N.Nodup) (hi : DI X tg iter src) (ok : BlkOk X.N X.env.scope scope own) (hv : ∀ i ∈ t.slots, i ∈ own.map (·.2))
    (hg : ∀ (s : Shared) (H : Hp) (C : Addr) (cl : List (Str × Addr)) (fp : List Addr), DG (X.blk s H scope (compEnvC scope cl C X.env) fp) tg t) (ht : ∀ (s : Shared) (H : Hp) (C : Addr) (cl : List (Str × Addr)) (fp : List Addr), DTs (X.blk s H scope (compEnvC scope cl C X.env) fp) ifs cond)
    (he : ∀ (s : Shared) (H : Hp) (C : Addr) (cl : List (Str × Addr)) (fp : List Addr), DF (X.blk s H scope (compEnvC scope cl C X.env) fp) elt f) (hs : ∀ x, foldedSetIterable iter X.env x = pure x) :
    DE X (.ListComp elt [⟨tg, iter, ifs, 0⟩] scope pos) (dLC src (own.map (·.2)) t cond f) :=
  PE.mono (pe_lc hc hN hi ok hg ht he hs) fun σ H Q h => lc_read hv h

/-! ### attributes -/
def attrD (c f : Str) : List D → Option R
  | [.ins c' fs] => if c' = c then (fs.lookup f).map R.val else none
  | _ => none
def AttrOk (X : Cx) (c f : Str) : Prop := ∀ C, X.mg c = some (.ref C) → Cls X.K C ∧ NoAttr X.K C f
theorem de_attr {c f : Str} {g : DEnv → Res Dv} (ha : DE X e g) (hb : attributeBase e f X.env (eval e X.env) = eval e X.env) (hc : AttrOk X c f) : DE X (.Attribute e f pos) (pureD (attrD c f) (dCons g dNil)) := by
  refine de_op (r := fun vs H Q => ∃ x, vs = [x] ∧ ∃ a C dx fs v, x = .ref a ∧ H a = some (.ins C dx fs) ∧ Cls X.K C ∧ NoAttr X.K C f ∧ fs.lookup f = some v ∧ Q v H) (pe_fld ha hb) (fun F H vs ds z Q s x e q => ?_) fun σ H Q h => one_of h
  unfold attrD at e
  split at e
  · rename_i c' fs
    split at e
    · rename_i hcc
      subst hcc
      cases hl : fs.lookup f with
      | none => rw [hl] at e; cases e
      | some d =>
        rw [hl] at e
        cases e
        cases x with
        | cons x t =>
          cases t
          rcases x with x | ⟨p, h, ob, rfl, hp, r, eo⟩
          · cases x with
            | ins hF hm r =>
              obtain ⟨v, hv, dv⟩ := r.lookup hl
              obtain ⟨k1, k2⟩ := hc _ hm
              exact ⟨_, rfl, _, _, _, _, v, rfl, s _ _ hF, k1, k2, hv, q F H v (.refl s) dv⟩
          · cases ob with
            | ins c2 fs2 =>
              cases eo
              cases h <;> first | exact r.elim | skip
              obtain ⟨v, hv, dv⟩ := r.2.lookup hl
              obtain ⟨k1, k2⟩ := hc _ r.1
              exact ⟨_, rfl, _, _, _, _, v, rfl, hp, k1, k2, hv, q F H v (.refl s) dv⟩
            | lst _ => cases eo
            | dct _ => cases eo
    · cases e
  · cases e

/-! ### calls of defs -/
abbrev FS := List D → Except Exn R
/-- a def whose first argument is an object of the caller's that it may change -/
abbrev FH := Ob → List D → Except Exn (R × Ob)
def spF (K : PySem.W.Frag) (mg : Str → Option Value) (n : Nat) (g : FS) : Sp := fun vs H Q _ => ∃ F ds z, vs.length = n ∧ Same F H ∧ DrA K mg F vs ds ∧ g ds = .ok z ∧ PostR K mg F H z Q
def dCall (g : FS) (f : DEnv → Res (List D)) : DEnv → Res Dv := fun ρ => (f ρ).bind fun ds ρ1 => match g ds with
  | .ok z => .ok z.dv ρ1
  | .error x => .err x
theorem de_call {k : Nat} {f : Addr} {fd : FuncData} {ps : List Str} {g : FS} {x : Str} {p : Pos} {es : List Expr} {fa : DEnv → Res (List D)} (G : FnOk X.prog X.w X.K X.mg X.base CX0 k f fd ps (spF X.K X.mg ps.length g)) (hr : Room k X.A) (hg : Gl X x) (hm : X.mg x = some (.ref f)) (hk : PySem.W.keepIn X.K (.ref f) = true) (hb : Binds X.K fd ps [])
    (ha : DA X (e :: es) fa) (hn : ∀ ρ ds ρ', fa ρ = .ok ds ρ' → ds.length = ps.length) (hdb : (x == ("__debug__" : Str)) = false) (he : starEach (e :: es) X.env = (false, eval e X.env) :: starEach es X.env) (hpl : (backTo pos (starEach es X.env)).any (·.1) = false) : DE X (.Call (.Name x p) (e :: es) [] pos) (dCall g fa) := by
  refine PE.mono (pe_call G hr hg hm hk hb .nil pass0 ha hdb he hpl) fun σ H Q h => ?_
  obtain ⟨F, ρ, r, ρ', R, e, q⟩ := h
  obtain ⟨ds, ρ1, e1, e2⟩ := Res.bind_inv e
  split at e2
  · rename_i z hz
    cases e2
    refine ⟨F, ρ, ds, ρ', R, e1, fun F' H' vs s l R' x => ⟨F', ds, z, ?_, R'.sub, by rw [List.append_nil]; exact x, hz, fun F2 H2 v al rr => ?_⟩⟩
    · rw [List.append_nil, x.length, hn _ _ _ e1]
    · exact q F2 H2 v (s.trans al.stp) l (al.rel R') (rr.dvR R' al) (rr.fresh s.dom)
  · cases e2

/-- new objects, and the object at p changed -/
structure AlP (p : Addr) (F H F' H' : Hp) : Prop where
  fle : Same F F'
  keep : ∀ q o, H q = some o → q ≠ p → H' q = some o
  new : ∀ q, F' q ≠ none → F q ≠ none ∨ H q = none
  sub : Same F' H'
def spH (K : PySem.W.Frag) (mg : Str → Option Value) (n : Nat) (g : FH) : Sp := fun vs H Q _ => ∃ F p h o vs' ds z o', vs = .ref p :: vs' ∧ vs'.length + 1 = n ∧ Same F H ∧ H p = some h ∧ F p = none ∧ OR K mg F h o ∧ DrA K mg F vs' ds ∧ g o ds = .ok (z, o') ∧
  ∀ F' H' v h', AlP p F H F' H' → H' p = some h' → OR K mg F' h' o' → RR K mg F' H H' v z → Q v H'
theorem AlP.fp {p : Addr} {F H F' H' : Hp} (a : AlP p F H F' H') {h : HO} (hp : H p = some h) (fp : F p = none) : F' p = none := by
  cases z : F' p with
  | none => rfl
  | some y =>
    rcases a.new p (by rw [z]; simp) with w | w
    · exact absurd fp w
    · rw [hp] at w; cases w
def dCallH (g : FH) (i : Nat) (f : DEnv → Res (List D)) : DEnv → Res Dv := fun ρ => match ρ[i]? with
  | some (.own _) => (f ρ).bind fun ds ρ1 => (match ρ1[i]? with
    | some (.own o) => (match g o ds with
      | .ok (z, o') => .ok z.dv (ρ1.set i (.own o'))
      | .error x => .err x)
    | _ => .err .stuck)
  | _ => .err .stuck
theorem de_callH {k : Nat} {f : Addr} {fd : FuncData} {ps : List Str} {g : FH} {x y : Str} {p p' : Pos} {es : List Expr} {fa : DEnv → Res (List D)} {i : Nat} (G : FnOk X.prog X.w X.K X.mg X.base CX0 k f fd ps (spH X.K X.mg ps.length g)) (hr : Room k X.A) (hg : Gl X x) (hm : X.mg x = some (.ref f)) (hk : PySem.W.keepIn X.K (.ref f) = true) (hb : Binds X.K fd ps [])
    (hN : X.N[i]? = some y) (hv : Vis X.env.scope y) (hd : (y == ("__debug__" : Str)) = false) (hcd : (y == ("__classdict__" : Str)) = false)
    (ha : DA X es fa) (hn : ∀ ρ ds ρ', fa ρ = .ok ds ρ' → ds.length + 1 = ps.length) (hdb : (x == ("__debug__" : Str)) = false) (he : starEach (.Name y p' :: es) X.env = (false, eval (.Name y p') X.env) :: starEach es X.env) (hpl : (backTo pos (starEach es X.env)).any (·.1) = false) :
    DE X (.Call (.Name x p) (.Name y p' :: es) [] pos) (dCallH g i fa) := by
  refine PE.mono (pe_call G hr hg hm hk hb .nil pass0 (pa_cons (pe_var hN hv hd hcd) ha he) hdb he hpl) fun σ H Q h => ?_
  obtain ⟨F, ρ, r, ρ', R, e, q⟩ := h
  unfold dCallH at e
  split at e
  case h_2 => cases e
  rename_i o0 ho0
  obtain ⟨ds, ρ1, e1, e2⟩ := Res.bind_inv e
  split at e2
  · rename_i o ho
    split at e2
    · rename_i z o' hz
      cases e2
      -- the slot holds the object all along
      obtain ⟨pp, h0, hv0, _⟩ := R.own i o0 ho0
      refine ⟨_, hv0, F, ρ, ds, ρ1, R, e1, fun F1 H1 vs s l R1 x => ?_⟩
      obtain ⟨pq, h, e3, hp, fp, ro⟩ := R1.own i o ho
      rw [hv0] at e3; cases e3
      refine ⟨F1, pp, h, o, vs, ds, z, o', by simp, by rw [x.length, hn _ _ _ e1], R1.sub, hp, fp, ro, x, hz, fun F2 H2 v h2 al hp2 ro2 rr => ?_⟩
      have il : i < ρ1.length := (List.getElem?_eq_some_iff.mp ho).1
      have fp2 := al.fp hp fp
      have chi : ∀ q, Ch σ (ρ1.set i (.own o')) q → Ch σ ρ1 q := fun q c => by
        obtain ⟨j, oj, h1, h3⟩ := c
        rcases getElem?_set_slot h1 with ⟨z, _⟩ | ⟨_, z⟩
        · subst z; exact ⟨j, o, ho, h3⟩
        · exact ⟨j, oj, z, h3⟩
      have R2 : Rel X.K X.mg F2 H2 σ (ρ1.set i (.own o')) := by
        refine ⟨al.sub, by rw [List.length_set]; exact R1.len, fun j d hj => ?_, fun j oj hj => ?_, fun j j' oj oj' q h1 h3 h4 h5 => ?_⟩
        · rcases getElem?_set_slot hj with ⟨_, z⟩ | ⟨_, z⟩
          · cases z
          · obtain ⟨v, e4, r⟩ := R1.val j d z
            exact ⟨v, e4, r.mono al.fle⟩
        · rcases getElem?_set_slot hj with ⟨z, w⟩ | ⟨nj, z⟩
          · subst z; cases w
            exact ⟨pp, h2, hv0, hp2, fp2, ro2⟩
          · obtain ⟨q, hq, e4, hq1, fq, rq⟩ := R1.own j oj z
            have ne : q ≠ pp := fun w => by
              subst w
              exact nj (R1.apart j i oj o q z ho e4 hv0)
            refine ⟨q, hq, e4, al.keep q hq hq1 ne, ?_, rq.mono al.fle⟩
            cases w : F2 q with
            | none => rfl
            | some y =>
              rcases al.new q (by rw [w]; simp) with u | u
              · exact absurd fq u
              · rw [hq1] at u; cases u
        · have f1 : ∃ o1, ρ1[j]? = some (.own o1) := by
            rcases getElem?_set_slot h1 with ⟨z, _⟩ | ⟨_, z⟩
            · subst z; exact ⟨o, ho⟩
            · exact ⟨oj, z⟩
          have f2 : ∃ o1, ρ1[j']? = some (.own o1) := by
            rcases getElem?_set_slot h3 with ⟨z, _⟩ | ⟨_, z⟩
            · subst z; exact ⟨o, ho⟩
            · exact ⟨oj', z⟩
          obtain ⟨o1, f1⟩ := f1
          obtain ⟨o2, f2⟩ := f2
          exact R1.apart j j' o1 o2 q f1 f2 h4 h5
      have st : Stp σ F1 H1 ρ1 σ F2 H2 (ρ1.set i (.own o')) := by
        refine ⟨al.fle, fun q oq hq c => al.keep q oq hq fun w => c ⟨i, o, ho, by rw [w]; exact hv0⟩, fun q hq => ?_, fun q c => .inl (chi q c), fun q hq => ?_⟩
        · rcases al.new q hq with w | w
          · exact .inl w
          · exact .inr (.inl w)
        · by_cases w : q = pp
          · subst w; rw [hp2] at hq; cases hq
          · cases y : H1 q with
            | none => rfl
            | some oy => rw [al.keep q oy y w] at hq; cases hq
      have lv : Liv ρ1 (ρ1.set i (.own o')) := fun j sl hj nn => by
        by_cases w : i = j
        · subst w; exact ⟨_, List.getElem?_set_self il, by simp⟩
        · exact ⟨sl, by rw [List.getElem?_set_ne w]; exact hj, nn⟩
      refine q F2 H2 v (s.trans st) (l.trans lv) R2 ?_ (rr.fresh s.dom)
      cases z with
      | val d => exact rr
      | own ob =>
        obtain ⟨p2, h3, e4, hp3, hp4, fp4, ro3⟩ := rr
        refine ⟨p2, h3, e4, hp4, fp4, ro3, fun c => ?_⟩
        obtain ⟨j, oj, h5, h6⟩ := chi p2 c
        obtain ⟨p5, h7, e5, hp5, _⟩ := R1.own j oj h5
        rw [h6] at e5; cases e5
        rw [hp3] at hp5; cases hp5
    · cases e2
  · cases e2

/-! ### new instances -/
/-- what __init__ makes of the arguments -/
abbrev FM := List D → Except Exn (List (Str × D))
/-- an __init__ as a def that changes its first argument -/
def initFH (c : Str) (m : FM) : FH := fun o ds => match o with
  | .ins c' [] => if c' = c then (match m ds with
    | .ok fs => .ok (.val .non, .ins c fs)
    | .error x => .error x) else .error .stuck
  | _ => .error .stuck
def dMake (c : Str) (g : FH) (f : DEnv → Res (List D)) : DEnv → Res Dv := fun ρ => (f ρ).bind fun ds ρ1 => match g (.ins c []) ds with
  | .ok (.val .non, o) => .ok (.own o) ρ1
  | .ok _ => .err .stuck
  | .error x => .err x
theorem de_make {k : Nat} {C f : Addr} {fd : FuncData} {ps : List Str} {g : FH} {x : Str} {p : Pos} {es : List Expr} {fa : DEnv → Res (List D)} (M : Mk X.K C f) (G : FnOk X.prog X.w X.K X.mg X.base CX0 k f fd ps (spH X.K X.mg ps.length g)) (hr : Room (k + 1) X.A) (hg : Gl X x) (hm : X.mg x = some (.ref C)) (hb : Binds X.K fd ps [])
    (ha : DA X (e :: es) fa) (hn : ∀ ρ ds ρ', fa ρ = .ok ds ρ' → ds.length + 1 = ps.length) (hdb : (x == ("__debug__" : Str)) = false) (he : starEach (e :: es) X.env = (false, eval e X.env) :: starEach es X.env) (hpl : (backTo pos (starEach es X.env)).any (·.1) = false) :
    DE X (.Call (.Name x p) (e :: es) [] pos) (dMake x g fa) := by
  refine PE.mono (pe_make M G hr hg hm hb .nil pass0 ha hdb he hpl) fun σ H Q h => ?_
  obtain ⟨F, ρ, r, ρ', R, e, q⟩ := h
  obtain ⟨ds, ρ1, e1, e2⟩ := Res.bind_inv e
  split at e2
  case h_2 => cases e2
  case h_3 => cases e2
  rename_i o hz
  cases e2
  refine ⟨F, ρ, ds, ρ', R, e1, fun F1 H1 vs s l R1 x xa dx nx ndx nex => ?_⟩
  have a1 : Al F1 H1 F1 (upd H1 dx (.own xa)) := Al.updH R1.sub ndx
  have nx2 : (upd H1 dx (.own xa)) xa = none := by rw [upd_ne (Ne.symm nex)]; exact nx
  have a2 : Al F1 (upd H1 dx (.own xa)) F1 (upd (upd H1 dx (.own xa)) xa (.ins C dx [])) := Al.updH a1.sub nx2
  have a3 := a1.trans a2
  refine ⟨F1, xa, _, .ins _ [], vs, ds, .val .non, o, by simp, by rw [x.length, hn _ _ _ e1], a3.sub, upd_same, R1.sub.free nx, ⟨hm, .nil⟩, x, hz, fun F2 H2 v h2 al hp2 ro rr => ?_⟩
  cases rr
  refine ⟨rfl, ?_⟩
  have st : Stp σ F1 H1 ρ' σ F2 H2 ρ' := by
    refine ⟨al.fle, fun q oq hq c => al.keep q oq (a3.hle _ _ hq) fun w => ?_, fun q hq => ?_, fun q c => .inl c, fun q hq => ?_⟩
    · rw [w, nx] at hq; cases hq
    · rcases al.new q hq with w | w
      · exact .inl w
      · exact .inr (.inl (a3.hle.free w))
    · cases y : H1 q with
      | none => rfl
      | some oy =>
        have ne : q ≠ xa := fun w => by rw [w, nx] at y; cases y
        rw [al.keep q oy (a3.hle _ _ y) ne] at hq; cases hq
  have R2 : Rel X.K X.mg F2 H2 σ ρ' := by
    refine ⟨al.sub, R1.len, fun j d hj => ?_, fun j oj hj => ?_, R1.apart⟩
    · obtain ⟨v, e4, r⟩ := R1.val j d hj
      exact ⟨v, e4, r.mono al.fle⟩
    · obtain ⟨q, hq, e4, hq1, fq, rq⟩ := R1.own j oj hj
      have ne : q ≠ xa := fun w => by rw [w, nx] at hq1; cases hq1
      refine ⟨q, hq, e4, al.keep q hq (a3.hle _ _ hq1) ne, ?_, rq.mono al.fle⟩
      cases w : F2 q with
      | none => rfl
      | some y =>
        rcases al.new q (by rw [w]; simp) with u | u
        · exact absurd fq u
        · rw [a3.hle.free u] at hq1; cases hq1
  refine q F2 H2 _ (s.trans st) l R2 ⟨xa, h2, rfl, hp2, al.fp upd_same (R1.sub.free nx), ro, fun c => ?_⟩ ⟨xa, rfl, s.dom _ nx⟩
  obtain ⟨j, oj, h5, h6⟩ := c
  obtain ⟨p5, h7, e5, hp5, _⟩ := R1.own j oj h5
  rw [h6] at e5; cases e5
  rw [nx] at hp5; cases hp5
end
end DL


set_option Elab.async false
set_option linter.all false
set_option maxRecDepth 100000
set_option maxHeartbeats 4000000
/-! DL8: statements by data. -/
namespace DL
open PySem PySem.Spec PyProof.Rows L2

inductive SR where
  | nx (ρ : DEnv) | rt (r : Dv) (ρ : DEnv) | bk (ρ : DEnv) | ct (ρ : DEnv) | err (x : Exn)
section
variable (K : PySem.W.Frag) (mg : Str → Option Value) (hz : Bool)
def Go (σ : St) (F H : Hp) (ρ : DEnv) (ρ' : DEnv) (k : St → Hp → Prop) : Prop := ∀ σ' F' H', Stp σ F H ρ σ' F' H' ρ' → (hz = true → σ'[0]? = σ[0]?) → Rel K mg F' H' σ' ρ' → k σ' H'
def GoR (σ : St) (F H : Hp) (ρ : DEnv) (r : Dv) (ρ' : DEnv) (k : VK) : Prop := ∀ σ' F' H' v, Stp σ F H ρ σ' F' H' ρ' → (hz = true → σ'[0]? = σ[0]?) → Rel K mg F' H' σ' ρ' → DvR K mg F' H' σ' ρ' v r → FreshR H v r → k v H'
def SEnd (σ : St) (F H : Hp) (ρ : DEnv) (D : Ends) : SR → Prop
  | .nx ρ' => Go K mg hz σ F H ρ ρ' D.nx
  | .bk ρ' => Go K mg hz σ F H ρ ρ' D.bk
  | .ct ρ' => Go K mg hz σ F H ρ ρ' D.ct
  | .rt r ρ' => GoR K mg hz σ F H ρ r ρ' D.rt
  | .err _ => False
def tS (f : DEnv → SR) : TS := fun D σ H => ∃ F ρ, Rel K mg F H σ ρ ∧ SEnd K mg hz σ F H ρ D (f ρ)
end
abbrev DS (X : Cx) (hz : Bool) (st : Stmt) (f : DEnv → SR) : Prop := PS X st (tS X.K X.mg hz f)
abbrev DSs (X : Cx) (hz : Bool) (st : List Stmt) (f : DEnv → SR) : Prop := PSs X st (tS X.K X.mg hz f)
section
variable {K : PySem.W.Frag} {mg : Str → Option Value} {hz : Bool} {σ σ1 : St} {F H F1 H1 : Hp} {ρ ρ1 ρ' : DEnv} {D : Ends}
theorem Go.step {k : St → Hp → Prop} (s : Stp σ F H ρ σ1 F1 H1 ρ1) (h : hz = true → σ1[0]? = σ[0]?) (g : Go K mg hz σ F H ρ ρ' k) : Go K mg hz σ1 F1 H1 ρ1 ρ' k :=
  fun σ' F' H' s' h' R => g σ' F' H' (s.trans s') (fun z => (h' z).trans (h z)) R
theorem SEnd.step {r : SR} (s : Stp σ F H ρ σ1 F1 H1 ρ1) (h : hz = true → σ1[0]? = σ[0]?) (g : SEnd K mg hz σ F H ρ D r) : SEnd K mg hz σ1 F1 H1 ρ1 D r := by
  cases r with
  | nx ρ' => exact Go.step s h g
  | bk ρ' => exact Go.step s h g
  | ct ρ' => exact Go.step s h g
  | rt r ρ' => exact fun σ' F' H' v s' h' R dv fr => g σ' F' H' v (s.trans s') (fun z => (h' z).trans (h z)) R dv (fr.back s.dom)
  | err x => exact g.elim
theorem SEnd.at {r : SR} (s : Stp σ F H ρ σ F1 H1 ρ1) (g : SEnd K mg hz σ F H ρ D r) : SEnd K mg hz σ F1 H1 ρ1 D r := SEnd.step s (fun _ => rfl) g
end

def dNext : DEnv → SR := fun ρ => .nx ρ
def dSeq (f g : DEnv → SR) : DEnv → SR := fun ρ => match f ρ with
  | .nx ρ1 => g ρ1
  | r => r
section
variable {X : Cx} {hz : Bool} {st : Stmt} {rest : List Stmt} {f g : DEnv → SR} {e : Expr} {pos : Pos}
theorem dss_nil : DSs X hz [] dNext := by
  refine PSs.mono pss_nil fun D σ H h => ?_
  obtain ⟨F, ρ, R, q⟩ := h
  exact q σ F H .refl (fun _ => rfl) R
theorem dss_cons (h1 : DS X hz st f) (h2 : DSs X hz rest g) : DSs X hz (st :: rest) (dSeq f g) := by
  refine PSs.mono (pss_cons h1 h2) fun D σ H h => ?_
  obtain ⟨F, ρ, R, q⟩ := h
  refine ⟨F, ρ, R, ?_⟩
  unfold dSeq at q
  cases e : f ρ with
  | nx ρ1 => rw [e] at q; exact fun σ1 F1 H1 s h R1 => ⟨F1, ρ1, R1, q.step s h⟩
  | bk ρ1 => rw [e] at q; exact q
  | ct ρ1 => rw [e] at q; exact q
  | rt r ρ1 => rw [e] at q; exact q
  | err x => rw [e] at q; exact q.elim
theorem ds_pass : DS X hz (.Pass pos) dNext := by
  refine PS.mono ps_pass fun D σ H h => ?_
  obtain ⟨F, ρ, R, q⟩ := h
  exact q σ F H .refl (fun _ => rfl) R
def dBreak : DEnv → SR := fun ρ => .bk ρ
def dCont : DEnv → SR := fun ρ => .ct ρ
theorem ds_break : DS X hz (.Break pos) dBreak := by
  refine PS.mono ps_break fun D σ H h => ?_
  obtain ⟨F, ρ, R, q⟩ := h
  exact q σ F H .refl (fun _ => rfl) R
theorem ds_continue : DS X hz (.Continue pos) dCont := by
  refine PS.mono ps_continue fun D σ H h => ?_
  obtain ⟨F, ρ, R, q⟩ := h
  exact q σ F H .refl (fun _ => rfl) R
def dStuck : DEnv → SR := fun _ => .err .stuck
/-- what is never come to -/
theorem ds_never : DS X hz st dStuck := by
  refine PS.mono ps_never fun D σ H h => ?_
  obtain ⟨F, ρ, R, q⟩ := h
  exact q
def dExpr (f : DEnv → Res Dv) : DEnv → SR := fun ρ => match f ρ with
  | .ok _ ρ1 => .nx ρ1
  | .err x => .err x
theorem ds_expr {f : DEnv → Res Dv} (h : DE X e f) (hs : swapsWith e none pos.line X.env = pure false) : DS X hz (.Expr e pos) (dExpr f) := by
  refine PS.mono (ps_expr h hs) fun D σ H h => ?_
  obtain ⟨F, ρ, R, q⟩ := h
  unfold dExpr at q
  cases e1 : f ρ with
  | ok r ρ1 => rw [e1] at q; exact ⟨F, ρ, r, ρ1, R, e1, fun F' H' v s l R' _ _ => q σ F' H' s (fun _ => rfl) R'⟩
  | err x => rw [e1] at q; exact q.elim
def dRet (f : DEnv → Res Dv) : DEnv → SR := fun ρ => match f ρ with
  | .ok r ρ1 => .rt r ρ1
  | .err x => .err x
theorem ds_ret {f : DEnv → Res Dv} (h : DE X e f) : DS X hz (.Return (some e) pos) (dRet f) := by
  refine PS.mono (ps_ret h) fun D σ H h => ?_
  obtain ⟨F, ρ, R, q⟩ := h
  unfold dRet at q
  cases e1 : f ρ with
  | ok r ρ1 => rw [e1] at q; exact ⟨F, ρ, r, ρ1, R, e1, fun F' H' v s l R' dv fr => q σ F' H' v s (fun _ => rfl) R' dv fr⟩
  | err x => rw [e1] at q; exact q.elim
def dRetN : DEnv → SR := fun ρ => .rt (.val .non) ρ
theorem ds_retN : DS X hz (.Return none pos) dRetN := by
  refine PS.mono ps_retN fun D σ H h => ?_
  obtain ⟨F, ρ, R, q⟩ := h
  exact q σ F H .non .refl (fun _ => rfl) R .non trivial
def dIf (c : DEnv → Res Bool) (f g : DEnv → SR) : DEnv → SR := fun ρ => match c ρ with
  | .ok b ρ1 => if b = true then f ρ1 else g ρ1
  | .err x => .err x
theorem ds_if {c : Expr} {a b : List Stmt} {k : DEnv → Res Bool} (hc : DT X c k) (ha : DSs X hz a f) (hb : DSs X hz b g) : DS X hz (.If c a b pos) (dIf k f g) := by
  refine PS.mono (ps_if hc ha hb) fun D σ H h => ?_
  obtain ⟨F, ρ, R, q⟩ := h
  unfold dIf at q
  cases e1 : k ρ with
  | err x => rw [e1] at q; exact q.elim
  | ok d ρ1 =>
    rw [e1] at q
    refine ⟨F, ρ, d, ρ1, R, e1, fun F' H' s l R' => ?_⟩
    cases d with
    | true => exact ⟨F', ρ1, R', q.at s⟩
    | false => exact ⟨F', ρ1, R', q.at s⟩

/-! ### assignments -/
/-- data, or an object of one's own; what a slot holds is frozen -/
def dUns (f : DEnv → Res Dv) : DEnv → Res Dv := fun ρ => (f ρ).bind fun r ρ1 => match r with
  | .slot i => (frz (.slot i) ρ1).bind fun d ρ2 => .ok (.val d) ρ2
  | r => .ok r ρ1
def NoSlot : Dv → Prop
  | .slot _ => False
  | _ => True
theorem dUns_no {f : DEnv → Res Dv} {ρ ρ' : DEnv} {r : Dv} (e : dUns f ρ = .ok r ρ') : NoSlot r := by
  obtain ⟨x, ρ1, e1, e2⟩ := Res.bind_inv e
  cases x with
  | slot i =>
    obtain ⟨d, ρ2, e3, e4⟩ := Res.bind_inv e2
    cases e4
    trivial
  | val d => cases e2; trivial
  | own o => cases e2; trivial
theorem uns_read {f : DEnv → Res Dv} {K : PySem.W.Frag} {mg : Str → Option Value} {σ : St} {H : Hp} {Q : VK} (h : tE K mg (dUns f) σ H Q) : tE K mg f σ H Q := by
  obtain ⟨F, ρ, r, ρ', R, e, q⟩ := h
  obtain ⟨x, ρ1, e1, e2⟩ := Res.bind_inv e
  refine ⟨F, ρ, x, ρ1, R, e1, fun F' H' v s l R' dv fr => ?_⟩
  cases x with
  | slot i =>
    obtain ⟨d, ρ2, e3, e4⟩ := Res.bind_inv e2
    cases e4
    obtain ⟨F2, s2, l2, R2, dr⟩ := freeze_ok s l R' dv fr e3
    exact q F2 H' v s2 l2 R2 dr trivial
  | val d => cases e2; exact q F' H' v s l R' dv fr
  | own o => cases e2; exact q F' H' v s l R' dv fr
theorem de_uns {f : DEnv → Res Dv} (h : DE X e f) : DE X e (dUns f) := PE.mono h fun σ H Q q => uns_read q
def Dv.sl : Dv → Slot
  | .val d => .val d
  | .own o => .own o
  | .slot _ => .non
theorem rel_put {K : PySem.W.Frag} {mg : Str → Option Value} {F H : Hp} {σ : St} {ρ : DEnv} {i : Nat} {v : V} {r : Dv} (n : NoSlot r) (R : Rel K mg F H σ ρ) (x : DvR K mg F H σ ρ v r) : Rel K mg F H (σ.set i (some v)) (ρ.set i r.sl) := by
  cases r with
  | val d => exact rel_set R x
  | slot j => exact n.elim
  | own o =>
    obtain ⟨p, h, rfl, hp, fp, ro, c⟩ := x
    have il : ∀ {s : Slot} {j : Nat}, (ρ.set i s)[j]? ≠ none → j = i → j < σ.length := fun {s j} h e => by
      have : j < (ρ.set i s).length := by
        cases w : (ρ.set i s)[j]? with
        | none => exact absurd w h
        | some y => exact (List.getElem?_eq_some_iff.mp w).1
      rw [List.length_set, R.len] at this
      exact this
    refine ⟨R.sub, by rw [List.length_set, List.length_set]; exact R.len, fun j d h => ?_, fun j o' h' => ?_, fun j k o1 o2 q h1 h2 h3 h4 => ?_⟩
    · rcases getElem?_set_slot h with ⟨_, w⟩ | ⟨nj, z⟩
      · cases w
      · obtain ⟨u, e1, r⟩ := R.val j d z
        exact ⟨u, by rw [List.getElem?_set_ne (Ne.symm nj)]; exact e1, r⟩
    · rcases getElem?_set_slot h' with ⟨z, w⟩ | ⟨nj, z⟩
      · have hl := il (s := (Dv.own o).sl) (by rw [h']; simp) z
        subst z
        cases w
        exact ⟨p, h, List.getElem?_set_self hl, hp, fp, ro⟩
      · obtain ⟨u, q, e1, r⟩ := R.own j o' z
        exact ⟨u, q, by rw [List.getElem?_set_ne (Ne.symm nj)]; exact e1, r⟩
    · rcases getElem?_set_slot h1 with ⟨z1, w1⟩ | ⟨n1, z1⟩
      · rcases getElem?_set_slot h2 with ⟨z2, w2⟩ | ⟨n2, z2⟩
        · rw [z1, z2]
        · have hl := il (s := (Dv.own o).sl) (by rw [h1]; simp) z1
          subst z1
          rw [List.getElem?_set_self hl] at h3; cases h3
          rw [List.getElem?_set_ne (Ne.symm n2)] at h4
          exact absurd ⟨k, o2, z2, h4⟩ c
      · rcases getElem?_set_slot h2 with ⟨z2, w2⟩ | ⟨n2, z2⟩
        · have hl := il (s := (Dv.own o).sl) (by rw [h2]; simp) z2
          subst z2
          rw [List.getElem?_set_self hl] at h4; cases h4
          rw [List.getElem?_set_ne (Ne.symm n1)] at h3
          exact absurd ⟨j, o1, z1, h3⟩ c
        · rw [List.getElem?_set_ne (Ne.symm n1)] at h3
          rw [List.getElem?_set_ne (Ne.symm n2)] at h4
          exact R.apart j k o1 o2 q z1 z2 h3 h4
theorem ch_put {σ : St} {ρ : DEnv} {i : Nat} {v : V} {r : Dv} {p : Addr} (c : Ch (σ.set i (some v)) (ρ.set i r.sl) p) : Ch σ ρ p ∨ (v = .ref p ∧ ∃ o, r = .own o) := by
  obtain ⟨j, o, h1, h2⟩ := c
  rcases getElem?_set_slot h1 with ⟨z, w⟩ | ⟨n, z⟩
  · subst z
    cases r with
    | val d => cases w
    | slot _ => cases w
    | own o' =>
      refine .inr ⟨?_, o', rfl⟩
      by_cases hl : j < σ.length
      · rw [List.getElem?_set_self hl] at h2; cases h2; rfl
      · rw [List.getElem?_eq_none (by rw [List.length_set]; omega)] at h2; cases h2
  · rw [List.getElem?_set_ne (Ne.symm n)] at h2
    exact .inl ⟨j, o, z, h2⟩
theorem stp_put {F0 H0 F H : Hp} {σ0 σ : St} {ρ0 ρ : DEnv} {i : Nat} {v : V} {r : Dv} (s : Stp σ0 F0 H0 ρ0 σ F H ρ) (fr : FreshR H0 v r) : Stp σ0 F0 H0 ρ0 (σ.set i (some v)) F H (ρ.set i r.sl) :=
  ⟨s.fle, s.keep, s.new, fun p c => by
    rcases ch_put c with z | ⟨e, o, rfl⟩
    · exact s.chs p z
    · obtain ⟨p', e', h⟩ := fr
      rw [e] at e'; cases e'
      exact .inr h, s.dom⟩
def dAsg (i : Nat) (f : DEnv → Res Dv) : DEnv → SR := fun ρ => match dUns f ρ with
  | .ok r ρ1 => .nx (ρ1.set i r.sl)
  | .err x => .err x
theorem hold_set {hz : Bool} {i : Nat} (h : hz = true → i ≠ 0) {σ : St} {s : Option V} : hz = true → (σ.set i s)[0]? = σ[0]? := fun z => List.getElem?_set_ne (h z)
theorem asg_read {i : Nat} {f : DEnv → Res Dv} {K : PySem.W.Frag} {mg : Str → Option Value} {hz : Bool} (hi : hz = true → i ≠ 0) {D : Ends} {σ : St} {H : Hp} (h : tS K mg hz (dAsg i f) D σ H) : tE K mg f σ H fun x H1 => gName i x σ H1 D.nx := by
  obtain ⟨F, ρ, R, q⟩ := h
  unfold dAsg at q
  cases e1 : dUns f ρ with
  | err x => rw [e1] at q; exact q.elim
  | ok r ρ1 =>
    rw [e1] at q
    exact uns_read ⟨F, ρ, r, ρ1, R, e1, fun F' H' v s l R' dv fr => q _ F' H' (stp_put s fr) (hold_set hi) (rel_put (dUns_no e1) R' dv)⟩
theorem ds_asg {i : Nat} {x : Str} {f : DEnv → Res Dv} {pos' : Pos} (hN : X.N.Nodup) (hx : NmOk X i x) (hi : hz = true → i ≠ 0) (h : DE X e f) (hs : swapsWith e (some (.Name x pos')) pos.line X.env = pure false) : DS X hz (.Assign [.Name x pos'] e pos) (dAsg i f) :=
  PS.mono (ps_set hN hx.1 hx.2.1 h hs hx.2.2) fun D σ H h => asg_read hi h
/-- name = [..], the name a local and no cell -/
theorem ds_asgLc {i : Nat} {y : Str} {py spos : Pos} {elt tg iter : Expr} {ifs : List Expr} {scope : Scope} {own : List (Str × Nat)} {src : DEnv → Res Src} {t : Tg} {cond : DEnv → Res Bool} {f : DEnv → Res D} (hc : X.calm = true) (hN : X.N.Nodup) (hy : X.N[i]? = some y) (hyl : X.env.scope.names.lookup y = some .local)
    (hsw : swapsWith (.ListComp elt [⟨tg, iter, ifs, 0⟩] scope pos) (some (.Name y py)) spos.line X.env = pure true) (hz0 : hz = true → i ≠ 0) (hi : DI X tg iter src) (ok : BlkOk X.N X.env.scope scope own) (hv : ∀ i ∈ t.slots, i ∈ own.map (·.2))
    (hg : ∀ (s : Shared) (H : Hp) (C : Addr) (cl : List (Str × Addr)) (fp : List Addr), DG (X.blk s H scope (compEnvC scope cl C X.env) fp) tg t) (ht : ∀ (s : Shared) (H : Hp) (C : Addr) (cl : List (Str × Addr)) (fp : List Addr), DTs (X.blk s H scope (compEnvC scope cl C X.env) fp) ifs cond)
    (he : ∀ (s : Shared) (H : Hp) (C : Addr) (cl : List (Str × Addr)) (fp : List Addr), DF (X.blk s H scope (compEnvC scope cl C X.env) fp) elt f) (hs : ∀ x, foldedSetIterable iter X.env x = pure x) :
    DS X hz (.Assign [.Name y py] (.ListComp elt [⟨tg, iter, ifs, 0⟩] scope pos) spos) (dAsg i (dLC src (own.map (·.2)) t cond f)) :=
  PS.mono (ps_setLc hc hN hy hyl hsw hi ok hg ht he hs) fun D σ H h => lc_read hv (asg_read hz0 h)

/-! ### several at once -/
/-- values, each its own -/
inductive Sep (H : Hp) : List V → List Dv → Prop
  | nil : Sep H [] []
  | cons {v : V} {r : Dv} {vs : List V} {rs : List Dv} : NoSlot r → FreshR H v r → (∀ o, r = .own o → ∀ w ∈ vs, ∀ s, (w, s) ∈ vs.zip rs → (∃ o', s = .own o') → v ≠ w) → Sep H vs rs → Sep H (v :: vs) (r :: rs)
def tN (K : PySem.W.Frag) (mg : Str → Option Value) (f : DEnv → Res (List Dv)) : TA := fun σ H Q => ∃ F ρ rs ρ', Rel K mg F H σ ρ ∧ f ρ = .ok rs ρ' ∧
  ∀ F' H' vs, Stp σ F H ρ σ F' H' ρ' → Liv ρ ρ' → Rel K mg F' H' σ ρ' → DvA K mg F' H' σ ρ' vs rs → Sep H vs rs → Q vs H'
abbrev DN (X : Cx) (es : List Expr) (f : DEnv → Res (List Dv)) : Prop := PA X es (tN X.K X.mg f)
theorem Sep.back {H H1 : Hp} (d : ∀ p, H1 p = none → H p = none) : ∀ {vs : List V} {rs : List Dv}, Sep H1 vs rs → Sep H vs rs
  | _, _, .nil => .nil
  | _, _, .cons n f a t => .cons n (f.back d) a (Sep.back d t)
theorem Sep.fresh {H : Hp} : ∀ {vs : List V} {rs : List Dv}, Sep H vs rs → ∀ w s, (w, s) ∈ vs.zip rs → FreshR H w s
  | _, _, .nil, _, _, h => by simp at h
  | _, _, .cons n f a t, w, s, h => by
    rw [List.zip_cons_cons] at h
    rcases List.mem_cons.mp h with e | e
    · cases e; exact f
    · exact Sep.fresh t w s e
theorem dn_nil : DN X [] dNil := by
  refine PA.mono pa_nil fun σ H Q h => ?_
  obtain ⟨F, ρ, r, ρ', R, e, q⟩ := h
  cases e
  exact q F H [] .refl (.refl _) R .nil .nil
theorem dn_cons {a : Expr} {es : List Expr} {f : DEnv → Res Dv} {g : DEnv → Res (List Dv)} (ha : DE X a f) (hr : DN X es g) (hs : starEach (a :: es) X.env = (false, eval a X.env) :: starEach es X.env) : DN X (a :: es) (dCons (dUns f) g) := by
  refine PA.mono (pa_cons (de_uns ha) hr hs) fun σ H Q h => ?_
  obtain ⟨F, ρ, r, ρ', R, e, q⟩ := h
  obtain ⟨x, ρ1, xs, e1, e2, rfl⟩ := dCons_inv e
  refine ⟨F, ρ, x, ρ1, R, e1, fun F1 H1 v s1 l1 R1 d1 f1 => ⟨F1, ρ1, xs, ρ', R1, e2, fun F2 H2 vs s2 l2 R2 d2 sp => ?_⟩⟩
  refine q F2 H2 _ (s1.trans s2) (l1.trans l2) R2 (.cons (d1.step s2 l2) d2) (.cons (dUns_no e1) f1 (fun o e w hw s hs hso => ?_) (sp.back s1.dom))
  subst e
  obtain ⟨o', rfl⟩ := hso
  obtain ⟨p, h, rfl, hp, _⟩ := d1
  obtain ⟨p', rfl, hp'⟩ := sp.fresh w _ hs
  rintro e
  cases e
  rw [hp] at hp'; cases hp'
def setAll : St → List Nat → List V → St
  | σ, i :: is, v :: vs => setAll (σ.set i (some v)) is vs
  | σ, _, _ => σ
def putAll : DEnv → List Nat → List Dv → DEnv
  | ρ, i :: is, r :: rs => putAll (ρ.set i r.sl) is rs
  | ρ, _, _ => ρ
theorem put_all {K : PySem.W.Frag} {mg : Str → Option Value} {hz : Bool} {F0 H0 F H : Hp} {σ0 : St} {ρ0 : DEnv} : ∀ {is : List Nat} {vs : List V} {rs : List Dv} {σ : St} {ρ : DEnv}, (hz = true → 0 ∉ is) → Stp σ0 F0 H0 ρ0 σ F H ρ → (hz = true → σ[0]? = σ0[0]?) → Rel K mg F H σ ρ → DvA K mg F H σ ρ vs rs → Sep H0 vs rs →
    Stp σ0 F0 H0 ρ0 (setAll σ is vs) F H (putAll ρ is rs) ∧ (hz = true → (setAll σ is vs)[0]? = σ0[0]?) ∧ Rel K mg F H (setAll σ is vs) (putAll ρ is rs)
  | [], _, _, _, _, _, s, h, R, _, _ => ⟨s, h, R⟩
  | i :: is, [], _, _, _, _, s, h, R, x, _ => by cases x; exact ⟨s, h, R⟩
  | i :: is, v :: vs, rs, σ, ρ, hi, s, h, R, x, sp => by
    cases x with
    | cons d t =>
      cases sp with
      | cons n fr ap sp =>
        rename_i r rs
        have n0 : hz = true → i ≠ 0 := fun z e => hi z (by simp [e])
        refine put_all (is := is) (vs := vs) (rs := rs) (fun z e => hi z (List.mem_cons_of_mem _ e)) (stp_put s fr) (fun z => (hold_set n0 z).trans (h z)) (rel_put n R d) ?_ sp
        -- the others are as they were
        have : ∀ (vs' : List V) (rs' : List Dv), DvA K mg F H σ ρ vs' rs' → Sep H0 vs' rs' → (∀ o, r = .own o → ∀ w ∈ vs', ∀ s, (w, s) ∈ vs'.zip rs' → (∃ o', s = .own o') → v ≠ w) → DvA K mg F H (σ.set i (some v)) (ρ.set i r.sl) vs' rs' := by
          intro vs'
          induction vs' with
          | nil => intro rs' x _ _; cases x; exact .nil
          | cons w ws ih =>
            intro rs' x sp ap
            cases x with
            | cons d' t' =>
              cases sp with
              | cons n' fr' ap' sp' =>
                refine .cons ?_ (ih _ t' sp' fun o e w' hw' s' hs' ho' => ap o e w' (List.mem_cons_of_mem _ hw') s' (by rw [List.zip_cons_cons]; exact List.mem_cons_of_mem _ hs') ho')
                rename_i r2 rs2
                cases r2 with
                | val d2 => exact d'
                | slot _ => exact n'.elim
                | own o2 =>
                  obtain ⟨p, h', rfl, hp, fp, ro, c⟩ := d'
                  refine ⟨p, h', rfl, hp, fp, ro, fun c' => ?_⟩
                  rcases ch_put c' with z | ⟨e, o, ho⟩
                  · exact c z
                  · exact ap o ho _ (by simp) _ (by rw [List.zip_cons_cons]; simp) ⟨o2, rfl⟩ e
        exact this vs rs t sp ap
def dPar (is : List Nat) (f : DEnv → Res (List Dv)) : DEnv → SR := fun ρ => match f ρ with
  | .ok rs ρ1 => if rs.length = is.length ∧ rs.length ≤ sizeLine then .nx (putAll ρ1 is rs) else .err .stuck
  | .err x => .err x
theorem par_read {is : List Nat} {f : DEnv → Res (List Dv)} {K : PySem.W.Frag} {mg : Str → Option Value} {hz : Bool} (hi : hz = true → 0 ∉ is) {D : Ends} {σ : St} {H : Hp} (h : tS K mg hz (dPar is f) D σ H) :
    tN K mg f σ H fun vs H1 => vs.length = is.length ∧ vs.length ≤ sizeLine ∧ ∀ H2, (H2 = H1 ∨ ∃ p o, H1 p = none ∧ H2 = upd H1 p o) → D.nx (setAll σ is vs) H2 := by
  obtain ⟨F, ρ, R, q⟩ := h
  unfold dPar at q
  cases e1 : f ρ with
  | err x => rw [e1] at q; exact q.elim
  | ok rs ρ1 =>
    rw [e1] at q
    simp only at q
    split at q
    case isFalse => exact q.elim
    rename_i hl
    refine ⟨F, ρ, rs, ρ1, R, e1, fun F' H' vs s l R' x sp => ⟨by rw [x.length]; exact hl.1, by rw [x.length]; exact hl.2, fun H2 h2 => ?_⟩⟩
    rcases h2 with rfl | ⟨p, o, hp, rfl⟩
    · obtain ⟨a, b, c⟩ := put_all hi s (fun _ => rfl) R' x sp
      exact q _ F' _ a b c
    · have al := Al.updH (o := o) R'.sub hp
      have x2 : DvA K mg F' (upd H' p o) σ ρ1 vs rs := by
        clear e1 q sp hl
        induction x with
        | nil => exact .nil
        | cons d t ih => exact .cons (d.step al.stp (.refl _)) ih
      obtain ⟨a, b, c⟩ := put_all hi (s.trans al.stp) (fun _ => rfl) (al.rel R') x2 sp
      exact q _ F' _ a b c
theorem ds_par2 {i j : Nat} {x y : Str} {a b : Expr} {f : DEnv → Res (List Dv)} {px py pt : Pos} {kt k2 pt2} (hc : X.calm = true) (hN : X.N.Nodup) (hi : X.N[i]? = some x) (hj : X.N[j]? = some y) (hij : i ≠ j)
    (hx : X.env.scope.names.lookup x = some .local) (hy : X.env.scope.names.lookup y = some .local) (h0 : hz = true → 0 ∉ [i, j]) (ha : DN X [a, b] f)
    (hw : swappedStores [.Tuple [.Name x px, .Name y py] kt pt] (.Tuple [a, b] k2 pt2) X.env = pure (some [x, y])) :
    DS X hz (.Assign [.Tuple [.Name x px, .Name y py] kt pt] (.Tuple [a, b] k2 pt2) pos) (dPar [i, j] f) := by
  refine PS.mono (ps_par hc hN hi hj hij hx hy ha hw rfl) fun D σ H h => ?_
  obtain ⟨F, ρ, rs, ρ', R, e, q⟩ := par_read h0 h
  refine ⟨F, ρ, rs, ρ', R, e, fun F' H' vs s l R' xx sp => ?_⟩
  obtain ⟨hl, _, q⟩ := q F' H' vs s l R' xx sp
  match vs, hl with
  | [v, w], _ => exact ⟨v, w, rfl, q H' (.inl rfl)⟩
theorem ds_par3 {i j l : Nat} {x y z : Str} {a b c : Expr} {f : DEnv → Res (List Dv)} {px py pz pt : Pos} {kt k2 pt2} (hc : X.calm = true) (hN : X.N.Nodup) (hi : X.N[i]? = some x) (hj : X.N[j]? = some y) (hl : X.N[l]? = some z) (hij : i ≠ j) (hil : i ≠ l) (hjl : j ≠ l)
    (hx : X.env.scope.names.lookup x = some .local) (hy : X.env.scope.names.lookup y = some .local) (hzz : X.env.scope.names.lookup z = some .local) (h0 : hz = true → 0 ∉ [i, j, l]) (ha : DN X [a, b, c] f)
    (hw : swappedStores [.Tuple [.Name x px, .Name y py, .Name z pz] kt pt] (.Tuple [a, b, c] k2 pt2) X.env = pure (some [x, y, z])) :
    DS X hz (.Assign [.Tuple [.Name x px, .Name y py, .Name z pz] kt pt] (.Tuple [a, b, c] k2 pt2) pos) (dPar [i, j, l] f) := by
  refine PS.mono (ps_par3 hc hN hi hj hl hij hil hjl hx hy hzz ha hw rfl) fun D σ H h => ?_
  obtain ⟨F, ρ, rs, ρ', R, e, q⟩ := par_read h0 h
  refine ⟨F, ρ, rs, ρ', R, e, fun F' H' vs s l R' xx sp => ?_⟩
  obtain ⟨hl, _, q⟩ := q F' H' vs s l R' xx sp
  match vs, hl with
  | [u, v, w], _ => exact ⟨u, v, w, rfl, q H' (.inl rfl)⟩
theorem pgs_names {X : Cx} (hN : X.N.Nodup) : ∀ {es : List Expr} {is : List Nat}, NmsOk X es is → PGs X es (fun vs σ H Q => vs.length = is.length ∧ Q (setAll σ is vs) H)
  | _, _, .nil => by
    refine PGs.mono pgs_nil fun v σ H Q h => ?_
    obtain ⟨hl, q⟩ := h
    match v, hl with
    | [], _ => exact ⟨rfl, q⟩
  | _, _, .cons h t => by
    refine PGs.mono (pgs_cons (pg_name hN h.1 h.2.1 h.2.2) (pgs_names hN t) rfl) fun v σ H Q h => ?_
    obtain ⟨hl, q⟩ := h
    match v, hl with
    | v :: vs, hl => exact ⟨v, vs, rfl, by simpa using hl, q⟩
/-- not stored in turned order -/
theorem ds_parT {es ts : List Expr} {is : List Nat} {f : DEnv → Res (List Dv)} {kt k2 : Nat} {pt pt2 : Pos} (hc : X.calm = true) (hN : X.N.Nodup) (ht : NmsOk X ts is) (hn : (assignEach ts X.env).length = is.length) (hst : (assignEach ts X.env).findIdx? (·.1) = none) (h0 : hz = true → 0 ∉ is) (ha : DN X es f)
    (hw : swappedStores [.Tuple ts kt pt] (.Tuple es k2 pt2) X.env = pure none) : DS X hz (.Assign [.Tuple ts kt pt] (.Tuple es k2 pt2) pos) (dPar is f) := by
  refine PS.mono (ps_asg (pe_tup ha) (pg_tup hc (pgs_names hN ht) hn hst) rfl hw rfl) fun D σ H h => ?_
  obtain ⟨F, ρ, rs, ρ', R, e, q⟩ := par_read h0 h
  refine ⟨F, ρ, rs, ρ', R, e, fun F' H' vs s l R' xx sp => ?_⟩
  obtain ⟨hl, hz, q⟩ := q F' H' vs s l R' xx sp
  exact ⟨hz, fun p hp => ⟨p, vs, rfl, .inl (.inl upd_same), hl, hl, q _ (.inr ⟨p, _, hp, rfl⟩)⟩⟩
/-- a, b = e -/
def dAsgT (t : Tg) (f : DEnv → Res Dv) : DEnv → SR := fun ρ => match dFrz f ρ with
  | .ok d ρ1 => (match t.put d ρ1 with
    | some ρ2 => .nx ρ2
    | none => .err .stuck)
  | .err x => .err x
theorem ds_asgT {tg : Expr} {t : Tg} {f : DEnv → Res Dv} (hg : DG X tg t) (h0 : hz = true → 0 ∉ t.slots) (h : DE X e f) (hs : swapsWithSole [tg] e pos.line X.env = pure false) (hw : swappedStores [tg] e X.env = pure none) (h1 : (assignEach [tg] X.env).map (·.2) = [assign tg X.env]) : DS X hz (.Assign [tg] e pos) (dAsgT t f) := by
  refine PS.mono (ps_asg (df_of h) hg hs hw h1) fun D σ H h => ?_
  obtain ⟨F, ρ, R, q⟩ := h
  unfold dAsgT at q
  cases e1 : dFrz f ρ with
  | err x => rw [e1] at q; exact q.elim
  | ok d ρ1 =>
    rw [e1] at q
    simp only at q
    cases e2 : t.put d ρ1 with
    | none => rw [e2] at q; exact q.elim
    | some ρ2 =>
      rw [e2] at q
      refine ⟨F, ρ, d, ρ1, R, e1, fun F' H' v s l R' dr => ⟨F', ρ1, d, ρ2, R', dr, e2, fun σ' s' R2 o => ?_⟩⟩
      exact q σ' F' H' (s.trans s') (fun z => o.2 0 (h0 z)) R2
end
end DL


set_option Elab.async false
set_option linter.all false
set_option maxRecDepth 100000
set_option maxHeartbeats 4000000
/-! DL9: loops; an own object changed. -/
namespace DL
open PySem PySem.Spec PyProof.Rows L2

/-! ### for -/
def dVal (f : DEnv → Res D) : DEnv → Res Dv := fun ρ => (f ρ).bind fun d ρ1 => .ok (.val d) ρ1
theorem de_val {X : Cx} {e : Expr} {f : DEnv → Res D} (h : DF X e f) : DE X e (dVal f) := by
  refine PE.mono h fun σ H Q h => ?_
  obtain ⟨F, ρ, r, ρ', R, e, q⟩ := h
  obtain ⟨d, ρ1, e1, e2⟩ := Res.bind_inv e
  cases e2
  exact ⟨F, ρ, d, ρ', R, e1, fun F' H' v s l R' dr => q F' H' v s l R' dr trivial⟩
def Dv.isVal : Dv → Bool
  | .val _ => true
  | _ => false
def Src.isVal : Src → Bool
  | .sq _ r => r.isVal
  | .en _ r => r.isVal
  | .zp _ _ r r' => r.isVal && r'.isVal
  | _ => true
theorem isVal_of {r : Dv} (h : r.isVal = true) : ∃ d, r = .val d := by
  cases r with
  | val d => exact ⟨d, rfl⟩
  | own _ => cases h
  | slot _ => cases h
theorem JOk.move {K : PySem.W.Frag} {mg : Str → Option Value} {F H F' H' : Hp} {σ σ' : St} {ρ ρ' : DEnv} {J : It} {s : Src} (v : s.isVal = true) (j : JOk K mg F H σ ρ J s) (f : Same F F') : JOk K mg F' H' σ' ρ' J s := by
  cases s with
  | sq k r =>
    obtain ⟨d, rfl⟩ := isVal_of v
    obtain ⟨a, e, d⟩ := j
    exact ⟨a, e, Dr.mono f d⟩
  | rng lo n => exact j
  | rgc lo c n => exact j
  | en k r =>
    obtain ⟨d, rfl⟩ := isVal_of v
    obtain ⟨a, e, d⟩ := j
    exact ⟨a, e, Dr.mono f d⟩
  | zp k k' r r' =>
    simp only [Src.isVal, Bool.and_eq_true] at v
    obtain ⟨d, rfl⟩ := isVal_of v.1
    obtain ⟨d', rfl⟩ := isVal_of v.2
    obtain ⟨a, b, e, d, d'⟩ := j
    exact ⟨a, b, e, Dr.mono f d, Dr.mono f d'⟩
theorem items_val {s : Src} (v : s.isVal = true) (ρ ρ' : DEnv) : s.items ρ = s.items ρ' := by
  cases s with
  | sq k r => obtain ⟨d, rfl⟩ := isVal_of v; rfl
  | rng lo n => rfl
  | rgc lo c n => rfl
  | en k r => obtain ⟨d, rfl⟩ := isVal_of v; rfl
  | zp k k' r r' =>
    simp only [Src.isVal, Bool.and_eq_true] at v
    obtain ⟨d, rfl⟩ := isVal_of v.1
    obtain ⟨d', rfl⟩ := isVal_of v.2
    rfl
def forGo (t : Tg) (body : DEnv → SR) : List D → DEnv → SR
  | [], ρ => .nx ρ
  | x :: r, ρ => match t.put x ρ with
    | none => .err .stuck
    | some ρ1 => match body ρ1 with
      | .nx ρ2 => forGo t body r ρ2
      | .ct ρ2 => forGo t body r ρ2
      | .bk ρ2 => .nx ρ2
      | .rt v ρ2 => .rt v ρ2
      | .err x => .err x
def dFor (src : DEnv → Res Src) (t : Tg) (body : DEnv → SR) : DEnv → SR := fun ρ => match src ρ with
  | .ok s ρ1 => (match s.isVal, s.items ρ1 with
    | true, some xs => forGo t body xs ρ1
    | _, _ => .err .stuck)
  | .err x => .err x
section
variable {X : Cx} {hz : Bool} {pos : Pos}
theorem ds_for {tg iter : Expr} {body : List Stmt} {src : DEnv → Res Src} {t : Tg} {f : DEnv → SR} (hp : PassesOwn (model X.prog X.w) X.A X.env X.xe) (hc : X.calm = true) (hi : DI X tg iter src) (hg : DG X tg t) (h0 : hz = true → 0 ∉ t.slots) (hb : DSs X hz body f)
    (hs : ∀ x, foldedSetIterable iter X.env x = pure x) : DS X hz (.For tg iter body [] pos) (dFor src t f) := by
  refine PS.mono (ps_for hp hc hi hg hb hs) fun D σ H h => ?_
  obtain ⟨F, ρ, R, q⟩ := h
  unfold dFor at q
  cases e1 : src ρ with
  | err x => rw [e1] at q; exact q.elim
  | ok s ρ1 =>
    rw [e1] at q
    simp only at q
    cases ev : s.isVal with
    | false => rw [ev] at q; exact q.elim
    | true =>
      cases ei : s.items ρ1 with
      | none => rw [ev, ei] at q; exact q.elim
      | some xs =>
        rw [ev, ei] at q
        refine ⟨F, ρ, s, ρ1, xs, R, e1, ei, fun F1 H1 J s1 l1 R1 j1 _ => ?_⟩
        refine ⟨fun i m σ2 H2 => ∃ F2 ρ2, m = xs.length - i ∧ i ≤ xs.length ∧ Rel X.K X.mg F2 H2 σ2 ρ2 ∧ JOk X.K X.mg F2 H2 σ2 ρ2 J s ∧ SEnd X.K X.mg hz σ2 F2 H2 ρ2 D (forGo t f (xs.drop i) ρ2), ⟨xs.length, F1, ρ1, by simp, Nat.zero_le _, R1, j1, by rw [List.drop_zero]; exact q.at s1⟩, ?_⟩
        rintro i m σ2 H2 ⟨F2, ρ2, rfl, hi, R2, j2, q2⟩
        have it2 : s.items ρ2 = some xs := (items_val ev ρ2 ρ1).trans ei
        by_cases hlt : i < xs.length
        · have hx : xs[i]? = some xs[i] := List.getElem?_eq_getElem hlt
          obtain ⟨go, yl⟩ := j2.go R2 it2 hx
          rw [List.drop_eq_getElem_cons hlt] at q2
          unfold forGo at q2
          refine .inr ⟨go, fun σ3 H3 => ∃ F3 ρ3, Rel X.K X.mg F3 H3 σ3 ρ3 ∧ JOk X.K X.mg F3 H3 σ3 ρ3 J s ∧ SEnd X.K X.mg hz σ3 F3 H3 ρ3 D (forGo t f (xs.drop (i + 1)) ρ3), fun σ3 H3 hN => ?_, fun v H' hy => ?_⟩
          · obtain ⟨F3, ρ3, R3, j3, q3⟩ := hN
            exact ⟨_, by omega, F3, ρ3, rfl, hlt, R3, j3, q3⟩
          · obtain ⟨F3, al, dx⟩ := yl v H' hy
            split at q2
            · exact q2.elim
            rename_i ρ3 hput
            refine ⟨F3, ρ2, xs[i], ρ3, al.rel R2, dx, hput, fun σ4 s4 R4 o4 => ⟨F3, ρ3, R4, ?_⟩⟩
            have j4 : JOk X.K X.mg F3 H' σ4 ρ3 J s := j2.move ev al.fle
            have st4 := al.stp.trans s4
            have h4 : hz = true → σ4[0]? = σ2[0]? := fun z => o4.2 0 (h0 z)
            have q4 := q2.step st4 h4
            cases eb : f ρ3 with
            | nx ρ5 => rw [eb] at q4; exact fun σ5 F5 H5 s5 h5 R5 => ⟨F5, ρ5, R5, j4.move ev s5.fle, q4.step s5 h5⟩
            | ct ρ5 => rw [eb] at q4; exact fun σ5 F5 H5 s5 h5 R5 => ⟨F5, ρ5, R5, j4.move ev s5.fle, q4.step s5 h5⟩
            | bk ρ5 => rw [eb] at q4; exact q4
            | rt r ρ5 => rw [eb] at q4; exact q4
            | err x => rw [eb] at q4; exact q4.elim
        · have ex : i = xs.length := by omega
          subst ex
          rw [List.drop_length] at q2
          exact .inl ⟨j2.stop R2 it2, q2 σ2 F2 H2 .refl (fun _ => rfl) R2⟩
end

/-! ### while -/
def whileF (c : DEnv → Res Bool) (b : DEnv → SR) : Nat → DEnv → Option SR
  | 0, _ => none
  | n + 1, ρ => match c ρ with
    | .err x => some (.err x)
    | .ok false ρ1 => some (.nx ρ1)
    | .ok true ρ1 => match b ρ1 with
      | .nx ρ2 => whileF c b n ρ2
      | .ct ρ2 => whileF c b n ρ2
      | .bk ρ2 => some (.nx ρ2)
      | .rt v ρ2 => some (.rt v ρ2)
      | .err x => some (.err x)
theorem whileF_mono {c : DEnv → Res Bool} {b : DEnv → SR} : ∀ {n m : Nat} {ρ : DEnv} {r : SR}, whileF c b n ρ = some r → n ≤ m → whileF c b m ρ = some r
  | 0, _, _, _, h, _ => by cases h
  | n + 1, 0, _, _, _, h => by omega
  | n + 1, m + 1, ρ, r, h, hm => by
    unfold whileF at h ⊢
    cases ec : c ρ with
    | err x => rw [ec] at h; exact h
    | ok k ρ1 =>
      rw [ec] at h
      cases k with
      | false => exact h
      | true =>
        simp only at h ⊢
        cases eb : b ρ1 with
        | nx ρ2 => rw [eb] at h; exact whileF_mono h (by omega)
        | ct ρ2 => rw [eb] at h; exact whileF_mono h (by omega)
        | bk ρ2 => rw [eb] at h; exact h
        | rt v ρ2 => rw [eb] at h; exact h
        | err x => rw [eb] at h; exact h
open Classical in
noncomputable def dWhile (c : DEnv → Res Bool) (b : DEnv → SR) : DEnv → SR := fun ρ => if h : ∃ n r, whileF c b n ρ = some r then Classical.choose (Classical.choose_spec h) else .err .stuck
theorem dWhile_eq {c : DEnv → Res Bool} {b : DEnv → SR} {n : Nat} {ρ : DEnv} {r : SR} (h : whileF c b n ρ = some r) : dWhile c b ρ = r := by
  have hx : ∃ n r, whileF c b n ρ = some r := ⟨n, r, h⟩
  unfold dWhile
  rw [dif_pos hx]
  have h2 := Classical.choose_spec (Classical.choose_spec hx)
  have a := whileF_mono h (Nat.le_max_left n (Classical.choose hx))
  have b := whileF_mono h2 (Nat.le_max_right n (Classical.choose hx))
  rw [a] at b
  exact (Option.some.inj b).symm
section
variable {X : Cx} {hz : Bool} {pos : Pos}
theorem ds_while {c : Expr} {body : List Stmt} {k : DEnv → Res Bool} {f : DEnv → SR} (hp : PassesOwn (model X.prog X.w) X.A X.env X.xe) (hc : DT X c k) (hb : DSs X hz body f) : DS X hz (.While c body [] pos) (dWhile k f) := by
  refine PS.mono (ps_while hp hc hb) fun D σ H h => ?_
  obtain ⟨F, ρ, R, q⟩ := h
  by_cases hx : ∃ n r, whileF k f n ρ = some r
  case neg =>
    unfold dWhile at q
    rw [dif_neg hx] at q
    exact q.elim
  obtain ⟨n, r, hr⟩ := hx
  rw [dWhile_eq hr] at q
  refine ⟨fun m σ2 H2 => ∃ F2 ρ2 r, whileF k f m ρ2 = some r ∧ Rel X.K X.mg F2 H2 σ2 ρ2 ∧ SEnd X.K X.mg hz σ2 F2 H2 ρ2 D r, ⟨n, F, ρ, r, hr, R, q⟩, ?_⟩
  rintro m σ2 H2 ⟨F2, ρ2, r, hr, R2, q2⟩
  cases m with
  | zero => cases hr
  | succ m =>
    unfold whileF at hr
    cases ec : k ρ2 with
    | err x => rw [ec] at hr; cases hr; exact q2.elim
    | ok b ρ3 =>
      rw [ec] at hr
      refine ⟨F2, ρ2, b, ρ3, R2, ec, fun F3 H3 s3 l3 R3 => ?_⟩
      have q3 := q2.at s3
      cases b with
      | false =>
        cases hr
        dsimp only
        rw [if_neg Bool.false_ne_true]
        exact q3 σ2 F3 H3 .refl (fun _ => rfl) R3
      | true =>
        dsimp only
        rw [if_pos rfl]
        simp only at hr
        refine ⟨fun σ4 H4 => ∃ F4 ρ4 r, whileF k f m ρ4 = some r ∧ Rel X.K X.mg F4 H4 σ4 ρ4 ∧ SEnd X.K X.mg hz σ4 F4 H4 ρ4 D r, fun σ4 H4 h4 => ⟨m, Nat.lt_succ_self m, h4⟩, F3, ρ3, R3, ?_⟩
        cases eb : f ρ3 with
        | nx ρ5 => rw [eb] at hr; exact fun σ5 F5 H5 s5 h5 R5 => ⟨F5, ρ5, r, hr, R5, q3.step s5 h5⟩
        | ct ρ5 => rw [eb] at hr; exact fun σ5 F5 H5 s5 h5 R5 => ⟨F5, ρ5, r, hr, R5, q3.step s5 h5⟩
        | bk ρ5 => rw [eb] at hr; cases hr; exact q3
        | rt v ρ5 => rw [eb] at hr; cases hr; exact q3
        | err x => rw [eb] at hr; cases hr; exact q3.elim
end

/-! ### an own object changed -/
theorem mut_ok {K : PySem.W.Frag} {mg : Str → Option Value} {F1 H1 F2 H2 : Hp} {σ : St} {ρ1 : DEnv} {i : Nat} {o o' : Ob} {pp : Addr} {h2 : HO} (R1 : Rel K mg F1 H1 σ ρ1) (ho : ρ1[i]? = some (.own o)) (hv0 : σ[i]? = some (some (.ref pp))) (al : AlP pp F1 H1 F2 H2) (hp2 : H2 pp = some h2) (ro2 : OR K mg F2 h2 o') :
    Rel K mg F2 H2 σ (ρ1.set i (.own o')) ∧ Stp σ F1 H1 ρ1 σ F2 H2 (ρ1.set i (.own o')) ∧ Liv ρ1 (ρ1.set i (.own o')) ∧ ∀ q, Ch σ (ρ1.set i (.own o')) q → Ch σ ρ1 q := by
  have il : i < ρ1.length := (List.getElem?_eq_some_iff.mp ho).1
  obtain ⟨pq, h, e3, hp, fp, ro⟩ := R1.own i o ho
  rw [hv0] at e3; cases e3
  have fp2 := al.fp hp fp
  have chi : ∀ q, Ch σ (ρ1.set i (.own o')) q → Ch σ ρ1 q := fun q c => by
    obtain ⟨j, oj, h1, h3⟩ := c
    rcases getElem?_set_slot h1 with ⟨z, _⟩ | ⟨_, z⟩
    · subst z; exact ⟨j, o, ho, h3⟩
    · exact ⟨j, oj, z, h3⟩
  refine ⟨⟨al.sub, by rw [List.length_set]; exact R1.len, fun j d hj => ?_, fun j oj hj => ?_, fun j j' oj oj' q h1 h3 h4 h5 => ?_⟩, ⟨al.fle, fun q oq hq c => al.keep q oq hq fun w => c ⟨i, o, ho, by rw [w]; exact hv0⟩, fun q hq => ?_, fun q c => .inl (chi q c), fun q hq => ?_⟩, fun j sl hj nn => ?_, chi⟩
  · rcases getElem?_set_slot hj with ⟨_, z⟩ | ⟨_, z⟩
    · cases z
    · obtain ⟨v, e4, r⟩ := R1.val j d z
      exact ⟨v, e4, r.mono al.fle⟩
  · rcases getElem?_set_slot hj with ⟨z, w⟩ | ⟨nj, z⟩
    · subst z; cases w
      exact ⟨_, h2, hv0, hp2, fp2, ro2⟩
    · obtain ⟨q, hq, e4, hq1, fq, rq⟩ := R1.own j oj z
      have ne : q ≠ pp := fun w => by
        subst w
        exact nj (R1.apart j i oj o q z ho e4 hv0)
      refine ⟨q, hq, e4, al.keep q hq hq1 ne, ?_, rq.mono al.fle⟩
      cases w : F2 q with
      | none => rfl
      | some y =>
        rcases al.new q (by rw [w]; simp) with u | u
        · exact absurd fq u
        · rw [hq1] at u; cases u
  · have f1 : ∃ o1, ρ1[j]? = some (.own o1) := by
      rcases getElem?_set_slot h1 with ⟨z, _⟩ | ⟨_, z⟩
      · subst z; exact ⟨o, ho⟩
      · exact ⟨oj, z⟩
    have f2 : ∃ o1, ρ1[j']? = some (.own o1) := by
      rcases getElem?_set_slot h3 with ⟨z, _⟩ | ⟨_, z⟩
      · subst z; exact ⟨o, ho⟩
      · exact ⟨oj', z⟩
    obtain ⟨o1, f1⟩ := f1
    obtain ⟨o2, f2⟩ := f2
    exact R1.apart j j' o1 o2 q f1 f2 h4 h5
  · rcases al.new q hq with w | w
    · exact .inl w
    · exact .inr (.inl w)
  · by_cases w : q = pp
    · subst w; rw [hp2] at hq; cases hq
    · cases y : H1 q with
      | none => rfl
      | some oy => rw [al.keep q oy y w] at hq; cases hq
  · by_cases w : i = j
    · subst w; exact ⟨_, List.getElem?_set_self il, by simp⟩
    · exact ⟨sl, by rw [List.getElem?_set_ne w]; exact hj, nn⟩
theorem AlP.upd {F H : Hp} {p : Addr} {h o : HO} (s : Same F H) (fp : F p = none) : AlP p F H F (upd H p o) :=
  ⟨Same.refl _, fun q z h n => by rw [upd_ne n]; exact h, fun q h => .inl h, fun q z h => by rw [upd_ne (ne_of_none h fp)]; exact s _ _ h⟩
theorem lst_of {K : PySem.W.Frag} {mg : Str → Option Value} {F : Hp} {h : HO} {xs : List D} (r : OR K mg F h (.lst xs)) : ∃ vs, h = .lst vs ∧ DrA K mg F vs xs := by
  cases h <;> first | exact r.elim | exact ⟨_, rfl, r⟩
/-- xs.append(e), xs at slot i -/
def dApp (i : Nat) (f : DEnv → Res D) : DEnv → Res Dv := fun ρ => match ρ[i]? with
  | some (.own (.lst _)) => (f ρ).bind fun d ρ1 => (match ρ1[i]? with
    | some (.own (.lst xs)) => if xs.length < sizeLine then .ok (.val .non) (ρ1.set i (.own (.lst (xs ++ [d])))) else .err .stuck
    | _ => .err .stuck)
  | _ => .err .stuck
/-- xs.extend(ys) -/
def dExt (i : Nat) (f : DEnv → Res D) : DEnv → Res Dv := fun ρ => match ρ[i]? with
  | some (.own (.lst _)) => (f ρ).bind fun d ρ1 => (match ρ1[i]?, d with
    | some (.own (.lst xs)), .lst ys => if xs.length + ys.length ≤ sizeLine then .ok (.val .non) (ρ1.set i (.own (.lst (xs ++ ys)))) else .err .stuck
    | _, _ => .err .stuck)
  | _ => .err .stuck
/-- xs.pop() -/
def dPop (i : Nat) : DEnv → Res Dv := fun ρ => match ρ[i]? with
  | some (.own (.lst xs)) => (match xs[xs.length - 1]? with
    | some x => .ok (.val x) (ρ.set i (.own (.lst xs.dropLast)))
    | none => .err .stuck)
  | _ => .err .stuck
/-- xs.pop(k) -/
def dPopAt (i : Nat) (f : DEnv → Res D) : DEnv → Res Dv := fun ρ => match ρ[i]? with
  | some (.own (.lst _)) => (f ρ).bind fun d ρ1 => (match ρ1[i]?, d with
    | some (.own (.lst xs)), .int n => if 0 ≤ n ∧ n < 2 ^ 62 then (match xs[n.toNat]? with
      | some x => .ok (.val x) (ρ1.set i (.own (.lst (xs.eraseIdx n.toNat))))
      | none => .err .stuck) else .err .stuck
    | _, _ => .err .stuck)
  | _ => .err .stuck
section
variable {X : Cx} {hz : Bool} {pos : Pos} {e : Expr} {i : Nat} {y : Str} {p' apos cpos : Pos}
structure NameOk (X : Cx) (i : Nat) (y : Str) : Prop where
  hN : X.N[i]? = some y
  hv : Vis X.env.scope y
  hd : (y == ("__debug__" : Str)) = false
  hcd : (y == ("__classdict__" : Str)) = false
structure MethOk (X : Cx) (o : Expr) (name : Str) (apos cpos : Pos) (e : Expr) (es : List Expr) : Prop where
  hbase : attributeBase o name X.env (eval o X.env) = eval o X.env
  hfew : ((backTo cpos (starEach (e :: es) X.env)).all (fun x => !x.1) && (backToKw cpos (keywordEach [] X.env)).all (fun x => x.1.isSome) && decide ((e :: es).length + ([] : List Keyword).length + (if ([] : List Keyword).isEmpty then 0 else 1) < 30)) = true
  hline : (apos.endLine == cpos.line) = true
  hs : starEach (e :: es) X.env = (false, eval e X.env) :: starEach es X.env
  hplain : (backTo cpos (starEach es X.env)).any (·.1) = false
theorem de_app {f : DEnv → Res D} (n : NameOk X i y) (m : MethOk X (.Name y p') "append" apos cpos e []) (ha : DF X e f) : DE X (.Call (.Attribute (.Name y p') "append" apos) [e] [] cpos) (dApp i f) := by
  refine PE.mono (pe_bm PySem.F.plainAttrs_list PySem.F.slot_list_append PySem.F.type_list_append mt_append (pe_var n.hN n.hv n.hd n.hcd) (pa_cons ha pa_nil m.hs) m.hbase m.hfew m.hline m.hs m.hplain) fun σ H Q h => ?_
  obtain ⟨F, ρ, r, ρ', R, e, q⟩ := h
  unfold dApp at e
  split at e
  case h_2 => cases e
  rename_i xs0 ho0
  obtain ⟨d, ρ1, e1, e2⟩ := Res.bind_inv e
  split at e2
  case h_2 => cases e2
  rename_i xs ho
  split at e2
  case isFalse => cases e2
  rename_i hl
  cases e2
  obtain ⟨pp, h0, hv0, hp0, fp0, r0⟩ := R.own i _ ho0
  obtain ⟨vs0, rfl, _⟩ := lst_of r0
  refine ⟨_, hv0, .inl ⟨rfl, _, .inl (.inl hp0)⟩, F, ρ, d, ρ1, R, e1, fun F1 H1 v s l R1 dr => ?_⟩
  obtain ⟨pq, h, e3, hp, fp, ro⟩ := R1.own i _ ho
  rw [hv0] at e3; cases e3
  obtain ⟨vs, rfl, ra⟩ := lst_of ro
  refine ⟨pp, vs, v, rfl, rfl, hp, by rw [ra.length]; exact hl, ?_⟩
  obtain ⟨m1, m2, m3, _⟩ := mut_ok (o' := .lst (xs ++ [d])) R1 ho hv0 (AlP.upd (h := .lst vs) (o := .lst (vs ++ [v])) R1.sub fp) upd_same (ra.snoc dr)
  exact q _ _ _ (s.trans m2) (l.trans m3) m1 .non trivial
theorem de_ext {f : DEnv → Res D} (n : NameOk X i y) (m : MethOk X (.Name y p') "extend" apos cpos e []) (ha : DF X e f) : DE X (.Call (.Attribute (.Name y p') "extend" apos) [e] [] cpos) (dExt i f) := by
  refine PE.mono (pe_bm PySem.F.plainAttrs_list PySem.F.slot_list_extend PySem.F.type_list_extend mt_extend (pe_var n.hN n.hv n.hd n.hcd) (pa_cons ha pa_nil m.hs) m.hbase m.hfew m.hline m.hs m.hplain) fun σ H Q h => ?_
  obtain ⟨F, ρ, r, ρ', R, e, q⟩ := h
  unfold dExt at e
  split at e
  case h_2 => cases e
  rename_i xs0 ho0
  obtain ⟨d, ρ1, e1, e2⟩ := Res.bind_inv e
  split at e2
  case h_2 => cases e2
  rename_i xs ys ho
  split at e2
  case isFalse => cases e2
  rename_i hl
  cases e2
  obtain ⟨pp, h0, hv0, hp0, fp0, r0⟩ := R.own i _ ho0
  obtain ⟨vs0, rfl, _⟩ := lst_of r0
  refine ⟨_, hv0, .inl ⟨rfl, _, .inl (.inl hp0)⟩, F, ρ, _, ρ1, R, e1, fun F1 H1 v s l R1 dr => ?_⟩
  obtain ⟨pq, h, e3, hp, fp, ro⟩ := R1.own i _ ho
  rw [hv0] at e3; cases e3
  obtain ⟨vs, rfl, ra⟩ := lst_of ro
  cases dr with
  | lst hb rb =>
    refine ⟨pp, _, vs, _, rfl, rfl, hp, R1.sub _ _ hb, by rw [ra.length, rb.length]; exact hl, ?_⟩
    rename_i b zs
    obtain ⟨m1, m2, m3, _⟩ := mut_ok (o' := .lst (xs ++ ys)) R1 ho hv0 (AlP.upd (h := .lst vs) (o := .lst (vs ++ zs)) R1.sub fp) upd_same (ra.append rb)
    exact q _ _ _ (s.trans m2) (l.trans m3) m1 .non trivial
theorem de_pop (n : NameOk X i y) (hbase : attributeBase (.Name y p') "pop" X.env (eval (.Name y p') X.env) = eval (.Name y p') X.env) (hline : (apos.endLine == cpos.line) = true) : DE X (.Call (.Attribute (.Name y p') "pop" apos) [] [] cpos) (dPop i) := by
  refine PE.mono (pe_bm0 PySem.F.plainAttrs_list PySem.F.slot_list_pop PySem.F.type_list_pop mt_pop (pe_var n.hN n.hv n.hd n.hcd) hbase hline) fun σ H Q h => ?_
  obtain ⟨F, ρ, r, ρ', R, e, q⟩ := h
  unfold dPop at e
  split at e
  case h_2 => cases e
  rename_i xs ho
  split at e
  case h_2 => cases e
  rename_i x hx
  cases e
  obtain ⟨pp, h0, hv0, hp, fp, r0⟩ := R.own i _ ho
  obtain ⟨vs, rfl, ra⟩ := lst_of r0
  obtain ⟨u, hu, ru⟩ := ra.get hx
  refine ⟨_, hv0, .inl ⟨rfl, _, .inl (.inl hp)⟩, pp, vs, u, rfl, rfl, hp, by rw [ra.length]; exact hu, ?_⟩
  obtain ⟨m1, m2, m3, _⟩ := mut_ok (o' := .lst xs.dropLast) R ho hv0 (AlP.upd (h := .lst vs) (o := .lst vs.dropLast) R.sub fp) upd_same ra.dropLast
  exact q _ _ _ m2 m3 m1 ru trivial
theorem de_popAt {f : DEnv → Res D} (n : NameOk X i y) (m : MethOk X (.Name y p') "pop" apos cpos e []) (ha : DF X e f) : DE X (.Call (.Attribute (.Name y p') "pop" apos) [e] [] cpos) (dPopAt i f) := by
  refine PE.mono (pe_bm PySem.F.plainAttrs_list PySem.F.slot_list_pop PySem.F.type_list_pop mt_popAt (pe_var n.hN n.hv n.hd n.hcd) (pa_cons ha pa_nil m.hs) m.hbase m.hfew m.hline m.hs m.hplain) fun σ H Q h => ?_
  obtain ⟨F, ρ, r, ρ', R, e, q⟩ := h
  unfold dPopAt at e
  split at e
  case h_2 => cases e
  rename_i xs0 ho0
  obtain ⟨d, ρ1, e1, e2⟩ := Res.bind_inv e
  split at e2
  case h_2 => cases e2
  rename_i xs k ho
  split at e2
  case isFalse => cases e2
  rename_i hk
  split at e2
  case h_2 => cases e2
  rename_i x hx
  cases e2
  obtain ⟨pp, h0, hv0, hp0, fp0, r0⟩ := R.own i _ ho0
  obtain ⟨vs0, rfl, _⟩ := lst_of r0
  refine ⟨_, hv0, .inl ⟨rfl, _, .inl (.inl hp0)⟩, F, ρ, _, ρ1, R, e1, fun F1 H1 v s l R1 dr => ?_⟩
  obtain ⟨pq, h, e3, hp, fp, ro⟩ := R1.own i _ ho
  rw [hv0] at e3; cases e3
  obtain ⟨vs, rfl, ra⟩ := lst_of ro
  cases dr
  obtain ⟨u, hu, ru⟩ := ra.get hx
  have hlen : k.toNat < vs.length := (List.getElem?_eq_some_iff.mp hu).1
  refine ⟨pp, vs, k, k.toNat, u, rfl, rfl, hp, by omega, by omega, ?_, hu, ?_⟩
  · unfold seqIndex?
    have hneg : ¬ k < 0 := by omega
    have c1 : (0 : Int) ≤ k := hk.1
    have c2 : k < (vs.length : Int) := by omega
    simp [hneg, c1, c2]
  obtain ⟨m1, m2, m3, _⟩ := mut_ok (o' := .lst (xs.eraseIdx k.toNat)) R1 ho hv0 (AlP.upd (h := .lst vs) (o := .lst (vs.eraseIdx k.toNat)) R1.sub fp) upd_same (ra.erase _)
  exact q _ _ _ (s.trans m2) (l.trans m3) m1 ru trivial

/-! ### xs[k] = e -/
def dSetI (i : Nat) (f g : DEnv → Res D) : DEnv → SR := fun ρ => match (f ρ).bind (fun d ρ1 => (g ρ1).bind fun k ρ2 => match ρ1[i]?, ρ2[i]?, k with
    | some (.own (.lst _)), some (.own (.lst xs)), .int n => (match ixN xs.length n with
      | some j => Res.ok () (ρ2.set i (.own (.lst (xs.set j d))))
      | none => .err .stuck)
    | _, _, _ => .err .stuck) with
  | .ok _ ρ' => .nx ρ'
  | .err x => .err x
theorem ds_setI {ix : Expr} {f g : DEnv → Res D} {tpos : Pos} (n : NameOk X i y) (he : DF X e f) (hi : DF X ix g) (ha : ∀ v, assign (.Subscript (.Name y p') ix tpos) X.env v = (do
      let ov ← holding [v] (eval (.Name y p') X.env)
      let iv ← holding [v, ov] (eval ix X.env)
      standAt tpos
      holding [v, ov, iv] (setItem ov iv v)
      release [v, ov, iv] []))
    (hs : swapsWithSole [.Subscript (.Name y p') ix tpos] e pos.line X.env = pure false) (hw : swappedStores [.Subscript (.Name y p') ix tpos] e X.env = pure none) :
    DS X hz (.Assign [.Subscript (.Name y p') ix tpos] e pos) (dSetI i f g) := by
  refine PS.mono (ps_asg he (pg_sub (pe_var n.hN n.hv n.hd n.hcd) hi set_list ha) hs hw rfl) fun D σ H h => ?_
  obtain ⟨F, ρ, R, q⟩ := h
  unfold dSetI at q
  split at q
  case h_2 => exact q.elim
  rename_i u ρ' hr
  obtain ⟨d, ρ1, e1, e2⟩ := Res.bind_inv hr
  obtain ⟨k, ρ2, e3, e4⟩ := Res.bind_inv e2
  split at e4
  case h_2 => cases e4
  rename_i xs0 xs k ho1 ho
  split at e4
  case h_2 => cases e4
  rename_i j hj
  cases e4
  refine ⟨F, ρ, d, ρ1, R, e1, fun F1 H1 v s l R1 dr => ?_⟩
  obtain ⟨pp, h0, hv0, _⟩ := R1.own i _ ho1
  refine ⟨_, hv0, F1, ρ1, _, ρ2, R1, e3, fun F2 H2 w s2 l2 R2 dk => ?_⟩
  obtain ⟨pq, h, e5, hp, fp, ro⟩ := R2.own i _ ho
  rw [hv0] at e5; cases e5
  obtain ⟨vs, rfl, ra⟩ := lst_of ro
  cases dk
  refine ⟨pp, vs, k, j, rfl, rfl, hp, by rw [ra.length]; exact hj, ?_⟩
  obtain ⟨m1, m2, m3, _⟩ := mut_ok (o' := .lst (xs.set j d)) R2 ho hv0 (AlP.upd (h := .lst vs) (o := .lst (vs.set j v)) R2.sub fp) upd_same (DrA.set (dr.mono s2.fle) _ ra)
  exact q σ _ _ ((s.trans s2).trans m2) (fun _ => rfl) m1

/-! ### self.f = e, a new attribute -/
theorem putF_new {f : Str} {v : V} : ∀ {fs : List (Str × V)}, fs.lookup f = none → putF f v fs = fs ++ [(f, v)]
  | [], _ => rfl
  | (g, x) :: r, h => by
    have hg : g ≠ f := fun e => by
      rw [e, List.lookup_cons_self] at h; cases h
    have hb : (f == g) = false := by simpa using fun e => hg e.symm
    rw [List.lookup_cons, hb] at h
    show (if g = f then (g, v) :: r else (g, x) :: putF f v r) = _
    rw [if_neg hg, putF_new h]
    rfl
theorem DrF.no {K : PySem.W.Frag} {mg : Str → Option Value} {F : Hp} : ∀ {v : List (Str × V)} {d : List (Str × D)} {k : Str}, DrF K mg F v d → d.lookup k = none → v.lookup k = none
  | _, _, _, .nil, _ => rfl
  | _, _, k, .cons (k := k') r t, e => by
    by_cases h : k = k'
    · subst h
      rw [List.lookup_cons_self] at e
      cases e
    · have h' : (k == k') = false := by simpa using h
      rw [List.lookup_cons, h'] at e ⊢
      exact DrF.no t e
def dSetA (i : Nat) (c f : Str) (g : DEnv → Res D) : DEnv → SR := fun ρ => match g ρ with
  | .ok d ρ1 => (match ρ1[i]? with
    | some (.own (.ins c' fs)) => if c' = c ∧ fs.lookup f = none ∧ fs.length < 1000 then .nx (ρ1.set i (.own (.ins c (fs ++ [(f, d)])))) else .err .stuck
    | _ => .err .stuck)
  | .err x => .err x
theorem ds_setA {c f : Str} {g : DEnv → Res D} (n : NameOk X i y) (hc : AttrOk X c f) (he : DF X e g) (hs : swapsWith e (some (.Attribute (.Name y p') f apos)) pos.line X.env = pure false) : DS X hz (.Assign [.Attribute (.Name y p') f apos] e pos) (dSetA i c f g) := by
  refine PS.mono (ps_fld (pe_var n.hN n.hv n.hd n.hcd) he hs) fun D σ H h => ?_
  obtain ⟨F, ρ, R, q⟩ := h
  unfold dSetA at q
  split at q
  case h_2 => exact q.elim
  rename_i d ρ1 e1
  split at q
  case h_2 => exact q.elim
  rename_i c' fs ho
  split at q
  case isFalse => exact q.elim
  rename_i hh
  obtain ⟨rfl, h1, h2⟩ := hh
  refine ⟨F, ρ, d, ρ1, R, e1, fun F1 H1 v s l R1 dr => ?_⟩
  obtain ⟨pp, h0, hv0, hp, fp, ro⟩ := R1.own i _ ho
  refine ⟨_, hv0, pp, ?_⟩
  cases h0 <;> first | exact ro.elim | skip
  rename_i C dx xs
  obtain ⟨k1, k2⟩ := hc _ ro.1
  refine ⟨C, dx, xs, rfl, hp, k1, k2, by rw [ro.2.length]; exact h2, ?_⟩
  rw [putF_new (ro.2.no h1)]
  obtain ⟨m1, m2, m3, _⟩ := mut_ok (o' := .ins c' (fs ++ [(f, d)])) R1 ho hv0 (AlP.upd (h := .ins C dx xs) (o := .ins C dx (xs ++ [(f, v)])) R1.sub fp) upd_same ⟨ro.1, ro.2.snoc dr⟩
  exact q σ _ _ (s.trans m2) (fun _ => rfl) m1
end
end DL


set_option Elab.async false
set_option linter.all false
set_option maxRecDepth 100000
set_option maxHeartbeats 4000000
/-! DL10: operators and built-ins upon data. -/
namespace DL
open PySem PySem.Spec PyProof.Rows L2

/-! ### equality of data -/
mutual
def D.py : D → PyData
  | .non => .none
  | .bl b => .bool b
  | .int i => .int i
  | .str x => .str x
  | .lst xs => .list (pyA xs)
  | .frz xs => .list (pyA xs)
  | .tup xs => .tuple (pyA xs)
  | .dct _ => .dict []
  | .ins _ _ => .dict []
def pyA : List D → List PyData
  | [] => []
  | x :: xs => x.py :: pyA xs
end
theorem pyA_map : ∀ xs : List D, pyA xs = xs.map D.py
  | [] => rfl
  | x :: xs => by rw [pyA, pyA_map xs]; rfl
def D.okE (d : D) : Bool := SeqAt.shaped d.py
def D.eqv (a b : D) : Bool := PyData.eqv a.py b.py
theorem lay_dict (kvs : List (PyData × PyData)) : (PyData.dict kvs).canLay0 = false := by
  unfold PyData.canLay0; rfl
theorem lay_list (xs : List PyData) : (PyData.list xs).canLay0 = PyData.canLayAll0 xs := by
  rw [PyData.canLay0]
theorem lay_tuple (xs : List PyData) : (PyData.tuple xs).canLay0 = PyData.canLayAll0 xs := by
  rw [PyData.canLay0]
theorem lay_cons (x : PyData) (xs : List PyData) : PyData.canLayAll0 (x :: xs) = (x.canLay0 && PyData.canLayAll0 xs) := by
  rw [PyData.canLayAll0]
section
variable {K : PySem.W.Frag} {mg : Str → Option Value} {H : Hp}
mutual
theorem Dr.dp : ∀ {v : V} {d : D}, Dr K mg H v d → d.py.canLay0 = true → Dp K H v d.py
  | _, _, .non, _ => .non
  | _, _, .bl b, _ => .bl b
  | _, _, .int b, _ => .int b
  | _, _, .str b, _ => .str b
  | _, _, .lst h r, l => .lst (.inl (.inl h)) (DrA.dp r (by rw [D.py, lay_list] at l; exact l))
  | _, _, .frz h r, l => .lst h (DrA.dp r (by rw [D.py, lay_list] at l; exact l))
  | _, _, .tup h r, l => .tup h (DrA.dp r (by rw [D.py, lay_tuple] at l; exact l))
  | _, _, .dct h r, l => by rw [D.py, lay_dict] at l; cases l
  | _, _, .ins h m r, l => by rw [D.py, lay_dict] at l; cases l
theorem DrA.dp : ∀ {v : List V} {d : List D}, DrA K mg H v d → PyData.canLayAll0 (pyA d) = true → DpAll K H v (pyA d)
  | _, _, .nil, _ => .nil
  | _, _, .cons h r, l => by
    rw [pyA, lay_cons, Bool.and_eq_true] at l
    exact .cons (Dr.dp h l.1) (DrA.dp r l.2)
end
theorem okE_dp {F : Hp} {v : V} {d : D} (s : Same F H) (x : Rd1 K mg F H v d) (h : d.okE = true) : Dp K H v d.py := (x.dr s).dp (SeqAt.canLay_of_shaped h)
end

/-! ### the shapes of a reading -/
section
variable {K : PySem.W.Frag} {mg : Str → Option Value} {F H : Hp} {v : V}
theorem rd_int {i : Int} (x : Rd1 K mg F H v (.int i)) : v = .int i := by
  rcases x with x | ⟨p, h, o, e, hp, r, eo⟩
  · cases x; rfl
  · cases o <;> cases eo
theorem rd_bl {b : Bool} (x : Rd1 K mg F H v (.bl b)) : v = .bl b := by
  rcases x with x | ⟨p, h, o, e, hp, r, eo⟩
  · cases x; rfl
  · cases o <;> cases eo
theorem rd_non (x : Rd1 K mg F H v .non) : v = .non := by
  rcases x with x | ⟨p, h, o, e, hp, r, eo⟩
  · cases x; rfl
  · cases o <;> cases eo
theorem rd_str {z : Str} (x : Rd1 K mg F H v (.str z)) : v = .str z := by
  rcases x with x | ⟨p, h, o, e, hp, r, eo⟩
  · cases x; rfl
  · cases o <;> cases eo
theorem rd_lst {xs : List D} (s : Same F H) (x : Rd1 K mg F H v (.lst xs)) : ∃ a vs, v = .ref a ∧ H a = some (.lst vs) ∧ DrA K mg F vs xs := by
  rcases x with x | ⟨p, h, o, e, hp, r, eo⟩
  · cases x with
    | lst h r => exact ⟨_, _, rfl, s _ _ h, r⟩
  · cases o with
    | lst ys =>
      cases eo
      obtain ⟨vs, rfl, ra⟩ := lst_of r
      exact ⟨p, vs, e, hp, ra⟩
    | ins _ _ => cases eo
    | dct _ => cases eo
theorem rd_frz {xs : List D} (s : Same F H) (x : Rd1 K mg F H v (.frz xs)) : ∃ a vs, v = .ref a ∧ SqL K H a vs ∧ DrA K mg F vs xs := by
  rcases x with x | ⟨p, h, o, e, hp, r, eo⟩
  · cases x with
    | frz h r => exact ⟨_, _, rfl, s.seq h, r⟩
  · cases o <;> cases eo
theorem rd_tup {xs : List D} (s : Same F H) (x : Rd1 K mg F H v (.tup xs)) : ∃ a vs, v = .ref a ∧ SqT K H a vs ∧ DrA K mg F vs xs ∧ Dr K mg F v (.tup xs) := by
  rcases x with x | ⟨p, h, o, e, hp, r, eo⟩
  · cases id x with
    | tup h r => exact ⟨_, _, rfl, sqT_mono s h, r, x⟩
  · cases o <;> cases eo
theorem rd_dct {xs : List (Key × D)} (s : Same F H) (x : Rd1 K mg F H v (.dct xs)) : ∃ a vs, v = .ref a ∧ H a = some (.dK vs) := by
  rcases x with x | ⟨p, h, o, e, hp, r, eo⟩
  · cases x with
    | dct h r => exact ⟨_, _, rfl, s _ _ h⟩
  · cases o with
    | dct ys =>
      cases eo
      cases h <;> first | exact r.elim | exact ⟨p, _, e, hp⟩
    | ins _ _ => cases eo
    | lst _ => cases eo
theorem rd_ins {c : Str} {fs : List (Str × D)} (s : Same F H) (x : Rd1 K mg F H v (.ins c fs)) : ∃ a C dx vs, v = .ref a ∧ H a = some (.ins C dx vs) ∧ mg c = some (.ref C) := by
  rcases x with x | ⟨p, h, o, e, hp, r, eo⟩
  · cases x with
    | ins h m r => exact ⟨_, _, _, _, rfl, s _ _ h, m⟩
  · cases o with
    | ins ys zs =>
      cases eo
      cases h <;> first | exact r.elim | exact ⟨p, _, _, _, e, hp, r.1⟩
    | dct _ => cases eo
    | lst _ => cases eo
theorem post_flat {u : D} {w : V} {Q : VK} (s : Same F H) (x : Dr K mg F w u) (q : PostR K mg F H (.val u) Q) : Q w H := q F H w (.refl s) x
theorem post_tup {us : List D} {ws : List V} {Q : VK} (s : Same F H) (x : DrA K mg F ws us) (q : PostR K mg F H (.val (.tup us)) Q) : ∀ p, H p = none → Q (.ref p) (upd H p (.tup ws)) := fun p hp => by
  have al := Al.upd (o := .tup ws) s hp
  exact q _ _ _ al (.tup (.inl (.inl upd_same)) (x.mono al.fle))
theorem post_lst {us : List D} {ws : List V} {Q : VK} (s : Same F H) (x : DrA K mg F ws us) (q : PostR K mg F H (.own (.lst us)) Q) : ∀ p, H p = none → Q (.ref p) (upd H p (.lst ws)) := fun p hp => by
  have al := Al.updH (o := .lst ws) s hp
  exact q _ _ _ al ⟨p, _, rfl, hp, upd_same, s.free hp, x⟩
theorem DrA.nil_iff {vs : List V} {xs : List D} (r : DrA K mg F vs xs) : vs = [] ↔ xs = [] := by
  cases r with
  | nil => simp
  | cons _ _ => simp
end

/-! ### arithmetic -/
def addD : List D → Option R
  | [.int a, .int b] => some (.val (.int (a + b)))
  | [.tup a, .tup b] => if a.length + b.length ≤ sizeLine then some (.val (.tup (a ++ b))) else none
  | [.lst a, .lst b] => if a.length + b.length ≤ sizeLine then some (.own (.lst (a ++ b))) else none
  | _ => none
def rAddD (K : PySem.W.Frag) : R2 := fun x y H Q => rI0 (fun i j => .int (i + j)) x y H Q ∨ rCatA K x y H Q ∨ rCat x y H Q
section
variable {X : Cx}
theorem op_addD : OpR X (binaryOp .Add) (rAddD X.K) := op_add.or (op_catA.or op_cat)
theorem p_add {K : PySem.W.Frag} {mg : Str → Option Value} : Pure2 K mg (rAddD K) addD := by
  intro F H vs ds z Q s x e q
  unfold addD at e
  split at e
  · cases e
    cases x with
    | cons x t =>
      cases t with
      | cons y t =>
        cases t
        cases rd_int x
        cases rd_int y
        exact ⟨_, _, rfl, .inl ⟨_, _, rfl, rfl, post_flat s (.int _) q⟩⟩
  · split at e
    case isFalse => cases e
    rename_i hl
    cases e
    cases x with
    | cons x t =>
      cases t with
      | cons y t =>
        cases t
        obtain ⟨a, va, rfl, h1, r1, d1⟩ := rd_tup s x
        obtain ⟨b, vb, rfl, h2, r2, d2⟩ := rd_tup s y
        refine ⟨_, _, rfl, .inr (.inl ⟨a, b, va, vb, rfl, rfl, h1, h2, by rw [r1.length, r2.length]; exact hl, fun e => ?_, fun _ e => ?_, fun _ _ => post_tup s (r1.append r2) q⟩)⟩
        · have := r1.nil_iff.mp e
          subst this
          exact post_flat s d2 q
        · have := r2.nil_iff.mp e
          subst this
          rw [List.append_nil] at q
          exact post_flat s d1 q
  · split at e
    case isFalse => cases e
    rename_i hl
    cases e
    cases x with
    | cons x t =>
      cases t with
      | cons y t =>
        cases t
        obtain ⟨a, va, rfl, h1, r1⟩ := rd_lst s x
        obtain ⟨b, vb, rfl, h2, r2⟩ := rd_lst s y
        exact ⟨_, _, rfl, .inr (.inr ⟨a, b, va, vb, rfl, rfl, h1, h2, by rw [r1.length, r2.length]; exact hl, post_lst s (r1.append r2) q⟩)⟩
  · cases e
def subD : List D → Option R
  | [.int a, .int b] => some (.val (.int (a - b)))
  | _ => none
theorem two_ints {K : PySem.W.Frag} {mg : Str → Option Value} {F H : Hp} {vs : List V} {a b : Int} (x : RdA K mg F H vs [.int a, .int b]) : vs = [.int a, .int b] := by
  cases x with
  | cons x t =>
    cases t with
    | cons y t =>
      cases t
      rw [rd_int x, rd_int y]
theorem p_sub {K : PySem.W.Frag} {mg : Str → Option Value} : Pure2 K mg (rI0 fun i j => .int (i - j)) subD := by
  intro F H vs ds z Q s x e q
  unfold subD at e
  split at e
  · cases e
    exact ⟨_, _, two_ints x, _, _, rfl, rfl, post_flat s (.int _) q⟩
  · cases e
def okMul (i j : Int) : Bool := (decide (-(2 ^ 64) < i) && decide (i < 2 ^ 64)) || (decide (-(2 ^ 64) < j) && decide (j < 2 ^ 64))
def mulD : List D → Option R
  | [.int a, .int b] => if okMul a b = true then some (.val (.int (a * b))) else none
  | [.lst a, .int k] => if -(2 ^ 63) ≤ k ∧ k < 2 ^ 63 ∧ a.length * k.toNat ≤ sizeLine then some (.own (.lst (List.replicate k.toNat a).flatten)) else none
  | _ => none
def rMulD : R2 := fun x y H Q => rI CMul (fun i j => .int (i * j)) x y H Q ∨ rRep x y H Q
theorem op_mulD : OpR X (binaryOp .Mult) rMulD := op_mul.or op_rep
theorem p_mul {K : PySem.W.Frag} {mg : Str → Option Value} : Pure2 K mg rMulD mulD := by
  intro F H vs ds z Q s x e q
  unfold mulD at e
  split at e
  · split at e
    case isFalse => cases e
    rename_i hl
    cases e
    refine ⟨_, _, two_ints x, .inl ⟨_, _, rfl, rfl, ?_, post_flat s (.int _) q⟩⟩
    simpa [okMul, CMul] using hl
  · split at e
    case isFalse => cases e
    rename_i hl
    cases e
    cases x with
    | cons x t =>
      cases t with
      | cons y t =>
        cases t
        obtain ⟨a, va, rfl, h1, r1⟩ := rd_lst s x
        cases rd_int y
        exact ⟨_, _, rfl, .inr ⟨a, _, va, rfl, rfl, h1, hl.1, hl.2.1, by rw [r1.length]; exact hl.2.2, post_lst s (r1.flat _) q⟩⟩
  · cases e
def fdivD : List D → Option R
  | [.int a, .int b] => if 0 < b ∧ b < 1073741824 then some (.val (.int (a / b))) else none
  | _ => none
theorem p_fdiv {K : PySem.W.Frag} {mg : Str → Option Value} : Pure2 K mg (rI CDiv fun i j => .int (i / j)) fdivD := by
  intro F H vs ds z Q s x e q
  unfold fdivD at e
  split at e
  · split at e
    case isFalse => cases e
    rename_i hl
    cases e
    exact ⟨_, _, two_ints x, _, _, rfl, rfl, hl, post_flat s (.int _) q⟩
  · cases e
def modD : List D → Option R
  | [.int a, .int b] => if 0 < b then some (.val (.int (a % b))) else none
  | _ => none
theorem p_mod {K : PySem.W.Frag} {mg : Str → Option Value} : Pure2 K mg (rI (fun _ j => 0 < j) fun i j => .int (i % j)) modD := by
  intro F H vs ds z Q s x e q
  unfold modD at e
  split at e
  · split at e
    case isFalse => cases e
    rename_i hl
    cases e
    exact ⟨_, _, two_ints x, _, _, rfl, rfl, hl, post_flat s (.int _) q⟩
  · cases e
def okPow (i j : Int) : Bool := decide (0 ≤ j) && decide (j ≤ 1000) && decide (i.natAbs < 2 ^ 64)
def powD : List D → Option R
  | [.int a, .int b] => if okPow a b = true then some (.val (.int (a ^ b.toNat))) else none
  | _ => none
theorem p_pow {K : PySem.W.Frag} {mg : Str → Option Value} : Pure2 K mg (rI CPow fun i j => .int (i ^ j.toNat)) powD := by
  intro F H vs ds z Q s x e q
  unfold powD at e
  split at e
  · split at e
    case isFalse => cases e
    rename_i hl
    cases e
    simp only [okPow, Bool.and_eq_true, decide_eq_true_eq] at hl
    exact ⟨_, _, two_ints x, _, _, rfl, rfl, ⟨hl.1.1, by omega, hl.2⟩, post_flat s (.int _) q⟩
  · cases e
def negD : List D → Option R
  | [.int a] => some (.val (.int (-a)))
  | _ => none
theorem p_neg {K : PySem.W.Frag} {mg : Str → Option Value} : PureL K mg (fun vs H Q => ∃ x, vs = [x] ∧ rU (fun i => .int (-i)) x H Q) negD := by
  intro F H vs ds z Q s x e q
  unfold negD at e
  split at e
  · cases e
    cases x with
    | cons x t =>
      cases t
      cases rd_int x
      exact ⟨_, rfl, _, rfl, post_flat s (.int _) q⟩
  · cases e

/-! ### comparisons -/
def intsOf : List D → Option (List Int)
  | [] => some []
  | .int i :: r => (intsOf r).map (i :: ·)
  | _ => none
theorem intsOf_eq : ∀ {xs : List D} {ns : List Int}, intsOf xs = some ns → xs = ns.map D.int
  | [], _, e => by cases e; rfl
  | .int i :: r, ns, e => by
    simp only [intsOf, Option.map_eq_some_iff] at e
    obtain ⟨ms, e1, rfl⟩ := e
    rw [intsOf_eq e1]
    rfl
  | .non :: _, _, e => by cases e
  | .bl _ :: _, _, e => by cases e
  | .str _ :: _, _, e => by cases e
  | .lst _ :: _, _, e => by cases e
  | .frz _ :: _, _, e => by cases e
  | .tup _ :: _, _, e => by cases e
  | .dct _ :: _, _, e => by cases e
  | .ins _ _ :: _, _, e => by cases e
theorem intsOf_map : ∀ ns : List Int, intsOf (ns.map D.int) = some ns
  | [] => rfl
  | n :: ns => by simp only [List.map_cons, intsOf, intsOf_map ns]; rfl
def ltD : List D → Option R
  | [.int a, .int b] => some (.val (.bl (decide (a < b))))
  | [.tup a, .tup b] => match intsOf a, intsOf b with
    | some ns, some ms => some (.val (.bl (HT.lexLt ns ms)))
    | _, _ => none
  | _ => none
def rLtD (K : PySem.W.Frag) : R2 := fun x y H Q => rI0 (fun i j => .bl (decide (i < j))) x y H Q ∨ rLtT K x y H Q
theorem op_ltD (hu : X.A.units < cLine) : OpR X (compareOp .Lt) (rLtD X.K) := op_lt.or (op_ltT hu)
theorem p_lt {K : PySem.W.Frag} {mg : Str → Option Value} : Pure2 K mg (rLtD K) ltD := by
  intro F H vs ds z Q s x e q
  unfold ltD at e
  split at e
  · cases e
    exact ⟨_, _, two_ints x, .inl ⟨_, _, rfl, rfl, post_flat s (.bl _) q⟩⟩
  · split at e
    case h_2 => cases e
    rename_i ns ms h1 h2
    cases e
    cases x with
    | cons x t =>
      cases t with
      | cons y t =>
        cases t
        obtain ⟨a, va, rfl, k1, r1, _⟩ := rd_tup s x
        obtain ⟨b, vb, rfl, k2, r2, _⟩ := rd_tup s y
        rw [intsOf_eq h1] at r1
        rw [intsOf_eq h2] at r2
        cases drA_ints r1
        cases drA_ints r2
        exact ⟨_, _, rfl, .inr ⟨a, b, ns, ms, rfl, rfl, k1, k2, post_flat s (.bl _) q⟩⟩
  · cases e
def cmpI (p : Int → Int → Bool) : List D → Option R
  | [.int a, .int b] => some (.val (.bl (p a b)))
  | _ => none
theorem p_cmpI {K : PySem.W.Frag} {mg : Str → Option Value} {p : Int → Int → Bool} : Pure2 K mg (rI0 fun i j => .bl (p i j)) (cmpI p) := by
  intro F H vs ds z Q s x e q
  unfold cmpI at e
  split at e
  · cases e
    exact ⟨_, _, two_ints x, _, _, rfl, rfl, post_flat s (.bl _) q⟩
  · cases e
theorem two_okE {K : PySem.W.Frag} {mg : Str → Option Value} {F H : Hp} {vs : List V} {a b : D} (s : Same F H) (x : RdA K mg F H vs [a, b]) (ha : a.okE = true) (hb : b.okE = true) : ∃ v w, vs = [v, w] ∧ Dp K H v a.py ∧ Dp K H w b.py := by
  cases x with
  | cons x t =>
    cases t with
    | cons y t =>
      cases t
      exact ⟨_, _, rfl, okE_dp s x ha, okE_dp s y hb⟩
def eqD : List D → Option R
  | [a, b] => if a.okE = true ∧ b.okE = true then some (.val (.bl (a.eqv b))) else none
  | _ => none
def neD : List D → Option R
  | [a, b] => if a.okE = true ∧ b.okE = true then some (.val (.bl (!a.eqv b))) else none
  | _ => none
theorem p_eq {K : PySem.W.Frag} {mg : Str → Option Value} : Pure2 K mg (rEqD K) eqD := by
  intro F H vs ds z Q s x e q
  unfold eqD at e
  split at e
  · split at e
    case isFalse => cases e
    rename_i hl
    cases e
    obtain ⟨v, w, rfl, h1, h2⟩ := two_okE s x hl.1 hl.2
    exact ⟨v, w, rfl, _, _, h1, h2, hl.1, hl.2, post_flat s (.bl _) q⟩
  · cases e
theorem p_ne {K : PySem.W.Frag} {mg : Str → Option Value} : Pure2 K mg (rNeD K) neD := by
  intro F H vs ds z Q s x e q
  unfold neD at e
  split at e
  · split at e
    case isFalse => cases e
    rename_i hl
    cases e
    obtain ⟨v, w, rfl, h1, h2⟩ := two_okE s x hl.1 hl.2
    exact ⟨v, w, rfl, _, _, h1, h2, hl.1, hl.2, post_flat s (.bl _) q⟩
  · cases e
/-- x in xs -/
def seqD : D → Option (List D)
  | .lst xs => some xs
  | .tup xs => some xs
  | _ => none
def inD (neg : Bool) : List D → Option R
  | [a, b] => match seqD b with
    | some xs => if a.okE = true ∧ b.okE = true then some (.val (.bl (xor neg (xs.any fun z => z.eqv a)))) else none
    | none => none
  | _ => none
def rInDT (K : PySem.W.Frag) (neg : Bool) : R2 := fun x y H Q => ∃ d ds, Dp K H x d ∧ (Dp K H y (.list ds) ∨ Dp K H y (.tuple ds)) ∧ SeqAt.shaped d = true ∧ PyData.canLayAll0 ds = true ∧ Q (.bl (xor neg (ds.any fun z => PyData.eqv z d))) H
theorem room_in {d : PyData} {n : Nat} {A : Around} (h : SeqAt.shaped d = true) (hu : A.units + 65 < cLine) : A.units + 1 + min n d.depth < cLine := by
  have h1 := SeqAt.depth_of_shaped h
  have h2 : min n d.depth ≤ d.depth := Nat.min_le_right _ _
  omega
theorem op_inDT (hu : X.A.units + 65 < cLine) : OpR X (compareOp .In) (rInDT X.K false) := by
  intro pins s σ H x y v u Q I rx ry h
  obtain ⟨d, ds, hd, he, sd, se, q⟩ := h
  simp only [Bool.false_xor] at q
  obtain ⟨as, r1⟩ := Dp.reads I d x v hd rx
  rcases he with he | he
  · obtain ⟨bs, r2⟩ := Dp.reads I (.list ds) y u he ry
    exact SeqAt.in_list_reads r2 r1 se (SeqAt.canLay_of_shaped sd) (room_in sd hu) ⟨.bl _, H, I, rfl, q⟩
  · obtain ⟨bs, r2⟩ := Dp.reads I (.tuple ds) y u he ry
    exact SeqAt.in_tuple_reads r2 r1 se (SeqAt.canLay_of_shaped sd) (room_in sd hu) ⟨.bl _, H, I, rfl, q⟩
theorem op_ninDT (hu : X.A.units + 65 < cLine) : OpR X (compareOp .NotIn) (rInDT X.K true) := by
  intro pins s σ H x y v u Q I rx ry h
  obtain ⟨d, ds, hd, he, sd, se, q⟩ := h
  simp only [Bool.true_xor] at q
  obtain ⟨as, r1⟩ := Dp.reads I d x v hd rx
  rcases he with he | he
  · obtain ⟨bs, r2⟩ := Dp.reads I (.list ds) y u he ry
    exact SeqAt.notIn_list_reads r2 r1 se (SeqAt.canLay_of_shaped sd) (room_in sd hu) ⟨.bl _, H, I, rfl, q⟩
  · obtain ⟨bs, r2⟩ := Dp.reads I (.tuple ds) y u he ry
    exact SeqAt.notIn_tuple_reads r2 r1 se (SeqAt.canLay_of_shaped sd) (room_in sd hu) ⟨.bl _, H, I, rfl, q⟩
theorem any_py (xs : List D) (a : D) : ((pyA xs).any fun z => PyData.eqv z a.py) = xs.any fun z => z.eqv a := by
  rw [pyA_map, List.any_map]
  rfl
theorem p_in {K : PySem.W.Frag} {mg : Str → Option Value} {neg : Bool} : Pure2 K mg (rInDT K neg) (inD neg) := by
  intro F H vs ds z Q s x e q
  unfold inD at e
  split at e
  · rename_i a b
    split at e
    case h_2 => cases e
    rename_i xs hxs
    split at e
    case isFalse => cases e
    rename_i hl
    cases e
    obtain ⟨v, w, rfl, h1, h2⟩ := two_okE s x hl.1 hl.2
    have hlay := SeqAt.canLay_of_shaped hl.2
    cases b <;> first | cases hxs | skip
    · refine ⟨v, w, rfl, _, pyA xs, h1, .inl h2, hl.1, by rw [D.py, lay_list] at hlay; exact hlay, ?_⟩
      rw [any_py]
      exact post_flat s (.bl _) q
    · refine ⟨v, w, rfl, _, pyA xs, h1, .inr h2, hl.1, by rw [D.py, lay_tuple] at hlay; exact hlay, ?_⟩
      rw [any_py]
      exact post_flat s (.bl _) q
  · cases e
/-- is, is not: None, truths -/
def isD (neg : Bool) : List D → Option R
  | [.bl a, .bl b] => some (.val (.bl (xor neg (decide (a = b)))))
  | [a, .non] => some (.val (.bl (xor neg (match a with | .non => true | _ => false))))
  | _ => none
def rIsD (neg : Bool) : R2 := fun x y H Q => (y = .non ∧ Q (.bl (xor neg (decide (x = .non)))) H) ∨ ∃ a b : Bool, x = .bl a ∧ y = .bl b ∧ Q (.bl (xor neg (decide (a = b)))) H
theorem op_isD : OpR X (compareOp .Is) (rIsD false) := by
  have h := (op_isN (X := X)).or op_isBl
  intro pins s σ H x y v u Q I rx ry q
  refine h pins s σ H x y v u Q I rx ry ?_
  rcases q with ⟨e, q⟩ | ⟨a, b, e1, e2, q⟩
  · exact .inl ⟨e, by simpa using q⟩
  · exact .inr ⟨a, b, e1, e2, by simpa using q⟩
theorem op_nisD : OpR X (compareOp .IsNot) (rIsD true) := by
  have h := (op_notN (X := X)).or op_notBl
  intro pins s σ H x y v u Q I rx ry q
  refine h pins s σ H x y v u Q I rx ry ?_
  rcases q with ⟨e, q⟩ | ⟨a, b, e1, e2, q⟩
  · exact .inl ⟨e, by simpa using q⟩
  · exact .inr ⟨a, b, e1, e2, by simpa using q⟩
theorem p_is {K : PySem.W.Frag} {mg : Str → Option Value} {neg : Bool} : Pure2 K mg (rIsD neg) (isD neg) := by
  intro F H vs ds z Q s x e q
  unfold isD at e
  split at e
  · cases e
    cases x with
    | cons x t =>
      cases t with
      | cons y t =>
        cases t
        cases rd_bl x
        cases rd_bl y
        exact ⟨_, _, rfl, .inr ⟨_, _, rfl, rfl, post_flat s (.bl _) q⟩⟩
  · rename_i a
    cases e
    cases x with
    | cons x t =>
      cases t with
      | cons y t =>
        cases t
        cases rd_non y
        refine ⟨_, _, rfl, .inl ⟨rfl, ?_⟩⟩
        have := post_flat s (.bl _) q
        cases a with
        | non => cases rd_non x; simpa using this
        | bl b => cases rd_bl x; simpa using this
        | int i => cases rd_int x; simpa using this
        | str i => cases rd_str x; simpa using this
        | lst ys => obtain ⟨p, vs, rfl, _⟩ := rd_lst s x; simpa using this
        | frz ys => obtain ⟨p, vs, rfl, _⟩ := rd_frz s x; simpa using this
        | tup ys => obtain ⟨p, vs, rfl, _⟩ := rd_tup s x; simpa using this
        | dct ys => obtain ⟨p, vs, rfl, _⟩ := rd_dct s x; simpa using this
        | ins c ys => obtain ⟨p, C, dx, vs, rfl, _⟩ := rd_ins s x; simpa using this
  · cases e
theorem yb_lt : YieldsB ltD := by
  intro ds z e
  unfold ltD at e
  split at e
  · cases e; exact ⟨_, rfl⟩
  · split at e
    · cases e; exact ⟨_, rfl⟩
    · cases e
  · cases e
theorem yb_cmpI {p : Int → Int → Bool} : YieldsB (cmpI p) := by
  intro ds z e
  unfold cmpI at e
  split at e
  · cases e; exact ⟨_, rfl⟩
  · cases e
theorem yb_eq : YieldsB eqD := by
  intro ds z e
  unfold eqD at e
  split at e
  · split at e
    · cases e; exact ⟨_, rfl⟩
    · cases e
  · cases e
theorem yb_ne : YieldsB neD := by
  intro ds z e
  unfold neD at e
  split at e
  · split at e
    · cases e; exact ⟨_, rfl⟩
    · cases e
  · cases e
theorem yb_in {neg : Bool} : YieldsB (inD neg) := by
  intro ds z e
  unfold inD at e
  split at e
  · split at e
    · split at e
      · cases e; exact ⟨_, rfl⟩
      · cases e
    · cases e
  · cases e
theorem yb_is {neg : Bool} : YieldsB (isD neg) := by
  intro ds z e
  unfold isD at e
  split at e
  · cases e; exact ⟨_, rfl⟩
  · cases e; exact ⟨_, rfl⟩
  · cases e
end
end DL


set_option Elab.async false
set_option linter.all false
set_option maxRecDepth 100000
set_option maxHeartbeats 4000000
/-! DL11: subscripts, slices, built-in functions and classes upon data. -/
namespace DL
open PySem PySem.Spec PyProof.Rows L2

theorem one_rd {K : PySem.W.Frag} {mg : Str → Option Value} {F H : Hp} {vs : List V} {a : D} (x : RdA K mg F H vs [a]) : ∃ v, vs = [v] ∧ Rd1 K mg F H v a := by
  cases x with
  | cons x t =>
    cases t
    exact ⟨_, rfl, x⟩
theorem two_rd {K : PySem.W.Frag} {mg : Str → Option Value} {F H : Hp} {vs : List V} {a b : D} (x : RdA K mg F H vs [a, b]) : ∃ v w, vs = [v, w] ∧ Rd1 K mg F H v a ∧ Rd1 K mg F H w b := by
  cases x with
  | cons x t =>
    cases t with
    | cons y t =>
      cases t
      exact ⟨_, _, rfl, x, y⟩
theorem atI_rel {K : PySem.W.Frag} {mg : Str → Option Value} {F : Hp} {vs : List V} {xs : List D} {i : Int} {d : D} (r : DrA K mg F vs xs) (e : atI xs i = some d) : ∃ v, atI vs i = some v ∧ Dr K mg F v d := by
  unfold atI at e ⊢
  rw [r.length]
  obtain ⟨j, e1, e2⟩ := Option.bind_eq_some_iff.mp e
  obtain ⟨u, h1, h2⟩ := r.get e2
  exact ⟨u, by rw [e1]; exact h1, h2⟩
/-! ### a[i] -/
def ixD : List D → Option R
  | [.lst xs, .int i] => (atI xs i).map R.val
  | [.frz xs, .int i] => (atI xs i).map R.val
  | [.tup xs, .int i] => (atI xs i).map R.val
  | _ => none
section
variable {X : Cx}
theorem p_ix {K : PySem.W.Frag} {mg : Str → Option Value} : Pure2 K mg (rIx K) ixD := by
  intro F H vs ds z Q s x e q
  unfold ixD at e
  split at e
  · obtain ⟨d, e1, rfl⟩ := Option.map_eq_some_iff.mp e
    obtain ⟨v, w, rfl, hx, hy⟩ := two_rd x
    cases rd_int hy
    obtain ⟨a, va, rfl, h1, r1⟩ := rd_lst s hx
    obtain ⟨u, h2, h3⟩ := atI_rel r1 e1
    exact ⟨_, _, rfl, .inl ⟨a, va, _, u, rfl, rfl, .inl (.inl h1), h2, post_flat s h3 q⟩⟩
  · obtain ⟨d, e1, rfl⟩ := Option.map_eq_some_iff.mp e
    obtain ⟨v, w, rfl, hx, hy⟩ := two_rd x
    cases rd_int hy
    obtain ⟨a, va, rfl, h1, r1⟩ := rd_frz s hx
    obtain ⟨u, h2, h3⟩ := atI_rel r1 e1
    exact ⟨_, _, rfl, .inl ⟨a, va, _, u, rfl, rfl, h1, h2, post_flat s h3 q⟩⟩
  · obtain ⟨d, e1, rfl⟩ := Option.map_eq_some_iff.mp e
    obtain ⟨v, w, rfl, hx, hy⟩ := two_rd x
    cases rd_int hy
    obtain ⟨a, va, rfl, h1, r1, _⟩ := rd_tup s hx
    obtain ⟨u, h2, h3⟩ := atI_rel r1 e1
    exact ⟨_, _, rfl, .inr (.inl ⟨a, va, _, u, rfl, rfl, h1, h2, post_flat s h3 q⟩)⟩
  · cases e

/-! ### a[lo:hi] -/
def cutD (xs : List D) (lo hi : Option Int) : List D := (xs.drop (HT.sIx xs.length 0 lo)).take (HT.sIx xs.length xs.length hi - HT.sIx xs.length 0 lo)
def slD (lo hi : Option Int) : D → Option R
  | .lst xs => some (.own (.lst (cutD xs lo hi)))
  | .frz xs => some (.own (.lst (cutD xs lo hi)))
  | .tup xs => some (.val (.tup (cutD xs lo hi)))
  | _ => none
theorem cut_rel {K : PySem.W.Frag} {mg : Str → Option Value} {F : Hp} {vs : List V} {xs : List D} {lo hi : Option Int} (r : DrA K mg F vs xs) : DrA K mg F (cutV vs lo hi) (cutD xs lo hi) := by
  unfold cutV cutD
  rw [r.length]
  exact (r.drop _).take _
def rSlD (K : PySem.W.Frag) : V → Option Int → Option Int → Hp → VK → Prop := fun x lo hi H Q => rSlL K x lo hi H Q ∨ rSlA K x lo hi H Q
theorem sl_any : SlR X (rSlD X.K) := sl_list.or sl_tupA
theorem p_sl {K : PySem.W.Frag} {mg : Str → Option Value} {F H : Hp} {v : V} {d : D} {lo hi : Option Int} {z : R} {Q : VK} (s : Same F H) (x : Rd1 K mg F H v d) (e : slD lo hi d = some z) (q : PostR K mg F H z Q) : rSlD K v lo hi H Q := by
  unfold slD at e
  split at e
  · cases e
    obtain ⟨a, va, rfl, h1, r1⟩ := rd_lst s x
    exact .inl ⟨a, va, rfl, .inl (.inl h1), post_lst s (cut_rel r1) q⟩
  · cases e
    obtain ⟨a, va, rfl, h1, r1⟩ := rd_frz s x
    exact .inl ⟨a, va, rfl, h1, post_lst s (cut_rel r1) q⟩
  · cases e
    rename_i xs
    obtain ⟨a, va, rfl, h1, r1, d1⟩ := rd_tup s x
    refine .inr ⟨a, va, rfl, h1, fun hw => ?_, fun _ => post_tup s (cut_rel r1) q⟩
    have e1 : cutD xs lo hi = xs := by
      unfold cutD
      rw [r1.length] at hw
      rw [hw.1, hw.2, List.drop_zero, Nat.sub_zero, List.take_length]
    rw [e1] at q
    exact post_flat s d1 q
  · cases e
/-- a part of a slice -/
def pNone : DEnv → Res (Option Int) := fun ρ => .ok none ρ
def pSome (f : DEnv → Res Dv) : DEnv → Res (Option Int) := fun ρ => (f ρ).bind fun r ρ1 => match r with
  | .val (.int i) => .ok (some i) ρ1
  | _ => .err .stuck
def tP (K : PySem.W.Frag) (mg : Str → Option Value) (f : DEnv → Res (Option Int)) : TO := fun σ H Q => ∃ F ρ o ρ', Rel K mg F H σ ρ ∧ f ρ = .ok o ρ' ∧ ∀ F' H', Stp σ F H ρ σ F' H' ρ' → Liv ρ ρ' → Rel K mg F' H' σ ρ' → Q o H'
abbrev DP (X : Cx) (e : Option Expr) (f : DEnv → Res (Option Int)) : Prop := PO X e (tP X.K X.mg f)
theorem PO.mono {e : Option Expr} {t t' : TO} (h : PO X e t) (k : ∀ σ H Q, t' σ H Q → t σ H Q) : PO X e t' := ⟨fun pins s σ H Q I q => h.run pins s σ H Q I (k σ H Q q)⟩
theorem dp_none : DP X none pNone := by
  refine PO.mono po_none fun σ H Q h => ?_
  obtain ⟨F, ρ, b, ρ', R, e, q⟩ := h
  cases e
  exact q F H .refl (.refl _) R
theorem dp_some {e : Expr} {f : DEnv → Res Dv} (h : DE X e f) : DP X (some e) (pSome f) := by
  refine PO.mono (po_some h) fun σ H Q h => ?_
  obtain ⟨F, ρ, b, ρ', R, e, q⟩ := h
  obtain ⟨r, ρ1, e1, e2⟩ := Res.bind_inv e
  split at e2
  · cases e2
    exact ⟨F, ρ, _, ρ', R, e1, fun F' H' v s l R' dv _ => ⟨_, by cases dv; rfl, q F' H' s l R'⟩⟩
  · cases e2
def dSl (f : DEnv → Res Dv) (lo hi : DEnv → Res (Option Int)) : DEnv → Res Dv := fun ρ => (f ρ).bind fun r ρ1 => (lo ρ1).bind fun l ρ2 => (hi ρ2).bind fun h ρ3 => match (r.dat ρ3).bind (slD l h) with
  | some z => .ok z.dv ρ3
  | none => .err .stuck
theorem de_slice {e : Expr} {lo hi : Option Expr} {pos p2 : Pos} {f : DEnv → Res Dv} {l h : DEnv → Res (Option Int)} (he : DE X e f) (hl : DP X lo l) (hh : DP X hi h) : DE X (.Subscript e (.Slice lo hi none p2) pos) (dSl f l h) := by
  refine PE.mono (pe_slice sl_any he hl hh) fun σ H Q hq => ?_
  obtain ⟨F, ρ, r, ρ', R, e, q⟩ := hq
  obtain ⟨x, ρ1, e1, e2⟩ := Res.bind_inv e
  obtain ⟨l', ρ2, e3, e4⟩ := Res.bind_inv e2
  obtain ⟨h', ρ3, e5, e6⟩ := Res.bind_inv e4
  split at e6
  case h_2 => cases e6
  rename_i z ez
  obtain ⟨d, k1, k2⟩ := Option.bind_eq_some_iff.mp ez
  cases e6
  refine ⟨F, ρ, x, ρ1, R, e1, fun F1 H1 v s1 l1 R1 d1 _ => ⟨F1, ρ1, l', ρ2, R1, e3, fun F2 H2 s2 l2 R2 => ⟨F2, ρ2, h', ρ', R2, e5, fun F3 H3 s3 l3 R3 => ?_⟩⟩⟩
  have dv := (d1.step s2 l2).step s3 l3
  exact p_sl R3.sub (dv.rd R3 k1) k2 fun F4 H4 u al rr => q F4 H4 u (((s1.trans s2).trans s3).trans al.stp) ((l1.trans l2).trans l3) (al.rel R3) (rr.dvR R3 al) (rr.fresh fun p hp => s1.dom p (s2.dom p (s3.dom p hp)))

/-! ### built-ins -/
def lenD : List D → Option R
  | [.lst xs] => some (.val (.int xs.length))
  | [.frz xs] => some (.val (.int xs.length))
  | [.tup xs] => some (.val (.int xs.length))
  | _ => none
theorem p_len {K : PySem.W.Frag} {mg : Str → Option Value} : PureL K mg (fun xs H Q => ∃ p ys, xs = [.ref p] ∧ (SqL K H p ys ∨ SqT K H p ys) ∧ Q (.int ys.length) H) lenD := by
  intro F H vs ds z Q s x e q
  unfold lenD at e
  split at e
  · cases e
    obtain ⟨v, rfl, hx⟩ := one_rd x
    obtain ⟨a, va, rfl, h1, r1⟩ := rd_lst s hx
    exact ⟨a, va, rfl, .inl (.inl (.inl h1)), by rw [r1.length]; exact post_flat s (.int _) q⟩
  · cases e
    obtain ⟨v, rfl, hx⟩ := one_rd x
    obtain ⟨a, va, rfl, h1, r1⟩ := rd_frz s hx
    exact ⟨a, va, rfl, .inl h1, by rw [r1.length]; exact post_flat s (.int _) q⟩
  · cases e
    obtain ⟨v, rfl, hx⟩ := one_rd x
    obtain ⟨a, va, rfl, h1, r1, _⟩ := rd_tup s hx
    exact ⟨a, va, rfl, .inr h1, by rw [r1.length]; exact post_flat s (.int _) q⟩
  · cases e
def absD : List D → Option R
  | [.int i] => some (.val (.int (if i < 0 then -i else i)))
  | _ => none
theorem p_abs {K : PySem.W.Frag} {mg : Str → Option Value} : PureL K mg (fun xs H Q => ∃ i, xs = [.int i] ∧ Q (.int (if i < 0 then -i else i)) H) absD := by
  intro F H vs ds z Q s x e q
  unfold absD at e
  split at e
  · cases e
    obtain ⟨v, rfl, hx⟩ := one_rd x
    cases rd_int hx
    exact ⟨_, rfl, post_flat s (.int _) q⟩
  · cases e
def intD : List D → Option R
  | [.int i] => some (.val (.int i))
  | [.bl k] => some (.val (.int (if k then 1 else 0)))
  | _ => none
theorem p_int {K : PySem.W.Frag} {mg : Str → Option Value} : PureL K mg (fun xs H Q => (∃ i, xs = [.int i] ∧ Q (.int i) H) ∨ ∃ k, xs = [.bl k] ∧ Q (.int (if k then 1 else 0)) H) intD := by
  intro F H vs ds z Q s x e q
  unfold intD at e
  split at e
  · cases e
    obtain ⟨v, rfl, hx⟩ := one_rd x
    cases rd_int hx
    exact .inl ⟨_, rfl, post_flat s (.int _) q⟩
  · cases e
    obtain ⟨v, rfl, hx⟩ := one_rd x
    cases rd_bl hx
    exact .inr ⟨_, rfl, post_flat s (.int _) q⟩
  · cases e
def max2D : List D → Option R
  | [.int i, .int j] => some (.val (.int (if j > i then j else i)))
  | _ => none
theorem p_max2 {K : PySem.W.Frag} {mg : Str → Option Value} : PureL K mg (fun xs H Q => ∃ i j, xs = [.int i, .int j] ∧ Q (.int (if j > i then j else i)) H) max2D := by
  intro F H vs ds z Q s x e q
  unfold max2D at e
  split at e
  · cases e
    exact ⟨_, _, two_ints x, post_flat s (.int _) q⟩
  · cases e
def min2D : List D → Option R
  | [.int i, .int j] => some (.val (.int (if j < i then j else i)))
  | _ => none
theorem p_min2 {K : PySem.W.Frag} {mg : Str → Option Value} : PureL K mg (fun xs H Q => ∃ i j, xs = [.int i, .int j] ∧ Q (.int (if j < i then j else i)) H) min2D := by
  intro F H vs ds z Q s x e q
  unfold min2D at e
  split at e
  · cases e
    exact ⟨_, _, two_ints x, post_flat s (.int _) q⟩
  · cases e
def boolsOf : List D → Option (List Bool)
  | [] => some []
  | .bl i :: r => (boolsOf r).map (i :: ·)
  | _ => none
theorem boolsOf_eq : ∀ {xs : List D} {ns : List Bool}, boolsOf xs = some ns → xs = ns.map D.bl
  | [], _, e => by cases e; rfl
  | .bl i :: r, ns, e => by
    simp only [boolsOf, Option.map_eq_some_iff] at e
    obtain ⟨ms, e1, rfl⟩ := e
    rw [boolsOf_eq e1]
    rfl
  | .non :: _, _, e => by cases e
  | .int _ :: _, _, e => by cases e
  | .str _ :: _, _, e => by cases e
  | .lst _ :: _, _, e => by cases e
  | .frz _ :: _, _, e => by cases e
  | .tup _ :: _, _, e => by cases e
  | .dct _ :: _, _, e => by cases e
  | .ins _ _ :: _, _, e => by cases e
theorem boolsOf_map : ∀ ns : List Bool, boolsOf (ns.map D.bl) = some ns
  | [] => rfl
  | n :: ns => by simp only [List.map_cons, boolsOf, boolsOf_map ns]; rfl
def anyD : List D → Option R
  | [.lst xs] => (boolsOf xs).map fun bs => .val (.bl (bs.any id))
  | _ => none
def allD : List D → Option R
  | [.lst xs] => (boolsOf xs).map fun bs => .val (.bl (bs.all id))
  | _ => none
theorem p_any {K : PySem.W.Frag} {mg : Str → Option Value} : PureL K mg (rAny K) anyD := by
  intro F H vs ds z Q s x e q
  unfold anyD at e
  split at e
  · obtain ⟨bs, e1, rfl⟩ := Option.map_eq_some_iff.mp e
    obtain ⟨v, rfl, hx⟩ := one_rd x
    obtain ⟨a, va, rfl, h1, r1⟩ := rd_lst s hx
    rw [boolsOf_eq e1] at r1
    cases drA_bools r1
    exact ⟨a, bs, rfl, .inl (.inl h1), post_flat s (.bl _) q⟩
  · cases e
theorem p_all {K : PySem.W.Frag} {mg : Str → Option Value} : PureL K mg (rAll K) allD := by
  intro F H vs ds z Q s x e q
  unfold allD at e
  split at e
  · obtain ⟨bs, e1, rfl⟩ := Option.map_eq_some_iff.mp e
    obtain ⟨v, rfl, hx⟩ := one_rd x
    obtain ⟨a, va, rfl, h1, r1⟩ := rd_lst s hx
    rw [boolsOf_eq e1] at r1
    cases drA_bools r1
    exact ⟨a, bs, rfl, .inl (.inl h1), post_flat s (.bl _) q⟩
  · cases e
def sumD : List D → Option R
  | [.lst xs] => (intsOf xs).map fun ns => .val (.int ns.sum)
  | _ => none
theorem p_sum {K : PySem.W.Frag} {mg : Str → Option Value} : PureL K mg (rSum K) sumD := by
  intro F H vs ds z Q s x e q
  unfold sumD at e
  split at e
  · obtain ⟨bs, e1, rfl⟩ := Option.map_eq_some_iff.mp e
    obtain ⟨v, rfl, hx⟩ := one_rd x
    obtain ⟨a, va, rfl, h1, r1⟩ := rd_lst s hx
    rw [intsOf_eq e1] at r1
    cases drA_ints r1
    exact ⟨a, bs, rfl, .inl (.inl h1), post_flat s (.int _) q⟩
  · cases e
/-- the greatest, the least of some -/
def maxI : List Int → Int
  | [] => 0
  | x :: xs => xs.foldl max x
def minI : List Int → Int
  | [] => 0
  | x :: xs => xs.foldl min x
theorem foldl_max_le : ∀ (xs : List Int) (x : Int), x ≤ xs.foldl max x ∧ ∀ y ∈ xs, y ≤ xs.foldl max x
  | [], x => ⟨Int.le_refl x, fun _ h => nomatch h⟩
  | z :: xs, x => by
    obtain ⟨h1, h2⟩ := foldl_max_le xs (max x z)
    simp only [List.foldl_cons]
    refine ⟨by omega, fun y hy => ?_⟩
    rcases List.mem_cons.mp hy with rfl | hy
    · omega
    · exact h2 y hy
theorem foldl_max_mem : ∀ (xs : List Int) (x : Int), xs.foldl max x = x ∨ xs.foldl max x ∈ xs
  | [], x => .inl rfl
  | z :: xs, x => by
    simp only [List.foldl_cons]
    rcases foldl_max_mem xs (max x z) with h | h
    · rw [h]
      by_cases c : x ≤ z
      · right; rw [Int.max_eq_right c]; exact List.mem_cons_self
      · left; rw [Int.max_eq_left (by omega)]
    · exact .inr (List.mem_cons_of_mem _ h)
theorem foldl_min_le : ∀ (xs : List Int) (x : Int), xs.foldl min x ≤ x ∧ ∀ y ∈ xs, xs.foldl min x ≤ y
  | [], x => ⟨Int.le_refl x, fun _ h => nomatch h⟩
  | z :: xs, x => by
    obtain ⟨h1, h2⟩ := foldl_min_le xs (min x z)
    simp only [List.foldl_cons]
    refine ⟨by omega, fun y hy => ?_⟩
    rcases List.mem_cons.mp hy with rfl | hy
    · omega
    · exact h2 y hy
theorem foldl_min_mem : ∀ (xs : List Int) (x : Int), xs.foldl min x = x ∨ xs.foldl min x ∈ xs
  | [], x => .inl rfl
  | z :: xs, x => by
    simp only [List.foldl_cons]
    rcases foldl_min_mem xs (min x z) with h | h
    · rw [h]
      by_cases c : z ≤ x
      · right; rw [Int.min_eq_right c]; exact List.mem_cons_self
      · left; rw [Int.min_eq_left (by omega)]
    · exact .inr (List.mem_cons_of_mem _ h)
theorem maxI_eq {ns : List Int} {m : Int} (h1 : m ∈ ns) (h2 : ∀ y ∈ ns, y ≤ m) : maxI ns = m := by
  cases ns with
  | nil => cases h1
  | cons x xs =>
    obtain ⟨a, b⟩ := foldl_max_le xs x
    have hm : m ≤ maxI (x :: xs) := by
      rcases List.mem_cons.mp h1 with rfl | h
      · exact a
      · exact b m h
    have hle : maxI (x :: xs) ≤ m := by
      rcases foldl_max_mem xs x with h | h
      · show xs.foldl max x ≤ m; rw [h]; exact h2 x List.mem_cons_self
      · exact h2 _ (List.mem_cons_of_mem _ h)
    omega
theorem minI_eq {ns : List Int} {m : Int} (h1 : m ∈ ns) (h2 : ∀ y ∈ ns, m ≤ y) : minI ns = m := by
  cases ns with
  | nil => cases h1
  | cons x xs =>
    obtain ⟨a, b⟩ := foldl_min_le xs x
    have hm : minI (x :: xs) ≤ m := by
      rcases List.mem_cons.mp h1 with rfl | h
      · exact a
      · exact b m h
    have hle : m ≤ minI (x :: xs) := by
      rcases foldl_min_mem xs x with h | h
      · show m ≤ xs.foldl min x; rw [h]; exact h2 x List.mem_cons_self
      · exact h2 _ (List.mem_cons_of_mem _ h)
    omega
def maxD : List D → Option R
  | [.lst xs] => (intsOf xs).bind fun ns => if 0 < ns.length then some (.val (.int (maxI ns))) else none
  | _ => none
def minD : List D → Option R
  | [.lst xs] => (intsOf xs).bind fun ns => if 0 < ns.length then some (.val (.int (minI ns))) else none
  | _ => none
theorem p_max {K : PySem.W.Frag} {mg : Str → Option Value} : PureL K mg (rMax K) maxD := by
  intro F H vs ds z Q s x e q
  unfold maxD at e
  split at e
  · obtain ⟨ns, e1, e2⟩ := Option.bind_eq_some_iff.mp e
    split at e2
    case isFalse => cases e2
    rename_i hl
    cases e2
    obtain ⟨v, rfl, hx⟩ := one_rd x
    obtain ⟨a, va, rfl, h1, r1⟩ := rd_lst s hx
    rw [intsOf_eq e1] at r1
    cases drA_ints r1
    exact ⟨a, ns, rfl, .inl (.inl h1), hl, fun m k1 k2 => by rw [maxI_eq k1 k2] at q; exact post_flat s (.int _) q⟩
  · cases e
theorem p_min {K : PySem.W.Frag} {mg : Str → Option Value} : PureL K mg (rMin K) minD := by
  intro F H vs ds z Q s x e q
  unfold minD at e
  split at e
  · obtain ⟨ns, e1, e2⟩ := Option.bind_eq_some_iff.mp e
    split at e2
    case isFalse => cases e2
    rename_i hl
    cases e2
    obtain ⟨v, rfl, hx⟩ := one_rd x
    obtain ⟨a, va, rfl, h1, r1⟩ := rd_lst s hx
    rw [intsOf_eq e1] at r1
    cases drA_ints r1
    exact ⟨a, ns, rfl, .inl (.inl h1), hl, fun m k1 k2 => by rw [minI_eq k1 k2] at q; exact post_flat s (.int _) q⟩
  · cases e

/-! ### list(..), tuple(..) -/
def listD : List D → Option R
  | [.lst xs] => some (.own (.lst xs))
  | [.frz xs] => some (.own (.lst xs))
  | [.tup xs] => some (.own (.lst xs))
  | _ => none
theorem p_list {K : PySem.W.Frag} {mg : Str → Option Value} : PureL K mg (fun xs H Q => ∃ p ys, xs = [.ref p] ∧ (SqL K H p ys ∨ SqT K H p ys) ∧ ∀ l, H l = none → Q (.ref l) (upd H l (.lst ys))) listD := by
  intro F H vs ds z Q s x e q
  unfold listD at e
  split at e
  · cases e
    obtain ⟨v, rfl, hx⟩ := one_rd x
    obtain ⟨a, va, rfl, h1, r1⟩ := rd_lst s hx
    exact ⟨a, va, rfl, .inl (.inl (.inl h1)), post_lst s r1 q⟩
  · cases e
    obtain ⟨v, rfl, hx⟩ := one_rd x
    obtain ⟨a, va, rfl, h1, r1⟩ := rd_frz s hx
    exact ⟨a, va, rfl, .inl h1, post_lst s r1 q⟩
  · cases e
    obtain ⟨v, rfl, hx⟩ := one_rd x
    obtain ⟨a, va, rfl, h1, r1, _⟩ := rd_tup s hx
    exact ⟨a, va, rfl, .inr h1, post_lst s r1 q⟩
  · cases e
def tupleD : List D → Option R
  | [.lst xs] => some (.val (.tup xs))
  | [.frz xs] => some (.val (.tup xs))
  | [.tup xs] => some (.val (.tup xs))
  | _ => none
theorem p_tuple {K : PySem.W.Frag} {mg : Str → Option Value} : PureL K mg (fun xs H Q => ∃ p ys, xs = [.ref p] ∧ ((SqL K H p ys ∧ ∀ l, H l = none → Q (.ref l) (upd H l (.tup ys))) ∨ (SqT K H p ys ∧ Q (.ref p) H))) tupleD := by
  intro F H vs ds z Q s x e q
  unfold tupleD at e
  split at e
  · cases e
    obtain ⟨v, rfl, hx⟩ := one_rd x
    obtain ⟨a, va, rfl, h1, r1⟩ := rd_lst s hx
    exact ⟨a, va, rfl, .inl ⟨.inl (.inl h1), post_tup s r1 q⟩⟩
  · cases e
    obtain ⟨v, rfl, hx⟩ := one_rd x
    obtain ⟨a, va, rfl, h1, r1⟩ := rd_frz s hx
    exact ⟨a, va, rfl, .inl ⟨h1, post_tup s r1 q⟩⟩
  · cases e
    obtain ⟨v, rfl, hx⟩ := one_rd x
    obtain ⟨a, va, rfl, h1, r1, d1⟩ := rd_tup s hx
    exact ⟨a, va, rfl, .inr ⟨h1, post_flat s d1 q⟩⟩
  · cases e

/-! ### sorted of ints -/
def insI (x : Int) : List Int → List Int
  | [] => [x]
  | y :: r => if x ≤ y then x :: y :: r else y :: insI x r
def sortI : List Int → List Int
  | [] => []
  | x :: r => insI x (sortI r)
theorem insI_perm (x : Int) : ∀ l, (insI x l).Perm (x :: l)
  | [] => List.Perm.refl _
  | y :: r => by
    unfold insI
    split
    · exact List.Perm.refl _
    · exact ((insI_perm x r).cons y).trans (List.Perm.swap x y r)
theorem sortI_perm : ∀ l, (sortI l).Perm l
  | [] => List.Perm.refl _
  | x :: r => (insI_perm x _).trans ((sortI_perm r).cons x)
theorem insI_sorted (x : Int) : ∀ {l : List Int}, l.Pairwise (· ≤ ·) → (insI x l).Pairwise (· ≤ ·)
  | [], _ => by simp [insI]
  | y :: r, h => by
    rw [List.pairwise_cons] at h
    unfold insI
    split
    · rename_i hxy
      rw [List.pairwise_cons]
      refine ⟨fun z hz => ?_, List.pairwise_cons.mpr h⟩
      rcases List.mem_cons.mp hz with rfl | hz
      · exact hxy
      · exact Int.le_trans hxy (h.1 z hz)
    · rename_i hxy
      rw [List.pairwise_cons]
      refine ⟨fun z hz => ?_, insI_sorted x h.2⟩
      rcases List.mem_cons.mp ((insI_perm x r).mem_iff.mp hz) with rfl | hz
      · omega
      · exact h.1 z hz
theorem sortI_sorted : ∀ l, (sortI l).Pairwise (· ≤ ·)
  | [] => List.Pairwise.nil
  | x :: r => insI_sorted x (sortI_sorted r)
theorem perm_sorted_eq : ∀ {l m : List Int}, l.Perm m → l.Pairwise (· ≤ ·) → m.Pairwise (· ≤ ·) → l = m
  | [], m, p, _, _ => (List.Perm.nil_eq p)
  | x :: l, [], p, _, _ => by simpa using p.length_eq
  | x :: l, y :: m, p, h1, h2 => by
    rw [List.pairwise_cons] at h1 h2
    have e : x = y := by
      have a : y ∈ x :: l := p.mem_iff.mpr List.mem_cons_self
      have b : x ∈ y :: m := p.mem_iff.mp List.mem_cons_self
      rcases List.mem_cons.mp a with a | a
      · exact a.symm
      · rcases List.mem_cons.mp b with b | b
        · exact b
        · have := h1.1 y a
          have := h2.1 x b
          omega
    subst e
    rw [perm_sorted_eq (List.Perm.cons_inv p) h1.2 h2.2]
def sortedD : List D → Option R
  | [.lst xs] => (intsOf xs).map fun ns => .own (.lst ((sortI ns).map D.int))
  | _ => none
theorem p_sorted {K : PySem.W.Frag} {mg : Str → Option Value} : PureL K mg (rSortedI K) sortedD := by
  intro F H vs ds z Q s x e q
  unfold sortedD at e
  split at e
  · obtain ⟨ns, e1, rfl⟩ := Option.map_eq_some_iff.mp e
    obtain ⟨v, rfl, hx⟩ := one_rd x
    obtain ⟨a, va, rfl, h1, r1⟩ := rd_lst s hx
    rw [intsOf_eq e1] at r1
    cases drA_ints r1
    refine ⟨a, ns, rfl, .inl (.inl h1), fun ns' p k1 k2 hp => ?_⟩
    have : ns' = sortI ns := perm_sorted_eq (k1.trans (sortI_perm ns).symm) k2 (sortI_sorted ns)
    subst this
    exact post_lst s (ints_drA _) q p hp
  · cases e

/-! ### isinstance -/
def tyName : D → Option String
  | .non => some "NoneType"
  | .bl _ => some "bool"
  | .int _ => some "int"
  | .str _ => some "str"
  | .lst _ => some "list"
  | .frz _ => some "list"
  | .tup _ => some "tuple"
  | .dct _ => some "dict"
  | .ins _ _ => none
/-- isinstance(x, T), T a built-in class -/
def isiD (T : String) : List D → Option R
  | [a] => (tyName a).bind fun t => (kitB t T).map fun b => .val (.bl b)
  | _ => none
theorem tyX_of {K : PySem.W.Frag} {mg : Str → Option Value} {F H : Hp} {v : V} {d : D} {t : String} (s : Same F H) (x : Rd1 K mg F H v d) (e : tyName d = some t) : TyX K H v (.type t) := by
  have dr := x.dr s
  cases dr with
  | non => cases e; exact .base .non
  | bl b => cases e; exact .base (.bl b)
  | int b => cases e; exact .base (.int b)
  | str b => cases e; exact .base (.str b)
  | lst h r => cases e; exact .base (.lst h)
  | frz h r =>
    cases e
    rcases h with (h | ⟨o, h⟩) | ⟨o, its, n, h1, h2, _⟩
    · exact .base (.lst h)
    · exact .base (.frz h)
    · exact .kList h1 h2
  | tup h r =>
    cases e
    rcases h with (h | ⟨o, h⟩) | ⟨o, its, n, h1, h2, _⟩
    · exact .base (.tup h)
    · exact .fTuple h
    · exact .kTuple h1 h2
  | dct h r => cases e; exact .base (.dK h)
  | ins h m r => cases e
def rIsiT (T : String) (K : PySem.W.Frag) : List V → Hp → VK → Prop := fun xs H Q => ∃ x t b, xs = [x, .ty T] ∧ TyX K H x (.type t) ∧ kitB t T = some b ∧ Q (.bl b) H
theorem call_isiD {T : String} : CallR X (.builtin "isinstance") (rIsiT T X.K) := by
  intro pins s σ H xs us Q I r h
  obtain ⟨x, t, b, rfl, ty, e, q⟩ := h
  obtain ⟨u1, u2, rfl, r1, r2⟩ := vals2 r
  cases (show u2 = Value.type T from r2)
  obtain ⟨P, Z, p, hx⟩ := kit_of I r1 ty
  exact PySem.W.kia_one Z I.kIn p (kit_ty e) hx fun tk => ⟨.bl b, H, I.tok tk, rfl, q⟩
theorem de_isi {a : Expr} {x y : Str} {p p2 pos : Pos} {T : String} {f : DEnv → Res Dv} (hg : Gl X x) (hm : X.mg x = none) (hv : bootBuiltins x = some (.builtin "isinstance")) (hg2 : Gl X y) (hm2 : X.mg y = none) (hv2 : bootBuiltins y = some (.type T)) (ha : DE X a f)
    (hn : x ≠ "__name__") (hdb : (x == ("__debug__" : Str)) = false) (hn2 : y ≠ "__name__") (hdb2 : (y == ("__debug__" : Str)) = false) (he : starEach [a, .Name y p2] X.env = (false, eval a X.env) :: starEach [.Name y p2] X.env) (hpl : (backTo pos (starEach [.Name y p2] X.env)).any (·.1) = false) :
    DE X (.Call (.Name x p) [a, .Name y p2] [] pos) (pureD (isiD T) (dCons f dNil)) := by
  have hT : PE X (.Name y p2) (tC (.ty T)) := pe_bltn (v := .ty T) hg2 hm2 hv2 rfl hn2 hdb2
  have h0 : PE X (.Call (.Name x p) [a, .Name y p2] [] pos) (tCB (rIsiT T X.K) (tCons (tE X.K X.mg f) (tCons (tC (.ty T)) tNil))) := pe_callB (call_isiD (X := X) (T := T)) hg hm hv (pa_cons ha (pa_cons hT pa_nil rfl) he) hn hdb he hpl
  refine PE.mono h0 fun σ H Q h => ?_
  obtain ⟨F, ρ, r', ρ', R, e, q⟩ := h
  obtain ⟨rs, ds, z, e1, e2, e3, rfl⟩ := pureD_inv e
  obtain ⟨x, ρ1, xs, f1, f2, rfl⟩ := dCons_inv e1
  cases f2
  refine ⟨F, ρ, x, _, R, f1, fun F' H' v s l R' dv _ => ?_⟩
  cases ed : x.dat ρ' with
  | none => simp only [datA, ed] at e2; cases e2
  | some d =>
    simp only [datA, ed] at e2
    cases e2
    simp only [isiD] at e3
    obtain ⟨t, k1, k2⟩ := Option.bind_eq_some_iff.mp e3
    obtain ⟨b, k3, rfl⟩ := Option.map_eq_some_iff.mp k2
    exact ⟨v, t, b, rfl, tyX_of R'.sub (dv.rd R' ed) k1, k3, q F' H' _ s l R' (.bl b) trivial⟩
end
end DL


set_option Elab.async false
set_option linter.all false
set_option maxRecDepth 100000
set_option maxHeartbeats 4000000
/-! DL12: sorted(set(..)), len(set(..)) of ints. -/
namespace L2
open PySem PySem.Spec PyProof.Rows
section
variable {P : Program} {w : World} {A : Around} {E : Value → Shared → Prop} {s : Shared}
set_option maxRecDepth 100000 in
set_option maxHeartbeats 3200000 in
theorem dl_set_list {l : Addr} {items : Array Value} (ns : List Int) {Q : Value → Shared → Prop} (hh : A.handled = none) (hl : s.heap.IsList l items) (hit : IntsAre items.toList ns) (hb : ns.length + 1 < scanBound)
    (h : ∀ (h' : Heap) (tk c : Nat), SetR w h' s.heap.objs.size (fun j => decide (j ∈ ns)) c → c ≤ ns.length → (∀ b o, s.heap.get? b = some o → h'.get? b = some o) → Q (.ref s.heap.objs.size) { s with heap := h', toks := tk }) :
    wpAny (model P w) A (call (.type "set") [.ref l]) Q E s := by
  have hisz : items.size = ns.length := by
    have q := IntsAre.length hit
    rw [Array.length_toList] at q
    exact q
  obtain ⟨c, tl, hmro⟩ := F.called_set.mro
  have hmade := F.called_set.made
  have hsub := F.called_set.sub
  refine wpAny_call (codeAny_of_tree ?_)
  show wpAny _ _ (callAny (.type "set") _) _ _ _
  refine wpAny_pure ⟨Code.quiet_builtin _ (by decide +kernel), codeAny_builtin F.entry_type_call ?_⟩
  rw [Around.under_plain (weight_type_call_type "set" [.ref l] []) rfl]
  have h1 := F.called_set.notType
  have h2 := F.called_set.canCreate
  have hct := F.typeCall_set_1 (.ref l)
  repeat (any_goals (first | assumption | wp_step))

  refine codeAny_mono (code_set_led1 (.ref l) (E := E) (Q₁ := fun obj s₁ => obj = .ref s.heap.objs.size ∧ s₁ = { s with heap := s.heap.push { cls := .type "set", dict := none, data := .set #[] 0 (.fresh 0 0 (!w.params.followText "set-order")) } }) ⟨rfl, rfl⟩) fun r s₁ hr => ?_
  cases r with
  | error e => exact hr
  | ok fl =>
    cases fl with
    | ret obj =>
      obtain ⟨rfl, rfl⟩ := hr
      have hS : (s.heap.push { cls := .type "set", dict := none, data := .set #[] 0 (.fresh 0 0 (!w.params.followText "set-order")) }).get? s.heap.objs.size = some { cls := .type "set", dict := none, data := .set #[] 0 (.fresh 0 0 (!w.params.followText "set-order")) } := Heap.get?_push_size _ rfl
      have hT : Shared.TypeIs { s with heap := s.heap.push { cls := .type "set", dict := none, data := .set #[] 0 (.fresh 0 0 (!w.params.followText "set-order")) } } (.ref s.heap.objs.size) "set" := ⟨_, hS, rfl⟩
      have hli := F.called_set.init.lookup
      have hbi := F.called_set.init.bind (.ref s.heap.objs.size)
      repeat (any_goals (first | assumption | wp_step))

      refine codeAny_mono (codeAny_call_builtin (R := wants (fun r s₂ => r = .none ∧ ∃ h' tk c, s₂ = { s with heap := h', toks := tk } ∧ SetR w h' s.heap.objs.size (fun j => decide (j ∈ ns)) c ∧ c ≤ ns.length ∧
          (∀ b o, s.heap.get? b = some o → h'.get? b = some o)) E) F.called_set.init.plain F.entry_set_init (check_set_init_1 hT ?_)) fun r₂ s₂ hr₂ => ?_
      · obtain ⟨ol, hol, hcl, nl, hdl⟩ := hl
        obtain ⟨ocls, odict, odata, oslots⟩ := ol
        simp only at hcl hdl
        subst hcl; subst hdl
        have hol' : (s.heap.push { cls := .type "set", dict := none, data := .set #[] 0 (.fresh 0 0 (!w.params.followText "set-order")) }).get? l = some { cls := .type "list", dict := odict, data := .seq items nl, slots := oslots } := Heap.get?_push_of_some _ hol
        have hsls := F.sub_list_set
        have hslf := F.sub_list_frozenset
        have hne : (Value.type "list" == Value.type "dict") = false := by decide
        have hl1 : (s.heap.push { cls := .type "set", dict := none, data := .set #[] 0 (.fresh 0 0 (!w.params.followText "set-order")) }).IsList l items := ⟨_, hol', rfl, nl, rfl⟩
        unfold Builtin.«set.__init__» noKeywords Builtin.Frozenset.updateFrom
        generalize hPI : pyIter = PI
        wp_walk
        subst hPI

        refine wpAny_pyIter_list hl1 ?_
        refine wpAny_bind (wpAny_runValue ?_)
        have hlS : l < s.heap.objs.size := Heap.lt_size hol
        have hh3 : A.in1.in1.in1.handled = none := by simp [hh]
        have hz1 : (s.heap.push { cls := .type "set", dict := none, data := .set #[] 0 (.fresh 0 0 (!w.params.followText "set-order")) }).objs.size = s.heap.objs.size + 1 := Heap.size_push ..
        have hneI : l ≠ (s.heap.push { cls := .type "set", dict := none, data := .set #[] 0 (.fresh 0 0 (!w.params.followText "set-order")) }).objs.size := by
          rw [Heap.size_push]; exact Nat.ne_of_lt (Nat.lt_succ_of_lt hlS)
        have hSf : s.heap.objs.size ∉ [(s.heap.push { cls := .type "set", dict := none, data := .set #[] 0 (.fresh 0 0 (!w.params.followText "set-order")) }).objs.size, l] := by
          rw [Heap.size_push]; simp only [List.mem_cons, List.mem_singleton, List.not_mem_nil, or_false, not_or]
          exact ⟨Nat.ne_of_lt (Nat.lt_succ_self _), Nat.ne_of_gt hlS⟩
        have hval : ∀ (i : Nat) (v : Value), items[i]? = some v → ∃ k t, ns[i]? = some k ∧ v = .int k t := fun i v hv => by
          have hi : i < ns.length := by rw [← hisz]; exact (Array.getElem?_eq_some_iff.mp hv).1
          obtain ⟨t, e⟩ := PyProof.Rows.IntsAre.int_at hit i v (by rw [Array.getElem?_toList]; exact hv)
          refine ⟨ns[i], t, List.getElem?_eq_getElem hi, ?_⟩
          rw [e, List.getD_eq_getElem?_getD, List.getElem?_eq_getElem hi] <;> rfl
        refine set_update_ints ((Walks.list hh3 _ l hneI items).toS) s.heap.objs.size
          hSf ns hisz hb hval (items.size - 0) 0 _ (by omega) (Nat.zero_le _)
          ⟨⟨_, Heap.get?_push_size _ rfl, rfl, rfl⟩, (hl1.push _)⟩ ?hS0 ?hR
        case hS0 =>
          have hget : ((s.heap.push { cls := .type "set", dict := none, data := .set #[] 0 (.fresh 0 0 (!w.params.followText "set-order")) }).push { cls := .type "list_iterator", data := .fields #[.ref l, .int 0 0] }).get? s.heap.objs.size
              = some { cls := .type "set", dict := none, data := .set #[] 0 (.fresh 0 0 (!w.params.followText "set-order")) } := Heap.get?_push_of_some _ hS
          exact ⟨0, Nat.le_refl 0, setR_new_at hget⟩
        case hR =>
          intro s' c' hm hc' hS'
          obtain ⟨h', g2, d', tk', os'⟩ := s'
          have eg : g2 = s.gens := hm.gens
          have ed : d' = s.drawn := hm.drawn
          have eo : os' = s.os := hm.os
          subst eg; subst ed; subst eo
          show wpAny _ _ _ _ _ _
          refine wpAny_pure ?_
          show wpAny _ _ (ret Value.none) _ _ _
          rw [hisz] at hc'
          refine wpAny_pure ⟨rfl, h', tk', c', rfl, hS', hc', fun b o e => ?_⟩
          have hb0 : b < s.heap.objs.size := Heap.lt_size e
          have hb1 : b ≠ s.heap.objs.size := Nat.ne_of_lt hb0
          have hb2 : b ≠ (s.heap.push { cls := .type "set", dict := none, data := .set #[] 0 (.fresh 0 0 (!w.params.followText "set-order")) }).objs.size := by
            rw [Heap.size_push]; exact Nat.ne_of_lt (Nat.lt_succ_of_lt hb0)
          exact hm.heap b o (by simp only [List.mem_cons, List.mem_singleton, List.not_mem_nil, or_false, not_or]; exact ⟨hb1, hb2⟩) (Heap.get?_push_of_some _ (Heap.get?_push_of_some _ e))

      · cases r₂ with
        | error e => exact hr₂
        | ok fl₂ =>
          cases fl₂ with
          | ret r =>
            obtain ⟨rfl, h', tk, c', rfl, hS', hc', hk'⟩ := hr₂
            repeat (any_goals (first | assumption | wp_step))
            exact h _ _ _ hS' hc' hk'
          | _ => exact hr₂.elim
    | _ => exact hr.elim

end
end L2


set_option Elab.async false
set_option linter.all false
set_option maxRecDepth 100000
set_option maxHeartbeats 4000000
/-! DL12b: sorted(set(..)), len(set(..)) of ints, by data. -/
namespace DL
open PySem PySem.Spec PyProof.Rows L2

def insU (x : Int) : List Int → List Int
  | [] => [x]
  | y :: r => if x < y then x :: y :: r else if x = y then y :: r else y :: insU x r
def sortU : List Int → List Int
  | [] => []
  | x :: r => insU x (sortU r)
theorem insU_mem {x z : Int} : ∀ {l : List Int}, z ∈ insU x l ↔ z = x ∨ z ∈ l
  | [] => by simp [insU]
  | y :: r => by
    unfold insU
    split
    · simp
    · split
      · rename_i e; subst e; simp
      · simp only [List.mem_cons, insU_mem (l := r)]
        constructor
        · rintro (h | h | h) <;> simp [h]
        · rintro (h | h | h) <;> simp [h]
theorem sortU_mem {z : Int} : ∀ {l : List Int}, z ∈ sortU l ↔ z ∈ l
  | [] => Iff.rfl
  | x :: r => by rw [sortU, insU_mem, sortU_mem, List.mem_cons]
theorem insU_sorted {x : Int} : ∀ {l : List Int}, l.Pairwise (· < ·) → (insU x l).Pairwise (· < ·)
  | [], _ => by simp [insU]
  | y :: r, h => by
    rw [List.pairwise_cons] at h
    unfold insU
    split
    · rename_i hxy
      rw [List.pairwise_cons]
      refine ⟨fun z hz => ?_, List.pairwise_cons.mpr h⟩
      rcases List.mem_cons.mp hz with rfl | hz
      · exact hxy
      · exact Int.lt_trans hxy (h.1 z hz)
    · split
      · exact List.pairwise_cons.mpr h
      · rename_i h1 h2
        rw [List.pairwise_cons]
        refine ⟨fun z hz => ?_, insU_sorted h.2⟩
        rcases insU_mem.mp hz with rfl | hz
        · omega
        · exact h.1 z hz
theorem sortU_sorted : ∀ l, (sortU l).Pairwise (· < ·)
  | [] => List.Pairwise.nil
  | x :: r => insU_sorted (sortU_sorted r)
theorem insU_length (x : Int) : ∀ l, (insU x l).length ≤ l.length + 1
  | [] => Nat.le_refl _
  | y :: r => by
    unfold insU
    split
    · exact Nat.le_refl _
    · split
      · simp
      · simp only [List.length_cons]
        have := insU_length x r
        omega
theorem sortU_length : ∀ l, (sortU l).length ≤ l.length
  | [] => Nat.le_refl _
  | x :: r => by
    have h1 := insU_length x (sortU r)
    have h2 := sortU_length r
    simp only [sortU, List.length_cons]
    omega
theorem rising_eq : ∀ {l m : List Int}, l.Pairwise (· < ·) → m.Pairwise (· < ·) → (∀ z, z ∈ l ↔ z ∈ m) → l = m
  | [], [], _, _, _ => rfl
  | [], y :: m, _, _, h => by have := (h y).mpr List.mem_cons_self; cases this
  | x :: l, [], _, _, h => by have := (h x).mp List.mem_cons_self; cases this
  | x :: l, y :: m, h1, h2, h => by
    rw [List.pairwise_cons] at h1 h2
    have e : x = y := by
      have a := (h y).mpr List.mem_cons_self
      have b := (h x).mp List.mem_cons_self
      rcases List.mem_cons.mp a with a | a
      · exact a.symm
      · rcases List.mem_cons.mp b with b | b
        · exact b
        · have := h1.1 y a
          have := h2.1 x b
          omega
    subst e
    have ht : ∀ z, z ∈ l ↔ z ∈ m := fun z => by
      constructor
      · intro hz
        rcases List.mem_cons.mp ((h z).mp (List.mem_cons_of_mem _ hz)) with e | e
        · subst e; have := h1.1 z hz; omega
        · exact e
      · intro hz
        rcases List.mem_cons.mp ((h z).mpr (List.mem_cons_of_mem _ hz)) with e | e
        · subst e; have := h2.1 z hz; omega
        · exact e
    rw [rising_eq h1.2 h2.2 ht]
theorem rising_nodup {l : List Int} (h : l.Pairwise (· < ·)) : l.Nodup := h.imp fun h => by omega
theorem nodup_len {l m : List Int} (h1 : l.Nodup) (h2 : m.Nodup) (h : ∀ z, z ∈ l ↔ z ∈ m) : l.length = m.length :=
  Nat.le_antisymm (List.Nodup.length_le_of_subset h1 fun z hz => (h z).mp hz) (List.Nodup.length_le_of_subset h2 fun z hz => (h z).mpr hz)

def rSetK (K : PySem.W.Frag) (w : World) : List V → Hp → VK → Prop := fun vs H Q => ∃ (k : Bool) (a : Addr) (ns : List Int), vs = [.ref a] ∧ SqK k K H a (ns.map V.int) ∧ ns.length + 1 < scanBound ∧
  ∀ p, H p = none → Q (.ref p) (upd H p (SetO w p (fun j => decide (j ∈ ns)) (sortU ns).length))
section
variable {X : Cx}
theorem setR_card {w : World} {h : Heap} {a : Addr} {ns : List Int} {c : Nat} (R : SetR w h a (fun j => decide (j ∈ ns)) c) : c = (sortU ns).length := by
  obtain ⟨o, es, ep, t, ho, hex, hd, g, nd, hm, hb, hf, hn, hr, hl⟩ := R
  have e := nodup_len nd (rising_nodup (sortU_sorted ns)) fun z => by rw [← hm z, sortU_mem, decide_eq_true_eq]
  rw [List.length_map, Array.length_toList] at e
  omega
theorem call_setK (hc : X.calm = true) : CallR X (.type "set") (rSetK X.K X.w) := by
  intro pins s σ H vs us Q I r h
  obtain ⟨k, a, ns, rfl, hs, hb, q⟩ := h
  rw [Vals.ref1 r]
  have fin : ∀ (h' : Heap) (tk c : Nat), SetR X.w h' s.heap.objs.size (fun j => decide (j ∈ ns)) c → c ≤ ns.length → (∀ b o, s.heap.get? b = some o → h'.get? b = some o) → EP X pins σ Q (.ref s.heap.objs.size) { s with heap := h', toks := tk } := fun h' tk c hS _ hk => by
    rw [setR_card hS] at hS
    exact ⟨.ref s.heap.objs.size, _, I.laid (t' := tk) hk (Nat.le_refl _) (setO_new hS), rfl, q _ (I.hok.fresh (Nat.le_refl _))⟩
  cases k with
  | false =>
    obtain ⟨its, rv, pl, hz⟩ := I.list hs
    exact dl_set_list ns (I.ok.hd hc) pl.isList (by simpa using rv.ints) hb fin
  | true =>
    obtain ⟨its, rv, pl, hz⟩ := I.tuple hs
    exact call_set_tupI ns (I.ok.hd hc) pl (by simpa using rv.ints) hb fin
def seqInts : D → Option (List Int)
  | .lst xs => intsOf xs
  | .tup xs => intsOf xs
  | _ => none
def sortedSetD : List D → Option R
  | [a] => (seqInts a).bind fun ns => if ns.length + 1 < scanBound ∧ (sortU ns).length < 64 then some (.own (.lst ((sortU ns).map D.int))) else none
  | _ => none
def lenSetD : List D → Option R
  | [a] => (seqInts a).bind fun ns => if ns.length + 1 < scanBound then some (.val (.int (sortU ns).length)) else none
  | _ => none
theorem set_src {K : PySem.W.Frag} {mg : Str → Option Value} {F H : Hp} {v : V} {d : D} {ns : List Int} (s : Same F H) (x : Rd1 K mg F H v d) (e : seqInts d = some ns) : ∃ k a, v = .ref a ∧ SqK k K H a (ns.map V.int) := by
  cases d <;> first | cases e | skip
  · obtain ⟨a, va, rfl, h1, r1⟩ := rd_lst s x
    rw [intsOf_eq e] at r1
    cases drA_ints r1
    exact ⟨false, a, rfl, .inl (.inl h1)⟩
  · obtain ⟨a, va, rfl, h1, r1, _⟩ := rd_tup s x
    rw [intsOf_eq e] at r1
    cases drA_ints r1
    exact ⟨true, a, rfl, h1⟩
theorem cr_lenSet : CallR X (.builtin "len") (fun vs H Q => ∃ (a : Addr) (S : Int → Bool) (n : Nat), vs = [V.ref a] ∧ H a = some (SetO X.w a S n) ∧ Q (.int n) H) := by
  intro pins s σ H vs us Q I r h
  obtain ⟨a, S, n, rfl, ha, q⟩ := h
  rw [Vals.ref1 r]
  obtain ⟨o, es, ep, t, ho, hex, hd, g, nd, hm, hb, hf, hn, hr, hl⟩ := setO_get I ha
  subst hn
  refine call_len_set ho hex hd hf (by unfold scanBound at hb; omega) ⟨.int es.size, H, I.tok _, ⟨_, rfl⟩, q⟩
theorem de_sortedSet {a : Expr} {x y : Str} {p p2 pos pos2 : Pos} {f : DEnv → Res Dv} (hc : X.calm = true) (hg : Gl X x) (hm : X.mg x = none) (hv : bootBuiltins x = some (.builtin "sorted")) (hg2 : Gl X y) (hm2 : X.mg y = none) (hv2 : bootBuiltins y = some (.type "set")) (ha : DE X a f)
    (hn : x ≠ "__name__") (hdb : (x == ("__debug__" : Str)) = false) (hn2 : y ≠ "__name__") (hdb2 : (y == ("__debug__" : Str)) = false) (he : starEach [a] X.env = [(false, eval a X.env)]) :
    DE X (.Call (.Name x p) [.Call (.Name y p2) [a] [] pos2] [] pos) (pureD sortedSetD (dCons f dNil)) := by
  have h1 : PE X (.Call (.Name y p2) [a] [] pos2) _ := pe_callTy (call_setK hc) hg2 hm2 hv2 (pa_cons ha pa_nil he) hn2 hdb2 he rfl
  refine PE.mono (pe_callB (cr_sortedSet hc) hg hm hv (pa_cons h1 pa_nil rfl) hn hdb rfl rfl) fun σ H Q h => ?_
  obtain ⟨F, ρ, r', ρ', R, e, q⟩ := h
  obtain ⟨rs, ds, z, e1, e2, e3, rfl⟩ := pureD_inv e
  obtain ⟨x, ρ1, xs, f1, f2, rfl⟩ := dCons_inv e1
  cases f2
  refine ⟨F, ρ, x, _, R, f1, fun F' H' v s l R' dv _ => ?_⟩
  cases ed : x.dat ρ' with
  | none => simp only [datA, ed] at e2; cases e2
  | some d =>
    simp only [datA, ed] at e2
    cases e2
    simp only [sortedSetD] at e3
    obtain ⟨ns, k1, k2⟩ := Option.bind_eq_some_iff.mp e3
    split at k2
    case isFalse => cases k2
    rename_i hl
    cases k2
    obtain ⟨k, a, rfl, sq⟩ := set_src R'.sub (dv.rd R' ed) k1
    refine ⟨k, a, ns, rfl, sq, hl.1, fun p hp => ⟨p, _, _, rfl, upd_same, hl.2, fun ns' p2 k3 k4 k5 hp2 => ?_⟩⟩
    have en : ns' = sortU ns := rising_eq k3 (sortU_sorted ns) fun z => by rw [k4 z, sortU_mem, decide_eq_true_eq]
    subst en
    have al1 := Al.updH (o := SetO X.w p (fun j => decide (j ∈ ns)) (sortU ns).length) R'.sub hp
    have al2 := al1.trans (Al.updH (o := .lst ((sortU ns).map V.int)) al1.sub hp2)
    exact q F' _ _ (s.trans al2.stp) l (al2.rel R') (RR.dvR (z := .own (.lst ((sortU ns).map D.int))) R' ⟨p2, _, rfl, al1.hle.free hp2, upd_same, al1.sub.free hp2, ints_drA _⟩ al2) ⟨p2, rfl, s.dom _ (al1.hle.free hp2)⟩
theorem de_lenSet {a : Expr} {x y : Str} {p p2 pos pos2 : Pos} {f : DEnv → Res Dv} (hc : X.calm = true) (hg : Gl X x) (hm : X.mg x = none) (hv : bootBuiltins x = some (.builtin "len")) (hg2 : Gl X y) (hm2 : X.mg y = none) (hv2 : bootBuiltins y = some (.type "set")) (ha : DE X a f)
    (hn : x ≠ "__name__") (hdb : (x == ("__debug__" : Str)) = false) (hn2 : y ≠ "__name__") (hdb2 : (y == ("__debug__" : Str)) = false) (he : starEach [a] X.env = [(false, eval a X.env)]) :
    DE X (.Call (.Name x p) [.Call (.Name y p2) [a] [] pos2] [] pos) (pureD lenSetD (dCons f dNil)) := by
  have h1 : PE X (.Call (.Name y p2) [a] [] pos2) _ := pe_callTy (call_setK hc) hg2 hm2 hv2 (pa_cons ha pa_nil he) hn2 hdb2 he rfl
  refine PE.mono (pe_callB cr_lenSet hg hm hv (pa_cons h1 pa_nil rfl) hn hdb rfl rfl) fun σ H Q h => ?_
  obtain ⟨F, ρ, r', ρ', R, e, q⟩ := h
  obtain ⟨rs, ds, z, e1, e2, e3, rfl⟩ := pureD_inv e
  obtain ⟨x, ρ1, xs, f1, f2, rfl⟩ := dCons_inv e1
  cases f2
  refine ⟨F, ρ, x, _, R, f1, fun F' H' v s l R' dv _ => ?_⟩
  cases ed : x.dat ρ' with
  | none => simp only [datA, ed] at e2; cases e2
  | some d =>
    simp only [datA, ed] at e2
    cases e2
    simp only [lenSetD] at e3
    obtain ⟨ns, k1, k2⟩ := Option.bind_eq_some_iff.mp e3
    split at k2
    case isFalse => cases k2
    rename_i hl
    cases k2
    obtain ⟨k, a, rfl, sq⟩ := set_src R'.sub (dv.rd R' ed) k1
    refine ⟨k, a, ns, rfl, sq, hl, fun p hp => ⟨p, _, _, rfl, upd_same, ?_⟩⟩
    have al1 := Al.updH (o := SetO X.w p (fun j => decide (j ∈ ns)) (sortU ns).length) R'.sub hp
    exact q F' _ _ (s.trans al1.stp) l (al1.rel R') (.int _) trivial
end
end DL


set_option Elab.async false
set_option linter.all false
set_option maxRecDepth 100000
set_option maxHeartbeats 4000000
/-! DL13: more data operations: [::-1], {}, isinstance of the text's own classes. -/
namespace DL
open PySem PySem.Spec PyProof.Rows L2

/-! ### t[::-1] -/
theorem adjust_back (n : Nat) : Builtin.Slice.sliceAdjust none none (-1) (n : Int) = ((n : Int) - 1, -1) := by
  unfold Builtin.Slice.sliceAdjust
  simp
  try omega
theorem places_back (n : Nat) : Builtin.Slice.slicePlaces ((n : Int) - 1) (-1) (-1) = n := by
  unfold Builtin.Slice.slicePlaces
  simp
  try omega
theorem pick_back (xs : Array Value) : ((List.range xs.size).filterMap fun (m : Nat) => xs[(((xs.size : Nat) : Int) - 1 + (m : Int) * -1).toNat]?).toArray = xs.toList.reverse.toArray := by
  congr 1
  apply List.ext_getElem?
  intro j
  have e : ((List.range xs.size).filterMap fun (m : Nat) => xs[(((xs.size : Nat) : Int) - 1 + (m : Int) * -1).toNat]?) = (List.range xs.size).map fun (m : Nat) => (xs[(((xs.size : Nat) : Int) - 1 + (m : Int) * -1).toNat]?).getD .none := by
    have : ∀ l : List Nat, (∀ m ∈ l, m < xs.size) → (l.filterMap fun (m : Nat) => xs[(((xs.size : Nat) : Int) - 1 + (m : Int) * -1).toNat]?) = l.map fun (m : Nat) => (xs[(((xs.size : Nat) : Int) - 1 + (m : Int) * -1).toNat]?).getD .none := by
      intro l
      induction l with
      | nil => intro _; rfl
      | cons m l ih =>
        intro h
        have hm := h m (by simp)
        have hlt : (((xs.size : Nat) : Int) - 1 + (m : Int) * -1).toNat < xs.size := by omega
        rw [List.filterMap_cons, List.map_cons, ih fun m hm => h m (List.mem_cons_of_mem _ hm)]
        rw [Array.getElem?_eq_getElem hlt]
        rfl
    exact this _ fun m hm => List.mem_range.mp hm
  rw [e, List.getElem?_map]
  by_cases hj : j < xs.size
  · rw [List.getElem?_range hj, List.getElem?_reverse (by simpa using hj)]
    have hlt : (((xs.size : Nat) : Int) - 1 + (j : Int) * -1).toNat < xs.size := by omega
    have e2 : (((xs.size : Nat) : Int) - 1 + (j : Int) * -1).toNat = xs.toList.length - 1 - j := by rw [Array.length_toList]; omega
    simp only [Option.map_some]
    rw [Array.getElem?_eq_getElem hlt, Array.getElem?_toList, ← e2, Array.getElem?_eq_getElem hlt]
    rfl
  · rw [List.getElem?_eq_none (by simpa using hj), List.getElem?_eq_none (by simpa using hj)]
    rfl
section
variable {prog : Program} {w : World} {A : Around} {E : Value → Shared → Prop} {s : Shared}
theorem applied_back {sl : Addr} {vs : Value} {n : Nat} {Q : Int × Int × Nat → Shared → Prop} (hs : s.heap.IsSliceOf sl .none .none vs) (ps : IsPart vs (some (-1))) (h : Q ((n : Int) - 1, -1, n) s) :
    wpAny (model prog w) A (Builtin.Slice.sliceApplied (.ref sl) (pure (n : Int))) Q E s := by
  obtain ⟨os, hos, hcs, hds⟩ := id hs
  unfold Builtin.Slice.sliceApplied Builtin.Slice.sliceFields
  refine wpAny_bind (wpAny_bind (wpAny_field hos hds (x := Value.none) rfl (wpAny_bind (wpAny_field hos hds (x := Value.none) rfl (wpAny_bind (wpAny_field hos hds (x := vs) rfl (wpAny_pure ?_)))))))
  refine wpAny_bind (HT.slicePart_ ps ?_)
  show wpAny _ _ (if ((-1 : Int) == 0) = true then _ else _) _ _ s
  rw [if_neg (by decide)]
  refine wpAny_bind (HT.slicePart_ IsPart.none (wpAny_bind (HT.slicePart_ IsPart.none (wpAny_bind (wpAny_pure ?_)))))
  show wpAny _ _ (match Builtin.Slice.sliceAdjust none none (-1) (n : Int) with | (lo, hi) => pure (lo, (-1 : Int), Builtin.Slice.slicePlaces lo hi (-1))) _ _ s
  rw [adjust_back]
  show wpAny _ _ (pure ((n : Int) - 1, (-1 : Int), Builtin.Slice.slicePlaces ((n : Int) - 1) (-1) (-1))) _ _ s
  rw [places_back]
  exact wpAny_pure h
theorem item_back {t sl : Addr} {items : Array Value} {vs : Value} {Q : Value → Shared → Prop} (ht : IsTup s.heap t items) (hs : s.heap.IsSliceOf sl .none .none vs) (ps : IsPart vs (some (-1)))
    (h : Q (.ref s.heap.objs.size) { s with heap := s.heap.push { cls := .type "tuple", data := .seq items.toList.reverse.toArray } }) (hsz : items.size ≤ sizeLine) : wpAny (model prog w) A (getItem (.ref t) (.ref sl)) Q E s := by
  have hfit : sizeOk (.seq items.toList.reverse.toArray) := by
    show items.toList.reverse.toArray.size ≤ sizeLine
    simpa using hsz
  obtain ⟨os, hos, hcs, hds⟩ := id hs
  have tyS : s.TypeIs (.ref sl) "slice" := ⟨os, hos, hcs⟩
  unfold getItem
  try with_reducible refine wpAny_holding ?_
  first | refine wpAny_bind (wpAny_pure ?_) | skip
  refine wpAny_bind (wpAny_sequenceKey ht.typeIs (by decide) ?_)
  refine wpAny_bind (wpAny_callSpecial?_slot (name := Str.ofString "__getitem__") ht.typeIs PyProof.Rows.slot_tuple_getitem (wpAny_call_entry PyProof.Rows.slot_tuple_getitem ht.typeIs entry_tuple_getitem ?_ (args_tuple_getitem _ _)))
  show wpAny _ _ (Builtin.Tuple.tupleItemsOf (.ref t) >>= _) _ _ s
  refine wpAny_bind (tupleItemsOf_ ht ?_)
  refine wpAny_bind (wpAny_typeOf tyS ?_)
  rw [if_pos (by decide)]
  refine wpAny_bind (applied_back hs ps ?_)
  have hno : ¬ ((((items.size : Int) - 1) == 0 && (-1 : Int) == 1 && items.size == items.size) = true) := by
    intro q
    rw [Bool.and_eq_true, Bool.and_eq_true] at q
    exact absurd q.1.2 (by decide)
  show wpAny _ _ (if (((items.size : Int) - 1) == 0 && (-1 : Int) == 1 && items.size == items.size) = true then _ else _) _ _ s
  rw [if_neg hno, pick_back]
  first
    | exact wpAny_bind (m := Builtin.Tuple.tupleExact _) (wpAny_newObj_type (wpAny_pure ⟨_, rfl, wpAny_pure h⟩) hfit)
    | exact wpAny_bind (m := Builtin.Tuple.tupleExact _) (wpAny_newObj_type (wpAny_bind (wpAny_pure (wpAny_pure ⟨_, rfl, wpAny_pure h⟩))) hfit)
    | exact wpAny_bind (wpAny_bind (m := Builtin.Tuple.tupleExact _) (wpAny_newObj_type (wpAny_pure (wpAny_pure ⟨_, rfl, wpAny_pure h⟩)) hfit))
end
section
variable {X : Cx}
def tRevT (K : PySem.W.Frag) (te : TE) : TE := fun σ H Q => te σ H fun x H1 => ∃ a xs, x = .ref a ∧ ((SqL K H1 a xs ∧ ∀ p, H1 p = none → Q (.ref p) (upd H1 p (.lst xs.reverse))) ∨ (SqT K H1 a xs ∧ ∀ p, H1 p = none → Q (.ref p) (upd H1 p (.tup xs.reverse))))
theorem pe_back {e : Expr} {te : TE} {k : Nat} {p1 p2 p3 pos : Pos} (he : PE X e te) : PE X (.Subscript e (.Slice none none (some (.UnaryOp .USub (.Constant (.int 1) k p1) p2)) p3) pos) (tRevT X.K te) := by
  refine ⟨fun pins s σ H Q I h => ?_⟩
  refine Subscript_ (thn (he.run pins s σ H _ I h) fun v s1 ⟨x, H1, I1, r1, a, xs, ex, q1⟩ => ?_)
  subst ex
  cases r1
  have hst : PO X (some (.UnaryOp .USub (.Constant (.int 1) k p1) p2)) (tPart (tUn (rU fun i => .int (-i)) (tC (.int 1)))) := po_some (pe_un un_neg pe_int)
  refine wpAny_Slice ?_
  rw [evalPart_none]
  refine wpAny_pure ?_
  refine wpAny_pure ?_
  refine thn (hst.run pins s1 σ H1 (fun o H4 => o = some (-1) ∧ H4 = H1) I1 ⟨1, rfl, -1, rfl, rfl, rfl⟩) fun vs s4 ⟨o, H4, I4, ps, eo, e4⟩ => ?_
  subst eo e4
  have I5 : Inv X pins σ H4 { s4 with heap := s4.heap.push { cls := .type "slice", data := .fields #[.none, .none, vs] } } := I4.kept (t' := s4.toks) fun b ob q => Heap.get?_push_of_some _ q
  show wpAny (model X.prog X.w) X.A (subscriptTail e (.Slice none none (some (.UnaryOp .USub (.Constant (.int 1) k p1) p2)) p3) (.ref a) (.ref s4.heap.objs.size)) (EP X pins σ Q) X.xe { s4 with heap := s4.heap.push { cls := .type "slice", data := .fields #[.none, .none, vs] } }
  rcases q1 with ⟨hx, q⟩ | ⟨hx, q⟩
  · obtain ⟨its, r, ht, hz⟩ := I5.list hx
    have hlen := r.length
    refine tail_any (ops := [.ref a, .ref s4.heap.objs.size]) ht.isList.typeIs (PySem.slot_list_getitem.lookup) ?_ (by with_unfolding_all rfl)
    refine wpAny_getItem_list_slice ht.isList (Heap.IsSliceOf.new _ .none .none vs) .none .none ps (by decide) ?_ (by rw [List.size_toArray]; omega)
    rw [PySem.W.krv_pick]
    exact ⟨.ref _, _, I5.laid (t' := s4.toks) (o := .lst xs.reverse) (fun b ob q => Heap.get?_push_of_some _ q) (Nat.le_refl _) ⟨by rw [List.length_reverse]; exact hz, _, 0, r.reverse, Heap.get?_push_size _ rfl⟩, rfl, q _ (I5.hok.fresh (Nat.le_refl _))⟩
  · obtain ⟨its, r, ht, hz⟩ := I5.tuple hx
    have hlen := r.length
    refine tail_any (ops := [.ref a, .ref s4.heap.objs.size]) ht.typeIs (PyProof.Rows.slot_tuple_getitem.lookup) ?_ (by with_unfolding_all rfl)
    refine item_back ht (Heap.IsSliceOf.new _ .none .none vs) ps ?_ (by rw [List.size_toArray]; omega)
    exact ⟨.ref _, _, I5.laid (t' := s4.toks) (o := .tup xs.reverse) (fun b ob q => Heap.get?_push_of_some _ q) (Nat.le_refl _) ⟨by rw [List.length_reverse]; exact hz, _, r.reverse, _, Heap.get?_push_size _ rfl, rfl, 0, rfl⟩, rfl, q _ (I5.hok.fresh (Nat.le_refl _))⟩
def revD : D → Option R
  | .lst xs => some (.own (.lst xs.reverse))
  | .frz xs => some (.own (.lst xs.reverse))
  | .tup xs => some (.val (.tup xs.reverse))
  | _ => none
def dRev (f : DEnv → Res Dv) : DEnv → Res Dv := pureD (fun ds => match ds with | [d] => revD d | _ => none) (dCons f dNil)
theorem de_rev {e : Expr} {f : DEnv → Res Dv} {k : Nat} {p1 p2 p3 pos : Pos} (he : DE X e f) : DE X (.Subscript e (.Slice none none (some (.UnaryOp .USub (.Constant (.int 1) k p1) p2)) p3) pos) (dRev f) := by
  refine de_op (r := fun vs H Q => ∃ v, vs = [v] ∧ ∃ a xs, v = .ref a ∧ ((SqL X.K H a xs ∧ ∀ p, H p = none → Q (.ref p) (upd H p (.lst xs.reverse))) ∨ (SqT X.K H a xs ∧ ∀ p, H p = none → Q (.ref p) (upd H p (.tup xs.reverse))))) (pe_back he) (fun F H vs ds z Q s x ez q => ?_) fun σ H Q h => one_of h
  match ds, ez, x with
  | [d], ez, x =>
    obtain ⟨v, rfl, rd⟩ := one_rd x
    cases d <;> try (cases ez; done)
    case lst xs =>
      cases ez
      obtain ⟨a, ws, rfl, hw, r⟩ := rd_lst s rd
      exact ⟨_, rfl, a, ws, rfl, .inl ⟨.inl (.inl hw), post_lst s r.reverse q⟩⟩
    case frz xs =>
      cases ez
      obtain ⟨a, ws, rfl, hw, r⟩ := rd_frz s rd
      exact ⟨_, rfl, a, ws, rfl, .inl ⟨hw, post_lst s r.reverse q⟩⟩
    case tup xs =>
      cases ez
      obtain ⟨a, ws, rfl, hw, r, _⟩ := rd_tup s rd
      exact ⟨_, rfl, a, ws, rfl, .inr ⟨hw, post_tup s r.reverse q⟩⟩

/-! ### {} -/
def dDct0 : DEnv → Res Dv := fun ρ => .ok (.own (.dct [])) ρ
theorem de_dct0 {pos : Pos} : DE X (.Dict [] [] pos) dDct0 := by
  refine PE.mono pe_dnewK fun σ H Q h => ?_
  obtain ⟨F, ρ, r, ρ', R, e, q⟩ := h
  cases e
  intro p hp
  have al := Al.updH (o := .dK []) R.sub hp
  refine q _ _ _ al.stp (.refl _) (al.rel R) ⟨p, _, rfl, upd_same, R.sub.free hp, DrK.nil, fun c => ?_⟩ ⟨p, rfl, hp⟩
  obtain ⟨i, o, ho, ei⟩ := c
  obtain ⟨p2, h2, e2, hp2, _⟩ := R.own i o ho
  rw [ei] at e2; cases e2
  rw [hp] at hp2; cases hp2

/-! ### isinstance(x, C), C of the text -/
structure IscOk (X : Cx) (c : Str) : Prop where
  has : ∃ C, X.mg c = some (.ref C) ∧ Cls X.K C ∧ PySem.W.findIn X.K (.ref C) "__class__" = some (some (.builtin "object.__class__")) ∧ PySem.W.specialIn X.K (.builtin "object.__class__") "__get__" = some (some (.builtin "getset_descriptor.__get__")) ∧
    PySem.W.takesIn X.K (.builtin "object.__class__") = some true ∧ PySem.W.mroIn X.K C (.type "object") = some true ∧
    ∀ t ∈ ["NoneType", "bool", "int", "str", "list", "tuple", "dict"], PySem.W.kitOne X.K (.type t) (.ref C) = some false
def iscD (c : Str) : List D → Option R
  | [.ins c' _] => if c' = c then some (.val (.bl true)) else none
  | [.frz _] => some (.val (.bl false))
  | [d] => (tyName d).map fun _ => .val (.bl false)
  | _ => none
theorem tyName_mem {d : D} {t : String} (h : tyName d = some t) : t ∈ ["NoneType", "bool", "int", "str", "list", "tuple", "dict"] := by
  cases d <;> simp only [tyName] at h <;> cases h <;> decide
theorem de_isc {a : Expr} {x y : Str} {p p2 pos : Pos} {f : DEnv → Res Dv} (hg : Gl X x) (hm : X.mg x = none) (hv : bootBuiltins x = some (.builtin "isinstance")) (hg2 : Gl X y) (ok : IscOk X y) (ha : DE X a f)
    (hn : x ≠ "__name__") (hdb : (x == ("__debug__" : Str)) = false) (hdb2 : (y == ("__debug__" : Str)) = false) (he : starEach [a, .Name y p2] X.env = (false, eval a X.env) :: starEach [.Name y p2] X.env) (hpl : (backTo pos (starEach [.Name y p2] X.env)).any (·.1) = false) :
    DE X (.Call (.Name x p) [a, .Name y p2] [] pos) (pureD (iscD y) (dCons f dNil)) := by
  obtain ⟨C, hC, hc, h1, h2, h3, h4, h5⟩ := ok.has
  have hT : PE X (.Name y p2) (tC (.ref C)) := pe_glob (v := .ref C) hg2 hC rfl hdb2
  have h0 : PE X (.Call (.Name x p) [a, .Name y p2] [] pos) (tCB (rIsi X.K) (tCons (tE X.K X.mg f) (tCons (tC (.ref C)) tNil))) := pe_callB (call_isi (X := X)) hg hm hv (pa_cons ha (pa_cons hT pa_nil rfl) he) hn hdb he hpl
  refine PE.mono h0 fun σ H Q h => ?_
  obtain ⟨F, ρ, r', ρ', R, e, q⟩ := h
  obtain ⟨rs, ds, z, e1, e2, e3, rfl⟩ := pureD_inv e
  obtain ⟨x, ρ1, xs, f1, f2, rfl⟩ := dCons_inv e1
  cases f2
  refine ⟨F, ρ, x, _, R, f1, fun F' H' v s l R' dv _ => ?_⟩
  cases ed : x.dat ρ' with
  | none => simp only [datA, ed] at e2; cases e2
  | some d =>
    simp only [datA, ed] at e2
    cases e2
    have rd := dv.rd R' ed
    have no : ∀ t, tyName d = some t → z = .val (.bl false) → rIsi X.K [v, .ref C] H' Q := fun t ht hz => by
      subst hz
      exact ⟨v, .ref C, .type t, .ref C, false, rfl, .own C, tyX_of R'.sub rd ht, h5 t (tyName_mem ht), q F' H' _ s l R' (.bl false) trivial⟩
    cases d with
    | ins c' fs =>
      simp only [iscD] at e3
      split at e3
      · rename_i hcc
        subst hcc
        cases e3
        obtain ⟨a, C', dx, vs, rfl, ha, hm'⟩ := rd_ins R'.sub rd
        rw [hC] at hm'; cases hm'
        exact ⟨_, .ref C, .ref C, .ref C, true, rfl, .own C, .base (.ins ha hc h1 h2 h3 h4), if_pos (beq_self_eq_true _), q F' H' _ s l R' (.bl true) trivial⟩
      · cases e3
    | frz xs => cases e3; exact no _ rfl rfl
    | _ => cases e3; exact no _ rfl rfl
end
end DL


set_option Elab.async false
set_option linter.all false
set_option maxRecDepth 100000
set_option maxHeartbeats 4000000
/-! DL13b: list(range(..)), tuple(range(..)). -/
namespace DL
open PySem PySem.Spec PyProof.Rows L2

def rgI (a b : Int) : List Int := (List.range (b - a).toNat).map fun i => a + (i : Nat)
def okRg (a b : Int) : Bool := decide (-(2 ^ 62) ≤ a) && decide (a < 2 ^ 62) && decide (-(2 ^ 62) ≤ b) && decide (b < 2 ^ 62) && decide ((b - a).toNat ≤ 2 ^ 24)
theorem okRg_of {a b : Int} (h : okRg a b = true) : RgOk a b := by
  simp only [okRg, Bool.and_eq_true, decide_eq_true_eq] at h
  exact ⟨h.1.1.1.1, h.1.1.1.2, h.1.1.2, h.1.2, h.2⟩
def rgR (t : Bool) (a b : Int) : Option R := if okRg a b = true then some (if t = true then .val (.tup ((rgI a b).map D.int)) else .own (.lst ((rgI a b).map D.int))) else none
def rg1D (t : Bool) : List D → Option R
  | [.int n] => rgR t 0 n
  | _ => none
def rg2D (t : Bool) : List D → Option R
  | [.int i, .int j] => rgR t i j
  | _ => none
theorem rgV_ints (a b : Int) : rgV a b = (rgI a b).map V.int := by
  unfold rgV rgI
  rw [List.map_map]
  rfl
def endRg (t : Bool) (a b : Int) (H : Hp) (Q : VK) : Prop := RgOk a b ∧ ∀ q, H q = none → Q (.ref q) (upd H q (if t = true then .tup (rgV a b) else .lst (rgV a b)))
theorem rg_end {K : PySem.W.Frag} {mg : Str → Option Value} {F H : Hp} {t : Bool} {a b : Int} {z : R} {Q : VK} (s : Same F H) (e : rgR t a b = some z) (q : PostR K mg F H z Q) : endRg t a b H Q := by
  unfold rgR at e
  split at e
  case isFalse => cases e
  rename_i h
  cases e
  refine ⟨okRg_of h, ?_⟩
  rw [rgV_ints]
  cases t with
  | true => exact post_tup s (ints_drA _) q
  | false => exact post_lst s (ints_drA _) q
section
variable {X : Cx} {a b : Expr} {f g : DEnv → Res Dv} {x : Str} {p p2 pos pos2 : Pos}
theorem de_rg1 {t : Bool} (hx : x = cond t "tuple" "list") (hc : X.calm = true) (hg : Gl X x) (hm : X.mg x = none) (hg2 : Gl X "range") (hm2 : X.mg "range" = none) (ha : DE X a f) (he : starEach [a] X.env = (false, eval a X.env) :: starEach [] X.env) :
    DE X (.Call (.Name x p) [.Call (.Name "range" p2) [a] [] pos2] [] pos) (pureD (rg1D t) (dCons f dNil)) := by
  have hr : PRg X (.Call (.Name "range" p2) [a] [] pos2) (tRg1 (tE X.K X.mg f)) := prg_1 hg2 hm2 ha he
  have P : PureL X.K X.mg (fun vs H Q => ∃ v, vs = [v] ∧ ∃ n, v = .int n ∧ endRg t 0 n H Q) (rg1D t) := fun F H vs ds z Q s xx e q => by
    unfold rg1D at e
    split at e
    · rename_i n
      obtain ⟨v, rfl, rd⟩ := one_rd xx
      cases rd_int rd
      exact ⟨_, rfl, _, rfl, rg_end s e q⟩
    · cases e
  subst hx
  cases t with
  | false => exact de_op (pe_listRg hc hg hm hr rfl) P fun σ H Q h => one_of h
  | true => exact de_op (pe_tupRg hc hg hm hr rfl) P fun σ H Q h => one_of h
theorem de_rg2 {t : Bool} (hx : x = cond t "tuple" "list") (hc : X.calm = true) (hg : Gl X x) (hm : X.mg x = none) (hg2 : Gl X "range") (hm2 : X.mg "range" = none) (ha : DE X a f) (hb : DE X b g) (he : starEach [a, b] X.env = (false, eval a X.env) :: starEach [b] X.env)
    (he2 : starEach [b] X.env = (false, eval b X.env) :: starEach [] X.env) (hp : (backTo pos2 (starEach [b] X.env)).any (·.1) = false) :
    DE X (.Call (.Name x p) [.Call (.Name "range" p2) [a, b] [] pos2] [] pos) (pureD (rg2D t) (dCons f (dCons g dNil))) := by
  have hr : PRg X (.Call (.Name "range" p2) [a, b] [] pos2) (tRg2 (tE X.K X.mg f) (tE X.K X.mg g)) := prg_2 hg2 hm2 ha hb he he2 hp
  have P : Pure2 X.K X.mg (fun v w H Q => ∃ i j, v = .int i ∧ w = .int j ∧ endRg t i j H Q) (rg2D t) := fun F H vs ds z Q s xx e q => by
    unfold rg2D at e
    split at e
    · rename_i n m
      cases two_ints xx
      exact ⟨_, _, rfl, _, _, rfl, rfl, rg_end s e q⟩
    · cases e
  subst hx
  cases t with
  | false => exact de_op (pe_listRg hc hg hm hr rfl) P fun σ H Q h => two_of (r := fun v w H Q => ∃ i j, v = .int i ∧ w = .int j ∧ endRg false i j H Q) h
  | true => exact de_op (pe_tupRg hc hg hm hr rfl) P fun σ H Q h => two_of (r := fun v w H Q => ∃ i j, v = .int i ∧ w = .int j ∧ endRg true i j H Q) h
end
end DL


set_option Elab.async false
set_option linter.all false
set_option maxRecDepth 100000
set_option maxHeartbeats 4000000
/-! DL14: code as data: its words, what it computes. -/
namespace DL
open PySem PySem.Spec PyProof.Rows L2

inductive Op where
  | add | sub | mul | fdiv | mod | pow
inductive Cm where
  | lt | le | gt | ge | eq | ne | isIn | notIn | is | isNot
inductive Bi where
  | len | abs | int | max2 | min2 | any | all | sum | max | min | list | tuple | sorted
inductive Ty where
  | int | bool | str | list | tuple | dict
def Op.ast : Op → Operator
  | .add => .Add | .sub => .Sub | .mul => .Mult | .fdiv => .FloorDiv | .mod => .Mod | .pow => .Pow
def Op.f : Op → List D → Option R
  | .add => addD | .sub => subD | .mul => mulD | .fdiv => fdivD | .mod => modD | .pow => powD
def Cm.ast : Cm → CmpOp
  | .lt => .Lt | .le => .LtE | .gt => .Gt | .ge => .GtE | .eq => .Eq | .ne => .NotEq | .isIn => .In | .notIn => .NotIn | .is => .Is | .isNot => .IsNot
def Cm.f : Cm → List D → Option R
  | .lt => ltD | .le => cmpI fun i j => decide (i ≤ j) | .gt => cmpI fun i j => decide (j < i) | .ge => cmpI fun i j => decide (j ≤ i) | .eq => eqD | .ne => neD | .isIn => inD false | .notIn => inD true | .is => isD false | .isNot => isD true
def Bi.f : Bi → List D → Option R
  | .len => lenD | .abs => absD | .int => intD | .max2 => max2D | .min2 => min2D | .any => anyD | .all => allD | .sum => sumD | .max => maxD | .min => minD | .list => listD | .tuple => tupleD | .sorted => sortedD
def Bi.nm : Bi → Str
  | .len => "len" | .abs => "abs" | .int => "int" | .max2 => "max" | .min2 => "min" | .any => "any" | .all => "all" | .sum => "sum" | .max => "max" | .min => "min" | .list => "list" | .tuple => "tuple" | .sorted => "sorted"
def Bi.ar : Bi → Nat
  | .max2 => 2 | .min2 => 2 | _ => 1
def Ty.nm : Ty → String
  | .int => "int" | .bool => "bool" | .str => "str" | .list => "list" | .tuple => "tuple" | .dict => "dict"
def Ty.nmS : Ty → Str
  | .int => "int" | .bool => "bool" | .str => "str" | .list => "list" | .tuple => "tuple" | .dict => "dict"
section
variable {X : Cx}
theorem Op.ok (o : Op) : ∃ r, OpR X (binaryOp o.ast) r ∧ Pure2 X.K X.mg r o.f := by
  cases o with
  | add => exact ⟨_, op_addD, p_add⟩
  | sub => exact ⟨_, op_sub, p_sub⟩
  | mul => exact ⟨_, op_mulD, p_mul⟩
  | fdiv => exact ⟨_, op_fdiv, p_fdiv⟩
  | mod => exact ⟨_, op_mod, p_mod⟩
  | pow => exact ⟨_, op_pow, p_pow⟩
theorem Cm.ok (o : Cm) (hu : X.A.units + 65 < cLine) : ∃ r, OpR X (compareOp o.ast) r ∧ Pure2 X.K X.mg r o.f ∧ YieldsB o.f := by
  cases o with
  | lt => exact ⟨_, op_ltD (by omega), p_lt, yb_lt⟩
  | le => exact ⟨_, op_le, p_cmpI, yb_cmpI⟩
  | gt => exact ⟨_, op_gt, p_cmpI, yb_cmpI⟩
  | ge => exact ⟨_, op_ge, p_cmpI, yb_cmpI⟩
  | eq => exact ⟨_, op_eqD (by omega), p_eq, yb_eq⟩
  | ne => exact ⟨_, op_neD (by omega), p_ne, yb_ne⟩
  | isIn => exact ⟨_, op_inDT hu, p_in, yb_in⟩
  | notIn => exact ⟨_, op_ninDT hu, p_in, yb_in⟩
  | is => exact ⟨_, op_isD, p_is, yb_is⟩
  | isNot => exact ⟨_, op_nisD, p_is, yb_is⟩
theorem Ty.boot (t : Ty) : bootBuiltins t.nmS = some (.type t.nm) := by
  cases t with
  | int => show bootBuiltins ("int" : Str) = some (.type "int"); boot_by_name
  | bool => show bootBuiltins ("bool" : Str) = some (.type "bool"); boot_by_name
  | str => show bootBuiltins ("str" : Str) = some (.type "str"); boot_by_name
  | list => show bootBuiltins ("list" : Str) = some (.type "list"); boot_by_name
  | tuple => show bootBuiltins ("tuple" : Str) = some (.type "tuple"); boot_by_name
  | dict => show bootBuiltins ("dict" : Str) = some (.type "dict"); boot_by_name
theorem Bi.call (b : Bi) {e : Expr} {es : List Expr} {p pos : Pos} {f : DEnv → Res (List Dv)} (hc : X.calm = true) (hg : Gl X b.nm) (hm : X.mg b.nm = none) (ha : DB X (e :: es) f)
    (he : starEach (e :: es) X.env = (false, eval e X.env) :: starEach es X.env) (hpl : (backTo pos (starEach es X.env)).any (·.1) = false) : DE X (.Call (.Name b.nm p) (e :: es) [] pos) (pureD b.f f) := by
  cases b with
  | len => exact de_callB call_len_seq p_len hg hm (by show bootBuiltins ("len" : Str) = some (.builtin "len"); boot_by_name) ha (by decide +kernel) (by decide +kernel) he hpl
  | abs => exact de_callB call_abs p_abs hg hm (by show bootBuiltins ("abs" : Str) = some (.builtin "abs"); boot_by_name) ha (by decide +kernel) (by decide +kernel) he hpl
  | int => exact de_callTy call_int1 p_int hg hm (by show bootBuiltins ("int" : Str) = some (.type "int"); boot_by_name) ha (by decide +kernel) (by decide +kernel) he hpl
  | max2 => exact de_callB (call_max2 hc) p_max2 hg hm (by show bootBuiltins ("max" : Str) = some (.builtin "max"); boot_by_name) ha (by decide +kernel) (by decide +kernel) he hpl
  | min2 => exact de_callB (call_min2 hc) p_min2 hg hm (by show bootBuiltins ("min" : Str) = some (.builtin "min"); boot_by_name) ha (by decide +kernel) (by decide +kernel) he hpl
  | any => exact de_callB (cr_any hc) p_any hg hm (by show bootBuiltins ("any" : Str) = some (.builtin "any"); boot_by_name) ha (by decide +kernel) (by decide +kernel) he hpl
  | all => exact de_callB (cr_all hc) p_all hg hm (by show bootBuiltins ("all" : Str) = some (.builtin "all"); boot_by_name) ha (by decide +kernel) (by decide +kernel) he hpl
  | sum => exact de_callB (cr_sum hc) p_sum hg hm (by show bootBuiltins ("sum" : Str) = some (.builtin "sum"); boot_by_name) ha (by decide +kernel) (by decide +kernel) he hpl
  | max => exact de_callB (cr_max hc) p_max hg hm (by show bootBuiltins ("max" : Str) = some (.builtin "max"); boot_by_name) ha (by decide +kernel) (by decide +kernel) he hpl
  | min => exact de_callB (cr_min hc) p_min hg hm (by show bootBuiltins ("min" : Str) = some (.builtin "min"); boot_by_name) ha (by decide +kernel) (by decide +kernel) he hpl
  | list => exact de_callTy call_list_of p_list hg hm (by show bootBuiltins ("list" : Str) = some (.type "list"); boot_by_name) ha (by decide +kernel) (by decide +kernel) he hpl
  | tuple => exact de_callTy call_tuple_of p_tuple hg hm (by show bootBuiltins ("tuple" : Str) = some (.type "tuple"); boot_by_name) ha (by decide +kernel) (by decide +kernel) he hpl
  | sorted => exact de_callB cr_sortedI p_sorted hg hm (by show bootBuiltins ("sorted" : Str) = some (.builtin "sorted"); boot_by_name) ha (by decide +kernel) (by decide +kernel) he hpl
end

/-! ### the words -/
mutual
inductive E where
  | var (i : Nat) | gl (x : Str) (d : D) | int (i : Int) | bl (b : Bool) | non | str (x : Str)
  | bin (o : Op) (a b : E) | cmp (o : Cm) (a b : E) | chain (o o' : Cm) (a b c : E) | neg (a : E)
  | ix (a b : E) | sl (a : E) (lo hi : P) | rev (a : E) | bi (b : Bi) (as : A) | isi (t : Ty) (a : E) | isc (c : Str) (a : E) | sset (a : E) | lset (a : E)
  | rg1 (t : Bool) (a : E) | rg2 (t : Bool) (a b : E) | tup (as : A) | lst (as : A) | dct0 | and (a b : E) | or (a b : E) | one (a : E) | not (a : E) | ife (c a b : E)
  | lc (s : S) (vs : List Nat) (t : Tg) (c : Cd) (e : E) | attr (c f : Str) (a : E)
  | call (x : Str) (g : FS) (as : A) | callH (x : Str) (g : FH) (i : Nat) (as : A) | make (x : Str) (g : FH) (as : A)
  | app (i : Nat) (a : E) | ext (i : Nat) (a : E) | pop (i : Nat) | popAt (i : Nat) (a : E)
inductive P where
  | no | so (a : E)
inductive A where
  | nil | cons (a : E) (as : A)
inductive S where
  | sq (a : E) | en (a : E) | zp (a b : E) | rng (as : A)
inductive Cd where
  | yes | so (c : E)
end
inductive T where
  | pass | brk | cnt | never | expr (e : E) | ret (e : E) | retN | ite (c : E) (a b : List T) | asg (i : Nat) (e : E) | par (is : List Nat) (as : A) | asgT (t : Tg) (e : E)
  | for_ (s : S) (t : Tg) (body : List T) | whl (c : E) (body : List T) | setI (i : Nat) (ix e : E) | setA (i : Nat) (c f : Str) (e : E)
def A.len : A → Nat
  | .nil => 0
  | .cons _ as => as.len + 1
def rngS : Nat → List D → Option Src
  | 1 => rngS1
  | 2 => rngS2
  | _ => rngS3
mutual
noncomputable def ev : E → DEnv → Res Dv
  | .var i => dVar i
  | .gl _ d => dCon d
  | .int i => dCon (.int i)
  | .bl b => dCon (.bl b)
  | .non => dCon .non
  | .str x => dCon (.str x)
  | .bin o a b => pureD o.f (dCons (ev a) (dCons (ev b) dNil))
  | .cmp o a b => pureD o.f (dCons (ev a) (dCons (ev b) dNil))
  | .chain o o' a b c => dChain o.f o'.f (ev a) (ev b) (ev c)
  | .neg a => pureD negD (dCons (ev a) dNil)
  | .ix a b => pureD ixD (dCons (ev a) (dCons (ev b) dNil))
  | .sl a lo hi => dSl (ev a) (evP lo) (evP hi)
  | .rev a => dRev (ev a)
  | .bi b as => pureD b.f (evB as)
  | .isi t a => pureD (isiD t.nm) (dCons (ev a) dNil)
  | .isc c a => pureD (iscD c) (dCons (ev a) dNil)
  | .sset a => pureD sortedSetD (dCons (ev a) dNil)
  | .lset a => pureD lenSetD (dCons (ev a) dNil)
  | .rg1 t a => pureD (rg1D t) (dCons (ev a) dNil)
  | .rg2 t a b => pureD (rg2D t) (dCons (ev a) (dCons (ev b) dNil))
  | .tup as => dTup (evA as)
  | .lst as => dLst (evA as)
  | .dct0 => dDct0
  | .and a b => dAnd (ev a) (ev b)
  | .or a b => dOr (ev a) (ev b)
  | .one a => ev a
  | .not a => dNot (ev a)
  | .ife c a b => dIfE (tst c) (ev a) (ev b)
  | .lc s vs t c e => dLC (evS false s) vs t (evC c) (dFrz (ev e))
  | .attr c f a => pureD (attrD c f) (dCons (ev a) dNil)
  | .call _ g as => dCall g (evA as)
  | .callH _ g i as => dCallH g i (evA as)
  | .make x g as => dMake x g (evA as)
  | .app i a => dApp i (dFrz (ev a))
  | .ext i a => dExt i (dFrz (ev a))
  | .pop i => dPop i
  | .popAt i a => dPopAt i (dFrz (ev a))
noncomputable def tst : E → DEnv → Res Bool
  | .and a b => dAndT (tst a) (tst b)
  | .or a b => dOrT (tst a) (tst b)
  | .one a => tst a
  | .not a => dNotT (tst a)
  | .var i => dTruth (dVar i)
  | .int i => dTruth (dCon (.int i))
  | .bl b => dTruth (dCon (.bl b))
  | .non => dTruth (dCon .non)
  | .str x => dTruth (dCon (.str x))
  | .bin o a b => dTruth (pureD o.f (dCons (ev a) (dCons (ev b) dNil)))
  | .cmp o a b => dTruth (pureD o.f (dCons (ev a) (dCons (ev b) dNil)))
  | .chain o o' a b c => dTruth (dChain o.f o'.f (ev a) (ev b) (ev c))
  | .ix a b => dTruth (pureD ixD (dCons (ev a) (dCons (ev b) dNil)))
  | .bi b as => dTruth (pureD b.f (evB as))
  | .isi t a => dTruth (pureD (isiD t.nm) (dCons (ev a) dNil))
  | .isc c a => dTruth (pureD (iscD c) (dCons (ev a) dNil))
  | .attr c f a => dTruth (pureD (attrD c f) (dCons (ev a) dNil))
  | .call _ g as => dTruth (dCall g (evA as))
  | .callH _ g i as => dTruth (dCallH g i (evA as))
  | _ => fun _ => .err .stuck
noncomputable def evP : P → DEnv → Res (Option Int)
  | .no => pNone
  | .so a => pSome (ev a)
noncomputable def evA : A → DEnv → Res (List D)
  | .nil => dNil
  | .cons a as => dCons (dFrz (ev a)) (evA as)
noncomputable def evB : A → DEnv → Res (List Dv)
  | .nil => dNil
  | .cons a as => dCons (ev a) (evB as)
noncomputable def evN : A → DEnv → Res (List Dv)
  | .nil => dNil
  | .cons a as => dCons (dUns (ev a)) (evN as)
noncomputable def evS : Bool → S → DEnv → Res Src
  | false, .sq a => sSeq (ev a)
  | true, .sq a => sSeq (dVal (dFrz (ev a)))
  | false, .en a => sEn (ev a)
  | true, .en a => sEn (dVal (dFrz (ev a)))
  | false, .zp a b => sZp (ev a) (ev b)
  | true, .zp a b => sZp (dVal (dFrz (ev a))) (dVal (dFrz (ev b)))
  | _, .rng as => sRng (rngS as.len) (evB as)
noncomputable def evC : Cd → DEnv → Res Bool
  | .yes => dYes
  | .so c => tst c
end
mutual
noncomputable def ex : T → DEnv → SR
  | .pass => dNext
  | .brk => dBreak
  | .cnt => dCont
  | .never => dStuck
  | .expr e => dExpr (ev e)
  | .ret e => dRet (ev e)
  | .retN => dRetN
  | .ite c a b => dIf (tst c) (exs a) (exs b)
  | .asg i e => dAsg i (ev e)
  | .par is as => dPar is (evN as)
  | .asgT t e => dAsgT t (ev e)
  | .for_ s t body => dFor (evS true s) t (exs body)
  | .whl c body => dWhile (tst c) (exs body)
  | .setI i ix e => dSetI i (dFrz (ev e)) (dFrz (ev ix))
  | .setA i c f e => dSetA i c f (dFrz (ev e))
noncomputable def exs : List T → DEnv → SR
  | [] => dNext
  | t :: ts => dSeq (ex t) (exs ts)
end
end DL


set_option Elab.async false
set_option linter.all false
set_option maxRecDepth 100000
set_option maxHeartbeats 4000000
/-! DL15: is a text the code that it is said to be? Small questions first. -/
namespace DL
open PySem PySem.Spec PyProof.Rows L2

def noStar : Expr → Bool
  | .Starred .. => false
  | _ => true
theorem star_cons {e : Expr} {es : List Expr} {env : Env} (h : noStar e = true) : starEach (e :: es) env = (false, eval e env) :: starEach es env := by
  cases e <;> first | rfl | cases h
theorem star_any {pos : Pos} {env : Env} : ∀ {es : List Expr}, es.all noStar = true → (backTo pos (starEach es env)).any (·.1) = false
  | [], _ => rfl
  | e :: es, h => by
    rw [List.all_cons, Bool.and_eq_true] at h
    rw [star_cons h.1]
    show ((false, _) :: backTo pos (starEach es env)).any (·.1) = false
    rw [List.any_cons, star_any h.2]
    rfl
def noSet : Expr → Bool
  | .Set .. => false
  | _ => true
theorem mark_no {op : CmpOp} {e : Expr} (h : noSet e = true) : behindInMarks op e = false := by
  cases e <;> first | rfl | cases h
theorem fold_no {e : Expr} {env : Env} (h : noSet e = true) (x : Value) : foldedSetIterable e env x = pure x := by
  cases e <;> first | rfl | cases h
def noCall : Expr → Bool
  | .Call .. => false
  | _ => true
theorem base_no {e : Expr} {f : Str} {env : Env} {m : Sem Value} (h : noCall e = true) : attributeBase e f env m = m := by
  cases e <;> first | rfl | cases h
def noSlice : Expr → Bool
  | .Slice .. => false
  | _ => true
theorem plain_ix {e : Expr} (h : noSlice e = true) : PlainIx e := by
  intro o i
  cases e <;> first | rfl | cases h
def plainT : Expr → Bool
  | .UnaryOp .Not _ _ => false
  | .BoolOp .. => false
  | .IfExp .. => false
  | .Compare .. => false
  | _ => true
theorem plain_true {e : Expr} {env : Env} (h : plainT e = true) (whole : Sem Value) : isTrue e env whole = (do let v ← whole; standAt e.pos; holding [v] (truthy v)) := by
  cases e with
  | UnaryOp op _ _ => cases op <;> first | rfl | cases h
  | _ => first | rfl | cases h
def noComp : Expr → Bool
  | .ListComp .. => false
  | .SetComp .. => false
  | .DictComp .. => false
  | _ => true
theorem swaps_no {e : Expr} {t : Option Expr} {l : Nat} {env : Env} (h : noComp e = true) : swapsWith e t l env = pure false := by
  cases e <;> first | rfl | cases h

/-! ### what is asked of an environment is asked of its scope -/
def envFor (sc : Scope) : Env := { scope := sc, locals := 0, globals := 0, cells := [] }
theorem swaps_env {e : Expr} {t : Option Expr} {l : Nat} {env : Env} : swapsWith e t l env = swapsWith e t l (envFor env.scope) := rfl
theorem stores_env {ts : List Expr} {e : Expr} {env : Env} : swappedStores ts e env = swappedStores ts e (envFor env.scope) := rfl
def isB (b : Bool) : Sem Bool → Bool
  | .pure c => c == b
  | _ => false
theorem isB_of {b : Bool} {m : Sem Bool} (h : isB b m = true) : m = pure b := by
  cases m <;> first | (simp only [isB] at h; rw [eq_of_beq h]; rfl) | cases h
def isN (o : Option (List Str)) : Sem (Option (List Str)) → Bool
  | .pure c => c == o
  | _ => false
theorem isN_of {o : Option (List Str)} {m : Sem (Option (List Str))} (h : isN o m = true) : m = pure o := by
  cases m <;> first | (simp only [isN] at h; rw [eq_of_beq h]; rfl) | cases h

/-! ### names -/
def visB (sc : Scope) (x : Str) : Bool := match sc.names.lookup x with
  | some .local => true
  | some .cell => true
  | some .free => true
  | _ => false
theorem vis_of {sc : Scope} {x : Str} (h : visB sc x = true) : Vis sc x := by
  unfold visB at h
  unfold Vis
  split at h <;> first | (rename_i e; rw [e]; simp) | cases h
def nameB (N : List Str) (sc : Scope) (i : Nat) (x : Str) : Bool := N[i]? == some x && visB sc x && !(x == ("__debug__" : Str)) && !(x == ("__classdict__" : Str))
def glB (sc : Scope) (x : Str) : Bool := sc.names.lookup x == some .globalImplicit
def putB (N : List Str) (sc : Scope) (cf : Str → Bool) (i : Nat) (x : Str) : Bool := N[i]? == some x && (sc.names.lookup x == some .local || (sc.names.lookup x == some .cell && cf x))
def putsB (N : List Str) (sc : Scope) (cf : Str → Bool) : List Nat → List Expr → Bool
  | [], [] => true
  | i :: is, .Name x _ :: es => putB N sc cf i x && putsB N sc cf is es
  | _, _ => false
def bnames : List Str := ["len", "abs", "int", "max", "min", "any", "all", "sum", "list", "tuple", "sorted", "isinstance", "range", "enumerate", "zip", "set", "bool", "str", "dict"]
/-- what holds at a place of the text -/
structure Sta (X : Cx) (N : List Str) (sc : Scope) (cf : Str → Bool) : Prop where
  hN : X.N = N
  hs : X.env.scope = sc
  nd : N.Nodup
  calm : X.calm = true
  fn : ∀ x, cf x = true → X.fn x = true
  un : X.A.units + 65 < cLine
  bn : ∀ x ∈ bnames, X.mg x = none
section
variable {X : Cx} {N : List Str} {sc : Scope} {cf : Str → Bool}
theorem Sta.name (s : Sta X N sc cf) {i : Nat} {x : Str} (h : nameB N sc i x = true) : NameOk X i x := by
  unfold nameB at h
  simp only [Bool.and_eq_true, Bool.not_eq_true'] at h
  obtain ⟨⟨⟨h1, h2⟩, h3⟩, h4⟩ := h
  exact ⟨by rw [s.hN]; exact eq_of_beq h1, by rw [s.hs]; exact vis_of h2, h3, h4⟩
theorem Sta.gl (s : Sta X N sc cf) {x : Str} (h : glB sc x = true) : Gl X x := by
  show X.env.scope.names.lookup x = _
  rw [s.hs]
  exact eq_of_beq h
theorem Sta.put (s : Sta X N sc cf) {i : Nat} {x : Str} (h : putB N sc cf i x = true) : NmOk X i x := by
  unfold putB at h
  simp only [Bool.and_eq_true, Bool.or_eq_true] at h
  obtain ⟨h1, h2⟩ := h
  unfold NmOk L2.Loc
  rw [s.hN, s.hs]
  rcases h2 with h2 | ⟨h2, h3⟩
  · exact ⟨eq_of_beq h1, .inl (eq_of_beq h2), .inr (eq_of_beq h2)⟩
  · exact ⟨eq_of_beq h1, .inr (eq_of_beq h2), .inl (s.fn x h3)⟩
theorem Sta.puts (s : Sta X N sc cf) : ∀ {is : List Nat} {es : List Expr}, putsB N sc cf is es = true → NmsOk X es is ∧ (assignEach es X.env).length = is.length ∧ (assignEach es X.env).findIdx? (·.1) = none
  | [], [], _ => ⟨.nil, rfl, rfl⟩
  | [], _ :: _, h => by simp [putsB] at h
  | _ :: _, [], h => by simp [putsB] at h
  | i :: is, e :: es, h => by
    cases e <;> try (simp [putsB] at h; done)
    rename_i x p
    simp only [putsB, Bool.and_eq_true] at h
    obtain ⟨a, b, c⟩ := s.puts h.2
    refine ⟨.cons (s.put h.1) a, ?_, ?_⟩
    · show (_ :: assignEach es X.env).length = _
      rw [List.length_cons, b, List.length_cons]
    · show ((false, _) :: assignEach es X.env).findIdx? (·.1) = none
      rw [List.findIdx?_cons]
      simp [c]
theorem Sta.nb (s : Sta X N sc cf) {x : Str} (h : bnames.contains x = true) : X.mg x = none := s.bn x (by simpa using h)

/-! ### a comprehension's block -/
def ownOf (N : List Str) (vs : List Nat) : List (Str × Nat) := vs.map fun i => (N.getD i Str.empty, i)
theorem own_snd {N : List Str} (vs : List Nat) : (ownOf N vs).map (·.2) = vs := by
  unfold ownOf
  rw [List.map_map]
  exact List.map_id _
def blkB (N : List Str) (sc scope : Scope) (vs : List Nat) : Bool :=
  decide (scope.kind = .function) && scope.names.all (fun y => scope.names.lookup y.1 == some y.2) && vs.all (fun i => decide (i < N.length)) &&
    scope.names.all (fun y => match y.2 with
      | .free => sc.names.lookup y.1 == some .cell || sc.names.lookup y.1 == some .free
      | .local => ((ownOf N vs).map (·.1)).contains y.1 || !N.contains y.1
      | .cell => ((ownOf N vs).map (·.1)).contains y.1 || !N.contains y.1
      | _ => true)
theorem blk_of {scope : Scope} {vs : List Nat} (h : blkB N sc scope vs = true) : BlkOk N sc scope (ownOf N vs) := by
  unfold blkB at h
  simp only [Bool.and_eq_true, decide_eq_true_eq, List.all_eq_true] at h
  obtain ⟨⟨⟨h1, h2⟩, h3⟩, h4⟩ := h
  refine ⟨h1, fun y hy => eq_of_beq (h2 y hy), fun p hp => ?_, fun y hy e => ?_, fun y hy e => ?_⟩
  · unfold ownOf at hp
    obtain ⟨i, hi, rfl⟩ := List.mem_map.mp hp
    have := h3 i hi
    show N[i]? = some (N.getD i Str.empty)
    rw [List.getD_eq_getElem?_getD, List.getElem?_eq_getElem this]
    rfl
  · have := h4 y hy
    rw [e] at this
    simp only [Bool.or_eq_true] at this
    exact this.imp eq_of_beq eq_of_beq
  · have := h4 y hy
    have this : (((ownOf N vs).map (·.1)).contains y.1 || !N.contains y.1) = true := by
      rcases e with e | e <;> (rw [e] at this; exact this)
    simp only [Bool.or_eq_true, Bool.not_eq_true'] at this
    rcases this with q | q
    · exact .inl (by simpa using q)
    · refine .inr fun z => ?_
      have : N.contains y.1 = true := by simpa using z
      rw [this] at q
      cases q
def cellsOf (scope : Scope) : Str → Bool := fun x => scope.names.lookup x == some .cell
theorem Sta.blk (s : Sta X N sc cf) {scope : Scope} (sh : Shared) (H : Hp) (C : Addr) (cl : List (Str × Addr)) (fp : List Addr) : Sta (X.blk sh H scope (compEnvC scope cl C X.env) fp) N (relS scope sc) (cellsOf scope) := by
  refine ⟨s.hN, ?_, s.nd, s.calm, fun x h => h, s.un, s.bn⟩
  show relabel scope X.env = _
  rw [← s.hs]
  rfl
end
def tgB (N : List Str) (sc : Scope) (cf : Str → Bool) : Tg → Expr → Bool
  | .nm i, .Name x _ => putB N sc cf i x
  | .tup is, .Tuple es _ _ => putsB N sc cf is es
  | _, _ => false
theorem tg_of {X : Cx} {N : List Str} {sc : Scope} {cf : Str → Bool} (s : Sta X N sc cf) {t : Tg} {e : Expr} (h : tgB N sc cf t e = true) : DG X e t := by
  cases t with
  | nm i =>
    cases e <;> try (cases h; done)
    exact dg_nm (by rw [s.hN]; exact s.nd) (s.put h)
  | tup is =>
    cases e <;> try (cases h; done)
    obtain ⟨a, b, c⟩ := s.puts h
    exact dg_tup s.calm (by rw [s.hN]; exact s.nd) a b c
end DL


set_option Elab.async false
set_option linter.all false
set_option maxRecDepth 100000
set_option maxHeartbeats 8000000
/-! DL16: is a text the code that it is said to be? Expressions. -/
namespace DL
open PySem PySem.Spec PyProof.Rows L2

/-- what code leans on -/
inductive Need where
  | fn (x : Str) (g : FS) (n : Nat) | fh (x : Str) (g : FH) (n : Nat) | mk (x : Str) (g : FH) (n : Nat) | at (c f : Str) | ic (c : Str) | gl (x : Str) (d : D)
def Need.Ok (X : Cx) : Need → Prop
  | .fn x g n => ∃ k f fd ps, FnOk X.prog X.w X.K X.mg X.base CX0 k f fd ps (spF X.K X.mg ps.length g) ∧ Room k X.A ∧ X.mg x = some (.ref f) ∧ PySem.W.keepIn X.K (.ref f) = true ∧ Binds X.K fd ps [] ∧ ps.length = n
  | .fh x g n => ∃ k f fd ps, FnOk X.prog X.w X.K X.mg X.base CX0 k f fd ps (spH X.K X.mg ps.length g) ∧ Room k X.A ∧ X.mg x = some (.ref f) ∧ PySem.W.keepIn X.K (.ref f) = true ∧ Binds X.K fd ps [] ∧ ps.length = n
  | .mk x g n => ∃ k C f fd ps, Mk X.K C f ∧ FnOk X.prog X.w X.K X.mg X.base CX0 k f fd ps (spH X.K X.mg ps.length g) ∧ Room (k + 1) X.A ∧ X.mg x = some (.ref C) ∧ Binds X.K fd ps [] ∧ ps.length = n
  | .at c f => AttrOk X c f
  | .ic c => IscOk X c
  | .gl x d => ∃ v u, X.mg x = some u ∧ RelV v u ∧ ∀ F, Dr X.K X.mg F v d
abbrev Oks (X : Cx) (l : List Need) : Prop := ∀ d ∈ l, d.Ok X
theorem oks_app {X : Cx} {a b : List Need} (h : Oks X (a ++ b)) : Oks X a ∧ Oks X b := ⟨fun d hd => h d (List.mem_append_left _ hd), fun d hd => h d (List.mem_append_right _ hd)⟩
theorem oks_cons {X : Cx} {a : Need} {b : List Need} (h : Oks X (a :: b)) : a.Ok X ∧ Oks X b := ⟨h a (by simp), fun d hd => h d (List.mem_cons_of_mem _ hd)⟩
mutual
def nE : E → List Need
  | .var _ => [] | .gl x d => [.gl x d] | .int _ => [] | .bl _ => [] | .non => [] | .str _ => []
  | .bin _ a b => nE a ++ nE b
  | .cmp _ a b => nE a ++ nE b
  | .chain _ _ a b c => nE a ++ (nE b ++ nE c)
  | .neg a => nE a
  | .ix a b => nE a ++ nE b
  | .sl a lo hi => nE a ++ (nP lo ++ nP hi)
  | .rev a => nE a
  | .bi _ as => nA as
  | .isi _ a => nE a
  | .isc c a => .ic c :: nE a
  | .sset a => nE a
  | .lset a => nE a
  | .rg1 _ a => nE a
  | .rg2 _ a b => nE a ++ nE b
  | .tup as => nA as
  | .lst as => nA as
  | .dct0 => []
  | .and a b => nE a ++ nE b
  | .or a b => nE a ++ nE b
  | .one a => nE a
  | .not a => nE a
  | .ife c a b => nE c ++ (nE a ++ nE b)
  | .lc s _ _ c e => nS s ++ (nC c ++ nE e)
  | .attr c f a => .at c f :: nE a
  | .call x g as => .fn x g as.len :: nA as
  | .callH x g _ as => .fh x g (as.len + 1) :: nA as
  | .make x g as => .mk x g (as.len + 1) :: nA as
  | .app _ a => nE a
  | .ext _ a => nE a
  | .pop _ => []
  | .popAt _ a => nE a
def nP : P → List Need
  | .no => []
  | .so a => nE a
def nA : A → List Need
  | .nil => []
  | .cons a as => nE a ++ nA as
def nS : S → List Need
  | .sq a => nE a
  | .en a => nE a
  | .zp a b => nE a ++ nE b
  | .rng as => nA as
def nC : Cd → List Need
  | .yes => []
  | .so c => nE c
end

/-- is it e? -/
abbrev Chk := Scope → (Str → Bool) → Expr → Bool
mutual
def cE (N : List Str) : E → Chk
  | .var i, sc, cf, e => match e with
    | .Name x _ => nameB N sc i x
    | _ => false
  | .gl h d, sc, cf, e => match e with
    | .Name x _ => x == h && glB sc x && !(x == ("__debug__" : Str))
    | _ => false
  | .int i, sc, cf, e => match e with
    | .Constant (.int j) _ _ => i == j
    | _ => false
  | .bl i, sc, cf, e => match e with
    | .Constant (.bool j) _ _ => i == j
    | _ => false
  | .non, sc, cf, e => match e with
    | .Constant .none _ _ => true
    | _ => false
  | .str i, sc, cf, e => match e with
    | .Constant (.str j) _ _ => i == j
    | _ => false
  | .bin o a b, sc, cf, e => match e with
    | .BinOp x p y _ => decide (p = o.ast) && cE N a sc cf x && cE N b sc cf y
    | _ => false
  | .cmp o a b, sc, cf, e => match e with
    | .Compare x [p] [y] _ => decide (p = o.ast) && cE N a sc cf x && cE N b sc cf y && noSet y
    | _ => false
  | .chain o o' a b c, sc, cf, e => match e with
    | .Compare x [p, q] [y, z] _ => decide (p = o.ast) && decide (q = o'.ast) && cE N a sc cf x && cE N b sc cf y && cE N c sc cf z && noSet z
    | _ => false
  | .neg a, sc, cf, e => match e with
    | .UnaryOp .USub x _ => cE N a sc cf x
    | _ => false
  | .ix a b, sc, cf, e => match e with
    | .Subscript x y _ => cE N a sc cf x && cE N b sc cf y && noSlice y
    | _ => false
  | .sl a lo hi, sc, cf, e => match e with
    | .Subscript x (.Slice l h none _) _ => cE N a sc cf x && cP N lo sc cf l && cP N hi sc cf h
    | _ => false
  | .rev a, sc, cf, e => match e with
    | .Subscript x (.Slice none none (some (.UnaryOp .USub (.Constant (.int 1) _ _) _)) _) _ => cE N a sc cf x
    | _ => false
  | .bi b as, sc, cf, e => match e with
    | .Call (.Name x _) (y :: ys) [] _ => x == b.nm && glB sc x && bnames.contains x && cA N as sc cf (y :: ys)
    | _ => false
  | .isi t a, sc, cf, e => match e with
    | .Call (.Name x _) [y, .Name z _] [] _ => x == ("isinstance" : Str) && glB sc x && z == t.nmS && glB sc z && bnames.contains z && cE N a sc cf y && noStar y
    | _ => false
  | .isc c a, sc, cf, e => match e with
    | .Call (.Name x _) [y, .Name z _] [] _ => x == ("isinstance" : Str) && glB sc x && z == c && glB sc z && !(z == ("__debug__" : Str)) && cE N a sc cf y && noStar y
    | _ => false
  | .sset a, sc, cf, e => match e with
    | .Call (.Name x _) [.Call (.Name z _) [y] [] _] [] _ => x == ("sorted" : Str) && glB sc x && z == ("set" : Str) && glB sc z && cE N a sc cf y && noStar y
    | _ => false
  | .lset a, sc, cf, e => match e with
    | .Call (.Name x _) [.Call (.Name z _) [y] [] _] [] _ => x == ("len" : Str) && glB sc x && z == ("set" : Str) && glB sc z && cE N a sc cf y && noStar y
    | _ => false
  | .rg1 t a, sc, cf, e => match e with
    | .Call (.Name x _) [.Call (.Name z _) [y] [] _] [] _ => x == cond t "tuple" "list" && glB sc x && z == ("range" : Str) && glB sc z && cE N a sc cf y && noStar y
    | _ => false
  | .rg2 t a b, sc, cf, e => match e with
    | .Call (.Name x _) [.Call (.Name z _) [y, y2] [] _] [] _ => x == cond t "tuple" "list" && glB sc x && z == ("range" : Str) && glB sc z && cE N a sc cf y && noStar y && cE N b sc cf y2 && noStar y2
    | _ => false
  | .tup as, sc, cf, e => match e with
    | .Tuple es _ _ => cA N as sc cf es
    | _ => false
  | .lst as, sc, cf, e => match e with
    | .List es _ => cA N as sc cf es
    | _ => false
  | .dct0, sc, cf, e => match e with
    | .Dict [] [] _ => true
    | _ => false
  | .and a b, sc, cf, e => match e with
    | .BoolOp .And (x :: y :: r) p => cE N a sc cf x && cE N b sc cf (.BoolOp .And (y :: r) p)
    | _ => false
  | .or a b, sc, cf, e => match e with
    | .BoolOp .Or (x :: y :: r) p => cE N a sc cf x && cE N b sc cf (.BoolOp .Or (y :: r) p)
    | _ => false
  | .one a, sc, cf, e => match e with
    | .BoolOp _ [x] _ => cE N a sc cf x
    | _ => false
  | .not a, sc, cf, e => match e with
    | .UnaryOp .Not x _ => cE N a sc cf x
    | _ => false
  | .ife c a b, sc, cf, e => match e with
    | .IfExp t x y _ => cT N c sc cf t && cE N a sc cf x && cE N b sc cf y
    | _ => false
  | .lc s vs t c a, sc, cf, e => match e with
    | .ListComp elt [⟨tg, iter, ifs, 0⟩] scope _ => blkB N sc scope vs && t.slots.all vs.contains && cS N s sc cf tg iter && noSet iter && tgB N (relS scope sc) (cellsOf scope) t tg && cC N c (relS scope sc) (cellsOf scope) ifs && cE N a (relS scope sc) (cellsOf scope) elt
    | _ => false
  | .attr c f a, sc, cf, e => match e with
    | .Attribute x g _ => g == f && cE N a sc cf x && noCall x
    | _ => false
  | .call h g as, sc, cf, e => match e with
    | .Call (.Name x _) (y :: ys) [] _ => x == h && glB sc x && !(x == ("__debug__" : Str)) && cA N as sc cf (y :: ys)
    | _ => false
  | .callH h g i as, sc, cf, e => match e with
    | .Call (.Name x _) (.Name y _ :: ys) [] _ => x == h && glB sc x && !(x == ("__debug__" : Str)) && nameB N sc i y && cA N as sc cf ys
    | _ => false
  | .make h g as, sc, cf, e => match e with
    | .Call (.Name x _) (y :: ys) [] _ => x == h && glB sc x && !(x == ("__debug__" : Str)) && cA N as sc cf (y :: ys)
    | _ => false
  | .app i a, sc, cf, e => match e with
    | .Call (.Attribute (.Name y _) m p) [x] [] q => m == ("append" : Str) && nameB N sc i y && cE N a sc cf x && noStar x && p.endLine == q.line
    | _ => false
  | .ext i a, sc, cf, e => match e with
    | .Call (.Attribute (.Name y _) m p) [x] [] q => m == ("extend" : Str) && nameB N sc i y && cE N a sc cf x && noStar x && p.endLine == q.line
    | _ => false
  | .pop i, sc, cf, e => match e with
    | .Call (.Attribute (.Name y _) m p) [] [] q => m == ("pop" : Str) && nameB N sc i y && p.endLine == q.line
    | _ => false
  | .popAt i a, sc, cf, e => match e with
    | .Call (.Attribute (.Name y _) m p) [x] [] q => m == ("pop" : Str) && nameB N sc i y && cE N a sc cf x && noStar x && p.endLine == q.line
    | _ => false
def cT (N : List Str) : E → Chk
  | .and a b, sc, cf, e => match e with
    | .BoolOp .And (x :: y :: r) p => cT N a sc cf x && cT N b sc cf (.BoolOp .And (y :: r) p)
    | _ => false
  | .or a b, sc, cf, e => match e with
    | .BoolOp .Or (x :: y :: r) p => cT N a sc cf x && cT N b sc cf (.BoolOp .Or (y :: r) p)
    | _ => false
  | .one a, sc, cf, e => match e with
    | .BoolOp _ [x] _ => cT N a sc cf x
    | _ => false
  | .not a, sc, cf, e => match e with
    | .UnaryOp .Not x _ => cT N a sc cf x
    | _ => false
  | .cmp o a b, sc, cf, e => match e with
    | .Compare x [p] [y] _ => decide (p = o.ast) && cE N a sc cf x && cE N b sc cf y && noSet y
    | _ => false
  | .chain o o' a b c, sc, cf, e => match e with
    | .Compare x [p, q] [y, z] _ => decide (p = o.ast) && decide (q = o'.ast) && cE N a sc cf x && cE N b sc cf y && cE N c sc cf z && noSet z
    | _ => false
  | .var i, sc, cf, e => match e with
    | .Name x _ => nameB N sc i x
    | _ => false
  | .bl i, sc, cf, e => match e with
    | .Constant (.bool j) _ _ => i == j
    | _ => false
  | .bin o a b, sc, cf, e => match e with
    | .BinOp x p y _ => decide (p = o.ast) && cE N a sc cf x && cE N b sc cf y
    | _ => false
  | .ix a b, sc, cf, e => match e with
    | .Subscript x y _ => cE N a sc cf x && cE N b sc cf y && noSlice y
    | _ => false
  | .bi b as, sc, cf, e => match e with
    | .Call (.Name x _) (y :: ys) [] _ => x == b.nm && glB sc x && bnames.contains x && cA N as sc cf (y :: ys)
    | _ => false
  | .isi t a, sc, cf, e => match e with
    | .Call (.Name x _) [y, .Name z _] [] _ => x == ("isinstance" : Str) && glB sc x && z == t.nmS && glB sc z && bnames.contains z && cE N a sc cf y && noStar y
    | _ => false
  | .isc c a, sc, cf, e => match e with
    | .Call (.Name x _) [y, .Name z _] [] _ => x == ("isinstance" : Str) && glB sc x && z == c && glB sc z && !(z == ("__debug__" : Str)) && cE N a sc cf y && noStar y
    | _ => false
  | .attr c f a, sc, cf, e => match e with
    | .Attribute x g _ => g == f && cE N a sc cf x && noCall x
    | _ => false
  | .call h g as, sc, cf, e => match e with
    | .Call (.Name x _) (y :: ys) [] _ => x == h && glB sc x && !(x == ("__debug__" : Str)) && cA N as sc cf (y :: ys)
    | _ => false
  | .callH h g i as, sc, cf, e => match e with
    | .Call (.Name x _) (.Name y _ :: ys) [] _ => x == h && glB sc x && !(x == ("__debug__" : Str)) && nameB N sc i y && cA N as sc cf ys
    | _ => false
  | _, _, _, _ => false
def cP (N : List Str) : P → Scope → (Str → Bool) → Option Expr → Bool
  | .no, sc, cf, e => match e with
    | none => true
    | some _ => false
  | .so a, sc, cf, e => match e with
    | none => false
    | some x => cE N a sc cf x
def cA (N : List Str) : A → Scope → (Str → Bool) → List Expr → Bool
  | .nil, sc, cf, e => match e with
    | [] => true
    | _ => false
  | .cons a as, sc, cf, e => match e with
    | x :: xs => noStar x && cE N a sc cf x && cA N as sc cf xs
    | [] => false
def cS (N : List Str) : S → Scope → (Str → Bool) → Expr → Expr → Bool
  | .sq a, sc, cf, tg, e => cE N a sc cf e
  | .en a, sc, cf, tg, e => match tg, e with
    | .Tuple _ _ _, .Call (.Name x _) [y] [] _ => x == ("enumerate" : Str) && glB sc x && cE N a sc cf y && noStar y
    | _, _ => false
  | .zp a b, sc, cf, tg, e => match tg, e with
    | .Tuple _ _ _, .Call (.Name x _) [y, z] [] _ => x == ("zip" : Str) && glB sc x && cE N a sc cf y && noStar y && cE N b sc cf z && noStar z
    | _, _ => false
  | .rng as, sc, cf, tg, e => match e with
    | .Call (.Name x _) (y :: ys) [] _ => x == ("range" : Str) && glB sc x && cA N as sc cf (y :: ys) && decide (as.len ≤ 3)
    | _ => false
def cC (N : List Str) : Cd → Scope → (Str → Bool) → List Expr → Bool
  | .yes, sc, cf, e => match e with
    | [] => true
    | _ => false
  | .so c, sc, cf, e => match e with
    | [x] => cT N c sc cf x
    | _ => false
end
end DL


set_option Elab.async false
set_option linter.all false
set_option maxRecDepth 100000
set_option maxHeartbeats 8000000
/-! DL17: a text that is said to be this code computes what the code computes. Expressions. -/
namespace DL
open PySem PySem.Spec PyProof.Rows L2

def SE (N : List Str) (e : E) : Prop := ∀ (X : Cx) (sc : Scope) (cf : Str → Bool) (x : Expr), Sta X N sc cf → Oks X (nE e) → cE N e sc cf x = true → DE X x (ev e)
def ST (N : List Str) (e : E) : Prop := ∀ (X : Cx) (sc : Scope) (cf : Str → Bool) (x : Expr), Sta X N sc cf → Oks X (nE e) → cT N e sc cf x = true → DT X x (tst e) ∧ ∀ op vs ps, x = .BoolOp op vs ps → DW X x (tst e)
def SP (N : List Str) (e : P) : Prop := ∀ (X : Cx) (sc : Scope) (cf : Str → Bool) (x : Option Expr), Sta X N sc cf → Oks X (nP e) → cP N e sc cf x = true → DP X x (evP e)
def SA (N : List Str) (e : A) : Prop := ∀ (X : Cx) (sc : Scope) (cf : Str → Bool) (x : List Expr), Sta X N sc cf → Oks X (nA e) → cA N e sc cf x = true → x.all noStar = true ∧ x.length = e.len ∧ DA X x (evA e) ∧ DB X x (evB e) ∧ DN X x (evN e)
def SS (N : List Str) (e : S) : Prop := ∀ (X : Cx) (sc : Scope) (cf : Str → Bool) (tg x : Expr) (fz : Bool), Sta X N sc cf → Oks X (nS e) → cS N e sc cf tg x = true → DI X tg x (evS fz e)
def SC (N : List Str) (e : Cd) : Prop := ∀ (X : Cx) (sc : Scope) (cf : Str → Bool) (x : List Expr), Sta X N sc cf → Oks X (nC e) → cC N e sc cf x = true → DTs X x (evC e)

theorem dCons_len {α : Type} {f : DEnv → Res α} {g : DEnv → Res (List α)} {n : Nat} (h : ∀ ρ ds ρ', g ρ = .ok ds ρ' → ds.length = n) : ∀ ρ ds ρ', dCons f g ρ = .ok ds ρ' → ds.length = n + 1 := by
  intro ρ ds ρ' e
  obtain ⟨x, ρ1, xs, e1, e2, rfl⟩ := dCons_inv e
  rw [List.length_cons, h _ _ _ e2]
theorem evA_len : ∀ (as : A) (ρ : DEnv) (ds : List D) (ρ' : DEnv), evA as ρ = .ok ds ρ' → ds.length = as.len
  | .nil => by
    intro ρ ds ρ' e
    simp only [evA, dNil] at e
    cases e
    rfl
  | .cons a as => by
    intro ρ ds ρ' e
    simp only [evA] at e
    exact dCons_len (evA_len as) ρ ds ρ' e
theorem Oks.blk {X : Cx} {l : List Need} (h : Oks X l) (sh : Shared) (H : Hp) (scope : Scope) (env : Env) (fp : List Addr) : Oks (X.blk sh H scope env fp) l := fun d hd => by
  have q := h d hd
  cases d with
  | fn x g n => exact q
  | fh x g n => exact q
  | mk x g n => exact q
  | «at» c f => exact q
  | gl x g => exact q
  | ic c =>
    obtain ⟨z⟩ := (show IscOk X c from q)
    exact ⟨z⟩
structure LcH (X : Cx) (N : List Str) (tg iter elt : Expr) (ifs : List Expr) (scope : Scope) (vs : List Nat) (src : DEnv → Res Src) (t : Tg) (cond : DEnv → Res Bool) (f : DEnv → Res D) : Prop where
  hi : DI X tg iter src
  ok : BlkOk X.N X.env.scope scope (ownOf N vs)
  hv : ∀ i ∈ t.slots, i ∈ (ownOf N vs).map (·.2)
  hg : ∀ (s : Shared) (H : Hp) (C : Addr) (cl : List (Str × Addr)) (fp : List Addr), DG (X.blk s H scope (compEnvC scope cl C X.env) fp) tg t
  ht : ∀ (s : Shared) (H : Hp) (C : Addr) (cl : List (Str × Addr)) (fp : List Addr), DTs (X.blk s H scope (compEnvC scope cl C X.env) fp) ifs cond
  he : ∀ (s : Shared) (H : Hp) (C : Addr) (cl : List (Str × Addr)) (fp : List Addr), DF (X.blk s H scope (compEnvC scope cl C X.env) fp) elt f
  hs : ∀ x, foldedSetIterable iter X.env x = pure x
theorem lc_hyps {N : List Str} {s : S} {vs : List Nat} {t : Tg} {c : Cd} {a : E} (iS : SS N s) (iC : SC N c) (iE : SE N a) {X : Cx} {sc : Scope} {cf : Str → Bool} {x : Expr} (st : Sta X N sc cf) (ok : Oks X (nE (.lc s vs t c a))) (h : cE N (.lc s vs t c a) sc cf x = true) :
    ∃ elt tg iter ifs scope pos, x = .ListComp elt [⟨tg, iter, ifs, 0⟩] scope pos ∧ LcH X N tg iter elt ifs scope vs (evS false s) t (evC c) (dFrz (ev a)) := by
  unfold cE at h
  split at h
  case h_2 => cases h
  rename_i elt tg iter ifs scope pos
  simp only [Bool.and_eq_true] at h
  obtain ⟨⟨⟨⟨⟨⟨h1, h2⟩, h3⟩, h4⟩, h5⟩, h6⟩, h7⟩ := h
  simp only [nE] at ok
  obtain ⟨o1, o2⟩ := oks_app ok
  obtain ⟨o2, o3⟩ := oks_app o2
  refine ⟨elt, tg, iter, ifs, scope, pos, rfl, ⟨iS X sc cf tg iter false st o1 h3, ?_, fun i hi => ?_, fun sh H C cl fp => tg_of (st.blk sh H C cl fp) h5, fun sh H C cl fp => ?_, fun sh H C cl fp => ?_, fold_no h4⟩⟩
  · rw [st.hN, st.hs]
    exact blk_of h1
  · rw [own_snd]
    have := List.all_eq_true.mp h2 i hi
    simpa using this
  · exact iC _ _ _ ifs (st.blk sh H C cl fp) (o2.blk _ _ _ _ _) h6
  · exact df_of (iE _ _ _ elt (st.blk sh H C cl fp) (o3.blk _ _ _ _ _) h7)
theorem plain_dt {N : List Str} {X : Cx} {x : Expr} {e : E} {f : DEnv → Res Dv} (h : DE X x f) (p : plainT x = true) (hf : tst e = dTruth f) : DT X x (tst e) ∧ ∀ op vs ps, x = .BoolOp op vs ps → DW X x (tst e) := by
  rw [hf]
  refine ⟨dt_truth h (plain_true p), fun op vs ps hx => ?_⟩
  subst hx
  cases p
theorem st_no {N : List Str} {e : E} (h : ∀ sc cf x, cT N e sc cf x = false) : ST N e := fun X sc cf x _ _ h' => by
  rw [h] at h'
  cases h'
mutual
theorem sE (N : List Str) : ∀ e : E, SE N e ∧ ST N e
  | .var i => by
    have hE : SE N (.var i) := fun X sc cf x st ok h => by
      unfold cE at h
      split at h
      case h_2 => cases h
      have n := st.name h
      exact de_var n.hN n.hv n.hd n.hcd
    refine ⟨hE, fun X sc cf x st ok h => plain_dt (N := N) (hE X sc cf x st ok h) ?_ (by rw [tst, ev])⟩
    unfold cT at h
    split at h
    · rfl
    · cases h
  | .gl y d => by
    refine ⟨fun X sc cf x st ok h => ?_, st_no fun _ _ _ => by unfold cT; rfl⟩
    unfold cE at h
    split at h
    case h_2 => cases h
    simp only [Bool.and_eq_true, Bool.not_eq_true'] at h
    obtain ⟨⟨h1, h2⟩, h3⟩ := h
    have hx := eq_of_beq h1
    subst hx
    have o1 : (Need.gl _ d).Ok X := ok _ (by rw [nE]; exact List.mem_singleton.mpr rfl)
    obtain ⟨v, u, k1, k2, k3⟩ := o1
    exact de_con (pe_glob (st.gl h2) k1 k2 h3) k3
  | .int i => by
    refine ⟨fun X sc cf x st ok h => ?_, st_no fun _ _ _ => by unfold cT; rfl⟩
    unfold cE at h
    split at h
    case h_2 => cases h
    rw [eq_of_beq h]
    exact de_int
  | .bl i => by
    have hE : SE N (.bl i) := fun X sc cf x st ok h => by
      unfold cE at h
      split at h
      case h_2 => cases h
      rw [eq_of_beq h]
      exact de_bl
    refine ⟨hE, fun X sc cf x st ok h => plain_dt (N := N) (hE X sc cf x st ok h) ?_ (by rw [tst, ev])⟩
    unfold cT at h
    split at h
    · rfl
    · cases h
  | .non => by
    refine ⟨fun X sc cf x st ok h => ?_, st_no fun _ _ _ => by unfold cT; rfl⟩
    unfold cE at h
    split at h
    case h_2 => cases h
    exact de_non
  | .str i => by
    refine ⟨fun X sc cf x st ok h => ?_, st_no fun _ _ _ => by unfold cT; rfl⟩
    unfold cE at h
    split at h
    case h_2 => cases h
    rw [eq_of_beq h]
    exact de_str
  | .bin o a b => by
    have ia := (sE N a).1
    have ib := (sE N b).1
    have hE : SE N (.bin o a b) := fun X sc cf x st ok h => by
      unfold cE at h
      split at h
      case h_2 => cases h
      simp only [Bool.and_eq_true, decide_eq_true_eq] at h
      obtain ⟨⟨rfl, h1⟩, h2⟩ := h
      simp only [nE] at ok
      obtain ⟨o1, o2⟩ := oks_app ok
      obtain ⟨r, k1, k2⟩ := o.ok (X := X)
      rw [ev]
      exact de_bin k1 k2 (ia X sc cf _ st o1 h1) (ib X sc cf _ st o2 h2)
    refine ⟨hE, fun X sc cf x st ok h => plain_dt (N := N) (hE X sc cf x st ok h) ?_ (by rw [tst, ev])⟩
    unfold cT at h
    split at h
    · rfl
    · cases h
  | .cmp o a b => by
    have ia := (sE N a).1
    have ib := (sE N b).1
    refine ⟨fun X sc cf x st ok h => ?_, fun X sc cf x st ok h => ?_⟩
    · unfold cE at h
      split at h
      case h_2 => cases h
      simp only [Bool.and_eq_true, decide_eq_true_eq] at h
      obtain ⟨⟨⟨rfl, h1⟩, h2⟩, h3⟩ := h
      simp only [nE] at ok
      obtain ⟨o1, o2⟩ := oks_app ok
      obtain ⟨r, k1, k2, k3⟩ := o.ok (X := X) st.un
      rw [ev]
      exact de_cmp k1 k2 (ia X sc cf _ st o1 h1) (ib X sc cf _ st o2 h2) (mark_no h3)
    · unfold cT at h
      split at h
      case h_2 => cases h
      simp only [Bool.and_eq_true, decide_eq_true_eq] at h
      obtain ⟨⟨⟨rfl, h1⟩, h2⟩, h3⟩ := h
      simp only [nE] at ok
      obtain ⟨o1, o2⟩ := oks_app ok
      obtain ⟨r, k1, k2, k3⟩ := o.ok (X := X) st.un
      rw [tst]
      exact ⟨dt_cmp k1 k2 k3 (ia X sc cf _ st o1 h1) (ib X sc cf _ st o2 h2) (mark_no h3), fun _ _ _ hx => by cases hx⟩
  | .chain o o' a b c => by
    have ia := (sE N a).1
    have ib := (sE N b).1
    have ic := (sE N c).1
    refine ⟨fun X sc cf x st ok h => ?_, fun X sc cf x st ok h => ?_⟩
    · unfold cE at h
      split at h
      case h_2 => cases h
      simp only [Bool.and_eq_true, decide_eq_true_eq] at h
      obtain ⟨⟨⟨⟨⟨rfl, rfl⟩, h1⟩, h2⟩, h3⟩, h4⟩ := h
      simp only [nE] at ok
      obtain ⟨o1, o2⟩ := oks_app ok
      obtain ⟨o2, o3⟩ := oks_app o2
      obtain ⟨r, k1, k2, k3⟩ := o.ok (X := X) st.un
      obtain ⟨r', k1', k2', k3'⟩ := o'.ok (X := X) st.un
      rw [ev]
      exact de_chain k1 k1' k2 k2' (ia X sc cf _ st o1 h1) (ib X sc cf _ st o2 h2) (ic X sc cf _ st o3 h3) (mark_no h4)
    · unfold cT at h
      split at h
      case h_2 => cases h
      simp only [Bool.and_eq_true, decide_eq_true_eq] at h
      obtain ⟨⟨⟨⟨⟨rfl, rfl⟩, h1⟩, h2⟩, h3⟩, h4⟩ := h
      simp only [nE] at ok
      obtain ⟨o1, o2⟩ := oks_app ok
      obtain ⟨o2, o3⟩ := oks_app o2
      obtain ⟨r, k1, k2, k3⟩ := o.ok (X := X) st.un
      obtain ⟨r', k1', k2', k3'⟩ := o'.ok (X := X) st.un
      rw [tst]
      exact ⟨dt_chain k1 k1' k2 k2' k3' (ia X sc cf _ st o1 h1) (ib X sc cf _ st o2 h2) (ic X sc cf _ st o3 h3) (mark_no h4), fun _ _ _ hx => by cases hx⟩
  | .neg a => by
    have ia := (sE N a).1
    refine ⟨fun X sc cf x st ok h => ?_, st_no fun _ _ _ => by unfold cT; rfl⟩
    unfold cE at h
    split at h
    case h_2 => cases h
    rw [ev]
    exact de_un un_neg p_neg (ia X sc cf _ st ok h)
  | .ix a b => by
    have ia := (sE N a).1
    have ib := (sE N b).1
    have hE : SE N (.ix a b) := fun X sc cf x st ok h => by
      unfold cE at h
      split at h
      case h_2 => cases h
      simp only [Bool.and_eq_true] at h
      obtain ⟨⟨h1, h2⟩, h3⟩ := h
      simp only [nE] at ok
      obtain ⟨o1, o2⟩ := oks_app ok
      rw [ev]
      exact de_ix ix_seq p_ix (ia X sc cf _ st o1 h1) (ib X sc cf _ st o2 h2) (plain_ix h3)
    refine ⟨hE, fun X sc cf x st ok h => plain_dt (N := N) (hE X sc cf x st ok h) ?_ (by rw [tst, ev])⟩
    unfold cT at h
    split at h
    · rfl
    · cases h
  | .sl a lo hi => by
    have ia := (sE N a).1
    have il := sP N lo
    have ih := sP N hi
    refine ⟨fun X sc cf x st ok h => ?_, st_no fun _ _ _ => by unfold cT; rfl⟩
    unfold cE at h
    split at h
    case h_2 => cases h
    simp only [Bool.and_eq_true] at h
    obtain ⟨⟨h1, h2⟩, h3⟩ := h
    simp only [nE] at ok
    obtain ⟨o1, o2⟩ := oks_app ok
    obtain ⟨o2, o3⟩ := oks_app o2
    rw [ev]
    exact de_slice (ia X sc cf _ st o1 h1) (il X sc cf _ st o2 h2) (ih X sc cf _ st o3 h3)
  | .rev a => by
    have ia := (sE N a).1
    refine ⟨fun X sc cf x st ok h => ?_, st_no fun _ _ _ => by unfold cT; rfl⟩
    unfold cE at h
    split at h
    case h_2 => cases h
    rw [ev]
    exact de_rev (ia X sc cf _ st ok h)
  | .bi b as => by
    have ia := sA N as
    have hE : SE N (.bi b as) := fun X sc cf x st ok h => by
      unfold cE at h
      split at h
      case h_2 => cases h
      simp only [Bool.and_eq_true] at h
      obtain ⟨⟨⟨h1, h2⟩, h3⟩, h4⟩ := h
      obtain ⟨k1, k2, k3, k4, k5⟩ := ia X sc cf _ st ok h4
      have hx := eq_of_beq h1
      subst hx
      rw [List.all_cons, Bool.and_eq_true] at k1
      rw [ev]
      exact b.call st.calm (st.gl h2) (st.nb h3) k4 (star_cons k1.1) (star_any k1.2)
    refine ⟨hE, fun X sc cf x st ok h => plain_dt (N := N) (hE X sc cf x st ok h) ?_ (by rw [tst, ev])⟩
    unfold cT at h
    split at h
    · rfl
    · cases h
  | .isi t a => by
    have ia := (sE N a).1
    have hE : SE N (.isi t a) := fun X sc cf x st ok h => by
      unfold cE at h
      split at h
      case h_2 => cases h
      simp only [Bool.and_eq_true] at h
      obtain ⟨⟨⟨⟨⟨⟨h1, h2⟩, h3⟩, h4⟩, h5⟩, h6⟩, h7⟩ := h
      have hx := eq_of_beq h1
      have hy := eq_of_beq h3
      subst hx hy
      rw [ev]
      exact de_isi (st.gl h2) (st.nb (by decide +kernel)) (by boot_by_name) (st.gl h4) (st.nb h5) t.boot (ia X sc cf _ st ok h6) (by decide +kernel) (by decide +kernel) (by cases t <;> decide +kernel) (by cases t <;> decide +kernel) (star_cons h7) rfl
    refine ⟨hE, fun X sc cf x st ok h => plain_dt (N := N) (hE X sc cf x st ok h) ?_ (by rw [tst, ev])⟩
    unfold cT at h
    split at h
    · rfl
    · cases h
  | .isc c a => by
    have ia := (sE N a).1
    have hE : SE N (.isc c a) := fun X sc cf x st ok h => by
      unfold cE at h
      split at h
      case h_2 => cases h
      simp only [Bool.and_eq_true, Bool.not_eq_true'] at h
      obtain ⟨⟨⟨⟨⟨⟨h1, h2⟩, h3⟩, h4⟩, h5⟩, h6⟩, h7⟩ := h
      have hx := eq_of_beq h1
      have hy := eq_of_beq h3
      subst hx hy
      obtain ⟨o1, o2⟩ := oks_cons (by simpa only [nE] using ok)
      rw [ev]
      exact de_isc (st.gl h2) (st.nb (by decide +kernel)) (by boot_by_name) (st.gl h4) o1 (ia X sc cf _ st o2 h6) (by decide +kernel) (by decide +kernel) h5 (star_cons h7) rfl
    refine ⟨hE, fun X sc cf x st ok h => plain_dt (N := N) (hE X sc cf x st ok h) ?_ (by rw [tst, ev])⟩
    unfold cT at h
    split at h
    · rfl
    · cases h
  | .sset a => by
    have ia := (sE N a).1
    refine ⟨fun X sc cf x st ok h => ?_, st_no fun _ _ _ => by unfold cT; rfl⟩
    unfold cE at h
    split at h
    case h_2 => cases h
    simp only [Bool.and_eq_true] at h
    obtain ⟨⟨⟨⟨⟨h1, h2⟩, h3⟩, h4⟩, h5⟩, h6⟩ := h
    have hx := eq_of_beq h1
    have hy := eq_of_beq h3
    subst hx hy
    rw [ev]
    exact de_sortedSet st.calm (st.gl h2) (st.nb (by decide +kernel)) (by boot_by_name) (st.gl h4) (st.nb (by decide +kernel)) (by boot_by_name) (ia X sc cf _ st ok h5) (by decide +kernel) (by decide +kernel) (by decide +kernel) (by decide +kernel) (star_cons h6)
  | .lset a => by
    have ia := (sE N a).1
    refine ⟨fun X sc cf x st ok h => ?_, st_no fun _ _ _ => by unfold cT; rfl⟩
    unfold cE at h
    split at h
    case h_2 => cases h
    simp only [Bool.and_eq_true] at h
    obtain ⟨⟨⟨⟨⟨h1, h2⟩, h3⟩, h4⟩, h5⟩, h6⟩ := h
    have hx := eq_of_beq h1
    have hy := eq_of_beq h3
    subst hx hy
    rw [ev]
    exact de_lenSet st.calm (st.gl h2) (st.nb (by decide +kernel)) (by boot_by_name) (st.gl h4) (st.nb (by decide +kernel)) (by boot_by_name) (ia X sc cf _ st ok h5) (by decide +kernel) (by decide +kernel) (by decide +kernel) (by decide +kernel) (star_cons h6)
  | .rg1 t a => by
    have ia := (sE N a).1
    refine ⟨fun X sc cf x st ok h => ?_, st_no fun _ _ _ => by unfold cT; rfl⟩
    unfold cE at h
    split at h
    case h_2 => cases h
    simp only [Bool.and_eq_true] at h
    obtain ⟨⟨⟨⟨⟨h1, h2⟩, h3⟩, h4⟩, h5⟩, h6⟩ := h
    have hy := eq_of_beq h3
    subst hy
    rename_i x _ _ _ _ _
    have hb : bnames.contains x = true := by rw [eq_of_beq h1]; cases t <;> decide +kernel
    rw [ev]
    exact de_rg1 (eq_of_beq h1) st.calm (st.gl h2) (st.nb hb) (st.gl h4) (st.nb (by decide +kernel)) (ia X sc cf _ st ok h5) (star_cons h6)
  | .rg2 t a b => by
    have ia := (sE N a).1
    have ib := (sE N b).1
    refine ⟨fun X sc cf x st ok h => ?_, st_no fun _ _ _ => by unfold cT; rfl⟩
    unfold cE at h
    split at h
    case h_2 => cases h
    simp only [Bool.and_eq_true] at h
    obtain ⟨⟨⟨⟨⟨⟨⟨h1, h2⟩, h3⟩, h4⟩, h5⟩, h6⟩, h7⟩, h8⟩ := h
    have hy := eq_of_beq h3
    subst hy
    simp only [nE] at ok
    obtain ⟨o1, o2⟩ := oks_app ok
    rename_i x _ _ _ _ _ _
    have hb : bnames.contains x = true := by rw [eq_of_beq h1]; cases t <;> decide +kernel
    rw [ev]
    exact de_rg2 (eq_of_beq h1) st.calm (st.gl h2) (st.nb hb) (st.gl h4) (st.nb (by decide +kernel)) (ia X sc cf _ st o1 h5) (ib X sc cf _ st o2 h7) (star_cons h6) (star_cons h8) (star_any (by rw [List.all_cons, h8]; rfl))
  | .tup as => by
    have ia := sA N as
    refine ⟨fun X sc cf x st ok h => ?_, st_no fun _ _ _ => by unfold cT; rfl⟩
    unfold cE at h
    split at h
    case h_2 => cases h
    rw [ev]
    exact de_tup (ia X sc cf _ st ok h).2.2.1
  | .lst as => by
    have ia := sA N as
    refine ⟨fun X sc cf x st ok h => ?_, st_no fun _ _ _ => by unfold cT; rfl⟩
    unfold cE at h
    split at h
    case h_2 => cases h
    rw [ev]
    exact de_lst (ia X sc cf _ st ok h).2.2.1
  | .dct0 => by
    refine ⟨fun X sc cf x st ok h => ?_, st_no fun _ _ _ => by unfold cT; rfl⟩
    unfold cE at h
    split at h
    case h_2 => cases h
    rw [ev]
    exact de_dct0
  | .and a b => by
    have ia := sE N a
    have ib := sE N b
    refine ⟨fun X sc cf x st ok h => ?_, fun X sc cf x st ok h => ?_⟩
    · unfold cE at h
      split at h
      case h_2 => cases h
      simp only [Bool.and_eq_true] at h
      simp only [nE] at ok
      obtain ⟨o1, o2⟩ := oks_app ok
      rw [ev]
      exact de_and (ia.1 X sc cf _ st o1 h.1) (ib.1 X sc cf _ st o2 h.2)
    · unfold cT at h
      split at h
      case h_2 => cases h
      simp only [Bool.and_eq_true] at h
      simp only [nE] at ok
      obtain ⟨o1, o2⟩ := oks_app ok
      rw [tst]
      have w := dw_and (ia.2 X sc cf _ st o1 h.1).1 ((ib.2 X sc cf _ st o2 h.2).2 _ _ _ rfl)
      exact ⟨w.dt, fun _ _ _ _ => w⟩
  | .or a b => by
    have ia := sE N a
    have ib := sE N b
    refine ⟨fun X sc cf x st ok h => ?_, fun X sc cf x st ok h => ?_⟩
    · unfold cE at h
      split at h
      case h_2 => cases h
      simp only [Bool.and_eq_true] at h
      simp only [nE] at ok
      obtain ⟨o1, o2⟩ := oks_app ok
      rw [ev]
      exact de_or (ia.1 X sc cf _ st o1 h.1) (ib.1 X sc cf _ st o2 h.2)
    · unfold cT at h
      split at h
      case h_2 => cases h
      simp only [Bool.and_eq_true] at h
      simp only [nE] at ok
      obtain ⟨o1, o2⟩ := oks_app ok
      rw [tst]
      have w := dw_or (ia.2 X sc cf _ st o1 h.1).1 ((ib.2 X sc cf _ st o2 h.2).2 _ _ _ rfl)
      exact ⟨w.dt, fun _ _ _ _ => w⟩
  | .one a => by
    have ia := sE N a
    refine ⟨fun X sc cf x st ok h => ?_, fun X sc cf x st ok h => ?_⟩
    · unfold cE at h
      split at h
      case h_2 => cases h
      rw [ev]
      exact de_one (ia.1 X sc cf _ st ok h)
    · unfold cT at h
      split at h
      case h_2 => cases h
      rename_i op y ps
      rw [tst]
      have q := (ia.2 X sc cf _ st ok h).1
      have w : DW X (.BoolOp op [y] ps) (tst a) := by
        cases op
        · exact dw_and1 q
        · exact dw_or1 q
      exact ⟨w.dt, fun _ _ _ _ => w⟩
  | .not a => by
    have ia := sE N a
    refine ⟨fun X sc cf x st ok h => ?_, fun X sc cf x st ok h => ?_⟩
    · unfold cE at h
      split at h
      case h_2 => cases h
      rw [ev]
      exact de_not (ia.1 X sc cf _ st ok h)
    · unfold cT at h
      split at h
      case h_2 => cases h
      rw [tst]
      exact ⟨dt_not (ia.2 X sc cf _ st ok h).1, fun _ _ _ hx => by cases hx⟩
  | .ife c a b => by
    have ic := (sE N c).2
    have ia := (sE N a).1
    have ib := (sE N b).1
    refine ⟨fun X sc cf x st ok h => ?_, st_no fun _ _ _ => by unfold cT; rfl⟩
    unfold cE at h
    split at h
    case h_2 => cases h
    simp only [Bool.and_eq_true] at h
    obtain ⟨⟨h1, h2⟩, h3⟩ := h
    simp only [nE] at ok
    obtain ⟨o1, o2⟩ := oks_app ok
    obtain ⟨o2, o3⟩ := oks_app o2
    rw [ev]
    exact de_ifE (ic X sc cf _ st o1 h1).1 (ia X sc cf _ st o2 h2) (ib X sc cf _ st o3 h3)
  | .lc s vs t c a => by
    have iS := sS N s
    have iC := sC N c
    have iE := (sE N a).1
    refine ⟨fun X sc cf x st ok h => ?_, st_no fun _ _ _ => by unfold cT; rfl⟩
    obtain ⟨elt, tg, iter, ifs, scope, pos, rfl, L⟩ := lc_hyps iS iC iE st ok h
    rw [ev]
    have q := de_lc (pos := pos) st.calm (by rw [st.hN]; exact st.nd) L.hi L.ok L.hv L.hg L.ht L.he L.hs
    rw [own_snd] at q
    exact q
  | .attr c f a => by
    have ia := (sE N a).1
    have hE : SE N (.attr c f a) := fun X sc cf x st ok h => by
      unfold cE at h
      split at h
      case h_2 => cases h
      simp only [Bool.and_eq_true] at h
      obtain ⟨⟨h1, h2⟩, h3⟩ := h
      have hx := eq_of_beq h1
      subst hx
      obtain ⟨o1, o2⟩ := oks_cons (by simpa only [nE] using ok)
      rw [ev]
      exact de_attr (ia X sc cf _ st o2 h2) (base_no h3) o1
    refine ⟨hE, fun X sc cf x st ok h => plain_dt (N := N) (hE X sc cf x st ok h) ?_ (by rw [tst, ev])⟩
    unfold cT at h
    split at h
    · rfl
    · cases h
  | .call y g as => by
    have ia := sA N as
    have hE : SE N (.call y g as) := fun X sc cf x st ok h => by
      unfold cE at h
      split at h
      case h_2 => cases h
      simp only [Bool.and_eq_true, Bool.not_eq_true'] at h
      obtain ⟨⟨⟨h1, h2⟩, h3⟩, h4⟩ := h
      have hx := eq_of_beq h1
      subst hx
      obtain ⟨o1, o2⟩ := oks_cons (by simpa only [nE] using ok)
      obtain ⟨k, f, fd, ps, G, hr, hm, hk, hb, hl⟩ := o1
      obtain ⟨k1, k2, k3, k4, k5⟩ := ia X sc cf _ st o2 h4
      rw [List.all_cons, Bool.and_eq_true] at k1
      rw [ev]
      exact de_call G hr (st.gl h2) hm hk hb k3 (fun ρ ds ρ' e => by rw [evA_len as ρ ds ρ' e, hl]) h3 (star_cons k1.1) (star_any k1.2)
    refine ⟨hE, fun X sc cf x st ok h => plain_dt (N := N) (hE X sc cf x st ok h) ?_ (by rw [tst, ev])⟩
    unfold cT at h
    split at h
    · rfl
    · cases h
  | .callH y g i as => by
    have ia := sA N as
    have hE : SE N (.callH y g i as) := fun X sc cf x st ok h => by
      unfold cE at h
      split at h
      case h_2 => cases h
      simp only [Bool.and_eq_true, Bool.not_eq_true'] at h
      obtain ⟨⟨⟨⟨h1, h2⟩, h3⟩, h5⟩, h4⟩ := h
      have hx := eq_of_beq h1
      subst hx
      obtain ⟨o1, o2⟩ := oks_cons (by simpa only [nE] using ok)
      obtain ⟨k, f, fd, ps, G, hr, hm, hk, hb, hl⟩ := o1
      obtain ⟨k1, k2, k3, k4, k5⟩ := ia X sc cf _ st o2 h4
      have n := st.name h5
      rw [ev]
      exact de_callH G hr (st.gl h2) hm hk hb n.hN n.hv n.hd n.hcd k3 (fun ρ ds ρ' e => by rw [evA_len as ρ ds ρ' e, hl]) h3 (star_cons rfl) (star_any k1)
    refine ⟨hE, fun X sc cf x st ok h => plain_dt (N := N) (hE X sc cf x st ok h) ?_ (by rw [tst, ev])⟩
    unfold cT at h
    split at h
    · rfl
    · cases h
  | .make y g as => by
    have ia := sA N as
    refine ⟨fun X sc cf x st ok h => ?_, st_no fun _ _ _ => by unfold cT; rfl⟩
    unfold cE at h
    split at h
    case h_2 => cases h
    simp only [Bool.and_eq_true, Bool.not_eq_true'] at h
    obtain ⟨⟨⟨h1, h2⟩, h3⟩, h4⟩ := h
    have hx := eq_of_beq h1
    subst hx
    obtain ⟨o1, o2⟩ := oks_cons (by simpa only [nE] using ok)
    obtain ⟨k, C, f, fd, ps, M, G, hr, hm, hb, hl⟩ := o1
    obtain ⟨k1, k2, k3, k4, k5⟩ := ia X sc cf _ st o2 h4
    rw [List.all_cons, Bool.and_eq_true] at k1
    rw [ev]
    exact de_make M G hr (st.gl h2) hm hb k3 (fun ρ ds ρ' e => by rw [evA_len as ρ ds ρ' e, hl]) h3 (star_cons k1.1) (star_any k1.2)
  | .app i a => by
    have ia := (sE N a).1
    refine ⟨fun X sc cf x st ok h => ?_, st_no fun _ _ _ => by unfold cT; rfl⟩
    unfold cE at h
    split at h
    case h_2 => cases h
    simp only [Bool.and_eq_true] at h
    obtain ⟨⟨⟨⟨h1, h2⟩, h3⟩, h4⟩, h5⟩ := h
    have hx := eq_of_beq h1
    subst hx
    rw [ev]
    exact de_app (st.name h2) ⟨base_no rfl, by rw [star_cons h4]; rfl, h5, star_cons h4, rfl⟩ (df_of (ia X sc cf _ st ok h3))
  | .ext i a => by
    have ia := (sE N a).1
    refine ⟨fun X sc cf x st ok h => ?_, st_no fun _ _ _ => by unfold cT; rfl⟩
    unfold cE at h
    split at h
    case h_2 => cases h
    simp only [Bool.and_eq_true] at h
    obtain ⟨⟨⟨⟨h1, h2⟩, h3⟩, h4⟩, h5⟩ := h
    have hx := eq_of_beq h1
    subst hx
    rw [ev]
    exact de_ext (st.name h2) ⟨base_no rfl, by rw [star_cons h4]; rfl, h5, star_cons h4, rfl⟩ (df_of (ia X sc cf _ st ok h3))
  | .pop i => by
    refine ⟨fun X sc cf x st ok h => ?_, st_no fun _ _ _ => by unfold cT; rfl⟩
    unfold cE at h
    split at h
    case h_2 => cases h
    simp only [Bool.and_eq_true] at h
    obtain ⟨⟨h1, h2⟩, h5⟩ := h
    have hx := eq_of_beq h1
    subst hx
    rw [ev]
    exact de_pop (st.name h2) (base_no rfl) h5
  | .popAt i a => by
    have ia := (sE N a).1
    refine ⟨fun X sc cf x st ok h => ?_, st_no fun _ _ _ => by unfold cT; rfl⟩
    unfold cE at h
    split at h
    case h_2 => cases h
    simp only [Bool.and_eq_true] at h
    obtain ⟨⟨⟨⟨h1, h2⟩, h3⟩, h4⟩, h5⟩ := h
    have hx := eq_of_beq h1
    subst hx
    rw [ev]
    exact de_popAt (st.name h2) ⟨base_no rfl, by rw [star_cons h4]; rfl, h5, star_cons h4, rfl⟩ (df_of (ia X sc cf _ st ok h3))
theorem sP (N : List Str) : ∀ e : P, SP N e
  | .no => fun X sc cf x st ok h => by
    unfold cP at h
    split at h
    case h_2 => cases h
    rw [evP]
    exact dp_none
  | .so a => by
    have ia := (sE N a).1
    refine fun X sc cf x st ok h => ?_
    unfold cP at h
    split at h
    case h_1 => cases h
    rw [evP]
    exact dp_some (ia X sc cf _ st ok h)
theorem sA (N : List Str) : ∀ e : A, SA N e
  | .nil => fun X sc cf x st ok h => by
    unfold cA at h
    split at h
    case h_2 => cases h
    rw [evA, evB, evN]
    exact ⟨rfl, rfl, da_nil, db_nil, dn_nil⟩
  | .cons a as => by
    have ia := (sE N a).1
    have is := sA N as
    refine fun X sc cf x st ok h => ?_
    unfold cA at h
    split at h
    case h_2 => cases h
    simp only [Bool.and_eq_true] at h
    obtain ⟨⟨h1, h2⟩, h3⟩ := h
    simp only [nA] at ok
    obtain ⟨o1, o2⟩ := oks_app ok
    obtain ⟨k1, k2, k3, k4, k5⟩ := is X sc cf _ st o2 h3
    have d := ia X sc cf _ st o1 h2
    rw [evA, evB, evN]
    exact ⟨by rw [List.all_cons, h1, k1]; rfl, by rw [List.length_cons, k2]; rfl, da_cons (df_of d) k3 (star_cons h1), db_cons d k4 (star_cons h1), dn_cons d k5 (star_cons h1)⟩
theorem sS (N : List Str) : ∀ e : S, SS N e
  | .sq a => by
    have ia := (sE N a).1
    refine fun X sc cf tg x fz st ok h => ?_
    unfold cS at h
    have d := ia X sc cf _ st ok h
    cases fz with
    | false => rw [evS]; exact di_seq d
    | true => rw [evS]; exact di_seq (de_val (df_of d))
  | .en a => by
    have ia := (sE N a).1
    refine fun X sc cf tg x fz st ok h => ?_
    unfold cS at h
    split at h
    case h_2 => cases h
    simp only [Bool.and_eq_true] at h
    obtain ⟨⟨⟨h1, h2⟩, h3⟩, h4⟩ := h
    have hx := eq_of_beq h1
    subst hx
    have d := ia X sc cf _ st ok h3
    cases fz with
    | false => rw [evS]; exact di_en (st.gl h2) (st.nb (by decide +kernel)) d (star_cons h4)
    | true => rw [evS]; exact di_en (st.gl h2) (st.nb (by decide +kernel)) (de_val (df_of d)) (star_cons h4)
  | .zp a b => by
    have ia := (sE N a).1
    have ib := (sE N b).1
    refine fun X sc cf tg x fz st ok h => ?_
    unfold cS at h
    split at h
    case h_2 => cases h
    simp only [Bool.and_eq_true] at h
    obtain ⟨⟨⟨⟨⟨h1, h2⟩, h3⟩, h4⟩, h5⟩, h6⟩ := h
    have hx := eq_of_beq h1
    subst hx
    simp only [nS] at ok
    obtain ⟨o1, o2⟩ := oks_app ok
    have d := ia X sc cf _ st o1 h3
    have d' := ib X sc cf _ st o2 h5
    cases fz with
    | false => rw [evS]; exact di_zp (st.gl h2) (st.nb (by decide +kernel)) d d' (star_cons h4) (star_cons h6)
    | true => rw [evS]; exact di_zp (st.gl h2) (st.nb (by decide +kernel)) (de_val (df_of d)) (de_val (df_of d')) (star_cons h4) (star_cons h6)
  | .rng as => by
    have ia := sA N as
    refine fun X sc cf tg x fz st ok h => ?_
    unfold cS at h
    split at h
    case h_2 => cases h
    simp only [Bool.and_eq_true, decide_eq_true_eq] at h
    obtain ⟨⟨⟨h1, h2⟩, h3⟩, h4⟩ := h
    have hx := eq_of_beq h1
    subst hx
    obtain ⟨k1, k2, k3, k4, k5⟩ := ia X sc cf _ st ok h3
    rename_i y ys pos
    have hm := st.nb (x := "range") (by decide +kernel)
    have e : evS fz (.rng as) = sRng (rngS as.len) (evB as) := by cases fz <;> rw [evS]
    rw [e]
    rw [List.all_cons, Bool.and_eq_true] at k1
    match ys, k1, k2, k4 with
    | [], k1, k2, k4 =>
      rw [← k2]
      exact di_rng1 (st.gl h2) hm k4 (star_cons k1.1)
    | [z], k1, k2, k4 =>
      rw [← k2]
      have k6 := k1.2
      rw [List.all_cons, Bool.and_eq_true] at k6
      exact di_rng2 (st.gl h2) hm k4 (by rw [star_cons k1.1, star_cons k6.1]; rfl) (star_cons k6.1)
    | [z, u], k1, k2, k4 =>
      rw [← k2]
      exact di_rng3 (st.gl h2) hm k4 (star_cons k1.1) (star_any k1.2)
    | _ :: _ :: _ :: _, k1, k2, k4 =>
      simp only [List.length_cons] at k2
      omega
theorem sC (N : List Str) : ∀ e : Cd, SC N e
  | .yes => fun X sc cf x st ok h => by
    unfold cC at h
    split at h
    case h_2 => cases h
    rw [evC]
    exact dts_nil
  | .so c => by
    have ic := (sE N c).2
    refine fun X sc cf x st ok h => ?_
    unfold cC at h
    split at h
    case h_2 => cases h
    rw [evC]
    exact dts_one (ic X sc cf _ st ok h).1
end
end DL


set_option Elab.async false
set_option linter.all false
set_option maxRecDepth 100000
set_option maxHeartbeats 8000000
/-! DL18: statements, defs. -/
namespace DL
open PySem PySem.Spec PyProof.Rows L2

mutual
def nT : T → List Need
  | .pass => [] | .brk => [] | .cnt => [] | .never => [] | .retN => []
  | .expr e => nE e
  | .ret e => nE e
  | .ite c a b => nE c ++ (nTs a ++ nTs b)
  | .asg _ e => nE e
  | .par _ as => nA as
  | .asgT _ e => nE e
  | .for_ s _ b => nS s ++ nTs b
  | .whl c b => nE c ++ nTs b
  | .setI _ i e => nE i ++ nE e
  | .setA _ c f e => .at c f :: nE e
def nTs : List T → List Need
  | [] => []
  | t :: ts => nT t ++ nTs ts
end
def lcSw (sc : Scope) (x : Expr) (y : Str) (py : Pos) (line : Nat) : Bool := isB true (swapsWith x (some (.Name y py)) line (envFor sc))
def isLc : E → Bool
  | .lc .. => true
  | _ => false
def nz (hz : Bool) (is : List Nat) : Bool := !hz || !is.contains 0
theorem nz_of {hz : Bool} {is : List Nat} (h : nz hz is = true) : hz = true → 0 ∉ is := by
  intro z
  subst z
  simpa [nz] using h
theorem nz1 {hz : Bool} {i : Nat} (h : nz hz [i] = true) : hz = true → i ≠ 0 := fun z e => nz_of h z (by simp [e])
mutual
def cX (N : List Str) (hz : Bool) (sc : Scope) (cf : Str → Bool) : T → Stmt → Bool
  | .pass, s => match s with
    | .Pass _ => true
    | _ => false
  | .brk, s => match s with
    | .Break _ => true
    | _ => false
  | .cnt, s => match s with
    | .Continue _ => true
    | _ => false
  | .never, _ => true
  | .expr e, s => match s with
    | .Expr x _ => noComp x && cE N e sc cf x
    | _ => false
  | .ret e, s => match s with
    | .Return (some x) _ => cE N e sc cf x
    | _ => false
  | .retN, s => match s with
    | .Return none _ => true
    | _ => false
  | .ite c a b, s => match s with
    | .If x y z _ => cT N c sc cf x && cXs N hz sc cf a y && cXs N hz sc cf b z
    | _ => false
  | .asg i e, s => match s with
    | .Assign [.Name y py] x pos => nz hz [i] && putB N sc cf i y && cE N e sc cf x && (isB false (swapsWith x (some (.Name y py)) pos.line (envFor sc)) || (isLc e && sc.names.lookup y == some .local && lcSw sc x y py pos.line))
    | _ => false
  | .par is as, s => match s with
    | .Assign [.Tuple ts k pt] (.Tuple es k2 pt2) _ => nz hz is && putsB N sc cf is ts && cA N as sc cf es && decide (as.len = is.length) && (isN none (swappedStores [.Tuple ts k pt] (.Tuple es k2 pt2) (envFor sc)) ||
      (match ts, is with
        | [.Name x _, .Name y _], [i, j] => sc.names.lookup x == some .local && sc.names.lookup y == some .local && i != j && isN (some [x, y]) (swappedStores [.Tuple ts k pt] (.Tuple es k2 pt2) (envFor sc))
        | [.Name x _, .Name y _, .Name z _], [i, j, l] => sc.names.lookup x == some .local && sc.names.lookup y == some .local && sc.names.lookup z == some .local && i != j && i != l && j != l && isN (some [x, y, z]) (swappedStores [.Tuple ts k pt] (.Tuple es k2 pt2) (envFor sc))
        | _, _ => false))
    | _ => false
  | .asgT t e, s => match s with
    | .Assign [tg] x pos => nz hz t.slots && tgB N sc cf t tg && cE N e sc cf x && isB false (swapsWith x (some tg) pos.line (envFor sc)) && isN none (swappedStores [tg] x (envFor sc)) && noStar tg
    | _ => false
  | .for_ s t b, st => match st with
    | .For tg it body [] _ => nz hz t.slots && cS N s sc cf tg it && tgB N sc cf t tg && noSet it && cXs N hz sc cf b body
    | _ => false
  | .whl c b, st => match st with
    | .While x body [] _ => cT N c sc cf x && cXs N hz sc cf b body
    | _ => false
  | .setI i ix e, st => match st with
    | .Assign [.Subscript (.Name y p') z tp] x pos => nameB N sc i y && cE N ix sc cf z && cE N e sc cf x && noSlice z && isB false (swapsWith x (some (.Subscript (.Name y p') z tp)) pos.line (envFor sc)) && isN none (swappedStores [.Subscript (.Name y p') z tp] x (envFor sc))
    | _ => false
  | .setA i c f e, st => match st with
    | .Assign [.Attribute (.Name y p') g ap] x pos => nameB N sc i y && g == f && cE N e sc cf x && isB false (swapsWith x (some (.Attribute (.Name y p') g ap)) pos.line (envFor sc))
    | _ => false
def cXs (N : List Str) (hz : Bool) (sc : Scope) (cf : Str → Bool) : List T → List Stmt → Bool
  | [], s => match s with
    | [] => true
    | _ => false
  | t :: ts, s => match s with
    | x :: xs => cX N hz sc cf t x && cXs N hz sc cf ts xs
    | [] => false
end
section
variable {X : Cx} {N : List Str} {sc : Scope} {cf : Str → Bool} {hz : Bool}
theorem lc_asg {e : E} {i : Nat} {y : Str} {py pos : Pos} {x : Expr} (st : Sta X N sc cf) (ok : Oks X (nE e)) (hl : isLc e = true) (h : cE N e sc cf x = true) (hy : X.N[i]? = some y) (hyl : sc.names.lookup y = some .local) (hsw : lcSw sc x y py pos.line = true) (h0 : hz = true → i ≠ 0) :
    DS X hz (.Assign [.Name y py] x pos) (dAsg i (ev e)) := by
  cases e <;> try (cases hl; done)
  rename_i s vs t c a
  obtain ⟨elt, tg, iter, ifs, scope, ps, rfl, L⟩ := lc_hyps (sS N s) (sC N c) (sE N a).1 st ok h
  rw [ev]
  have q := ds_asgLc (hz := hz) (i := i) (y := y) (py := py) (spos := pos) (pos := ps) st.calm (by rw [st.hN]; exact st.nd) hy (by rw [st.hs]; exact hyl) (by rw [swaps_env, st.hs]; exact isB_of hsw) h0 L.hi L.ok L.hv L.hg L.ht L.he L.hs
  rw [own_snd] at q
  exact q
mutual
theorem sX (st : Sta X N sc cf) (hp : PassesOwn (model X.prog X.w) X.A X.env X.xe) : ∀ (t : T) (s : Stmt), Oks X (nT t) → cX N hz sc cf t s = true → DS X hz s (ex t)
  | .pass, s, ok, h => by
    unfold cX at h
    split at h
    case h_2 => cases h
    rw [ex]
    exact ds_pass
  | .brk, s, ok, h => by
    unfold cX at h
    split at h
    case h_2 => cases h
    rw [ex]
    exact ds_break
  | .cnt, s, ok, h => by
    unfold cX at h
    split at h
    case h_2 => cases h
    rw [ex]
    exact ds_continue
  | .never, s, ok, h => by
    rw [ex]
    exact ds_never
  | .expr e, s, ok, h => by
    unfold cX at h
    split at h
    case h_2 => cases h
    simp only [Bool.and_eq_true] at h
    rw [ex]
    exact ds_expr ((sE N e).1 X sc cf _ st ok h.2) (swaps_no h.1)
  | .ret e, s, ok, h => by
    unfold cX at h
    split at h
    case h_2 => cases h
    rw [ex]
    exact ds_ret ((sE N e).1 X sc cf _ st ok h)
  | .retN, s, ok, h => by
    unfold cX at h
    split at h
    case h_2 => cases h
    rw [ex]
    exact ds_retN
  | .ite c a b, s, ok, h => by
    unfold cX at h
    split at h
    case h_2 => cases h
    simp only [Bool.and_eq_true] at h
    obtain ⟨⟨h1, h2⟩, h3⟩ := h
    simp only [nT] at ok
    obtain ⟨o1, o2⟩ := oks_app ok
    obtain ⟨o2, o3⟩ := oks_app o2
    rw [ex]
    exact ds_if ((sE N c).2 X sc cf _ st o1 h1).1 (sXs st hp a _ o2 h2) (sXs st hp b _ o3 h3)
  | .asg i e, s, ok, h => by
    unfold cX at h
    split at h
    case h_2 => cases h
    simp only [Bool.and_eq_true, Bool.or_eq_true] at h
    obtain ⟨⟨⟨h1, h2⟩, h3⟩, h4⟩ := h
    rw [ex]
    rcases h4 with h4 | ⟨⟨h5, h6⟩, h7⟩
    · exact ds_asg (by rw [st.hN]; exact st.nd) (st.put h2) (nz1 h1) ((sE N e).1 X sc cf _ st ok h3) (by rw [swaps_env, st.hs]; exact isB_of h4)
    · exact lc_asg st ok h5 h3 (st.put h2).1 (eq_of_beq h6) h7 (nz1 h1)
  | .par is as, s, ok, h => by
    unfold cX at h
    split at h
    case h_2 => cases h
    simp only [Bool.and_eq_true, Bool.or_eq_true, decide_eq_true_eq] at h
    obtain ⟨⟨⟨⟨h1, h2⟩, h3⟩, h4⟩, h5⟩ := h
    obtain ⟨p1, p2, p3⟩ := st.puts h2
    obtain ⟨k1, k2, k3, k4, k5⟩ := sA N as X sc cf _ st ok h3
    rw [ex]
    rcases h5 with h5 | h5
    · exact ds_parT st.calm (by rw [st.hN]; exact st.nd) p1 p2 p3 (nz_of h1) k5 (by rw [stores_env, st.hs]; exact isN_of h5)
    · rename_i ts k pt es k2' pt2 ps
      split at h5
      · rename_i x px y py i j
        simp only [Bool.and_eq_true, bne_iff_ne, ne_eq] at h5
        obtain ⟨⟨⟨q1, q2⟩, q3⟩, q4⟩ := h5
        simp only [putsB, Bool.and_eq_true] at h2
        have e2 : es.length = 2 := k2.trans h4
        match es, e2 with
        | [a, b], _ =>
          exact ds_par2 st.calm (by rw [st.hN]; exact st.nd) (st.put h2.1).1 (st.put h2.2.1).1 q3 (by rw [st.hs]; exact eq_of_beq q1) (by rw [st.hs]; exact eq_of_beq q2) (nz_of h1) k5 (by rw [stores_env, st.hs]; exact isN_of q4)
      · rename_i x px y py z pz i j l
        simp only [Bool.and_eq_true, bne_iff_ne, ne_eq] at h5
        obtain ⟨⟨⟨⟨⟨⟨q1, q2⟩, q5⟩, q3⟩, q6⟩, q7⟩, q4⟩ := h5
        simp only [putsB, Bool.and_eq_true] at h2
        have e2 : es.length = 3 := k2.trans h4
        match es, e2 with
        | [a, b, c], _ =>
          exact ds_par3 st.calm (by rw [st.hN]; exact st.nd) (st.put h2.1).1 (st.put h2.2.1).1 (st.put h2.2.2.1).1 q3 q6 q7 (by rw [st.hs]; exact eq_of_beq q1) (by rw [st.hs]; exact eq_of_beq q2) (by rw [st.hs]; exact eq_of_beq q5) (nz_of h1) k5 (by rw [stores_env, st.hs]; exact isN_of q4)
      · cases h5
  | .asgT t e, s, ok, h => by
    unfold cX at h
    split at h
    case h_2 => cases h
    simp only [Bool.and_eq_true] at h
    obtain ⟨⟨⟨⟨⟨h1, h2⟩, h3⟩, h4⟩, h5⟩, h6⟩ := h
    rename_i tg x pos
    rw [ex]
    refine ds_asgT (tg_of st h2) (nz_of h1) ((sE N e).1 X sc cf _ st ok h3) ?_ (by rw [stores_env, st.hs]; exact isN_of h5) ?_
    · show swapsWith x (some tg) pos.line X.env = pure false
      rw [swaps_env, st.hs]
      exact isB_of h4
    · cases tg <;> first | rfl | cases h6
  | .for_ s t b, x, ok, h => by
    unfold cX at h
    split at h
    case h_2 => cases h
    simp only [Bool.and_eq_true] at h
    obtain ⟨⟨⟨⟨h1, h2⟩, h3⟩, h4⟩, h5⟩ := h
    simp only [nT] at ok
    obtain ⟨o1, o2⟩ := oks_app ok
    rw [ex]
    exact ds_for hp st.calm (sS N s X sc cf _ _ true st o1 h2) (tg_of st h3) (nz_of h1) (sXs st hp b _ o2 h5) (fold_no h4)
  | .whl c b, x, ok, h => by
    unfold cX at h
    split at h
    case h_2 => cases h
    simp only [Bool.and_eq_true] at h
    simp only [nT] at ok
    obtain ⟨o1, o2⟩ := oks_app ok
    rw [ex]
    exact ds_while hp ((sE N c).2 X sc cf _ st o1 h.1).1 (sXs st hp b _ o2 h.2)
  | .setI i ix e, x, ok, h => by
    unfold cX at h
    split at h
    case h_2 => cases h
    simp only [Bool.and_eq_true] at h
    obtain ⟨⟨⟨⟨⟨h1, h2⟩, h3⟩, h4⟩, h5⟩, h6⟩ := h
    simp only [nT] at ok
    obtain ⟨o1, o2⟩ := oks_app ok
    rename_i y p' z tp v pos
    rw [ex]
    refine ds_setI (st.name h1) (df_of ((sE N e).1 X sc cf _ st o2 h3)) (df_of ((sE N ix).1 X sc cf _ st o1 h2)) (fun v => ?_) ?_ (by rw [stores_env, st.hs]; exact isN_of h6)
    · cases z <;> first | rfl | cases h4
    · show swapsWith v (some (.Subscript (.Name y p') z tp)) pos.line X.env = pure false
      rw [swaps_env, st.hs]
      exact isB_of h5
  | .setA i c f e, x, ok, h => by
    unfold cX at h
    split at h
    case h_2 => cases h
    simp only [Bool.and_eq_true] at h
    obtain ⟨⟨⟨h1, h2⟩, h3⟩, h4⟩ := h
    have hx := eq_of_beq h2
    subst hx
    obtain ⟨o1, o2⟩ := oks_cons (by simpa only [nT] using ok)
    rw [ex]
    exact ds_setA (st.name h1) o1 (df_of ((sE N e).1 X sc cf _ st o2 h3)) (by rw [swaps_env, st.hs]; exact isB_of h4)
theorem sXs (st : Sta X N sc cf) (hp : PassesOwn (model X.prog X.w) X.A X.env X.xe) : ∀ (t : List T) (s : List Stmt), Oks X (nTs t) → cXs N hz sc cf t s = true → DSs X hz s (exs t)
  | [], s, ok, h => by
    unfold cXs at h
    split at h
    case h_2 => cases h
    rw [exs]
    exact dss_nil
  | t :: ts, s, ok, h => by
    unfold cXs at h
    split at h
    case h_2 => cases h
    simp only [Bool.and_eq_true] at h
    simp only [nTs] at ok
    obtain ⟨o1, o2⟩ := oks_app ok
    rw [exs]
    exact dss_cons (sX st hp t _ o1 h.1) (sXs st hp ts _ o2 h.2)
end
end
end DL


set_option Elab.async false
set_option linter.all false
set_option maxRecDepth 100000
set_option maxHeartbeats 8000000
/-! DL19: a def whose text is this code keeps the code's promise. -/
namespace DL
open PySem PySem.Spec PyProof.Rows L2

def fin : SR → Except Exn R
  | .nx _ => .ok (.val .non)
  | .rt (.val d) _ => .ok (.val d)
  | .rt (.own o) _ => .ok (.own o)
  | .rt (.slot i) ρ => match ρ[i]? with
    | some (.own o) => .ok (.own o)
    | some (.val d) => .ok (.val d)
    | _ => .error .stuck
  | .err x => .error x
  | _ => .error .stuck
def finH : SR → Except Exn (R × Ob)
  | .nx ρ => match (ρ[0]? : Option Slot) with
    | some (Slot.own o) => .ok (.val .non, o)
    | _ => .error .stuck
  | .rt r ρ => match (ρ[0]? : Option Slot) with
    | some (Slot.own o) => (match r with
      | .val d => .ok (.val d, o)
      | .own q => .ok (.own q, o)
      | .slot 0 => .error .stuck
      | .slot (i + 1) => match ρ[i + 1]? with
        | some (.own q) => .ok (.own q, o)
        | some (.val d) => .ok (.val d, o)
        | _ => .error .stuck)
    | _ => .error .stuck
  | .err x => .error x
  | _ => .error .stuck
noncomputable def mkF (n m : Nat) (b : List T) : FS := fun ds => if ds.length = n then fin (exs b (ds.map Slot.val ++ List.replicate (m - n) Slot.non)) else .error .stuck
noncomputable def mkH (n m : Nat) (b : List T) : FH := fun o ds => if ds.length + 1 = n then finH (exs b (Slot.own o :: (ds.map Slot.val ++ List.replicate (m - n) Slot.non))) else .error .stuck

section
variable {P : Program} {w : World} {K : PySem.W.Frag} {mg : Str → Option Value} {base : Heap}
def Need.At (P : Program) (w : World) (K : PySem.W.Frag) (mg : Str → Option Value) (base : Heap) (k : Nat) : Need → Prop
  | .fn x g n => ∃ j f fd ps, j ≤ k ∧ FnOk P w K mg base CX0 j f fd ps (spF K mg ps.length g) ∧ mg x = some (.ref f) ∧ PySem.W.keepIn K (.ref f) = true ∧ Binds K fd ps [] ∧ ps.length = n
  | .fh x g n => ∃ j f fd ps, j ≤ k ∧ FnOk P w K mg base CX0 j f fd ps (spH K mg ps.length g) ∧ mg x = some (.ref f) ∧ PySem.W.keepIn K (.ref f) = true ∧ Binds K fd ps [] ∧ ps.length = n
  | .mk x g n => ∃ j C f fd ps, j + 1 ≤ k ∧ Mk K C f ∧ FnOk P w K mg base CX0 j f fd ps (spH K mg ps.length g) ∧ mg x = some (.ref C) ∧ Binds K fd ps [] ∧ ps.length = n
  | .at c f => ∀ C, mg c = some (.ref C) → Cls K C ∧ NoAttr K C f
  | .gl x d => ∃ v u, mg x = some u ∧ RelV v u ∧ ∀ F, Dr K mg F v d
  | .ic c => ∃ C, mg c = some (.ref C) ∧ Cls K C ∧ PySem.W.findIn K (.ref C) "__class__" = some (some (.builtin "object.__class__")) ∧ PySem.W.specialIn K (.builtin "object.__class__") "__get__" = some (some (.builtin "getset_descriptor.__get__")) ∧
    PySem.W.takesIn K (.builtin "object.__class__") = some true ∧ PySem.W.mroIn K C (.type "object") = some true ∧
    ∀ t ∈ ["NoneType", "bool", "int", "str", "list", "tuple", "dict"], PySem.W.kitOne K (.type t) (.ref C) = some false
theorem Need.up {d : Need} {j k : Nat} (h : j ≤ k) (q : d.At P w K mg base j) : d.At P w K mg base k := by
  cases d with
  | fn x g n => obtain ⟨i, f, fd, ps, hi, r⟩ := q; exact ⟨i, f, fd, ps, by omega, r⟩
  | fh x g n => obtain ⟨i, f, fd, ps, hi, r⟩ := q; exact ⟨i, f, fd, ps, by omega, r⟩
  | mk x g n => obtain ⟨i, C, f, fd, ps, hi, r⟩ := q; exact ⟨i, C, f, fd, ps, by omega, r⟩
  | «at» c f => exact q
  | ic c => exact q
  | gl x g => exact q
theorem Need.ok_of {X : Cx} {d : Need} {k : Nat} (hr : Room k X.A) (q : d.At X.prog X.w X.K X.mg X.base k) : d.Ok X := by
  cases d with
  | fn x g n => obtain ⟨i, f, fd, ps, hi, G, r⟩ := q; exact ⟨i, f, fd, ps, G, hr.mono hi, r⟩
  | fh x g n => obtain ⟨i, f, fd, ps, hi, G, r⟩ := q; exact ⟨i, f, fd, ps, G, hr.mono hi, r⟩
  | mk x g n => obtain ⟨i, C, f, fd, ps, hi, M, G, r⟩ := q; exact ⟨i, C, f, fd, ps, M, G, hr.mono hi, r⟩
  | «at» c f => exact q
  | ic c => exact ⟨q⟩
  | gl x g => exact q
theorem start_len {N : List Str} {vs : List V} (h : vs.length ≤ N.length) : (start N vs).length = N.length := by
  unfold L2.start
  rw [List.length_append, List.length_map, List.length_replicate]
  omega
theorem start_get {N : List Str} {vs : List V} {i : Nat} {v : V} (h : vs[i]? = some v) : (start N vs)[i]? = some (some v) := by
  have hl : i < vs.length := (List.getElem?_eq_some_iff.mp h).1
  unfold L2.start
  rw [List.getElem?_append_left (by rw [List.length_map]; exact hl), List.getElem?_map, h]
  rfl
theorem env_val {ds : List D} {n i : Nat} {s : Slot} (h : (ds.map Slot.val ++ List.replicate n Slot.non)[i]? = some s) : (∃ d, s = .val d ∧ ds[i]? = some d) ∨ s = .non := by
  by_cases hl : i < ds.length
  · rw [List.getElem?_append_left (by rw [List.length_map]; exact hl), List.getElem?_map, List.getElem?_eq_getElem hl] at h
    cases h
    exact .inl ⟨_, rfl, List.getElem?_eq_getElem hl⟩
  · rw [List.getElem?_append_right (by rw [List.length_map]; omega), List.getElem?_replicate] at h
    split at h
    · cases h; exact .inr rfl
    · cases h
theorem rel_start {N : List Str} {vs : List V} {ds : List D} {F H : Hp} (hs : Same F H) (ha : DrA K mg F vs ds) (hl : vs.length ≤ N.length) : Rel K mg F H (start N vs) (ds.map Slot.val ++ List.replicate (N.length - ds.length) Slot.non) := by
  have e := ha.length
  refine ⟨hs, ?_, fun i d h => ?_, fun i o h => ?_, fun i j o o' p h => ?_⟩
  · rw [start_len hl, List.length_append, List.length_map, List.length_replicate]
    omega
  · rcases env_val h with ⟨d', e1, e2⟩ | e1
    · cases e1
      obtain ⟨u, h1, h2⟩ := ha.get e2
      exact ⟨u, start_get h1, h2⟩
    · cases e1
  · rcases env_val h with ⟨d', e1, e2⟩ | e1 <;> cases e1
  · rcases env_val h with ⟨d', e1, e2⟩ | e1 <;> cases e1
theorem no_ch {σ : St} {ds : List D} {n : Nat} {p : Addr} : ¬ Ch σ (ds.map Slot.val ++ List.replicate n Slot.non) p := by
  rintro ⟨i, o, h, _⟩
  rcases env_val h with ⟨d', e1, e2⟩ | e1 <;> cases e1
theorem fs_ok {x qual : Str} {st : Stmt} {f : Addr} {fd : FuncData} {N ps : List Str} {b : List T} {k : Nat} (Fn : Fun K x qual st f fd) (S : FnScope N ps (defScope st)) (hl : ps.length ≤ N.length) (hc : cXs N false (defScope st) (fun _ => true) b (defBody st) = true) (bn : ∀ x ∈ bnames, mg x = none) (ok : ∀ d ∈ nTs b, d.At P w K mg base k) :
    FnOk P w K mg base CX0 (k + 1) f fd ps (spF K mg ps.length (mkF ps.length N.length b)) := by
  refine Fn.ok S (fun vs H Q E h => ?_) (fun cdv A outer s H vs Q E hr h => ?_)
  · obtain ⟨F, ds, z, hl, _⟩ := h
    exact hl
  · obtain ⟨F, ds, z, hv, hs, ha, hg, hq⟩ := h
    have hu : (cxOf CX0 P w K mg base N qual (defScope st) f cdv A outer s H E).A.units + 65 < cLine := by
      have := hr.un
      show (A.deeper (envOfC qual (defScope st) s.heap.objs.size f cdv)).units + 65 < cLine
      omega
    have sta : Sta (cxOf CX0 P w K mg base N qual (defScope st) f cdv A outer s H E).nox N (defScope st) (fun _ => true) := ⟨rfl, rfl, S.nd, rfl, fun _ _ => rfl, hu, bn⟩
    refine ⟨_, sXs (hz := false) sta PassesOwn.never b (defBody st) (fun d hd => Need.ok_of (X := (cxOf CX0 P w K mg base N qual (defScope st) f cdv A outer s H E).nox) hr (ok d hd)) hc, ?_⟩
    have hdl : ds.length = ps.length := by rw [← ha.length]; exact hv
    have e0 : (List.replicate (N.length - ps.length) Slot.non) = List.replicate (N.length - ds.length) Slot.non := by rw [hdl]
    have R0 := rel_start (N := N) hs ha (by omega)
    refine ⟨F, _, R0, ?_⟩
    unfold mkF at hg
    rw [if_pos hdl, e0] at hg
    have al : ∀ {σ' : St} {F' H' : Hp} {ρ' : DEnv}, Stp (start N vs) F H (ds.map Slot.val ++ List.replicate (N.length - ds.length) Slot.non) σ' F' H' ρ' → Rel K mg F' H' σ' ρ' → Al F H F' H' := fun {σ' F' H' ρ'} s R =>
      ⟨s.fle, fun p o h => s.keep p o h no_ch, fun p h => (s.new p h).elim .inl fun z => z.elim .inr fun z => absurd z no_ch, R.sub⟩
    cases er : exs b (ds.map Slot.val ++ List.replicate (N.length - ds.length) Slot.non) with
    | nx ρ' =>
      rw [er] at hg
      cases hg
      exact fun σ' F' H' s' _ R' => hq F' H' _ (al s' R') .non
    | bk ρ' => rw [er] at hg; cases hg
    | ct ρ' => rw [er] at hg; cases hg
    | err x => rw [er] at hg; cases hg
    | rt r ρ' =>
      rw [er] at hg
      intro σ' F' H' v s' _ R' dv fr
      refine hq F' H' v (al s' R') ?_
      cases r with
      | val d => cases hg; exact dv
      | own o =>
        cases hg
        obtain ⟨p, h, rfl, hp, fp, ro, _⟩ := dv
        obtain ⟨p', e, hn⟩ := fr
        cases e
        exact ⟨p, h, rfl, hn, hp, fp, ro⟩
      | slot i =>
        obtain ⟨e1, sl, h1, n⟩ := dv
        simp only [fin, h1] at hg
        cases sl with
        | non => cases hg
        | val d =>
          cases hg
          obtain ⟨u, e2, dr⟩ := R'.val i d h1
          rw [e1] at e2; cases e2
          exact dr
        | own o =>
          cases hg
          obtain ⟨p, h, e2, hp, fp, ro⟩ := R'.own i o h1
          rw [e1] at e2; cases e2
          exact ⟨p, h, rfl, (s'.chs p ⟨i, o, h1, e1⟩).elim (fun z => absurd z no_ch) id, hp, fp, ro⟩
theorem fh_ok {x qual : Str} {st : Stmt} {f : Addr} {fd : FuncData} {N ps : List Str} {b : List T} {k : Nat} (Fn : Fun K x qual st f fd) (S : FnScope N ps (defScope st)) (hl : ps.length ≤ N.length) (hc : cXs N true (defScope st) (fun _ => true) b (defBody st) = true) (bn : ∀ x ∈ bnames, mg x = none) (ok : ∀ d ∈ nTs b, d.At P w K mg base k) :
    FnOk P w K mg base CX0 (k + 1) f fd ps (spH K mg ps.length (mkH ps.length N.length b)) := by
  refine Fn.ok S (fun vs H Q E h => ?_) (fun cdv A outer s H vs Q E hr h => ?_)
  · obtain ⟨F, p, h, o, vs', ds, z, o', rfl, hl, _⟩ := h
    simpa using hl
  · obtain ⟨F, p, h, o, vs', ds, z, o', rfl, hv, hs, hp, fp, ro, ha, hg, hq⟩ := h
    have hu : (cxOf CX0 P w K mg base N qual (defScope st) f cdv A outer s H E).A.units + 65 < cLine := by
      have := hr.un
      show (A.deeper (envOfC qual (defScope st) s.heap.objs.size f cdv)).units + 65 < cLine
      omega
    have sta : Sta (cxOf CX0 P w K mg base N qual (defScope st) f cdv A outer s H E).nox N (defScope st) (fun _ => true) := ⟨rfl, rfl, S.nd, rfl, fun _ _ => rfl, hu, bn⟩
    refine ⟨_, sXs (hz := true) sta PassesOwn.never b (defBody st) (fun d hd => Need.ok_of (X := (cxOf CX0 P w K mg base N qual (defScope st) f cdv A outer s H E).nox) hr (ok d hd)) hc, ?_⟩
    have e := ha.length
    have hdl : ds.length + 1 = ps.length := by omega
    have hnl : vs'.length + 1 ≤ N.length := by omega
    generalize hρ : (Slot.own o :: (ds.map Slot.val ++ List.replicate (N.length - ps.length) Slot.non)) = ρ0
    have g0 : ρ0[0]? = some (Slot.own o) := by rw [← hρ]; rfl
    have s0 : (start N (V.ref p :: vs'))[0]? = some (some (.ref p)) := start_get rfl
    have gs : ∀ (i : Nat) (s : Slot), ρ0[i + 1]? = some s → (∃ d, s = .val d ∧ ds[i]? = some d) ∨ s = .non := fun i s hh => by
      rw [← hρ, List.getElem?_cons_succ] at hh
      exact env_val hh
    have own0 : ∀ (i : Nat) (o2 : Ob), ρ0[i]? = some (.own o2) → i = 0 ∧ o2 = o := fun i o2 hh => by
      cases i with
      | zero => rw [g0] at hh; cases hh; exact ⟨rfl, rfl⟩
      | succ i => rcases gs i _ hh with ⟨d, e1, _⟩ | e1 <;> cases e1
    have ch0 : ∀ q, Ch (start N (V.ref p :: vs')) ρ0 q → q = p := fun q c => by
      obtain ⟨i, o2, h1, h2⟩ := c
      obtain ⟨rfl, _⟩ := own0 i o2 h1
      rw [s0] at h2; cases h2
      rfl
    have R0 : Rel K mg F H (start N (V.ref p :: vs')) ρ0 := by
      refine ⟨hs, ?_, fun i d hh => ?_, fun i o2 hh => ?_, fun i j o1 o2 q h1 h2 _ _ => ?_⟩
      · rw [start_len (by simpa using hnl), ← hρ, List.length_cons, List.length_append, List.length_map, List.length_replicate]
        omega
      · cases i with
        | zero => rw [g0] at hh; cases hh
        | succ i =>
          rcases gs i _ hh with ⟨d', e1, e2⟩ | e1
          · cases e1
            obtain ⟨u, h1, h2⟩ := ha.get e2
            exact ⟨u, start_get (by simpa using h1), h2⟩
          · cases e1
      · obtain ⟨rfl, rfl⟩ := own0 i o2 hh
        exact ⟨p, h, s0, hp, fp, ro⟩
      · rw [(own0 i o1 h1).1, (own0 j o2 h2).1]
    refine ⟨F, ρ0, R0, ?_⟩
    unfold mkH at hg
    rw [if_pos hdl, hρ] at hg
    have al : ∀ {σ' : St} {F' H' : Hp} {ρ' : DEnv} {o2 : Ob}, Stp (start N (V.ref p :: vs')) F H ρ0 σ' F' H' ρ' → σ'[0]? = (start N (V.ref p :: vs'))[0]? → Rel K mg F' H' σ' ρ' → ρ'[0]? = some (.own o2) → AlP p F H F' H' ∧ ∃ h', H' p = some h' ∧ OR K mg F' h' o2 := fun {σ' F' H' ρ' o2} s z R hh => by
      obtain ⟨q, h', e1, hq, fq, rq⟩ := R.own 0 o2 hh
      rw [z, s0] at e1; cases e1
      refine ⟨⟨s.fle, fun q o3 h3 ne => s.keep q o3 h3 fun c => ne (ch0 q c), fun q h3 => ?_, R.sub⟩, h', hq, rq⟩
      rcases s.new q h3 with c | c | c
      · exact .inl c
      · exact .inr c
      · have := ch0 q c
        subst this
        exact absurd fq h3
    cases er : exs b ρ0 with
    | bk ρ' => rw [er] at hg; cases hg
    | ct ρ' => rw [er] at hg; cases hg
    | err x => rw [er] at hg; cases hg
    | nx ρ' =>
      rw [er] at hg
      simp only [finH] at hg
      split at hg
      · rename_i o2 ho2
        cases hg
        intro σ' F' H' s' z R'
        obtain ⟨a, h', h1, h2⟩ := al s' (z rfl) R' ho2
        exact hq F' H' _ h' a h1 h2 .non
      · cases hg
    | rt r ρ' =>
      rw [er] at hg
      simp only [finH] at hg
      split at hg
      case h_2 => cases hg
      rename_i o2 ho2
      intro σ' F' H' v s' z R' dv fr
      obtain ⟨a, h', h1, h2⟩ := al s' (z rfl) R' ho2
      cases r with
      | val d => cases hg; exact hq F' H' v h' a h1 h2 dv
      | own q =>
        cases hg
        obtain ⟨p1, h3, rfl, hp1, fp1, ro1, _⟩ := dv
        obtain ⟨p', e', hn⟩ := fr
        cases e'
        exact hq F' H' _ h' a h1 h2 ⟨p1, h3, rfl, hn, hp1, fp1, ro1⟩
      | slot i =>
        cases i with
        | zero => cases hg
        | succ i =>
          obtain ⟨e1, sl, h3, n⟩ := dv
          simp only [h3] at hg
          cases sl with
          | non => cases hg
          | val d =>
            cases hg
            obtain ⟨u, e2, dr⟩ := R'.val _ d h3
            rw [e1] at e2; cases e2
            exact hq F' H' v h' a h1 h2 dr
          | own q =>
            cases hg
            obtain ⟨p1, h4, e2, hp1, fp1, ro1⟩ := R'.own _ q h3
            rw [e1] at e2; cases e2
            refine hq F' H' _ h' a h1 h2 ⟨p1, h4, rfl, ?_, hp1, fp1, ro1⟩
            rcases s'.chs p1 ⟨_, q, h3, e1⟩ with c | c
            · have := ch0 p1 c
              subst this
              have z0 := z rfl
              rw [s0] at z0
              have := R'.apart _ _ _ _ p1 h3 ho2 e1 z0
              cases this
            · exact c
end
end DL


set_option Elab.async false
set_option linter.all false
set_option maxRecDepth 100000
set_option maxHeartbeats 8000000
/-! DL20: what the top has written; the law. -/
namespace DL
open PySem PySem.Spec PyProof.Rows L2

/-- a def of the text stands under its name -/
structure DefAt (K : PySem.W.Frag) (mg : Str → Option Value) (st : Stmt) (x : Str) (ps : List Str) : Prop where
  has : ∃ f fd, Fun K x x st f fd ∧ mg x = some (.ref f) ∧ ∀ us : List Value, us.length = ps.length → bindArgs fd ⟨us, []⟩ = pure (ps.zip us)
/-- a class of the text and its __init__ -/
structure ClsAt (K : PySem.W.Frag) (mg : Str → Option Value) (st : Stmt) (c qual : Str) (ps : List Str) : Prop where
  has : ∃ C f fd, Fun K "__init__" qual st f fd ∧ mg c = some (.ref C) ∧ Mk K C f ∧ Cls K C ∧ ∀ us : List Value, us.length = ps.length → bindArgs fd ⟨us, []⟩ = pure (ps.zip us)
section
variable {P : Program} {w : World} {K : PySem.W.Frag} {mg : Str → Option Value} {base : Heap}
theorem def_at {h : Heap} {st : Stmt} {x : Str} {ps : List Str} {f : Addr} {oc : Value} {od an : Option Addr} {osl : Array (Option Value)} {kV doc pm cdv ct : Value} (X : K.In h) (G : h.Ns mainGlobals mg) (a : PySem.W.nsIn K mainGlobals x = some (some (.ref f)))
    (l : K.lookup f = some ⟨oc, od, .func (PySem.W.fnOf x x (defArgs st) (defBody st) (defScope st) .none kV doc pm an cdv ct), osl⟩) (c : PySem.W.codeIn K cdv x = true) (k : PySem.W.keepIn K (.ref f) = true)
    (b : ∀ us : List Value, us.length = ps.length → bindArgs (PySem.W.fnOf x x (defArgs st) (defBody st) (defScope st) .none kV doc pm an cdv ct) ⟨us, []⟩ = pure (ps.zip us)) : DefAt K mg st x ps :=
  ⟨f, _, fun_mk l c k, PySem.W.mg_of X G a, b⟩
theorem cls_at {h : Heap} {st : Stmt} {x q : Str} {ps : List Str} {C f : Addr} {oc : Value} {od an : Option Addr} {osl : Array (Option Value)} {kV doc pm cdv ct : Value} (X : K.In h) (G : h.Ns mainGlobals mg) (a : PySem.W.nsIn K mainGlobals x = some (some (.ref C)))
    (i : PySem.W.findIn K (.ref C) "__init__" = some (some (.ref f))) (fn : PySem.W.isFn K (.ref f) = true)
    (l : K.lookup f = some ⟨oc, od, .func (PySem.W.fnOf "__init__" q (defArgs st) (defBody st) (defScope st) .none kV doc pm an cdv ct), osl⟩) (c : PySem.W.codeIn K cdv q = true) (k : PySem.W.keepIn K (.ref f) = true)
    (pg : PySem.W.plainGet K C Str.empty = true) (hd : PySem.W.hasDictIn K C = true) (po : PySem.W.plainOver K C = true) (sa : PySem.W.findIn K (.ref C) "__setattr__" = some (some (.builtin "object.__setattr__"))) (mk : PySem.W.makesIn K C = true) (kc : PySem.W.keepIn K (.ref C) = true)
    (b : ∀ us : List Value, us.length = ps.length → bindArgs (PySem.W.fnOf "__init__" q (defArgs st) (defBody st) (defScope st) .none kV doc pm an cdv ct) ⟨us, []⟩ = pure (ps.zip us)) : ClsAt K mg st x q ps :=
  ⟨C, f, _, fun_mk l c k, PySem.W.mg_of X G a, ⟨mk, i, fn, kc⟩, ⟨pg, hd, po, sa⟩, b⟩
theorem need_fn {st : Stmt} {x : Str} {ps : List Str} {g : FS} {j n : Nat} (d : DefAt K mg st x ps) (G : ∀ f fd, Fun K x x st f fd → FnOk P w K mg base CX0 j f fd ps (spF K mg ps.length g)) (hn : ps.length = n) {k : Nat} (h : j ≤ k) : (Need.fn x g n).At P w K mg base k := by
  obtain ⟨f, fd, F, m, b⟩ := d.has
  exact ⟨j, f, fd, ps, h, G f fd F, m, F.kp, .all b, hn⟩
theorem need_fh {st : Stmt} {x : Str} {ps : List Str} {g : FH} {j n : Nat} (d : DefAt K mg st x ps) (G : ∀ f fd, Fun K x x st f fd → FnOk P w K mg base CX0 j f fd ps (spH K mg ps.length g)) (hn : ps.length = n) {k : Nat} (h : j ≤ k) : (Need.fh x g n).At P w K mg base k := by
  obtain ⟨f, fd, F, m, b⟩ := d.has
  exact ⟨j, f, fd, ps, h, G f fd F, m, F.kp, .all b, hn⟩
theorem need_mk {st : Stmt} {x q : Str} {ps : List Str} {g : FH} {j n : Nat} (d : ClsAt K mg st x q ps) (G : ∀ f fd, Fun K "__init__" q st f fd → FnOk P w K mg base CX0 j f fd ps (spH K mg ps.length g)) (hn : ps.length = n) {k : Nat} (h : j + 1 ≤ k) : (Need.mk x g n).At P w K mg base k := by
  obtain ⟨C, f, fd, F, m, M, c, b⟩ := d.has
  exact ⟨j, C, f, fd, ps, h, M, G f fd F, m, .all b, hn⟩
/-- an attribute that no class has -/
def NoAt (K : PySem.W.Frag) (mg : Str → Option Value) (c f : Str) : Prop := ∀ C, mg c = some (.ref C) → NoAttr K C f
theorem no_at {h : Heap} {c f : Str} {C : Addr} (X : K.In h) (G : h.Ns mainGlobals mg) (a : PySem.W.nsIn K mainGlobals c = some (some (.ref C))) (i : PySem.W.findIn K (.ref C) f = some none) : NoAt K mg c f := fun C' e => by
  have := PySem.W.mg_of X G a
  rw [e] at this
  cases this
  exact i
theorem need_at {st : Stmt} {c f q : Str} {ps : List Str} {k : Nat} (d : ClsAt K mg st c q ps) (n : NoAt K mg c f) : (Need.at c f).At P w K mg base k := fun C' e => by
  obtain ⟨C, f, fd, F, m, M, cl, b⟩ := d.has
  rw [e] at m
  cases m
  exact ⟨cl, n _ e⟩
theorem gl_int {h : Heap} {x : Str} {i : Int} {t : Tok} (X : K.In h) (G : h.Ns mainGlobals mg) (a : PySem.W.nsIn K mainGlobals x = some (some (.int i t))) : ∃ v u, mg x = some u ∧ RelV v u ∧ ∀ F, Dr K mg F v (.int i) := ⟨.int i, _, PySem.W.mg_of X G a, ⟨t, rfl⟩, fun _ => .int i⟩
theorem gl_str {h : Heap} {x : Str} {i : Str} {t : Tok} (X : K.In h) (G : h.Ns mainGlobals mg) (a : PySem.W.nsIn K mainGlobals x = some (some (.str i t))) : ∃ v u, mg x = some u ∧ RelV v u ∧ ∀ F, Dr K mg F v (.str i) := ⟨.str i, _, PySem.W.mg_of X G a, ⟨t, rfl⟩, fun _ => .str i⟩
structure IcAt (K : PySem.W.Frag) (mg : Str → Option Value) (c : Str) : Prop where
  has : ∃ C, mg c = some (.ref C) ∧ PySem.W.findIn K (.ref C) "__class__" = some (some (.builtin "object.__class__")) ∧ PySem.W.specialIn K (.builtin "object.__class__") "__get__" = some (some (.builtin "getset_descriptor.__get__")) ∧
    PySem.W.takesIn K (.builtin "object.__class__") = some true ∧ PySem.W.mroIn K C (.type "object") = some true ∧
    ∀ t ∈ ["NoneType", "bool", "int", "str", "list", "tuple", "dict"], PySem.W.kitOne K (.type t) (.ref C) = some false
theorem ic_at {h : Heap} {c : Str} {C : Addr} (X : K.In h) (G : h.Ns mainGlobals mg) (a : PySem.W.nsIn K mainGlobals c = some (some (.ref C))) (h1 : PySem.W.findIn K (.ref C) "__class__" = some (some (.builtin "object.__class__"))) (h2 : PySem.W.specialIn K (.builtin "object.__class__") "__get__" = some (some (.builtin "getset_descriptor.__get__")))
    (h3 : PySem.W.takesIn K (.builtin "object.__class__") = some true) (h4 : PySem.W.mroIn K C (.type "object") = some true)
    (t1 : PySem.W.kitOne K (.type "NoneType") (.ref C) = some false) (t2 : PySem.W.kitOne K (.type "bool") (.ref C) = some false) (t3 : PySem.W.kitOne K (.type "int") (.ref C) = some false) (t4 : PySem.W.kitOne K (.type "str") (.ref C) = some false)
    (t5 : PySem.W.kitOne K (.type "list") (.ref C) = some false) (t6 : PySem.W.kitOne K (.type "tuple") (.ref C) = some false) (t7 : PySem.W.kitOne K (.type "dict") (.ref C) = some false) : IcAt K mg c := by
  refine ⟨C, PySem.W.mg_of X G a, h1, h2, h3, h4, fun t ht => ?_⟩
  simp only [List.mem_cons, List.not_mem_nil, or_false] at ht
  rcases ht with rfl | rfl | rfl | rfl | rfl | rfl | rfl
  · exact t1
  · exact t2
  · exact t3
  · exact t4
  · exact t5
  · exact t6
  · exact t7
theorem need_ic {st : Stmt} {c q : Str} {ps : List Str} {k : Nat} (d : ClsAt K mg st c q ps) (i : IcAt K mg c) : (Need.ic c).At P w K mg base k := by
  obtain ⟨C, f, fd, F, m, M, cl, b⟩ := d.has
  obtain ⟨C', m', h1, h2, h3, h4, h5⟩ := i.has
  rw [m] at m'
  cases m'
  exact ⟨C, m, cl, h1, h2, h3, h4, h5⟩
abbrev Ats (P : Program) (w : World) (K : PySem.W.Frag) (mg : Str → Option Value) (base : Heap) (k : Nat) (l : List Need) : Prop := ∀ d ∈ l, d.At P w K mg base k
theorem at_nil {k : Nat} : Ats P w K mg base k [] := fun d h => by simp at h
theorem at_cons {k : Nat} {d : Need} {l : List Need} (h : d.At P w K mg base k) (t : Ats P w K mg base k l) : Ats P w K mg base k (d :: l) := fun e he => by
  rcases List.mem_cons.mp he with rfl | he
  · exact h
  · exact t e he
theorem bn_of (h0 : mg "len" = none) (h1 : mg "abs" = none) (h2 : mg "int" = none) (h3 : mg "max" = none) (h4 : mg "min" = none) (h5 : mg "any" = none) (h6 : mg "all" = none) (h7 : mg "sum" = none) (h8 : mg "list" = none) (h9 : mg "tuple" = none) (h10 : mg "sorted" = none) (h11 : mg "isinstance" = none) (h12 : mg "range" = none)
    (h13 : mg "enumerate" = none) (h14 : mg "zip" = none) (h15 : mg "set" = none) (h16 : mg "bool" = none) (h17 : mg "str" = none) (h18 : mg "dict" = none) : ∀ x ∈ bnames, mg x = none := fun x hx => by
  simp only [bnames, List.mem_cons, List.not_mem_nil, or_false] at hx
  rcases hx with rfl | rfl | rfl | rfl | rfl | rfl | rfl | rfl | rfl | rfl | rfl | rfl | rfl | rfl | rfl | rfl | rfl | rfl | rfl <;> assumption
/-- law's promise -/
def spLaw (K : PySem.W.Frag) (m : Nat) : Sp := fun vs H Q _ => ∃ (a : Addr) (ns : List Int), vs = [.ref a] ∧ SqL K H a (ns.map V.int) ∧ ns.length ≤ m ∧ ∀ H', Q (.bl true) H'
theorem law_imp {g : FS} {m k : Nat} {f : Addr} {fd : FuncData} {ps : List Str} (hp : ps.length = 1) (hg : ∀ ns : List Int, ns.length ≤ m → g [.frz (ns.map D.int)] = .ok (.val (.bl true))) (G : FnOk P w K mg base CX0 k f fd ps (spF K mg ps.length g)) : FnOk P w K mg base CX0 k f fd ps (spLaw K m) :=
  G.imp fun vs H Q E h => by
    obtain ⟨a, ns, rfl, hS, hl, q⟩ := h
    refine ⟨H, [.frz (ns.map D.int)], _, by rw [hp]; rfl, .refl H, .cons (.frz hS (ints_drA ns)) .nil, hg ns hl, fun F' H' v al rr => ?_⟩
    cases rr
    exact q H'
end
theorem law_walk {l : PySem.W.OpenLaw} {q : Program} {loose : List Str} {XP : (Str → Option Value) → Heap → Prop} {YP : World → Heap → Prop} {d : DefRec} {K : Params → PySem.W.Frag} {st : Stmt} {g : FS} {m k : Nat} (hn : l.most = some m) (hm : m ≤ sizeLine) (hdf : d.params.defaults = []) (hr : Room k callerA)
    (hY : ∀ (w : World) (h : Heap), YP w h → (K w.params).In h) (hd : d.name = ("law" : Str)) (hg : ∀ ns : List Int, ns.length ≤ m → g [.frz (ns.map D.int)] = .ok (.val (.bl true)))
    (F : ∀ (w : World) (mg : Str → Option Value) (h : Heap), (K w.params).In h → h.Ns mainGlobals mg → DefAt (K w.params) mg st "law" ["script"] ∧ ∀ base f fd, Fun (K w.params) "law" "law" st f fd → FnOk l.prog w (K w.params) mg base CX0 k f fd ["script"] (spF (K w.params) mg 1 g)) :
    PySem.W.WalkO q loose XP YP l.row.toRowW d [] (fun f vs => PySem.call f vs) := by
  refine L2.walk_of (n := m) (k := k) (x := "script") (CX := fun _ => CX0) (sp := fun w => spLaw (K w.params) m) hn hm hdf hr hY (fun w mg fa h KX G hfa => ?_) (fun _ _ a ns hl _ hS => ⟨a, ns, rfl, hS, hl, fun _ => rfl⟩) fun _ _ _ _ _ z => z
  obtain ⟨D, ok⟩ := F w mg h KX G
  obtain ⟨f, fd, Fn, hm', hb⟩ := D.has
  rw [hd] at hfa
  rw [hm'] at hfa
  cases hfa
  exact ⟨fd, fun s v => .of_eq (hb [v] rfl), fun base _ _ => law_imp rfl hg (ok base _ _ Fn)⟩
end DL


set_option Elab.async false
set_option linter.all false
set_option maxRecDepth 100000
set_option maxHeartbeats 1000000
/-! DL21: to run code by simp. -/
namespace DL
open PySem PySem.Spec PyProof.Rows L2
theorem bind_congrS {α β : Type} {r r' : Res α} {f : α → DEnv → Res β} (h : r = r') : r.bind f = r'.bind f := by rw [h]
@[simp] theorem bind_okS {α β : Type} {a : α} {ρ : DEnv} {f : α → DEnv → Res β} : (Res.ok a ρ).bind f = f a ρ := by rfl
@[simp] theorem bind_errS {α β : Type} {x : Exn} {f : α → DEnv → Res β} : (Res.err x : Res α).bind f = .err x := by rfl
def isTy : Ty → D → Option Bool
  | _, .ins _ _ => none
  | .list, .frz _ => some true
  | .int, .int _ => some true
  | .int, .bl _ => some true
  | .bool, .bl _ => some true
  | .str, .str _ => some true
  | .list, .lst _ => some true
  | .tuple, .tup _ => some true
  | .dict, .dct _ => some true
  | _, _ => some false
theorem kit_pairs : ∀ t ∈ ["int", "bool", "str", "list", "tuple", "dict"], ∀ u ∈ ["NoneType", "bool", "int", "str", "list", "tuple", "dict"], kitB u t = some (u == t || (u == "bool" && t == "int")) := by
  decide +kernel
theorem isi_eq (t : Ty) (d : D) : isiD t.nm [d] = (isTy t d).map fun b => .val (.bl b) := by
  have h : ∀ u, u ∈ ["NoneType", "bool", "int", "str", "list", "tuple", "dict"] → kitB u t.nm = some (u == t.nm || (u == "bool" && t.nm == "int")) := fun u hu => kit_pairs t.nm (by cases t <;> decide) u hu
  cases d with
  | frz xs => show ((kitB "list" t.nm).map _ : Option R) = _; rw [h _ (by decide)]; cases t <;> rfl
  | ins c fs => cases t <;> rfl
  | non => show ((kitB "NoneType" t.nm).map _ : Option R) = _; rw [h _ (by decide)]; cases t <;> rfl
  | bl b => show ((kitB "bool" t.nm).map _ : Option R) = _; rw [h _ (by decide)]; cases t <;> rfl
  | int b => show ((kitB "int" t.nm).map _ : Option R) = _; rw [h _ (by decide)]; cases t <;> rfl
  | str b => show ((kitB "str" t.nm).map _ : Option R) = _; rw [h _ (by decide)]; cases t <;> rfl
  | lst b => show ((kitB "list" t.nm).map _ : Option R) = _; rw [h _ (by decide)]; cases t <;> rfl
  | tup b => show ((kitB "tuple" t.nm).map _ : Option R) = _; rw [h _ (by decide)]; cases t <;> rfl
  | dct b => show ((kitB "dict" t.nm).map _ : Option R) = _; rw [h _ (by decide)]; cases t <;> rfl
end DL
namespace DL
open PySem PySem.Spec PyProof.Rows L2
/-! ### expressions at an environment -/
def opEnd (o : List D → Option R) (rs : List Dv) (ρ : DEnv) : Res Dv := match (datA ρ rs).bind o with
  | some z => .ok z.dv ρ
  | none => .err .stuck
def tEnd (r : Dv) (ρ : DEnv) : Res Bool := match (r.dat ρ).bind D.truth with
  | some k => .ok k ρ
  | none => .err .stuck
theorem opEnd_some {o : List D → Option R} {rs : List Dv} {ρ : DEnv} {ds : List D} {z : R} (h : datA ρ rs = some ds) (hz : o ds = some z) : opEnd o rs ρ = .ok z.dv ρ := by
  unfold opEnd
  rw [h]
  show (match o ds with | some z => Res.ok z.dv ρ | none => .err .stuck) = _
  rw [hz]
theorem datA_nil {ρ : DEnv} : datA ρ [] = some [] := by rfl
theorem datA_val {ρ : DEnv} {d : D} {rs : List Dv} : datA ρ (.val d :: rs) = (datA ρ rs).map (d :: ·) := by
  show (match some d, datA ρ rs with | some d, some ds => some (d :: ds) | _, _ => none) = _
  cases datA ρ rs <;> rfl
theorem datA_own {ρ : DEnv} {o : Ob} {rs : List Dv} : datA ρ (.own o :: rs) = (datA ρ rs).map (o.d :: ·) := by
  show (match some o.d, datA ρ rs with | some d, some ds => some (d :: ds) | _, _ => none) = _
  cases datA ρ rs <;> rfl
def slotD : Option Slot → Option D
  | some (.val d) => some d
  | some (.own o) => some o.d
  | _ => none
theorem dat_slot {ρ : DEnv} {i : Nat} : Dv.dat ρ (.slot i) = slotD ρ[i]? := by
  show (match ρ[i]? with | some (.val d) => some d | some (.own o) => some o.d | _ => none) = _
  cases ρ[i]? with
  | none => rfl
  | some s => cases s <;> rfl
theorem dat_val {ρ : DEnv} {d : D} : Dv.dat ρ (.val d) = some d := by rfl
theorem dat_own {ρ : DEnv} {d : Ob} : Dv.dat ρ (.own d) = some d.d := by rfl
theorem datA_slot {ρ : DEnv} {i : Nat} {rs : List Dv} : datA ρ (.slot i :: rs) = (slotD ρ[i]?).bind fun d => (datA ρ rs).map (d :: ·) := by
  rw [← dat_slot]
  show (match Dv.dat ρ (.slot i), datA ρ rs with | some d, some ds => some (d :: ds) | _, _ => none) = _
  cases Dv.dat ρ (.slot i) <;> cases datA ρ rs <;> rfl
theorem slotD_val {d : D} : slotD (some (.val d)) = some d := by rfl
theorem slotD_own {o : Ob} : slotD (some (.own o)) = some o.d := by rfl
theorem obd_lst {xs : List D} : (Ob.lst xs).d = .lst xs := by rfl
theorem obd_ins {c : Str} {fs : List (Str × D)} : (Ob.ins c fs).d = .ins c fs := by rfl
theorem obd_dct {fs : List (Key × D)} : (Ob.dct fs).d = .dct fs := by rfl
theorem dv_val {d : D} : (R.val d).dv = .val d := by rfl
theorem dv_own {d : Ob} : (R.own d).dv = .own d := by rfl
def varE (i : Nat) (s : Option Slot) (ρ : DEnv) : Res Dv := match s with
  | some (.val d) => .ok (.val d) ρ
  | some (.own _) => .ok (.slot i) ρ
  | _ => .err .stuck
theorem varE_val {i : Nat} {d : D} {ρ : DEnv} : varE i (some (.val d)) ρ = .ok (.val d) ρ := by rfl
theorem varE_own {i : Nat} {d : Ob} {ρ : DEnv} : varE i (some (.own d)) ρ = .ok (.slot i) ρ := by rfl
theorem ev_var {i : Nat} {ρ : DEnv} : ev (.var i) ρ = varE i ρ[i]? ρ := by
  rw [ev]
  unfold dVar varE
  cases ρ[i]? with
  | none => rfl
  | some s => cases s <;> rfl
theorem ev_gl {x : Str} {d : D} {ρ : DEnv} : ev (.gl x d) ρ = .ok (.val d) ρ := by rw [ev]; rfl
theorem ev_int {i : Int} {ρ : DEnv} : ev (.int i) ρ = .ok (.val (.int i)) ρ := by rw [ev]; rfl
theorem ev_bl {i : Bool} {ρ : DEnv} : ev (.bl i) ρ = .ok (.val (.bl i)) ρ := by rw [ev]; rfl
theorem ev_non {ρ : DEnv} : ev .non ρ = .ok (.val .non) ρ := by rw [ev]; rfl
theorem ev_str {i : Str} {ρ : DEnv} : ev (.str i) ρ = .ok (.val (.str i)) ρ := by rw [ev]; rfl
theorem two_end {o : List D → Option R} {f g : DEnv → Res Dv} {ρ : DEnv} : pureD o (dCons f (dCons g dNil)) ρ = (f ρ).bind fun x ρ1 => (g ρ1).bind fun y ρ2 => opEnd o [x, y] ρ2 := by
  unfold pureD dCons dNil
  cases f ρ with
  | err x => rfl
  | ok a ρ1 =>
    simp only [bind_okS]
    cases g ρ1 with
    | err x => rfl
    | ok b ρ2 => rfl
theorem one_end {o : List D → Option R} {f : DEnv → Res Dv} {ρ : DEnv} : pureD o (dCons f dNil) ρ = (f ρ).bind fun x ρ1 => opEnd o [x] ρ1 := by
  unfold pureD dCons dNil
  cases f ρ with
  | err x => rfl
  | ok a ρ1 => rfl
theorem ev_bin {o : Op} {a b : E} {ρ : DEnv} : ev (.bin o a b) ρ = (ev a ρ).bind fun x ρ1 => (ev b ρ1).bind fun y ρ2 => opEnd o.f [x, y] ρ2 := by rw [ev]; exact two_end
theorem ev_cmp {o : Cm} {a b : E} {ρ : DEnv} : ev (.cmp o a b) ρ = (ev a ρ).bind fun x ρ1 => (ev b ρ1).bind fun y ρ2 => opEnd o.f [x, y] ρ2 := by rw [ev]; exact two_end
theorem ev_ix {a b : E} {ρ : DEnv} : ev (.ix a b) ρ = (ev a ρ).bind fun x ρ1 => (ev b ρ1).bind fun y ρ2 => opEnd ixD [x, y] ρ2 := by rw [ev]; exact two_end
theorem ev_rg2 {t : Bool} {a b : E} {ρ : DEnv} : ev (.rg2 t a b) ρ = (ev a ρ).bind fun x ρ1 => (ev b ρ1).bind fun y ρ2 => opEnd (rg2D t) [x, y] ρ2 := by rw [ev]; exact two_end
theorem ev_rg1 {t : Bool} {a : E} {ρ : DEnv} : ev (.rg1 t a) ρ = (ev a ρ).bind fun x ρ1 => opEnd (rg1D t) [x] ρ1 := by rw [ev]; exact one_end
theorem ev_neg {a : E} {ρ : DEnv} : ev (.neg a) ρ = (ev a ρ).bind fun x ρ1 => opEnd negD [x] ρ1 := by rw [ev]; exact one_end
theorem ev_isi {t : Ty} {a : E} {ρ : DEnv} : ev (.isi t a) ρ = (ev a ρ).bind fun x ρ1 => opEnd (isiD t.nm) [x] ρ1 := by rw [ev]; exact one_end
theorem ev_isc {t : Str} {a : E} {ρ : DEnv} : ev (.isc t a) ρ = (ev a ρ).bind fun x ρ1 => opEnd (iscD t) [x] ρ1 := by rw [ev]; exact one_end
theorem ev_sset {a : E} {ρ : DEnv} : ev (.sset a) ρ = (ev a ρ).bind fun x ρ1 => opEnd sortedSetD [x] ρ1 := by rw [ev]; exact one_end
theorem ev_lset {a : E} {ρ : DEnv} : ev (.lset a) ρ = (ev a ρ).bind fun x ρ1 => opEnd lenSetD [x] ρ1 := by rw [ev]; exact one_end
theorem ev_attr {c f : Str} {a : E} {ρ : DEnv} : ev (.attr c f a) ρ = (ev a ρ).bind fun x ρ1 => opEnd (attrD c f) [x] ρ1 := by rw [ev]; exact one_end
def rev1 : List D → Option R
  | [d] => revD d
  | _ => none
theorem ev_rev {a : E} {ρ : DEnv} : ev (.rev a) ρ = (ev a ρ).bind fun x ρ1 => opEnd rev1 [x] ρ1 := by
  rw [ev]
  unfold dRev
  rw [one_end]
  rfl
theorem ev_bi {b : Bi} {as : A} {ρ : DEnv} : ev (.bi b as) ρ = (evB as ρ).bind fun rs ρ1 => opEnd b.f rs ρ1 := by rw [ev]; rfl
theorem ev_chain {o o' : Cm} {a b c : E} {ρ : DEnv} : ev (.chain o o' a b c) ρ = dChain o.f o'.f (ev a) (ev b) (ev c) ρ := by rw [ev]
def chE (o : List D → Option R) (x y : Dv) (f : DEnv → Res Dv) (ρ : DEnv) : Res Dv := match (datA ρ [x, y]).bind o with
  | some (.val (.bl k)) => if k = true then f ρ else .ok (.val (.bl false)) ρ
  | _ => .err .stuck
theorem ev_ch {o o' : Cm} {a b c : E} {ρ : DEnv} : ev (.chain o o' a b c) ρ = (ev a ρ).bind fun x ρ1 => (ev b ρ1).bind fun y ρ2 => chE o.f x y (fun ρ2 => (ev c ρ2).bind fun z ρ3 => opEnd o'.f [y, z] ρ3) ρ2 := by
  rw [ev]
  unfold dChain
  congr 1
  funext x ρ1
  congr 1
  funext y ρ2
  unfold chE
  cases (datA ρ2 [x, y]).bind o.f with
  | none => rfl
  | some z =>
    cases z with
    | own _ => rfl
    | val d =>
      cases d <;> try rfl
      rename_i k
      cases k <;> rfl
theorem ev_tup {as : A} {ρ : DEnv} : ev (.tup as) ρ = (evA as ρ).bind fun ds ρ1 => if ds.length ≤ sizeLine then .ok (.val (.tup ds)) ρ1 else .err .stuck := by rw [ev]; rfl
theorem ev_lst {as : A} {ρ : DEnv} : ev (.lst as) ρ = (evA as ρ).bind fun ds ρ1 => if ds.length ≤ sizeLine then .ok (.own (.lst ds)) ρ1 else .err .stuck := by rw [ev]; rfl
theorem ev_dct0 {ρ : DEnv} : ev .dct0 ρ = .ok (.own (.dct [])) ρ := by rw [ev]; rfl
theorem ev_and {a b : E} {ρ : DEnv} : ev (.and a b) ρ = (ev a ρ).bind fun r ρ1 => (tEnd r ρ1).bind fun k ρ2 => if k = true then ev b ρ2 else .ok r ρ2 := by
  rw [ev]
  unfold dAnd
  congr 1
  funext r ρ1
  unfold tEnd
  cases (r.dat ρ1).bind D.truth with
  | none => rfl
  | some k => cases k <;> rfl
theorem ev_or {a b : E} {ρ : DEnv} : ev (.or a b) ρ = (ev a ρ).bind fun r ρ1 => (tEnd r ρ1).bind fun k ρ2 => if k = true then .ok r ρ2 else ev b ρ2 := by
  rw [ev]
  unfold dOr
  congr 1
  funext r ρ1
  unfold tEnd
  cases (r.dat ρ1).bind D.truth with
  | none => rfl
  | some k => cases k <;> rfl
theorem ev_one {a : E} {ρ : DEnv} : ev (.one a) ρ = ev a ρ := by rw [ev]
theorem ev_not {a : E} {ρ : DEnv} : ev (.not a) ρ = (ev a ρ).bind fun r ρ1 => (tEnd r ρ1).bind fun k ρ2 => .ok (.val (.bl (!k))) ρ2 := by
  rw [ev]
  unfold dNot
  congr 1
  funext r ρ1
  unfold tEnd
  cases (r.dat ρ1).bind D.truth <;> rfl
theorem ev_ife {c a b : E} {ρ : DEnv} : ev (.ife c a b) ρ = (tst c ρ).bind fun k ρ1 => if k = true then ev a ρ1 else ev b ρ1 := by rw [ev]; rfl
noncomputable def lcE (s : Src) (vs : List Nat) (t : Tg) (c : DEnv → Res Bool) (f : DEnv → Res D) (ρ1 : DEnv) : Res Dv := match s.items ρ1 with
  | none => .err .stuck
  | some xs => (lcGo s xs vs t c f xs (wipeD ρ1 vs) []).bind fun acc ρ2 => .ok (.own (.lst acc)) (restD ρ1 ρ2 vs)
def evFz (e : DEnv → Res Dv) (ρ : DEnv) : Res D := (e ρ).bind frz
theorem ev_lc {s : S} {vs : List Nat} {t : Tg} {c : Cd} {e : E} {ρ : DEnv} : ev (.lc s vs t c e) ρ = (evS false s ρ).bind fun s ρ1 => lcE s vs t (evC c) (evFz (ev e)) ρ1 := by rw [ev]; rfl
def callE (z : Except Exn R) (ρ : DEnv) : Res Dv := match z with
  | .ok z => .ok z.dv ρ
  | .error x => .err x
theorem callE_ok {z : R} {ρ : DEnv} : callE (.ok z) ρ = .ok z.dv ρ := by rfl
theorem ev_call {x : Str} {g : FS} {as : A} {ρ : DEnv} : ev (.call x g as) ρ = (evA as ρ).bind fun ds ρ1 => callE (g ds) ρ1 := by
  rw [ev]
  unfold dCall
  congr 1
def hotE (i : Nat) (z : Except Exn (R × Ob)) (ρ : DEnv) : Res Dv := match z with
  | .ok (z, o) => .ok z.dv (ρ.set i (.own o))
  | .error x => .err x
theorem hotE_ok {i : Nat} {z : R} {o : Ob} {ρ : DEnv} : hotE i (.ok (z, o)) ρ = .ok z.dv (ρ.set i (.own o)) := by rfl
def ownE {α : Type} (s : Option Slot) (f : Ob → Res α) : Res α := match s with
  | some (.own o) => f o
  | _ => .err .stuck
theorem ownE_own {α : Type} {o : Ob} {f : Ob → Res α} : ownE (some (.own o)) f = f o := by rfl
theorem ownE_congr {α : Type} {s s' : Option Slot} {f : Ob → Res α} (h : s = s') : ownE s f = ownE s' f := by rw [h]
theorem ev_callH {x : Str} {g : FH} {i : Nat} {as : A} {ρ : DEnv} : ev (.callH x g i as) ρ = ownE ρ[i]? fun _ => (evA as ρ).bind fun ds ρ1 => ownE ρ1[i]? fun o => hotE i (g o ds) ρ1 := by
  rw [ev]
  unfold dCallH ownE
  cases ρ[i]? with
  | none => rfl
  | some s =>
    cases s with
    | own o =>
      dsimp only
      congr 1
    | _ => rfl
def makE (z : Except Exn (R × Ob)) (ρ : DEnv) : Res Dv := match z with
  | .ok (.val .non, o) => .ok (.own o) ρ
  | .ok _ => .err .stuck
  | .error x => .err x
theorem makE_ok {o : Ob} {ρ : DEnv} : makE (.ok (.val .non, o)) ρ = .ok (.own o) ρ := by rfl
theorem ev_make {x : Str} {g : FH} {as : A} {ρ : DEnv} : ev (.make x g as) ρ = (evA as ρ).bind fun ds ρ1 => makE (g (.ins x []) ds) ρ1 := by
  rw [ev]
  unfold dMake
  congr 1
def appE (ob : Ob) (d : D) (i : Nat) (ρ : DEnv) : Res Dv := match ob with
  | .lst xs => if xs.length < sizeLine then .ok (.val .non) (ρ.set i (.own (.lst (xs ++ [d])))) else .err .stuck
  | _ => .err .stuck
def extE (ob : Ob) (d : D) (i : Nat) (ρ : DEnv) : Res Dv := match ob, d with
  | .lst xs, .lst ys => if xs.length + ys.length ≤ sizeLine then .ok (.val .non) (ρ.set i (.own (.lst (xs ++ ys)))) else .err .stuck
  | _, _ => .err .stuck
def lstE {α : Type} (s : Option Slot) (f : List D → Res α) : Res α := match s with
  | some (.own (.lst xs)) => f xs
  | _ => .err .stuck
theorem lstE_own {α : Type} {o : List D} {f : List D → Res α} : lstE (some (.own (.lst o))) f = f o := by rfl
theorem lstE_congr {α : Type} {s s' : Option Slot} {f : List D → Res α} (h : s = s') : lstE s f = lstE s' f := by rw [h]
theorem ev_app {i : Nat} {a : E} {ρ : DEnv} : ev (.app i a) ρ = lstE ρ[i]? fun _ => (evFz (ev a) ρ).bind fun d ρ1 => lstE ρ1[i]? fun xs => if xs.length < sizeLine then .ok (.val .non) (ρ1.set i (.own (.lst (xs ++ [d])))) else .err .stuck := by
  rw [ev]
  unfold dApp lstE evFz dFrz
  cases ρ[i]? with
  | none => rfl
  | some s => cases s with
    | own o => cases o with
      | lst xs =>
        dsimp only
        all_goals congr 1
      | _ => rfl
    | _ => rfl
theorem ev_ext {i : Nat} {a : E} {ρ : DEnv} : ev (.ext i a) ρ = lstE ρ[i]? fun _ => (evFz (ev a) ρ).bind fun d ρ1 => lstE ρ1[i]? fun xs => extE (.lst xs) d i ρ1 := by
  rw [ev]
  unfold dExt lstE evFz dFrz
  cases ρ[i]? with
  | none => rfl
  | some s => cases s with
    | own o => cases o with
      | lst xs =>
        dsimp only
        congr 1
        funext d ρ1
        cases ρ1[i]? with
        | none => rfl
        | some s => cases s with
          | own o => cases o with
            | lst ys => cases d <;> rfl
            | _ => rfl
          | _ => rfl
      | _ => rfl
    | _ => rfl
theorem extE_lst {xs ys : List D} {i : Nat} {ρ : DEnv} : extE (.lst xs) (.lst ys) i ρ = if xs.length + ys.length ≤ sizeLine then .ok (.val .non) (ρ.set i (.own (.lst (xs ++ ys)))) else .err .stuck := by rfl
theorem ev_pop {i : Nat} {ρ : DEnv} : ev (.pop i) ρ = lstE ρ[i]? fun xs => match xs[xs.length - 1]? with
    | some x => .ok (.val x) (ρ.set i (.own (.lst xs.dropLast)))
    | none => .err .stuck := by
  rw [ev]
  unfold dPop lstE
  cases ρ[i]? with
  | none => rfl
  | some s => cases s with
    | own o => cases o <;> rfl
    | _ => rfl
theorem ev_sl {a : E} {lo hi : P} {ρ : DEnv} : ev (.sl a lo hi) ρ = (ev a ρ).bind fun r ρ1 => (evP lo ρ1).bind fun l ρ2 => (evP hi ρ2).bind fun h ρ3 => opEnd (fun ds => match ds with | [d] => slD l h d | _ => none) [r] ρ3 := by
  rw [ev]
  unfold dSl
  congr 1
  funext r ρ1
  congr 1
  funext l ρ2
  congr 1
  funext h ρ3
  unfold opEnd datA datA
  cases r.dat ρ3 <;> rfl
theorem evP_no {ρ : DEnv} : evP .no ρ = .ok none ρ := by rw [evP]; rfl
def prtE (r : Dv) (ρ : DEnv) : Res (Option Int) := match r with
  | .val (.int i) => .ok (some i) ρ
  | _ => .err .stuck
theorem prtE_int {i : Int} {ρ : DEnv} : prtE (.val (.int i)) ρ = .ok (some i) ρ := by rfl
theorem evP_so {a : E} {ρ : DEnv} : evP (.so a) ρ = (ev a ρ).bind prtE := by
  rw [evP]
  unfold pSome
  congr 1
theorem evA_nil {ρ : DEnv} : evA .nil ρ = .ok [] ρ := by rw [evA]; rfl
theorem evA_cons {a : E} {as : A} {ρ : DEnv} : evA (.cons a as) ρ = (evFz (ev a) ρ).bind fun d ρ1 => (evA as ρ1).bind fun ds ρ2 => .ok (d :: ds) ρ2 := by rw [evA]; rfl
theorem evB_nil {ρ : DEnv} : evB .nil ρ = .ok [] ρ := by rw [evB]; rfl
theorem evB_cons {a : E} {as : A} {ρ : DEnv} : evB (.cons a as) ρ = (ev a ρ).bind fun d ρ1 => (evB as ρ1).bind fun ds ρ2 => .ok (d :: ds) ρ2 := by rw [evB]; rfl
theorem evN_nil {ρ : DEnv} : evN .nil ρ = .ok [] ρ := by rw [evN]; rfl
def unsE (r : Dv) (ρ : DEnv) : Res Dv := match r with
  | .slot i => (frz (.slot i) ρ).bind fun d ρ2 => .ok (.val d) ρ2
  | r => .ok r ρ
theorem unsE_val {d : D} {ρ : DEnv} : unsE (.val d) ρ = .ok (.val d) ρ := by rfl
theorem unsE_own {d : Ob} {ρ : DEnv} : unsE (.own d) ρ = .ok (.own d) ρ := by rfl
theorem unsE_slot {i : Nat} {ρ : DEnv} : unsE (.slot i) ρ = (frz (.slot i) ρ).bind fun d ρ2 => .ok (.val d) ρ2 := by rfl
theorem uns_eq {f : DEnv → Res Dv} {ρ : DEnv} : dUns f ρ = (f ρ).bind unsE := by
  unfold dUns
  congr 1
theorem evN_cons {a : E} {as : A} {ρ : DEnv} : evN (.cons a as) ρ = ((ev a ρ).bind unsE).bind fun d ρ1 => (evN as ρ1).bind fun ds ρ2 => .ok (d :: ds) ρ2 := by rw [evN, ← uns_eq]; rfl
theorem evFz_eq {f : DEnv → Res Dv} {ρ : DEnv} : evFz f ρ = (f ρ).bind frz := by rfl
theorem frz_val {d : D} {ρ : DEnv} : frz (.val d) ρ = .ok d ρ := by rfl
theorem frz_own {d : Ob} {ρ : DEnv} : frz (.own d) ρ = .ok d.d ρ := by rfl
def frzE (i : Nat) (s : Option Slot) (ρ : DEnv) : Res D := match s with
  | some (.val d) => .ok d ρ
  | some (.own o) => .ok o.d (ρ.set i (.val o.d))
  | _ => .err .stuck
theorem frz_slot {i : Nat} {ρ : DEnv} : frz (.slot i) ρ = frzE i ρ[i]? ρ := by
  show (match ρ[i]? with | some (.val d) => Res.ok d ρ | some (.own o) => .ok o.d (ρ.set i (.val o.d)) | _ => .err .stuck) = _
  unfold frzE
  cases ρ[i]? with
  | none => rfl
  | some s => cases s <;> rfl
theorem frzE_own {i : Nat} {o : Ob} {ρ : DEnv} : frzE i (some (.own o)) ρ = .ok o.d (ρ.set i (.val o.d)) := by rfl
theorem frzE_val {i : Nat} {o : D} {ρ : DEnv} : frzE i (some (.val o)) ρ = .ok o ρ := by rfl
/-! sources -/
def sqE (r : Dv) (ρ : DEnv) : Res Src := match kindD (r.dat ρ) with
  | some k => .ok (.sq k r) ρ
  | none => .err .stuck
def enE (r : Dv) (ρ : DEnv) : Res Src := match kindD (r.dat ρ) with
  | some k => .ok (.en k r) ρ
  | none => .err .stuck
def zpE (r r' : Dv) (ρ : DEnv) : Res Src := match kindD (r.dat ρ), kindD (r'.dat ρ) with
  | some k, some k' => .ok (.zp k k' r r') ρ
  | _, _ => .err Exn.stuck
def rgE (o : List D → Option Src) (rs : List Dv) (ρ : DEnv) : Res Src := match (datA ρ rs).bind o with
  | some s => .ok s ρ
  | none => .err .stuck
theorem evS_sq {a : E} {ρ : DEnv} : evS false (.sq a) ρ = (ev a ρ).bind sqE := by rw [evS]; rfl
theorem evS_en {a : E} {ρ : DEnv} : evS false (.en a) ρ = (ev a ρ).bind enE := by rw [evS]; rfl
theorem evS_zp {a b : E} {ρ : DEnv} : evS false (.zp a b) ρ = (ev a ρ).bind fun r ρ1 => (ev b ρ1).bind fun r' ρ2 => zpE r r' ρ2 := by rw [evS]; rfl
theorem evS_rng {z : Bool} {as : A} {ρ : DEnv} : evS z (.rng as) ρ = (evB as ρ).bind fun rs ρ1 => rgE (rngS as.len) rs ρ1 := by cases z <;> (rw [evS]; rfl)
def valE (d : D) (ρ : DEnv) : Res Dv := .ok (.val d) ρ
theorem valE_eq {d : D} {ρ : DEnv} : valE d ρ = .ok (.val d) ρ := by rfl
theorem evS_sqT {a : E} {ρ : DEnv} : evS true (.sq a) ρ = ((evFz (ev a) ρ).bind valE).bind sqE := by rw [evS]; rfl
theorem evS_enT {a : E} {ρ : DEnv} : evS true (.en a) ρ = ((evFz (ev a) ρ).bind valE).bind enE := by rw [evS]; rfl
theorem evS_zpT {a b : E} {ρ : DEnv} : evS true (.zp a b) ρ = ((evFz (ev a) ρ).bind valE).bind fun r ρ1 => ((evFz (ev b) ρ1).bind valE).bind fun r' ρ2 => zpE r r' ρ2 := by rw [evS]; rfl
theorem sqE_lst {r : Dv} {ρ : DEnv} {xs : List D} (h : r.dat ρ = some (.lst xs)) : sqE r ρ = .ok (.sq false r) ρ := by unfold sqE; rw [h]; rfl
theorem evC_yes {ρ : DEnv} : evC .yes ρ = .ok true ρ := by rw [evC]; rfl
theorem evC_so {c : E} {ρ : DEnv} : evC (.so c) ρ = tst c ρ := by rw [evC]
/-! tests -/
theorem dTruth_eq {f : DEnv → Res Dv} {ρ : DEnv} : dTruth f ρ = (f ρ).bind tEnd := by rfl
theorem tst_and {a b : E} {ρ : DEnv} : tst (.and a b) ρ = (tst a ρ).bind fun k ρ1 => if k = true then tst b ρ1 else .ok false ρ1 := by rw [tst]; rfl
theorem tst_or {a b : E} {ρ : DEnv} : tst (.or a b) ρ = (tst a ρ).bind fun k ρ1 => if k = true then .ok true ρ1 else tst b ρ1 := by rw [tst]; rfl
theorem tst_one {a : E} {ρ : DEnv} : tst (.one a) ρ = tst a ρ := by rw [tst]
theorem tst_not {a : E} {ρ : DEnv} : tst (.not a) ρ = (tst a ρ).bind fun k ρ1 => .ok (!k) ρ1 := by rw [tst]; rfl
theorem tst_var {i : Nat} {ρ : DEnv} : tst (.var i) ρ = (ev (.var i) ρ).bind tEnd := by rw [tst, ev]; rfl
theorem tst_bl {i : Bool} {ρ : DEnv} : tst (.bl i) ρ = .ok i ρ := by rw [tst]; rfl
theorem tst_bin {o : Op} {a b : E} {ρ : DEnv} : tst (.bin o a b) ρ = (ev (.bin o a b) ρ).bind tEnd := by rw [tst, ev]; rfl
theorem tst_cmp {o : Cm} {a b : E} {ρ : DEnv} : tst (.cmp o a b) ρ = (ev (.cmp o a b) ρ).bind tEnd := by rw [tst, ev]; rfl
theorem tst_chain {o o' : Cm} {a b c : E} {ρ : DEnv} : tst (.chain o o' a b c) ρ = (ev (.chain o o' a b c) ρ).bind tEnd := by rw [tst, ev]; rfl
theorem tst_ix {a b : E} {ρ : DEnv} : tst (.ix a b) ρ = (ev (.ix a b) ρ).bind tEnd := by rw [tst, ev]; rfl
theorem tst_bi {b : Bi} {as : A} {ρ : DEnv} : tst (.bi b as) ρ = (ev (.bi b as) ρ).bind tEnd := by rw [tst, ev]; rfl
theorem tst_isi {t : Ty} {a : E} {ρ : DEnv} : tst (.isi t a) ρ = (ev (.isi t a) ρ).bind tEnd := by rw [tst, ev]; rfl
theorem tst_isc {t : Str} {a : E} {ρ : DEnv} : tst (.isc t a) ρ = (ev (.isc t a) ρ).bind tEnd := by rw [tst, ev]; rfl
theorem tst_attr {c f : Str} {a : E} {ρ : DEnv} : tst (.attr c f a) ρ = (ev (.attr c f a) ρ).bind tEnd := by rw [tst, ev]; rfl
theorem tst_call {x : Str} {g : FS} {as : A} {ρ : DEnv} : tst (.call x g as) ρ = (ev (.call x g as) ρ).bind tEnd := by rw [tst, ev]; rfl
theorem tst_callH {x : Str} {g : FH} {i : Nat} {as : A} {ρ : DEnv} : tst (.callH x g i as) ρ = (ev (.callH x g i as) ρ).bind tEnd := by rw [tst, ev]; rfl
theorem tEnd_bl {k : Bool} {ρ : DEnv} : tEnd (.val (.bl k)) ρ = .ok k ρ := by rfl
theorem tEnd_int {k : Int} {ρ : DEnv} : tEnd (.val (.int k)) ρ = .ok (k != 0) ρ := by rfl
theorem tEnd_non {ρ : DEnv} : tEnd (.val .non) ρ = .ok false ρ := by rfl
/-! statements -/
def Res.sr {α : Type} (r : Res α) (f : α → DEnv → SR) : SR := match r with
  | .ok a ρ => f a ρ
  | .err x => .err x
theorem sr_ok {α : Type} {a : α} {ρ : DEnv} {f : α → DEnv → SR} : (Res.ok a ρ).sr f = f a ρ := by rfl
theorem sr_congr {α : Type} {r r' : Res α} {f : α → DEnv → SR} (h : r = r') : r.sr f = r'.sr f := by rw [h]
def SR.next (r : SR) (f : DEnv → SR) : SR := match r with
  | .nx ρ => f ρ
  | r => r
theorem next_congr {r r' : SR} {f : DEnv → SR} (h : r = r') : r.next f = r'.next f := by rw [h]
theorem next_nx {ρ : DEnv} {f : DEnv → SR} : (SR.nx ρ).next f = f ρ := by rfl
theorem next_rt {r : Dv} {ρ : DEnv} {f : DEnv → SR} : (SR.rt r ρ).next f = .rt r ρ := by rfl
theorem next_bk {ρ : DEnv} {f : DEnv → SR} : (SR.bk ρ).next f = .bk ρ := by rfl
theorem next_ct {ρ : DEnv} {f : DEnv → SR} : (SR.ct ρ).next f = .ct ρ := by rfl
theorem next_err {x : Exn} {f : DEnv → SR} : (SR.err x).next f = .err x := by rfl
theorem exs_nil {ρ : DEnv} : exs [] ρ = .nx ρ := by rw [exs]; rfl
theorem exs_cons {t : T} {ts : List T} {ρ : DEnv} : exs (t :: ts) ρ = (ex t ρ).next (exs ts) := by rw [exs]; rfl
theorem ex_pass {ρ : DEnv} : ex .pass ρ = .nx ρ := by rw [ex]; rfl
theorem ex_brk {ρ : DEnv} : ex .brk ρ = .bk ρ := by rw [ex]; rfl
theorem ex_cnt {ρ : DEnv} : ex .cnt ρ = .ct ρ := by rw [ex]; rfl
theorem ex_never {ρ : DEnv} : ex .never ρ = .err .stuck := by rw [ex]; rfl
theorem ex_expr {e : E} {ρ : DEnv} : ex (.expr e) ρ = (ev e ρ).sr fun _ ρ1 => .nx ρ1 := by
  rw [ex]
  unfold dExpr Res.sr
  cases ev e ρ <;> rfl
theorem ex_ret {e : E} {ρ : DEnv} : ex (.ret e) ρ = (ev e ρ).sr fun r ρ1 => .rt r ρ1 := by
  rw [ex]
  unfold dRet Res.sr
  cases ev e ρ <;> rfl
theorem ex_retN {ρ : DEnv} : ex .retN ρ = .rt (.val .non) ρ := by rw [ex]; rfl
theorem ex_ite {c : E} {a b : List T} {ρ : DEnv} : ex (.ite c a b) ρ = (tst c ρ).sr fun k ρ1 => if k = true then exs a ρ1 else exs b ρ1 := by
  rw [ex]
  unfold dIf Res.sr
  cases tst c ρ <;> rfl
theorem ex_asg {i : Nat} {e : E} {ρ : DEnv} : ex (.asg i e) ρ = ((ev e ρ).bind unsE).sr fun r ρ1 => .nx (ρ1.set i r.sl) := by
  rw [ex]
  unfold dAsg
  rw [uns_eq]
  unfold Res.sr
  cases (ev e ρ).bind unsE <;> rfl
theorem sl_val {d : D} : (Dv.val d).sl = .val d := by rfl
theorem sl_own {d : Ob} : (Dv.own d).sl = .own d := by rfl
theorem ex_par {is : List Nat} {as : A} {ρ : DEnv} : ex (.par is as) ρ = (evN as ρ).sr fun rs ρ1 => if rs.length = is.length ∧ rs.length ≤ sizeLine then .nx (putAll ρ1 is rs) else .err .stuck := by
  rw [ex]
  unfold dPar Res.sr
  cases evN as ρ <;> rfl
def putR (o : Option DEnv) : SR := match o with
  | some ρ => .nx ρ
  | none => .err .stuck
theorem putR_some {ρ : DEnv} : putR (some ρ) = .nx ρ := by rfl
theorem ex_asgT {t : Tg} {e : E} {ρ : DEnv} : ex (.asgT t e) ρ = (evFz (ev e) ρ).sr fun d ρ1 => putR (t.put d ρ1) := by
  rw [ex]
  unfold dAsgT Res.sr evFz dFrz putR
  cases (ev e ρ).bind frz with
  | err x => rfl
  | ok d ρ1 =>
    dsimp only
    all_goals (cases t.put d ρ1 <;> rfl)
def forE (t : Tg) (body : DEnv → SR) (s : Src) (ρ : DEnv) : SR := match s.isVal, s.items ρ with
  | true, some xs => forGo t body xs ρ
  | _, _ => .err .stuck
theorem ex_for {s : S} {t : Tg} {b : List T} {ρ : DEnv} : ex (.for_ s t b) ρ = (evS true s ρ).sr fun s ρ1 => forE t (exs b) s ρ1 := by
  rw [ex]
  unfold dFor Res.sr forE
  cases evS true s ρ <;> rfl
theorem ex_whl {c : E} {b : List T} {ρ : DEnv} : ex (.whl c b) ρ = dWhile (tst c) (exs b) ρ := by rw [ex]
def ixE (xs : List D) (n : Int) (d : D) (i : Nat) (ρ : DEnv) : SR := match ixN xs.length n with
  | some j => .nx (ρ.set i (.own (.lst (xs.set j d))))
  | none => .err .stuck
def setIE (s1 s2 : Option Slot) (k d : D) (i : Nat) (ρ : DEnv) : SR := match s1, s2, k with
  | some (.own (.lst _)), some (.own (.lst xs)), .int n => ixE xs n d i ρ
  | _, _, _ => .err .stuck
theorem setIE_own {ys xs : List D} {n : Int} {d : D} {i : Nat} {ρ : DEnv} : setIE (some (.own (.lst ys))) (some (.own (.lst xs))) (.int n) d i ρ = ixE xs n d i ρ := by rfl
theorem ex_setI {i : Nat} {ix e : E} {ρ : DEnv} : ex (.setI i ix e) ρ = (evFz (ev e) ρ).sr fun d ρ1 => (evFz (ev ix) ρ1).sr fun k ρ2 => setIE ρ1[i]? ρ2[i]? k d i ρ2 := by
  rw [ex]
  unfold dSetI Res.sr evFz dFrz setIE ixE
  cases (ev e ρ).bind frz with
  | err x => rfl
  | ok d ρ1 =>
    simp only [bind_okS]
    cases (ev ix ρ1).bind frz with
    | err x => rfl
    | ok k ρ2 =>
      simp only [bind_okS]
      cases ρ1[i]? with
      | none => rfl
      | some s1 =>
        cases s1 with
        | own o1 =>
          cases o1 with
          | lst ys =>
            cases ρ2[i]? with
            | none => rfl
            | some s2 =>
              cases s2 with
              | own o2 =>
                cases o2 with
                | lst xs =>
                  cases k with
                  | int n =>
                    dsimp only
                    cases ixN xs.length n <;> rfl
                  | _ => rfl
                | _ => rfl
              | _ => rfl
          | _ => rfl
        | _ => rfl
def setE (i : Nat) (c f : Str) (d : D) (s : Option Slot) (ρ : DEnv) : SR := match s with
  | some (.own (.ins c' fs)) => if c' = c ∧ fs.lookup f = none ∧ fs.length < 1000 then .nx (ρ.set i (.own (.ins c (fs ++ [(f, d)])))) else .err .stuck
  | _ => .err .stuck
theorem setE_own {i : Nat} {c f c' : Str} {d : D} {fs : List (Str × D)} {ρ : DEnv} : setE i c f d (some (.own (.ins c' fs))) ρ = if c' = c ∧ fs.lookup f = none ∧ fs.length < 1000 then .nx (ρ.set i (.own (.ins c (fs ++ [(f, d)])))) else .err .stuck := by rfl
theorem ex_setA {i : Nat} {c f : Str} {e : E} {ρ : DEnv} : ex (.setA i c f e) ρ = (evFz (ev e) ρ).sr fun d ρ1 => setE i c f d ρ1[i]? ρ1 := by
  rw [ex]
  unfold dSetA Res.sr evFz dFrz setE
  cases (ev e ρ).bind frz with
  | err x => rfl
  | ok d ρ1 =>
    dsimp only
    all_goals (generalize ρ1[i]? = z)
    all_goals (rcases z with _ | s)
    all_goals (try rfl)
    all_goals (rcases s with _ | d | o)
    all_goals (try rfl)
    all_goals (cases o <;> rfl)
/-! ite -/
theorem bind_ite {α β : Type} {c : Prop} [Decidable c] {r s : Res α} {f : α → DEnv → Res β} : (if c then r else s).bind f = if c then r.bind f else s.bind f := by split <;> rfl
theorem sr_ite {α : Type} {c : Prop} [Decidable c] {r s : Res α} {f : α → DEnv → SR} : (if c then r else s).sr f = if c then r.sr f else s.sr f := by split <;> rfl
theorem next_ite {c : Prop} [Decidable c] {r s : SR} {f : DEnv → SR} : (if c then r else s).next f = if c then r.next f else s.next f := by split <;> rfl
theorem fin_ite {c : Prop} [Decidable c] {r s : SR} : fin (if c then r else s) = if c then fin r else fin s := by split <;> rfl
theorem ite_andS {k x : Bool} {ρ : DEnv} : (if k = true then Res.ok (Dv.val (.bl x)) ρ else .ok (.val (.bl k)) ρ) = .ok (.val (.bl (k && x))) ρ := by cases k <;> rfl
theorem ite_and2 {k x : Bool} {ρ : DEnv} : (if k = true then Res.ok (Dv.val (.bl x)) ρ else .ok (.val (.bl false)) ρ) = .ok (.val (.bl (k && x))) ρ := by cases k <;> rfl
theorem ite_orS {k x : Bool} {ρ : DEnv} : (if k = true then Res.ok (Dv.val (.bl k)) ρ else .ok (.val (.bl x)) ρ) = .ok (.val (.bl (k || x))) ρ := by cases k <;> rfl
theorem ite_andT {k x : Bool} {ρ : DEnv} : (if k = true then Res.ok x ρ else .ok false ρ) = .ok (k && x) ρ := by cases k <;> rfl
theorem ite_orT {k x : Bool} {ρ : DEnv} : (if k = true then Res.ok true ρ else .ok x ρ) = .ok (k || x) ρ := by cases k <;> rfl
theorem fin_nx {ρ : DEnv} : fin (.nx ρ) = .ok (.val .non) := by rfl
theorem fin_val {d : D} {ρ : DEnv} : fin (.rt (.val d) ρ) = .ok (.val d) := by rfl
theorem fin_own {d : Ob} {ρ : DEnv} : fin (.rt (.own d) ρ) = .ok (.own d) := by rfl
def finSl (s : Option Slot) : Except Exn R := match s with
  | some (.own o) => .ok (.own o)
  | some (.val d) => .ok (.val d)
  | _ => .error .stuck
theorem fin_slot {i : Nat} {ρ : DEnv} : fin (.rt (.slot i) ρ) = finSl ρ[i]? := by
  show (match ρ[i]? with | some (.own o) => Except.ok (R.own o) | some (.val d) => .ok (.val d) | _ => .error Exn.stuck) = _
  unfold finSl
  cases ρ[i]? with
  | none => rfl
  | some s => cases s <;> rfl
theorem finSl_own {o : Ob} : finSl (some (.own o)) = .ok (.own o) := by rfl
theorem finSl_val {o : D} : finSl (some (.val o)) = .ok (.val o) := by rfl
theorem mkF_eq {n m : Nat} {b : List T} {ds : List D} (h : ds.length = n) : mkF n m b ds = fin (exs b (ds.map Slot.val ++ List.replicate (m - n) Slot.non)) := by
  unfold mkF
  rw [if_pos h]
theorem mkH_eq {n m : Nat} {b : List T} {o : Ob} {ds : List D} (h : ds.length + 1 = n) : mkH n m b o ds = finH (exs b (Slot.own o :: (ds.map Slot.val ++ List.replicate (m - n) Slot.non))) := by
  unfold mkH
  rw [if_pos h]
end DL


set_option Elab.async false
set_option linter.all false
set_option maxRecDepth 100000
set_option maxHeartbeats 1000000
/-! DL22: laws of data. -/
namespace DL
open PySem PySem.Spec PyProof.Rows L2

/-! ### data that can be compared -/
def D.okN (n : Nat) (d : D) : Prop := d.py.canLay0 = true ∧ d.py.depth ≤ n
theorem okE_of {d : D} {n : Nat} (h : d.okN n) (hn : n ≤ 64) : d.okE = true := by
  unfold D.okE SeqAt.shaped
  rw [h.1, Bool.true_and, decide_eq_true_eq]
  exact Nat.le_trans h.2 hn
theorem okN_int {n : Nat} {i : Int} : (D.int i).okN n := by
  refine ⟨by unfold D.py PyData.canLay0; rfl, ?_⟩
  unfold D.py PyData.depth
  exact Nat.zero_le _
theorem okN_bl {n : Nat} {i : Bool} : (D.bl i).okN n := by
  refine ⟨by unfold D.py PyData.canLay0; rfl, ?_⟩
  unfold D.py PyData.depth
  exact Nat.zero_le _
theorem okN_non {n : Nat} : (D.non).okN n := by
  refine ⟨by unfold D.py PyData.canLay0; rfl, ?_⟩
  unfold D.py PyData.depth
  exact Nat.zero_le _
theorem okA {n : Nat} : ∀ {xs : List D}, (∀ x ∈ xs, x.okN n) → PyData.canLayAll0 (pyA xs) = true ∧ PyData.depthAll (pyA xs) ≤ n
  | [], _ => ⟨by unfold pyA PyData.canLayAll0; rfl, by unfold pyA PyData.depthAll; exact Nat.zero_le _⟩
  | x :: xs, h => by
    obtain ⟨a, b⟩ := okA (n := n) (xs := xs) fun y hy => h y (List.mem_cons_of_mem _ hy)
    obtain ⟨c, d⟩ := h x (by simp)
    unfold pyA
    refine ⟨by rw [lay_cons, c, a]; rfl, ?_⟩
    unfold PyData.depthAll
    exact Nat.max_le.mpr ⟨d, b⟩
theorem okN_tup {n : Nat} {xs : List D} (h : ∀ x ∈ xs, x.okN n) : (D.tup xs).okN (n + 1) := by
  obtain ⟨a, b⟩ := okA h
  refine ⟨by unfold D.py; rw [lay_tuple]; exact a, ?_⟩
  unfold D.py PyData.depth
  omega
theorem okN_lst {n : Nat} {xs : List D} (h : ∀ x ∈ xs, x.okN n) : (D.lst xs).okN (n + 1) := by
  obtain ⟨a, b⟩ := okA h
  refine ⟨by unfold D.py; rw [lay_list]; exact a, ?_⟩
  unfold D.py PyData.depth
  omega
theorem okN_up {n m : Nat} {d : D} (h : d.okN n) (hn : n ≤ m) : d.okN m := ⟨h.1, Nat.le_trans h.2 hn⟩
theorem ok_int {i : Int} : (D.int i).okE = true := okE_of (n := 0) okN_int (by decide)
theorem ok_bl {i : Bool} : (D.bl i).okE = true := okE_of (n := 0) okN_bl (by decide)
theorem ok_non : D.non.okE = true := okE_of (n := 0) okN_non (by decide)
/-! ### equality -/
theorem eqv_int {a b : Int} : (D.int a).eqv (.int b) = (a == b) := by
  unfold D.eqv D.py
  rw [PyData.eqv]
theorem eqv_tup {a b : List D} : (D.tup a).eqv (.tup b) = PyData.eqvAll (pyA a) (pyA b) := by
  unfold D.eqv
  rw [D.py, D.py, PyData.eqv]
theorem eqv_lst {a b : List D} : (D.lst a).eqv (.lst b) = PyData.eqvAll (pyA a) (pyA b) := by
  unfold D.eqv
  rw [D.py, D.py, PyData.eqv]
def eqvA : List D → List D → Bool
  | [], [] => true
  | x :: xs, y :: ys => x.eqv y && eqvA xs ys
  | [], _ :: _ => false
  | _ :: _, [] => false
theorem eqvA_eq : ∀ {a b : List D}, PyData.eqvAll (pyA a) (pyA b) = eqvA a b
  | [], [] => by unfold pyA PyData.eqvAll eqvA; rfl
  | [], _ :: _ => by unfold pyA PyData.eqvAll eqvA; rfl
  | _ :: _, [] => by unfold pyA PyData.eqvAll eqvA; rfl
  | x :: xs, y :: ys => by
    have := eqvA_eq (a := xs) (b := ys)
    rw [pyA, pyA, PyData.eqvAll, this]
    rfl
theorem eqv_tupA {a b : List D} : (D.tup a).eqv (.tup b) = eqvA a b := eqv_tup.trans eqvA_eq
theorem eqv_lstA {a b : List D} : (D.lst a).eqv (.lst b) = eqvA a b := eqv_lst.trans eqvA_eq
theorem eqvA_nil_l {a : List D} : eqvA [] a = a.isEmpty := by cases a <;> rfl
theorem eqvA_nil_r {a : List D} : eqvA a [] = a.isEmpty := by cases a <;> rfl
/-- an injective encoding -/
theorem eqvA_map {α : Type} [BEq α] [LawfulBEq α] {f : α → D} (h : ∀ a b, (f a).eqv (f b) = (a == b)) : ∀ {a b : List α}, eqvA (a.map f) (b.map f) = (a == b)
  | [], [] => rfl
  | [], _ :: _ => rfl
  | _ :: _, [] => rfl
  | x :: xs, y :: ys => by
    show ((f x).eqv (f y) && eqvA (xs.map f) (ys.map f)) = _
    rw [h, eqvA_map h]
    rfl
def D.ints (xs : List Int) : D := .tup (xs.map D.int)
theorem eqv_ints {a b : List Int} : (D.ints a).eqv (D.ints b) = (a == b) := by
  unfold D.ints
  rw [eqv_tupA, eqvA_map fun a b => eqv_int]
theorem ok_ints {n : Nat} {xs : List Int} : (D.ints xs).okN (n + 1) := okN_tup fun x hx => by
  obtain ⟨i, _, rfl⟩ := List.mem_map.mp hx
  exact okN_int
def pairD (p : Int × Int) : D := .tup [.int p.1, .int p.2]
theorem eqv_pair {a b : Int × Int} : (pairD a).eqv (pairD b) = (a == b) := by
  unfold pairD
  rw [eqv_tupA]
  show ((D.int a.1).eqv (.int b.1) && ((D.int a.2).eqv (.int b.2) && true)) = _
  rw [eqv_int, eqv_int, Bool.and_true]
  rfl
theorem ok_pair {n : Nat} {p : Int × Int} : (pairD p).okN (n + 1) := okN_tup fun x hx => by
  simp only [List.mem_cons, List.not_mem_nil, or_false] at hx
  rcases hx with rfl | rfl <;> exact okN_int
theorem ok_map {α : Type} {f : α → D} {n : Nat} {as : List α} (h : ∀ a, (f a).okN n) : ∀ x ∈ as.map f, x.okN n := fun x hx => by
  obtain ⟨a, _, rfl⟩ := List.mem_map.mp hx
  exact h a
/-! ### operations -/
theorem cmpI_int {p : Int → Int → Bool} {a b : Int} : cmpI p [.int a, .int b] = some (.val (.bl (p a b))) := by rfl
theorem ltD_int {a b : Int} : ltD [.int a, .int b] = some (.val (.bl (decide (a < b)))) := by rfl
theorem addD_int {a b : Int} : addD [.int a, .int b] = some (.val (.int (a + b))) := by rfl
theorem addD_tup {a b : List D} (h : a.length + b.length ≤ sizeLine) : addD [.tup a, .tup b] = some (.val (.tup (a ++ b))) := if_pos h
theorem addD_lst {a b : List D} (h : a.length + b.length ≤ sizeLine) : addD [.lst a, .lst b] = some (.own (.lst (a ++ b))) := if_pos h
theorem subD_int {a b : Int} : subD [.int a, .int b] = some (.val (.int (a - b))) := by rfl
theorem mulD_int {a b : Int} (h : okMul a b = true) : mulD [.int a, .int b] = some (.val (.int (a * b))) := if_pos h
theorem fdivD_int {a b : Int} (h : 0 < b ∧ b < 1073741824) : fdivD [.int a, .int b] = some (.val (.int (a / b))) := if_pos h
theorem modD_int {a b : Int} (h : 0 < b) : modD [.int a, .int b] = some (.val (.int (a % b))) := if_pos h
theorem negD_int {a : Int} : negD [.int a] = some (.val (.int (-a))) := by rfl
theorem eqD_ok {a b : D} (ha : a.okE = true) (hb : b.okE = true) : eqD [a, b] = some (.val (.bl (a.eqv b))) := if_pos ⟨ha, hb⟩
theorem neD_ok {a b : D} (ha : a.okE = true) (hb : b.okE = true) : neD [a, b] = some (.val (.bl (!a.eqv b))) := if_pos ⟨ha, hb⟩
theorem eqD_int {a b : Int} : eqD [.int a, .int b] = some (.val (.bl (a == b))) := by rw [eqD_ok ok_int ok_int, eqv_int]
theorem neD_int {a b : Int} : neD [.int a, .int b] = some (.val (.bl (a != b))) := by rw [neD_ok ok_int ok_int, eqv_int]; rfl
theorem eqD_bl {a b : Bool} : eqD [.bl a, .bl b] = some (.val (.bl (a == b))) := by
  rw [eqD_ok ok_bl ok_bl]
  unfold D.eqv D.py
  rw [PyData.eqv]
theorem neD_bl {a b : Bool} : neD [.bl a, .bl b] = some (.val (.bl (a != b))) := by
  rw [neD_ok ok_bl ok_bl]
  unfold D.eqv D.py
  rw [PyData.eqv]
  rfl
theorem inD_tup {neg : Bool} {a : D} {xs : List D} (ha : a.okE = true) (hb : (D.tup xs).okE = true) : inD neg [a, .tup xs] = some (.val (.bl (xor neg (xs.any fun z => z.eqv a)))) := if_pos ⟨ha, hb⟩
theorem inD_lst {neg : Bool} {a : D} {xs : List D} (ha : a.okE = true) (hb : (D.lst xs).okE = true) : inD neg [a, .lst xs] = some (.val (.bl (xor neg (xs.any fun z => z.eqv a)))) := if_pos ⟨ha, hb⟩
theorem any_map {α : Type} [BEq α] [LawfulBEq α] {f : α → D} (h : ∀ a b, (f a).eqv (f b) = (a == b)) {as : List α} {a : α} : ((as.map f).any fun z => z.eqv (f a)) = as.contains a := by
  rw [List.any_map]
  show (as.any fun z => (f z).eqv (f a)) = _
  rw [show (fun z => (f z).eqv (f a)) = fun z => z == a from funext fun z => h z a]
  rw [Bool.eq_iff_iff]
  simp only [List.any_eq_true, beq_iff_eq, List.contains_iff_mem]
  constructor
  · rintro ⟨x, hx, rfl⟩; exact hx
  · exact fun h => ⟨a, h, rfl⟩
theorem isD_bl {n a b : Bool} : isD n [.bl a, .bl b] = some (.val (.bl (xor n (decide (a = b))))) := by rfl
def D.isN : D → Bool
  | .non => true
  | _ => false
theorem isD_non {n : Bool} {a : D} : isD n [a, .non] = some (.val (.bl (xor n a.isN))) := by cases a <;> rfl
theorem lenD_lst {xs : List D} : lenD [.lst xs] = some (.val (.int xs.length)) := by rfl
theorem lenD_tup {xs : List D} : lenD [.tup xs] = some (.val (.int xs.length)) := by rfl
theorem lenD_frz {xs : List D} : lenD [.frz xs] = some (.val (.int xs.length)) := by rfl
theorem absD_int {i : Int} : absD [.int i] = some (.val (.int (if i < 0 then -i else i))) := by rfl
theorem intD_int {i : Int} : intD [.int i] = some (.val (.int i)) := by rfl
theorem max2D_int {i j : Int} : max2D [.int i, .int j] = some (.val (.int (max i j))) := by
  show some (R.val (.int (if j > i then j else i))) = _
  congr 3
  omega
theorem min2D_int {i j : Int} : min2D [.int i, .int j] = some (.val (.int (min i j))) := by
  show some (R.val (.int (if j < i then j else i))) = _
  congr 3
  omega
theorem listD_tup {xs : List D} : listD [.tup xs] = some (.own (.lst xs)) := by rfl
theorem listD_lst {xs : List D} : listD [.lst xs] = some (.own (.lst xs)) := by rfl
theorem tupleD_lst {xs : List D} : tupleD [.lst xs] = some (.val (.tup xs)) := by rfl
theorem tupleD_tup {xs : List D} : tupleD [.tup xs] = some (.val (.tup xs)) := by rfl
theorem ixD_lst {xs : List D} {i : Int} : ixD [.lst xs, .int i] = (atI xs i).map R.val := by rfl
theorem ixD_tup {xs : List D} {i : Int} : ixD [.tup xs, .int i] = (atI xs i).map R.val := by rfl
theorem atI_nat {α : Type} {xs : List α} {i : Nat} : atI xs (i : Int) = xs[i]? := by
  unfold atI ixN
  rw [if_pos (by omega)]
  by_cases h : i < xs.length
  · rw [if_pos (by omega)]
    show xs[((i : Nat) : Int).toNat]? = _
    congr 1
  · rw [if_neg (by omega), List.getElem?_eq_none (by omega)]
    rfl
theorem atI_lt {α : Type} {xs : List α} {i : Int} {a : α} (h0 : 0 ≤ i) (h : xs[i.toNat]? = some a) : atI xs i = some a := by
  have : i = (i.toNat : Int) := by omega
  rw [this, atI_nat]
  exact h
theorem atI_last {α : Type} {xs : List α} : atI xs (-1) = xs.getLast? := by
  unfold atI ixN
  rw [if_neg (by omega)]
  cases xs with
  | nil => rfl
  | cons a l =>
    rw [if_pos (by simp only [List.length_cons]; omega)]
    rw [List.getLast?_eq_getElem?]
    show ((a :: l))[((-1 : Int) + ((a :: l).length : Nat)).toNat]? = _
    congr 1
    simp only [List.length_cons]
    omega
theorem boolsOf_bl : ∀ ns : List Bool, boolsOf (ns.map D.bl) = some ns := boolsOf_map
theorem anyD_bl {ns : List Bool} : anyD [.lst (ns.map D.bl)] = some (.val (.bl (ns.any id))) := by
  show (boolsOf (ns.map D.bl)).map _ = _
  rw [boolsOf_map]
  rfl
theorem allD_bl {ns : List Bool} : allD [.lst (ns.map D.bl)] = some (.val (.bl (ns.all id))) := by
  show (boolsOf (ns.map D.bl)).map _ = _
  rw [boolsOf_map]
  rfl
theorem all_of {α : Type} {as : List α} {p : α → Bool} {q : α → D} (h : ∀ a ∈ as, q a = .bl (p a)) : allD [.lst (as.map q)] = some (.val (.bl (as.all p))) := by
  rw [show as.map q = (as.map p).map D.bl by rw [List.map_map]; exact List.map_congr_left h, allD_bl, List.all_map]
  rfl
theorem any_of {α : Type} {as : List α} {p : α → Bool} {q : α → D} (h : ∀ a ∈ as, q a = .bl (p a)) : anyD [.lst (as.map q)] = some (.val (.bl (as.any p))) := by
  rw [show as.map q = (as.map p).map D.bl by rw [List.map_map]; exact List.map_congr_left h, anyD_bl, List.any_map]
  rfl
theorem ssetD_lst {ns : List Int} (h : ns.length < 64) : sortedSetD [.lst (ns.map D.int)] = some (.own (.lst ((sortU ns).map D.int))) := by
  show (intsOf (ns.map D.int)).bind _ = _
  rw [intsOf_map]
  have := sortU_length ns
  exact if_pos ⟨by rw [show scanBound = 4096 from rfl]; omega, by omega⟩
theorem lsetD_lst {ns : List Int} (h : ns.length < 4095) : lenSetD [.lst (ns.map D.int)] = some (.val (.int (sortU ns).length)) := by
  show (intsOf (ns.map D.int)).bind _ = _
  rw [intsOf_map]
  exact if_pos (by rw [show scanBound = 4096 from rfl]; omega)
theorem bind_cond {α β : Type} {r : Res α} {f g : α → DEnv → Res β} (h : ∀ (a : α) (ρ' : DEnv), r = .ok a ρ' → f a ρ' = g a ρ') : r.bind f = r.bind g := by
  cases r with
  | err x => rfl
  | ok a ρ => exact h a ρ rfl
theorem ev_tupS {as : A} {ρ : DEnv} : ev (.tup as) ρ = (evA as ρ).bind fun ds ρ1 => if as.len ≤ 1000 then .ok (.val (.tup ds)) ρ1 else if ds.length ≤ sizeLine then .ok (.val (.tup ds)) ρ1 else .err .stuck := by
  rw [ev_tup]
  refine bind_cond fun ds ρ' e => ?_
  by_cases h : as.len ≤ 1000
  · rw [if_pos h]
    exact if_pos (by rw [evA_len as ρ ds ρ' e]; exact Nat.le_trans h (by decide))
  · rw [if_neg h]
theorem ev_lstS {as : A} {ρ : DEnv} : ev (.lst as) ρ = (evA as ρ).bind fun ds ρ1 => if as.len ≤ 1000 then .ok (.own (.lst ds)) ρ1 else if ds.length ≤ sizeLine then .ok (.own (.lst ds)) ρ1 else .err .stuck := by
  rw [ev_lst]
  refine bind_cond fun ds ρ' e => ?_
  by_cases h : as.len ≤ 1000
  · rw [if_pos h]
    exact if_pos (by rw [evA_len as ρ ds ρ' e]; exact Nat.le_trans h (by decide))
  · rw [if_neg h]
theorem frz_dv {z : R} {ρ : DEnv} : frz z.dv ρ = .ok z.d ρ := by cases z <;> rfl
theorem dat_dv {z : R} {ρ : DEnv} : Dv.dat ρ z.dv = some z.d := by cases z <;> rfl
theorem datA_dv {z : R} {rs : List Dv} {ρ : DEnv} : datA ρ (z.dv :: rs) = (datA ρ rs).map (z.d :: ·) := by
  cases z with
  | val d => exact datA_val
  | own o => exact datA_own
theorem rd_valS {d : D} : (R.val d).d = d := by rfl
theorem rd_ownS {d : Ob} : (R.own d).d = d.d := by rfl
theorem rng1_int {n : Nat} (h : n ≤ 1000) : rngS1 [.int (n : Int)] = some (.rng 0 n) := by
  have : okR (n : Int) = true := by
    simp only [okR, Bool.and_eq_true, decide_eq_true_eq]
    omega
  show (if okR (n : Int) = true ∧ ((n : Int)).toNat ≤ sizeLine then some (Src.rng 0 ((n : Int)).toNat) else none) = _
  rw [if_pos ⟨this, by rw [Int.toNat_natCast]; exact Nat.le_trans h (by decide)⟩, Int.toNat_natCast]
theorem rng_items {n : Nat} {ρ : DEnv} : (Src.rng 0 n).items ρ = some ((List.range n).map fun (i : Nat) => D.int (i : Int)) := by
  show some ((List.range n).map fun (i : Nat) => D.int (0 + (i : Int))) = _
  simp only [Int.zero_add]
theorem ltD_pair {p q : Int × Int} : ltD [pairD p, pairD q] = some (.val (.bl (HT.lexLt [p.1, p.2] [q.1, q.2]))) := by rfl
theorem ltD_tup2 {a b c d : Int} : ltD [.tup [.int a, .int b], .tup [.int c, .int d]] = some (.val (.bl (HT.lexLt [a, b] [c, d]))) := by rfl
theorem setE_new {i : Nat} {c f : Str} {d : D} {fs : List (Str × D)} {ρ : DEnv} (h1 : fs.lookup f = none) (h2 : fs.length < 1000) : setE i c f d (some (.own (.ins c fs))) ρ = .nx (ρ.set i (.own (.ins c (fs ++ [(f, d)])))) := by
  rw [setE_own, if_pos ⟨rfl, h1, h2⟩]
theorem evS_rng1 {z : Bool} {a : E} {ρ : DEnv} : evS z (.rng (.cons a .nil)) ρ = (ev a ρ).bind fun r ρ1 => rgE rngS1 [r] ρ1 := by
  rw [evS_rng, evB_cons]
  cases ev a ρ with
  | err x => rfl
  | ok r ρ1 =>
    rw [bind_okS, bind_okS, evB_nil, bind_okS, bind_okS]
    rfl
theorem evS_rng2 {z : Bool} {a b : E} {ρ : DEnv} : evS z (.rng (.cons a (.cons b .nil))) ρ = (ev a ρ).bind fun r ρ1 => (ev b ρ1).bind fun r' ρ2 => rgE rngS2 [r, r'] ρ2 := by
  rw [evS_rng, evB_cons]
  cases ev a ρ with
  | err x => rfl
  | ok r ρ1 =>
    rw [bind_okS, bind_okS, evB_cons]
    cases ev b ρ1 with
    | err x => rfl
    | ok r' ρ2 =>
      rw [bind_okS, bind_okS, evB_nil, bind_okS, bind_okS, bind_okS]
      rfl
def optR (x : Option R) (ρ : DEnv) : Res Dv := match x with
  | some z => .ok z.dv ρ
  | none => .err .stuck
theorem opEnd_eq {o : List D → Option R} {rs : List Dv} {ρ : DEnv} : opEnd o rs ρ = optR ((datA ρ rs).bind o) ρ := by
  unfold opEnd optR
  rfl
theorem optR_some {z : R} {ρ : DEnv} : optR (some z) ρ = .ok z.dv ρ := by rfl
def optS (x : Option Src) (ρ : DEnv) : Res Src := match x with
  | some z => .ok z ρ
  | none => .err .stuck
theorem rgE_eq {o : List D → Option Src} {rs : List Dv} {ρ : DEnv} : rgE o rs ρ = optS ((datA ρ rs).bind o) ρ := by
  unfold rgE optS
  rfl
theorem optS_some {z : Src} {ρ : DEnv} : optS (some z) ρ = .ok z ρ := by rfl
theorem omap_some {α β : Type} {a : α} {f : α → β} : (some a).map f = some (f a) := by rfl
theorem omap_none {α β : Type} {f : α → β} : (none : Option α).map f = none := by rfl
theorem obind_some {α β : Type} {a : α} {f : α → Option β} : (some a).bind f = f a := by rfl
theorem obind_none {α β : Type} {f : α → Option β} : (none : Option α).bind f = none := by rfl
theorem lget0 {α : Type} {a : α} {l : List α} : (a :: l)[0]? = some a := by rfl
theorem lgetS {α : Type} {a : α} {l : List α} {i : Nat} : (a :: l)[i + 1]? = l[i]? := by rfl
theorem lset0 {α : Type} {a b : α} {l : List α} : (a :: l).set 0 b = b :: l := by rfl
theorem lsetS {α : Type} {a b : α} {l : List α} {i : Nat} : (a :: l).set (i + 1) b = a :: l.set i b := by rfl
theorem lapp {α : Type} {a : α} {l r : List α} : (a :: l) ++ r = a :: (l ++ r) := by rfl
theorem finH_nx {ρ : DEnv} {o : Ob} {r : List Slot} (h : ρ = .own o :: r) : finH (.nx ρ) = .ok (.val .non, o) := by subst h; rfl
/-! ### parts -/
theorem zipD_map {α β : Type} (f : α → D) (g : β → D) : ∀ (as : List α) (bs : List β), zipD (as.map f) (bs.map g) = (as.zip bs).map fun p => D.tup [f p.1, g p.2]
  | [], _ => by simp [zipD]
  | _ :: _, [] => by simp [zipD]
  | a :: as, b :: bs => by simp [zipD, zipD_map f g as bs]
theorem enumD_map {α : Type} (f : α → D) : ∀ (as : List α) (k : Nat), enumD k (as.map f) = (as.zipIdx k).map fun p => D.tup [.int (p.2 : Nat), f p.1]
  | [], _ => by simp [enumD]
  | a :: as, k => by simp [enumD, enumD_map f as (k + 1)]
theorem cut_from {xs : List D} (k : Nat) : cutD xs (some (k : Int)) none = xs.drop k := by
  unfold cutD
  rw [HT.sIx_nat, HT.sIx_none]
  by_cases h : k ≤ xs.length
  · rw [Nat.min_eq_left h, List.take_of_length_le (by rw [List.length_drop]; exact Nat.le_refl _)]
  · rw [Nat.min_eq_right (by omega), List.drop_of_length_le (Nat.le_refl _), List.drop_of_length_le (by omega)]
    exact List.take_nil
theorem cut_to {xs : List D} (k : Nat) : cutD xs none (some (k : Int)) = xs.take k := by
  unfold cutD
  rw [HT.sIx_nat, HT.sIx_none]
  show (xs.drop 0).take (min k xs.length - 0) = _
  rw [List.drop_zero, Nat.sub_zero]
  by_cases h : k ≤ xs.length
  · rw [Nat.min_eq_left h]
  · rw [Nat.min_eq_right (by omega), List.take_of_length_le (Nat.le_refl _), List.take_of_length_le (by omega)]
def sl1 (lo hi : Option Int) : List D → Option R
  | [d] => slD lo hi d
  | _ => none
theorem ev_slE {a : E} {lo hi : P} {ρ : DEnv} : ev (.sl a lo hi) ρ = (ev a ρ).bind fun r ρ1 => (evP lo ρ1).bind fun l ρ2 => (evP hi ρ2).bind fun h ρ3 => opEnd (sl1 l h) [r] ρ3 := by
  rw [ev_sl]
  rfl
theorem sl1_tup {lo hi : Option Int} {xs : List D} : sl1 lo hi [.tup xs] = some (.val (.tup (cutD xs lo hi))) := by rfl
theorem sl1_lst {lo hi : Option Int} {xs : List D} : sl1 lo hi [.lst xs] = some (.own (.lst (cutD xs lo hi))) := by rfl
theorem sl1_frz {lo hi : Option Int} {xs : List D} : sl1 lo hi [.frz xs] = some (.own (.lst (cutD xs lo hi))) := by rfl
/-! ### comprehensions -/
theorem list_ext_set {ρ : DEnv} {i : Nat} {s : Slot} (h : ρ[i]? = some s) : ρ.set i s = ρ := by
  apply List.ext_getElem?
  intro j
  by_cases e : i = j
  · subst e
    rw [List.getElem?_set_self (List.getElem?_eq_some_iff.mp h).1, h]
  · rw [List.getElem?_set_ne e]
theorem rest_wipe (ρ : DEnv) (vs : List Nat) : restD ρ (wipeD ρ vs) vs = ρ := by
  apply List.ext_getElem?
  intro j
  by_cases h : j ∈ vs
  · exact restD_in (wipeD_length ρ vs) h
  · rw [restD_out h, wipeD_out h]
theorem lcGo_pure {α : Type} {enc : α → D} {p : α → Bool} {f : α → D} {s : Src} {vs : List Nat} {t : Tg} {c : DEnv → Res Bool} {e : DEnv → Res D} {xs : List D} {ρ : DEnv} (hs : s.items ρ = some xs) : ∀ (as : List α) (acc : List D),
    (∀ a ∈ as, ∃ ρ1, t.put (enc a) ρ = some ρ1 ∧ c ρ1 = .ok (p a) ρ1 ∧ (p a = true → e ρ1 = .ok (f a) ρ1) ∧ wipeD ρ1 vs = ρ) → lcGo s xs vs t c e (as.map enc) ρ acc = .ok (acc ++ (as.filter p).map f) ρ
  | [], acc, _ => by
    rw [List.map_nil]
    unfold lcGo
    rw [if_pos hs]
    simp
  | a :: as, acc, h => by
    obtain ⟨ρ1, h1, h2, h3, h4⟩ := h a (by simp)
    rw [List.map_cons]
    unfold lcGo
    rw [if_pos hs, h1]
    dsimp only
    rw [h2]
    simp only [bind_okS]
    cases hp : p a with
    | true =>
      rw [if_pos rfl, h3 hp]
      simp only [bind_okS]
      rw [h4, lcGo_pure hs as _ fun b hb => h b (List.mem_cons_of_mem _ hb), List.filter_cons, if_pos hp, List.map_cons]
      simp
    | false =>
      rw [if_neg Bool.false_ne_true, h4, lcGo_pure hs as _ fun b hb => h b (List.mem_cons_of_mem _ hb), List.filter_cons, if_neg (by rw [hp]; exact Bool.false_ne_true)]
/-- a comprehension that changes nothing -/
theorem lcE_pure {α : Type} (enc : α → D) (as : List α) (p : α → Bool) (f : α → D) {s : Src} {vs : List Nat} {t : Tg} {c : DEnv → Res Bool} {e : DEnv → Res D} {ρ : DEnv} (hs : s.items ρ = some (as.map enc)) (hs2 : s.items (wipeD ρ vs) = some (as.map enc))
    (h : ∀ a ∈ as, ∃ ρ1, t.put (enc a) (wipeD ρ vs) = some ρ1 ∧ c ρ1 = .ok (p a) ρ1 ∧ (p a = true → e ρ1 = .ok (f a) ρ1) ∧ wipeD ρ1 vs = wipeD ρ vs) : lcE s vs t c e ρ = .ok (.own (.lst ((as.filter p).map f))) ρ := by
  unfold lcE
  rw [hs]
  dsimp only
  rw [lcGo_pure hs2 as [] h]
  simp only [bind_okS, List.nil_append]
  rw [rest_wipe]
theorem lcE_map {α : Type} (enc : α → D) (as : List α) (f : α → D) {s : Src} {vs : List Nat} {t : Tg} {e : DEnv → Res D} {ρ : DEnv} (hs : s.items ρ = some (as.map enc)) (hs2 : s.items (wipeD ρ vs) = some (as.map enc))
    (h : ∀ a ∈ as, ∃ ρ1, t.put (enc a) (wipeD ρ vs) = some ρ1 ∧ e ρ1 = .ok (f a) ρ1 ∧ wipeD ρ1 vs = wipeD ρ vs) : lcE s vs t (evC .yes) e ρ = .ok (.own (.lst (as.map f))) ρ := by
  rw [lcE_pure enc as (fun _ => true) f hs hs2 fun a ha => ?_]
  · rw [show as.filter (fun _ => true) = as from List.filter_eq_self.mpr fun _ _ => rfl]
  · obtain ⟨ρ1, h1, h2, h3⟩ := h a ha
    exact ⟨ρ1, h1, evC_yes, fun _ => h2, h3⟩
/-- a loop -/
theorem forGo_inv {α : Type} {enc : α → D} {t : Tg} {body : DEnv → SR} (I : List α → DEnv → Prop) : ∀ (as done : List α) (ρ : DEnv), I done ρ → (∀ (dn : List α) (a : α) (rest : List α) (ρ : DEnv), done ++ as = dn ++ a :: rest → I dn ρ → ∃ ρ1 ρ2, t.put (enc a) ρ = some ρ1 ∧ (body ρ1 = .nx ρ2 ∨ body ρ1 = .ct ρ2) ∧ I (dn ++ [a]) ρ2) →
    ∃ ρ', forGo t body (as.map enc) ρ = .nx ρ' ∧ I (done ++ as) ρ'
  | [], done, ρ, h0, _ => ⟨ρ, rfl, by rw [List.append_nil]; exact h0⟩
  | a :: as, done, ρ, h0, h => by
    obtain ⟨ρ1, ρ2, h1, h2, h3⟩ := h done a as ρ rfl h0
    obtain ⟨ρ', h4, h5⟩ := forGo_inv I as (done ++ [a]) ρ2 h3 fun dn b rest ρ e hI => h dn b rest ρ (by rw [← e]; simp) hI
    refine ⟨ρ', ?_, by simpa using h5⟩
    rw [List.map_cons]
    unfold forGo
    rw [h1]
    dsimp only
    rcases h2 with h2 | h2 <;> (rw [h2]; exact h4)
theorem forGo_inv2 {α : Type} {enc : α → D} {t : Tg} {body : DEnv → SR} (I : List α → DEnv → Prop) (as : List α) {ρ : DEnv} {r : SR} (hr : forGo t body (as.map enc) ρ = r) (h0 : I [] ρ) (h : ∀ (dn : List α) (a : α) (rest : List α) (ρ : DEnv), as = dn ++ a :: rest → I dn ρ → ∃ ρ1 ρ2, t.put (enc a) ρ = some ρ1 ∧ (body ρ1 = .nx ρ2 ∨ body ρ1 = .ct ρ2) ∧ I (dn ++ [a]) ρ2) : ∃ ρ', r = .nx ρ' ∧ I as ρ' := by
  subst hr
  exact forGo_inv I as [] ρ h0 h
theorem forE_items {t : Tg} {b : DEnv → SR} {s : Src} {ρ : DEnv} {xs : List D} (hv : s.isVal = true) (h : s.items ρ = some xs) : forE t b s ρ = forGo t b xs ρ := by
  unfold forE
  rw [hv, h]
end DL


set_option Elab.async false
set_option linter.all false
set_option maxRecDepth 100000
set_option maxHeartbeats 1000000
/-! DL23: comprehensions that change something. -/
namespace DL
open PySem PySem.Spec PyProof.Rows L2
theorem lcGo_inv {α : Type} {enc : α → D} {s : Src} {vs : List Nat} {t : Tg} {c : DEnv → Res Bool} {e : DEnv → Res D} {xs : List D} (I : List α → List D → DEnv → Prop) (hs : ∀ dn acc ρ, I dn acc ρ → s.items ρ = some xs) : ∀ (as done : List α) (acc : List D) (ρ : DEnv), I done acc ρ →
    (∀ (dn : List α) (a : α) (rest : List α) (acc : List D) (ρ : DEnv), done ++ as = dn ++ a :: rest → I dn acc ρ → ∃ ρ1 b ρ2, t.put (enc a) ρ = some ρ1 ∧ c ρ1 = .ok b ρ2 ∧ (b = true → ∃ d ρ3, e ρ2 = .ok d ρ3 ∧ I (dn ++ [a]) (acc ++ [d]) (wipeD ρ3 vs)) ∧ (b = false → I (dn ++ [a]) acc (wipeD ρ2 vs))) →
    ∃ acc' ρ', lcGo s xs vs t c e (as.map enc) ρ acc = .ok acc' ρ' ∧ I (done ++ as) acc' ρ'
  | [], done, acc, ρ, h0, _ => by
    refine ⟨acc, ρ, ?_, by rw [List.append_nil]; exact h0⟩
    rw [List.map_nil]
    unfold lcGo
    rw [if_pos (hs _ _ _ h0)]
  | a :: as, done, acc, ρ, h0, h => by
    obtain ⟨ρ1, b, ρ2, h1, h2, h3, h4⟩ := h done a as acc ρ rfl h0
    have nxt : ∀ acc' ρ', I (done ++ [a]) acc' ρ' → ∃ acc'' ρ'', lcGo s xs vs t c e (as.map enc) ρ' acc' = .ok acc'' ρ'' ∧ I (done ++ a :: as) acc'' ρ'' := fun acc' ρ' hI => by
      obtain ⟨x, y, h5, h6⟩ := lcGo_inv I hs as (done ++ [a]) acc' ρ' hI fun dn b rest acc ρ e hI => h dn b rest acc ρ (by rw [← e]; simp) hI
      exact ⟨x, y, h5, by simpa using h6⟩
    rw [List.map_cons]
    unfold lcGo
    rw [if_pos (hs _ _ _ h0), h1]
    dsimp only
    rw [h2, bind_okS]
    cases b with
    | true =>
      obtain ⟨d, ρ3, h5, h6⟩ := h3 rfl
      rw [if_pos rfl, h5, bind_okS]
      exact nxt _ _ h6
    | false =>
      rw [if_neg Bool.false_ne_true]
      exact nxt _ _ (h4 rfl)
theorem lcE_inv {α : Type} (enc : α → D) (as : List α) (I : List α → List D → DEnv → Prop) {s : Src} {vs : List Nat} {t : Tg} {c : DEnv → Res Bool} {e : DEnv → Res D} {ρ : DEnv} (hi : s.items ρ = some (as.map enc)) (hs : ∀ dn acc ρ, I dn acc ρ → s.items ρ = some (as.map enc)) (h0 : I [] [] (wipeD ρ vs))
    (h : ∀ (dn : List α) (a : α) (rest : List α) (acc : List D) (ρ : DEnv), as = dn ++ a :: rest → I dn acc ρ → ∃ ρ1 b ρ2, t.put (enc a) ρ = some ρ1 ∧ c ρ1 = .ok b ρ2 ∧ (b = true → ∃ d ρ3, e ρ2 = .ok d ρ3 ∧ I (dn ++ [a]) (acc ++ [d]) (wipeD ρ3 vs)) ∧ (b = false → I (dn ++ [a]) acc (wipeD ρ2 vs))) :
    ∃ acc ρ', lcE s vs t c e ρ = .ok (.own (.lst acc)) (restD ρ ρ' vs) ∧ I as acc ρ' := by
  obtain ⟨acc, ρ', h1, h2⟩ := lcGo_inv I hs as [] [] (wipeD ρ vs) h0 h
  refine ⟨acc, ρ', ?_, h2⟩
  unfold lcE
  rw [hi]
  dsimp only
  rw [h1, bind_okS]
theorem rng2_int {i n : Nat} (h : n ≤ 1000) (h2 : i ≤ 1000) : rngS2 [.int (i : Int), .int (n : Int)] = some (.rng (i : Int) (n - i)) := by
  have k1 : okR (n : Int) = true := by
    simp only [okR, Bool.and_eq_true, decide_eq_true_eq]
    omega
  have k2 : okR (i : Int) = true := by
    simp only [okR, Bool.and_eq_true, decide_eq_true_eq]
    omega
  show (if okR (i : Int) = true ∧ okR (n : Int) = true ∧ ((n : Int) - (i : Int)).toNat ≤ sizeLine then some (Src.rng (i : Int) ((n : Int) - (i : Int)).toNat) else none) = _
  have e : ((n : Int) - (i : Int)).toNat = n - i := by omega
  rw [e, if_pos ⟨k2, k1, by rw [sizeLine_eq]; omega⟩]
theorem rng2_items {i m : Nat} {ρ : DEnv} : (Src.rng (i : Int) m).items ρ = some ((List.range m).map fun (j : Nat) => D.int ((i + j : Nat) : Int)) := by
  show some ((List.range m).map fun (j : Nat) => D.int ((i : Int) + (j : Int))) = _
  simp only [Int.natCast_add]
end DL


set_option Elab.async false
set_option linter.all false
set_option maxRecDepth 100000
set_option maxHeartbeats 8000000
namespace Lk79
open PySem PySem.Spec PyProof.Rows L2 DL
def top (i : Nat) : Stmt := PySem.Challenge.pw_calmcrews_k79_whole_runs_over_days.main.body.getD i (.Pass ⟨0, 0, 0, 0⟩)
noncomputable def b__law_hand : List T := [.asg 1 (.lc (.sq (.sl (.var 0) .no (.so (.int 63)))) [2] (.nm 2) .yes (.bi .abs (.cons (.bi .int (.cons (.var 2) .nil)) .nil))), .ret (.lst (.cons (.var 1) (.cons (.int 0) (.cons (.int 0) (.cons (.bin .add (.int 421) (.bin .mul (.int 5) (.bi .len (.cons (.var 1) .nil)))) (.cons (.int 0) .nil))))))]
noncomputable def f__law_hand : FS := mkF 1 3 b__law_hand
theorem r__law_hand (d0 : D) : f__law_hand [d0] = fin (exs b__law_hand [.val d0, .non, .non]) := mkF_eq (n := 1) (m := 3) (b := b__law_hand) (ds := [d0]) rfl
noncomputable def b_is_integer : List T := [.ret (.and (.isi .int (.var 0)) (.one (.not (.isi .bool (.var 0)))))]
noncomputable def f_is_integer : FS := mkF 1 1 b_is_integer
theorem r_is_integer (d0 : D) : f_is_integer [d0] = fin (exs b_is_integer [.val d0]) := mkF_eq (n := 1) (m := 1) (b := b_is_integer) (ds := [d0]) rfl
noncomputable def b_is_within : List T := [.ret (.and (.call "is_integer" f_is_integer (.cons (.var 0) .nil)) (.one (.chain .le .le (.var 1) (.var 0) (.var 2))))]
noncomputable def f_is_within : FS := mkF 3 3 b_is_within
theorem r_is_within (d0 d1 d2 : D) : f_is_within [d0, d1, d2] = fin (exs b_is_within [.val d0, .val d1, .val d2]) := mkF_eq (n := 3) (m := 3) (b := b_is_within) (ds := [d0, d1, d2]) rfl
noncomputable def b_is_clash_form : List T := [.ite (.or (.not (.isi .tuple (.var 0))) (.one (.cmp .ne (.bi .len (.cons (.var 0) .nil)) (.int 2)))) [.ret (.bl false)] [], .ret (.and (.bi .all (.cons (.lc (.sq (.var 0)) [2] (.nm 2) .yes (.call "is_within" f_is_within (.cons (.var 2) (.cons (.int 0) (.cons (.bin .sub (.var 1) (.int 1)) .nil))))) .nil)) (.one (.cmp .lt (.ix (.var 0) (.int 0)) (.ix (.var 0) (.int 1)))))]
noncomputable def f_is_clash_form : FS := mkF 2 3 b_is_clash_form
theorem r_is_clash_form (d0 d1 : D) : f_is_clash_form [d0, d1] = fin (exs b_is_clash_form [.val d0, .val d1, .non]) := mkF_eq (n := 2) (m := 3) (b := b_is_clash_form) (ds := [d0, d1]) rfl
noncomputable def b_row_of : List T := [.ret (.bi .tuple (.cons (.sset (.var 0)) .nil))]
noncomputable def f_row_of : FS := mkF 1 1 b_row_of
theorem r_row_of (d0 : D) : f_row_of [d0] = fin (exs b_row_of [.val d0]) := mkF_eq (n := 1) (m := 1) (b := b_row_of) (ds := [d0]) rfl
noncomputable def b_met_by : List T := [.ret (.lc (.sq (.var 0)) [2, 3] (.tup [2, 3]) (.so (.cmp .isIn (.var 1) (.tup (.cons (.var 2) (.cons (.var 3) .nil))))) (.ife (.cmp .eq (.var 2) (.var 1)) (.var 3) (.var 2)))]
noncomputable def f_met_by : FS := mkF 2 4 b_met_by
theorem r_met_by (d0 d1 : D) : f_met_by [d0, d1] = fin (exs b_met_by [.val d0, .val d1, .non, .non]) := mkF_eq (n := 2) (m := 4) (b := b_met_by) (ds := [d0, d1]) rfl
noncomputable def b_Web : List T := [.ite (.not (.call "is_within" f_is_within (.cons (.var 1) (.cons (.int 0) (.cons (.gl "MOST_PERSONS" (.int 16)) .nil))))) [.never] [], .ite (.not (.isi .tuple (.var 2))) [.never] [], .for_ (.en (.var 2)) (.tup [3, 4]) [.ite (.or (.not (.call "is_clash_form" f_is_clash_form (.cons (.var 4) (.cons (.var 1) .nil)))) (.one (.and (.cmp .gt (.var 3) (.int 0)) (.one (.not (.cmp .lt (.ix (.var 2) (.bin .sub (.var 3) (.int 1))) (.var 4))))))) [.never] []], .setA 0 "Web" "persons" (.var 1), .setA 0 "Web" "clashes" (.var 2), .setA 0 "Web" "rows" (.bi .tuple (.cons (.lc (.rng (.cons (.var 1) .nil)) [5] (.nm 5) .yes (.call "row_of" f_row_of (.cons (.call "met_by" f_met_by (.cons (.var 2) (.cons (.var 5) .nil))) .nil))) .nil))]
noncomputable def h_Web : FH := mkH 3 6 b_Web
theorem r_Web (o : Ob) (d0 d1 : D) : h_Web o [d0, d1] = finH (exs b_Web [.own o, .val d0, .val d1, .non, .non, .non]) := mkH_eq (n := 3) (m := 6) (b := b_Web) rfl
noncomputable def b_check_web : List T := [.ite (.not (.isc "Web" (.var 0))) [.never] []]
noncomputable def f_check_web : FS := mkF 1 1 b_check_web
theorem r_check_web (d0 : D) : f_check_web [d0] = fin (exs b_check_web [.val d0]) := mkF_eq (n := 1) (m := 1) (b := b_check_web) (ds := [d0]) rfl
noncomputable def b_check_size : List T := [.expr (.call "check_web" f_check_web (.cons (.var 0) .nil)), .ite (.not (.call "is_within" f_is_within (.cons (.var 1) (.cons (.int 0) (.cons (.gl "MOST_PERSONS" (.int 16)) .nil))))) [.never] []]
noncomputable def f_check_size : FS := mkF 2 2 b_check_size
theorem r_check_size (d0 d1 : D) : f_check_size [d0, d1] = fin (exs b_check_size [.val d0, .val d1]) := mkF_eq (n := 2) (m := 2) (b := b_check_size) (ds := [d0, d1]) rfl
noncomputable def b_are_below : List T := [.ret (.and (.isi .tuple (.var 0)) (.one (.bi .all (.cons (.lc (.sq (.var 0)) [2] (.nm 2) .yes (.call "is_within" f_is_within (.cons (.var 2) (.cons (.int 0) (.cons (.bin .sub (.var 1) (.int 1)) .nil))))) .nil))))]
noncomputable def f_are_below : FS := mkF 2 3 b_are_below
theorem r_are_below (d0 d1 : D) : f_are_below [d0, d1] = fin (exs b_are_below [.val d0, .val d1, .non]) := mkF_eq (n := 2) (m := 3) (b := b_are_below) (ds := [d0, d1]) rfl
noncomputable def b_is_row : List T := [.ret (.and (.call "are_below" f_are_below (.cons (.var 0) (.cons (.var 1) .nil))) (.one (.bi .all (.cons (.lc (.zp (.var 0) (.sl (.var 0) (.so (.int 1)) .no)) [2, 3] (.tup [2, 3]) .yes (.cmp .lt (.var 2) (.var 3))) .nil))))]
noncomputable def f_is_row : FS := mkF 2 4 b_is_row
theorem r_is_row (d0 d1 : D) : f_is_row [d0, d1] = fin (exs b_is_row [.val d0, .val d1, .non, .non]) := mkF_eq (n := 2) (m := 4) (b := b_is_row) (ds := [d0, d1]) rfl
noncomputable def b_check_days : List T := [.expr (.call "check_size" f_check_size (.cons (.var 0) (.cons (.var 1) .nil))), .ite (.or (.not (.isi .tuple (.var 2))) (.one (.cmp .gt (.bi .len (.cons (.var 2) .nil)) (.gl "MOST_DAYS" (.int 30))))) [.never] [], .ite (.not (.bi .all (.cons (.lc (.sq (.var 2)) [3] (.nm 3) .yes (.call "is_row" f_is_row (.cons (.var 3) (.cons (.attr "Web" "persons" (.var 0)) .nil)))) .nil))) [.never] []]
noncomputable def f_check_days : FS := mkF 3 4 b_check_days
theorem r_check_days (d0 d1 d2 : D) : f_check_days [d0, d1, d2] = fin (exs b_check_days [.val d0, .val d1, .val d2, .non]) := mkF_eq (n := 3) (m := 4) (b := b_check_days) (ds := [d0, d1, d2]) rfl
noncomputable def b_short_of : List T := [.asg 1 (.lc (.en (.var 0)) [2, 3] (.tup [2, 3]) (.so (.cmp .eq (.var 3) (.lst .nil))) (.var 2)), .ret (.ife (.cmp .ne (.var 1) (.lst .nil)) (.ix (.var 1) (.int 0)) .non)]
noncomputable def f_short_of : FS := mkF 1 4 b_short_of
theorem r_short_of (d0 : D) : f_short_of [d0] = fin (exs b_short_of [.val d0, .non, .non, .non]) := mkF_eq (n := 1) (m := 4) (b := b_short_of) (ds := [d0]) rfl
noncomputable def b_clashes_with : List T := [.ret (.bi .any (.cons (.lc (.sq (.var 2)) [3] (.nm 3) .yes (.cmp .isIn (.var 3) (.ix (.attr "Web" "rows" (.var 0)) (.var 1)))) .nil))]
noncomputable def f_clashes_with : FS := mkF 3 4 b_clashes_with
theorem r_clashes_with (d0 d1 d2 : D) : f_clashes_with [d0, d1, d2] = fin (exs b_clashes_with [.val d0, .val d1, .val d2, .non]) := mkF_eq (n := 3) (m := 4) (b := b_clashes_with) (ds := [d0, d1, d2]) rfl
noncomputable def b_lots_calm : List T := [.asg 3 (.lst (.cons (.tup .nil) .nil)), .for_ (.rng (.cons (.var 2) .nil)) (.nm 4) [.asg 5 (.lst .nil), .for_ (.sq (.var 3)) (.nm 6) [.asg 7 (.lc (.sq (.var 1)) [8] (.nm 8) (.so (.or (.cmp .eq (.var 6) (.tup .nil)) (.one (.cmp .gt (.var 8) (.ix (.var 6) (.neg (.int 1))))))) (.var 8)), .expr (.ext 5 (.lc (.sq (.var 7)) [8] (.nm 8) (.so (.not (.call "clashes_with" f_clashes_with (.cons (.var 0) (.cons (.var 8) (.cons (.var 6) .nil)))))) (.bin .add (.var 6) (.tup (.cons (.var 8) .nil)))))], .asg 3 (.var 5)], .ret (.var 3)]
noncomputable def f_lots_calm : FS := mkF 3 9 b_lots_calm
theorem r_lots_calm (d0 d1 d2 : D) : f_lots_calm [d0, d1, d2] = fin (exs b_lots_calm [.val d0, .val d1, .val d2, .non, .non, .non, .non, .non, .non]) := mkF_eq (n := 3) (m := 9) (b := b_lots_calm) (ds := [d0, d1, d2]) rfl
noncomputable def b_choices : List T := [.ret (.lc (.sq (.var 2)) [3] (.nm 3) .yes (.call "lots_calm" f_lots_calm (.cons (.var 0) (.cons (.var 3) (.cons (.var 1) .nil)))))]
noncomputable def f_choices : FS := mkF 3 4 b_choices
theorem r_choices (d0 d1 d2 : D) : f_choices [d0, d1, d2] = fin (exs b_choices [.val d0, .val d1, .val d2, .non]) := mkF_eq (n := 3) (m := 4) (b := b_choices) (ds := [d0, d1, d2]) rfl
noncomputable def b_short_day : List T := [.expr (.call "check_days" f_check_days (.cons (.var 0) (.cons (.var 1) (.cons (.var 2) .nil)))), .ret (.call "short_of" f_short_of (.cons (.call "choices" f_choices (.cons (.var 0) (.cons (.var 1) (.cons (.var 2) .nil)))) .nil))]
noncomputable def f_short_day : FS := mkF 3 3 b_short_day
theorem r_short_day (d0 d1 d2 : D) : f_short_day [d0, d1, d2] = fin (exs b_short_day [.val d0, .val d1, .val d2]) := mkF_eq (n := 3) (m := 3) (b := b_short_day) (ds := [d0, d1, d2]) rfl
noncomputable def b_can_run : List T := [.expr (.call "check_days" f_check_days (.cons (.var 0) (.cons (.var 1) (.cons (.var 2) .nil)))), .ret (.cmp .is (.call "short_of" f_short_of (.cons (.call "choices" f_choices (.cons (.var 0) (.cons (.var 1) (.cons (.var 2) .nil)))) .nil)) .non)]
noncomputable def f_can_run : FS := mkF 3 3 b_can_run
theorem r_can_run (d0 d1 d2 : D) : f_can_run [d0, d1, d2] = fin (exs b_can_run [.val d0, .val d1, .val d2]) := mkF_eq (n := 3) (m := 3) (b := b_can_run) (ds := [d0, d1, d2]) rfl
noncomputable def b_is_calm : List T := [.ite (.not (.call "is_row" f_is_row (.cons (.var 1) (.cons (.attr "Web" "persons" (.var 0)) .nil)))) [.ret (.bl false)] [], .ret (.not (.bi .any (.cons (.lc (.sq (.var 1)) [2] (.nm 2) .yes (.call "clashes_with" f_clashes_with (.cons (.var 0) (.cons (.var 2) (.cons (.var 1) .nil))))) .nil)))]
noncomputable def f_is_calm : FS := mkF 2 3 b_is_calm
theorem r_is_calm (d0 d1 : D) : f_is_calm [d0, d1] = fin (exs b_is_calm [.val d0, .val d1, .non]) := mkF_eq (n := 2) (m := 3) (b := b_is_calm) (ds := [d0, d1]) rfl
noncomputable def b_is_among : List T := [.ret (.bi .all (.cons (.lc (.sq (.var 0)) [2] (.nm 2) .yes (.cmp .isIn (.var 2) (.var 1))) .nil))]
noncomputable def f_is_among : FS := mkF 2 3 b_is_among
theorem r_is_among (d0 d1 : D) : f_is_among [d0, d1] = fin (exs b_is_among [.val d0, .val d1, .non]) := mkF_eq (n := 2) (m := 3) (b := b_is_among) (ds := [d0, d1]) rfl
noncomputable def b_is_right_run : List T := [.ite (.or (.not (.isi .list (.var 3))) (.one (.cmp .ne (.bi .len (.cons (.var 3) .nil)) (.bi .len (.cons (.var 2) .nil))))) [.ret (.bl false)] [], .ite (.not (.bi .all (.cons (.lc (.sq (.var 3)) [4] (.nm 4) .yes (.and (.call "is_calm" f_is_calm (.cons (.var 0) (.cons (.var 4) .nil))) (.one (.cmp .eq (.bi .len (.cons (.var 4) .nil)) (.var 1))))) .nil))) [.ret (.bl false)] [], .ret (.bi .all (.cons (.lc (.zp (.var 3) (.var 2)) [4, 5] (.tup [4, 5]) .yes (.call "is_among" f_is_among (.cons (.var 4) (.cons (.var 5) .nil)))) .nil))]
noncomputable def f_is_right_run : FS := mkF 4 6 b_is_right_run
theorem r_is_right_run (d0 d1 d2 d3 : D) : f_is_right_run [d0, d1, d2, d3] = fin (exs b_is_right_run [.val d0, .val d1, .val d2, .val d3, .non, .non]) := mkF_eq (n := 4) (m := 6) (b := b_is_right_run) (ds := [d0, d1, d2, d3]) rfl
noncomputable def b_is_run : List T := [.expr (.call "check_days" f_check_days (.cons (.var 0) (.cons (.var 1) (.cons (.var 2) .nil)))), .ret (.call "is_right_run" f_is_right_run (.cons (.var 0) (.cons (.var 1) (.cons (.var 2) (.cons (.var 3) .nil)))))]
noncomputable def f_is_run : FS := mkF 4 4 b_is_run
theorem r_is_run (d0 d1 d2 d3 : D) : f_is_run [d0, d1, d2, d3] = fin (exs b_is_run [.val d0, .val d1, .val d2, .val d3]) := mkF_eq (n := 4) (m := 4) (b := b_is_run) (ds := [d0, d1, d2, d3]) rfl
noncomputable def b__law_draw : List T := [.ite (.and (.cmp .eq (.ix (.var 0) (.int 2)) (.int 0)) (.one (.cmp .lt (.ix (.var 0) (.int 1)) (.bi .len (.cons (.ix (.var 0) (.int 0)) .nil))))) [.asg 3 (.ix (.ix (.var 0) (.int 0)) (.ix (.var 0) (.int 1))), .setI 0 (.int 1) (.bin .add (.ix (.var 0) (.int 1)) (.int 1)), .setI 0 (.int 3) (.bin .mod (.bi .int (.cons (.bin .add (.bin .add (.bin .mul (.ix (.var 0) (.int 3)) (.int 69621)) (.bin .mul (.var 3) (.int 40692))) (.int 37)) .nil)) (.int 2147483629)), .ite (.cmp .ge (.var 3) (.bin .pow (.int 10) (.int 18))) [.setI 0 (.int 2) (.var 3)] []] [], .ite (.cmp .gt (.ix (.var 0) (.int 2)) (.int 0)) [.asg 4 (.bin .mod (.bi .int (.cons (.ix (.var 0) (.int 2)) .nil)) (.var 1)), .setI 0 (.int 2) (.bin .fdiv (.ix (.var 0) (.int 2)) (.var 1)), .ret (.var 4)] [], .setI 0 (.int 4) (.bin .add (.ix (.var 0) (.int 4)) (.int 1)), .asg 2 (.bin .mod (.bi .int (.cons (.bin .mul (.bi .int (.cons (.bin .add (.ix (.var 0) (.int 3)) (.bin .mul (.int 7919) (.ix (.var 0) (.int 4)))) .nil)) (.int 48271)) .nil)) (.int 2147483647)), .asg 2 (.bin .mod (.bi .int (.cons (.bin .mul (.var 2) (.bin .add (.bin .fdiv (.var 2) (.int 1009)) (.int 69621))) .nil)) (.int 2147483647)), .asg 2 (.bin .mod (.bi .int (.cons (.bin .mul (.var 2) (.bin .add (.bin .fdiv (.var 2) (.int 2003)) (.int 40014))) .nil)) (.int 2147483563)), .ret (.bin .mod (.bi .int (.cons (.bin .fdiv (.var 2) (.int 16)) .nil)) (.var 1))]
noncomputable def h__law_draw : FH := mkH 2 5 b__law_draw
theorem r__law_draw (o : Ob) (d0 : D) : h__law_draw o [d0] = finH (exs b__law_draw [.own o, .val d0, .non, .non, .non]) := mkH_eq (n := 2) (m := 5) (b := b__law_draw) rfl
noncomputable def b__law_any : List T := [.ret (.ix (.var 1) (.callH "_law_draw" h__law_draw 0 (.cons (.bi .len (.cons (.var 1) .nil)) .nil)))]
noncomputable def h__law_any : FH := mkH 2 2 b__law_any
theorem r__law_any (o : Ob) (d0 : D) : h__law_any o [d0] = finH (exs b__law_any [.own o, .val d0]) := mkH_eq (n := 2) (m := 2) (b := b__law_any) rfl
noncomputable def b__law_web : List T := [.par [3, 4] (.cons (.lst .nil) (.cons (.callH "_law_any" h__law_any 0 (.cons (.lst (.cons (.int 2) (.cons (.int 3) (.cons (.int 4) (.cons (.int 1) (.cons (.int 90) .nil)))))) .nil)) .nil)), .for_ (.rng (.cons (.var 1) .nil)) (.nm 2) [.expr (.ext 3 (.lc (.rng (.cons (.bin .add (.var 2) (.int 1)) (.cons (.var 1) .nil))) [5] (.nm 5) .yes (.tup (.cons (.var 2) (.cons (.var 5) .nil)))))], .ret (.tup (.cons (.var 1) (.cons (.bi .tuple (.cons (.lc (.sq (.var 3)) [6] (.nm 6) (.so (.cmp .eq (.callH "_law_draw" h__law_draw 0 (.cons (.var 4) .nil)) (.int 0))) (.var 6)) .nil)) .nil)))]
noncomputable def h__law_web : FH := mkH 2 7 b__law_web
theorem r__law_web (o : Ob) (d0 : D) : h__law_web o [d0] = finH (exs b__law_web [.own o, .val d0, .non, .non, .non, .non, .non]) := mkH_eq (n := 2) (m := 7) (b := b__law_web) rfl
noncomputable def b__law_days : List T := [.asg 2 (.lst .nil), .for_ (.rng (.cons (.callH "_law_draw" h__law_draw 0 (.cons (.int 7) .nil)) .nil)) (.nm 3) [.asg 4 (.callH "_law_any" h__law_any 0 (.cons (.lst (.cons (.int 1) (.cons (.int 5) (.cons (.int 3) (.cons (.int 2) .nil))))) .nil)), .expr (.app 2 (.bi .tuple (.cons (.lc (.rng (.cons (.ix (.var 1) (.int 0)) .nil)) [5] (.nm 5) (.so (.or (.cmp .eq (.var 4) (.int 1)) (.one (.cmp .gt (.callH "_law_draw" h__law_draw 0 (.cons (.var 4) .nil)) (.int 0))))) (.var 5)) .nil)))], .ret (.bi .tuple (.cons (.var 2) .nil))]
noncomputable def h__law_days : FH := mkH 2 6 b__law_days
theorem r__law_days (o : Ob) (d0 : D) : h__law_days o [d0] = finH (exs b__law_days [.own o, .val d0, .non, .non, .non, .non]) := mkH_eq (n := 2) (m := 6) (b := b__law_days) rfl
noncomputable def b__law_fits : List T := [.ret (.and (.cmp .notIn (.var 2) (.var 1)) (.one (.not (.bi .any (.cons (.lc (.sq (.var 1)) [3] (.nm 3) .yes (.cmp .isIn (.tup (.cons (.bi .min2 (.cons (.var 3) (.cons (.var 2) .nil))) (.cons (.bi .max2 (.cons (.var 3) (.cons (.var 2) .nil))) .nil))) (.ix (.var 0) (.int 1)))) .nil)))))]
noncomputable def f__law_fits : FS := mkF 3 4 b__law_fits
theorem r__law_fits (d0 d1 d2 : D) : f__law_fits [d0, d1, d2] = fin (exs b__law_fits [.val d0, .val d1, .val d2, .non]) := mkF_eq (n := 3) (m := 4) (b := b__law_fits) (ds := [d0, d1, d2]) rfl
noncomputable def b__law_crews_of : List T := [.asg 3 (.lst (.cons (.tup .nil) .nil)), .for_ (.rng (.cons (.var 1) .nil)) (.nm 4) [.asg 5 (.lst .nil), .for_ (.sq (.var 3)) (.nm 6) [.asg 7 (.lc (.sq (.var 2)) [8] (.nm 8) (.so (.or (.cmp .eq (.bi .len (.cons (.var 6) .nil)) (.int 0)) (.one (.cmp .gt (.var 8) (.ix (.var 6) (.neg (.int 1))))))) (.var 8)), .expr (.ext 5 (.lc (.sq (.var 7)) [8] (.nm 8) (.so (.call "_law_fits" f__law_fits (.cons (.var 0) (.cons (.var 6) (.cons (.var 8) .nil))))) (.bin .add (.var 6) (.tup (.cons (.var 8) .nil)))))], .asg 3 (.var 5)], .ret (.var 3)]
noncomputable def f__law_crews_of : FS := mkF 3 9 b__law_crews_of
theorem r__law_crews_of (d0 d1 d2 : D) : f__law_crews_of [d0, d1, d2] = fin (exs b__law_crews_of [.val d0, .val d1, .val d2, .non, .non, .non, .non, .non, .non]) := mkF_eq (n := 3) (m := 9) (b := b__law_crews_of) (ds := [d0, d1, d2]) rfl
noncomputable def b_count_runs : List T := [.expr (.call "check_days" f_check_days (.cons (.var 0) (.cons (.var 1) (.cons (.var 2) .nil)))), .asg 3 (.int 1), .for_ (.sq (.call "choices" f_choices (.cons (.var 0) (.cons (.var 1) (.cons (.var 2) .nil))))) (.nm 4) [.asg 3 (.bin .mul (.var 3) (.bi .len (.cons (.var 4) .nil)))], .ret (.var 3)]
noncomputable def f_count_runs : FS := mkF 3 5 b_count_runs
theorem r_count_runs (d0 d1 d2 : D) : f_count_runs [d0, d1, d2] = fin (exs b_count_runs [.val d0, .val d1, .val d2, .non, .non]) := mkF_eq (n := 3) (m := 5) (b := b_count_runs) (ds := [d0, d1, d2]) rfl
noncomputable def b__law_bent : List T := [.asg 3 (.callH "_law_any" h__law_any 0 (.cons (.lst (.cons (.tup .nil) (.cons (.tup (.cons (.int 0) .nil)) (.cons (.tup (.cons (.ix (.var 1) (.int 0)) .nil)) (.cons (.lst (.cons (.int 0) .nil)) (.cons .non (.cons (.bl true) (.cons (.str "x") (.cons .dct0 (.cons (.tup (.cons (.int 0) (.cons (.int 0) .nil))) (.cons (.tup (.cons (.int 1) (.cons (.int 0) .nil))) (.cons (.tup (.cons (.bl true) .nil)) (.cons (.tup (.cons (.neg (.int 1)) .nil)) .nil))))))))))))) .nil)), .ite (.cmp .eq (.bi .len (.cons (.var 2) .nil)) (.int 0)) [.ret (.callH "_law_any" h__law_any 0 (.cons (.lst (.cons (.lst (.cons (.var 3) .nil)) (.cons (.tup .nil) (.cons .non (.cons (.int 0) (.cons .dct0 (.cons (.lst (.cons (.lst .nil) .nil)) (.cons (.lst (.cons (.tup .nil) .nil)) .nil)))))))) .nil))] [], .asg 4 (.callH "_law_draw" h__law_draw 0 (.cons (.bi .len (.cons (.var 2) .nil)) .nil)), .asg 5 (.ife (.cmp .gt (.bi .len (.cons (.ix (.var 2) (.var 4)) .nil)) (.int 1)) (.rev (.ix (.var 2) (.var 4))) (.var 3)), .asg 6 (.bin .add (.bin .add (.sl (.var 2) .no (.so (.var 4))) (.lst (.cons (.callH "_law_any" h__law_any 0 (.cons (.lst (.cons (.var 3) (.cons (.var 3) (.cons (.var 5) (.cons (.bi .list (.cons (.ix (.var 2) (.var 4)) .nil)) (.cons (.bin .add (.ix (.var 2) (.var 4)) (.tup (.cons (.int 0) .nil))) .nil)))))) .nil)) .nil))) (.sl (.var 2) (.so (.bin .add (.var 4) (.int 1))) .no)), .ret (.callH "_law_any" h__law_any 0 (.cons (.lst (.cons (.var 6) (.cons (.var 6) (.cons (.var 6) (.cons (.sl (.var 2) (.so (.int 1)) .no) (.cons (.bin .add (.var 2) (.sl (.var 2) .no (.so (.int 1)))) (.cons (.rev (.var 2)) (.cons (.bi .tuple (.cons (.var 2) .nil)) (.cons .non (.cons (.int 0) (.cons (.lst (.cons (.var 2) .nil)) .nil))))))))))) .nil))]
noncomputable def h__law_bent : FH := mkH 3 7 b__law_bent
theorem r__law_bent (o : Ob) (d0 d1 : D) : h__law_bent o [d0, d1] = finH (exs b__law_bent [.own o, .val d0, .val d1, .non, .non, .non, .non]) := mkH_eq (n := 3) (m := 7) (b := b__law_bent) rfl
noncomputable def b__law_is_crew_of : List T := [.ite (.or (.not (.isi .tuple (.var 3))) (.one (.cmp .ne (.bi .len (.cons (.var 3) .nil)) (.var 1)))) [.ret (.bl false)] [], .ite (.not (.bi .all (.cons (.lc (.sq (.var 3)) [4] (.nm 4) .yes (.and (.isi .int (.var 4)) (.one (.not (.isi .bool (.var 4)))))) .nil))) [.ret (.bl false)] [], .ret (.cmp .isIn (.var 3) (.call "_law_crews_of" f__law_crews_of (.cons (.var 0) (.cons (.var 1) (.cons (.var 2) .nil)))))]
noncomputable def f__law_is_crew_of : FS := mkF 4 5 b__law_is_crew_of
theorem r__law_is_crew_of (d0 d1 d2 d3 : D) : f__law_is_crew_of [d0, d1, d2, d3] = fin (exs b__law_is_crew_of [.val d0, .val d1, .val d2, .val d3, .non]) := mkF_eq (n := 4) (m := 5) (b := b__law_is_crew_of) (ds := [d0, d1, d2, d3]) rfl
noncomputable def b__law_is_run : List T := [.ite (.or (.not (.isi .list (.var 3))) (.one (.cmp .ne (.bi .len (.cons (.var 3) .nil)) (.bi .len (.cons (.var 2) .nil))))) [.ret (.bl false)] [], .ret (.bi .all (.cons (.lc (.zp (.var 2) (.var 3)) [4, 5] (.tup [4, 5]) .yes (.call "_law_is_crew_of" f__law_is_crew_of (.cons (.var 0) (.cons (.var 1) (.cons (.var 4) (.cons (.var 5) .nil)))))) .nil))]
noncomputable def f__law_is_run : FS := mkF 4 6 b__law_is_run
theorem r__law_is_run (d0 d1 d2 d3 : D) : f__law_is_run [d0, d1, d2, d3] = fin (exs b__law_is_run [.val d0, .val d1, .val d2, .val d3, .non, .non]) := mkF_eq (n := 4) (m := 6) (b := b__law_is_run) (ds := [d0, d1, d2, d3]) rfl
noncomputable def b__law_days_right : List T := [.par [7, 8] (.cons (.make "Web" h_Web (.cons (.ix (.var 1) (.int 0)) (.cons (.ix (.var 1) (.int 1)) .nil))) (.cons (.lc (.sq (.var 2)) [13] (.nm 13) .yes (.call "_law_crews_of" f__law_crews_of (.cons (.var 1) (.cons (.var 3) (.cons (.var 13) .nil))))) .nil)), .par [9, 10] (.cons (.lc (.en (.var 8)) [15, 4] (.tup [15, 4]) (.so (.cmp .eq (.bi .len (.cons (.var 4) .nil)) (.int 0))) (.var 15)) (.cons (.int 1) .nil)), .for_ (.sq (.var 8)) (.nm 4) [.asg 10 (.bin .mul (.var 10) (.bi .len (.cons (.var 4) .nil)))], .ite (.cmp .ne (.call "count_runs" f_count_runs (.cons (.var 7) (.cons (.var 3) (.cons (.var 2) .nil)))) (.var 10)) [.ret (.bl false)] [], .ite (.or (.cmp .ne (.call "can_run" f_can_run (.cons (.var 7) (.cons (.var 3) (.cons (.var 2) .nil)))) (.cmp .eq (.bi .len (.cons (.var 9) .nil)) (.int 0))) (.one (.cmp .ne (.call "short_day" f_short_day (.cons (.var 7) (.cons (.var 3) (.cons (.var 2) .nil)))) (.ix (.bin .add (.var 9) (.lst (.cons .non .nil))) (.int 0))))) [.ret (.bl false)] [], .ite (.or (.cmp .isNot (.call "can_run" f_can_run (.cons (.var 7) (.cons (.int 0) (.cons (.var 2) .nil)))) (.bl true)) (.one (.cmp .isNot (.call "short_day" f_short_day (.cons (.var 7) (.cons (.int 0) (.cons (.var 2) .nil)))) .non))) [.ret (.bl false)] [], .ite (.cmp .gt (.bi .len (.cons (.var 9) .nil)) (.int 0)) [.ret (.and (.cmp .is (.call "is_run" f_is_run (.cons (.var 7) (.cons (.var 3) (.cons (.var 2) (.cons (.bin .mul (.lst (.cons (.tup .nil) .nil)) (.bi .len (.cons (.var 2) .nil))) .nil))))) (.bl false)) (.one (.not (.call "can_run" f_can_run (.cons (.var 7) (.cons (.var 3) (.cons (.bin .add (.var 2) (.tup (.cons (.tup .nil) .nil))) .nil)))))))] [], .asg 4 (.lc (.sq (.var 8)) [12] (.nm 12) .yes (.callH "_law_any" h__law_any 0 (.cons (.var 12) .nil))), .for_ (.sq (.bin .add (.lst (.cons (.var 4) .nil)) (.lc (.rng (.cons (.int 6) .nil)) [14] (.nm 14) .yes (.callH "_law_bent" h__law_bent 0 (.cons (.var 1) (.cons (.var 4) .nil)))))) (.nm 5) [.asg 11 (.call "is_run" f_is_run (.cons (.var 7) (.cons (.var 3) (.cons (.var 2) (.cons (.var 5) .nil))))), .ite (.or (.not (.isi .bool (.var 11))) (.one (.cmp .ne (.var 11) (.call "_law_is_run" f__law_is_run (.cons (.var 1) (.cons (.var 3) (.cons (.var 2) (.cons (.var 5) .nil)))))))) [.ret (.bl false)] []], .asg 6 (.bi .tuple (.cons (.lc (.sq (.var 2)) [13] (.nm 13) .yes (.ife (.cmp .eq (.callH "_law_draw" h__law_draw 0 (.cons (.int 2) .nil)) (.int 0)) (.bi .tuple (.cons (.rg1 false (.ix (.var 1) (.int 0))) .nil)) (.var 13))) .nil)), .ret (.and (.cmp .is (.call "is_run" f_is_run (.cons (.var 7) (.cons (.var 3) (.cons (.var 6) (.cons (.var 4) .nil))))) (.bl true)) (.one (.cmp .is (.call "can_run" f_can_run (.cons (.var 7) (.cons (.var 3) (.cons (.var 6) .nil)))) (.bl true))))]
noncomputable def h__law_days_right : FH := mkH 4 16 b__law_days_right
theorem r__law_days_right (o : Ob) (d0 d1 d2 : D) : h__law_days_right o [d0, d1, d2] = finH (exs b__law_days_right [.own o, .val d0, .val d1, .val d2, .non, .non, .non, .non, .non, .non, .non, .non, .non, .non, .non, .non]) := mkH_eq (n := 4) (m := 16) (b := b__law_days_right) rfl
noncomputable def b__law_one_right : List T := [.asg 3 (.lc (.rng (.cons (.ix (.var 0) (.int 0)) .nil)) [5] (.nm 5) (.so (.bi .all (.cons (.lc (.sq (.var 1)) [7] (.nm 7) .yes (.cmp .isIn (.var 5) (.var 7))) .nil))) (.var 5)), .asg 4 (.make "Web" h_Web (.cons (.ix (.var 0) (.int 0)) (.cons (.ix (.var 0) (.int 1)) .nil))), .ret (.bi .all (.cons (.lc (.sq (.sl (.call "_law_crews_of" f__law_crews_of (.cons (.var 0) (.cons (.var 2) (.cons (.var 3) .nil)))) .no (.so (.int 4)))) [6] (.nm 6) .yes (.cmp .is (.call "is_run" f_is_run (.cons (.var 4) (.cons (.var 2) (.cons (.var 1) (.cons (.bin .mul (.lst (.cons (.var 6) .nil)) (.bi .len (.cons (.var 1) .nil))) .nil))))) (.bl true))) .nil))]
noncomputable def f__law_one_right : FS := mkF 3 8 b__law_one_right
theorem r__law_one_right (d0 d1 d2 : D) : f__law_one_right [d0, d1, d2] = fin (exs b__law_one_right [.val d0, .val d1, .val d2, .non, .non, .non, .non, .non]) := mkF_eq (n := 3) (m := 8) (b := b__law_one_right) (ds := [d0, d1, d2]) rfl
noncomputable def b_law : List T := [.asg 1 (.call "_law_hand" f__law_hand (.cons (.var 0) .nil)), .asg 2 (.make "Web" h_Web (.cons (.int 4) (.cons (.tup (.cons (.tup (.cons (.int 0) (.cons (.int 1) .nil))) (.cons (.tup (.cons (.int 1) (.cons (.int 2) .nil))) (.cons (.tup (.cons (.int 2) (.cons (.int 3) .nil))) .nil)))) .nil))), .ite (.or (.cmp .ne (.call "short_day" f_short_day (.cons (.var 2) (.cons (.int 2) (.cons (.tup (.cons (.tup (.cons (.int 0) (.cons (.int 2) .nil))) (.cons (.tup (.cons (.int 0) (.cons (.int 1) .nil))) (.cons (.tup .nil) .nil)))) .nil)))) (.int 1)) (.one (.cmp .isNot (.call "can_run" f_can_run (.cons (.var 2) (.cons (.int 1) (.cons (.tup .nil) .nil)))) (.bl true)))) [.ret (.bl false)] [], .ite (.cmp .isNot (.call "is_run" f_is_run (.cons (.var 2) (.cons (.int 3) (.cons (.tup .nil) (.cons (.lst .nil) .nil))))) (.bl true)) [.ret (.bl false)] [], .ite (.or (.cmp .isNot (.call "is_run" f_is_run (.cons (.var 2) (.cons (.int 1) (.cons (.tup (.cons (.tup (.cons (.int 0) (.cons (.int 1) .nil))) (.cons (.tup (.cons (.int 2) .nil)) .nil))) (.cons (.lst (.cons (.tup (.cons (.int 1) .nil)) (.cons (.tup (.cons (.int 2) .nil)) .nil))) .nil))))) (.bl true)) (.one (.cmp .isNot (.call "is_run" f_is_run (.cons (.var 2) (.cons (.int 1) (.cons (.tup (.cons (.tup (.cons (.int 0) (.cons (.int 1) .nil))) .nil)) (.cons (.lst (.cons (.tup (.cons (.int 2) .nil)) .nil)) .nil))))) (.bl false)))) [.ret (.bl false)] [], .for_ (.rng (.cons (.int 4) .nil)) (.nm 3) [.asg 4 (.callH "_law_web" h__law_web 1 (.cons (.callH "_law_draw" h__law_draw 1 (.cons (.int 8) .nil)) .nil)), .par [5, 6] (.cons (.callH "_law_days" h__law_days 1 (.cons (.var 4) .nil)) (.cons (.callH "_law_draw" h__law_draw 1 (.cons (.int 5) .nil)) .nil)), .ite (.or (.not (.callH "_law_days_right" h__law_days_right 1 (.cons (.var 4) (.cons (.var 5) (.cons (.var 6) .nil))))) (.one (.not (.call "_law_one_right" f__law_one_right (.cons (.var 4) (.cons (.var 5) (.cons (.var 6) .nil))))))) [.ret (.bl false)] []], .ret (.bl true)]
noncomputable def f_law : FS := mkF 1 7 b_law
theorem r_law (d0 : D) : f_law [d0] = fin (exs b_law [.val d0, .non, .non, .non, .non, .non, .non]) := mkF_eq (n := 1) (m := 7) (b := b_law) (ds := [d0]) rfl
structure Txt (K : PySem.W.Frag) (mg : Str → Option Value) : Prop where
  bn : ∀ x ∈ bnames, mg x = none
  d__law_hand : DefAt K mg (top 35) "_law_hand" ["script"]
  d_is_integer : DefAt K mg (top 1) "is_integer" ["thing"]
  d_is_within : DefAt K mg (top 2) "is_within" ["thing", "low", "high"]
  d_is_clash_form : DefAt K mg (top 14) "is_clash_form" ["thing", "persons"]
  d_row_of : DefAt K mg (top 5) "row_of" ["some"]
  d_met_by : DefAt K mg (top 16) "met_by" ["clashes", "person"]
  d_Web : ClsAt K mg (inClass (top 15) 0) "Web" "Web.__init__" ["self", "persons", "clashes"]
  d_check_web : DefAt K mg (top 17) "check_web" ["web"]
  d_check_size : DefAt K mg (top 20) "check_size" ["web", "size"]
  d_are_below : DefAt K mg (top 3) "are_below" ["thing", "many"]
  d_is_row : DefAt K mg (top 4) "is_row" ["thing", "many"]
  d_check_days : DefAt K mg (top 26) "check_days" ["web", "size", "days"]
  d_short_of : DefAt K mg (top 31) "short_of" ["some"]
  d_clashes_with : DefAt K mg (top 18) "clashes_with" ["web", "person", "some"]
  d_lots_calm : DefAt K mg (top 21) "lots_calm" ["web", "roster", "size"]
  d_choices : DefAt K mg (top 29) "choices" ["web", "size", "days"]
  d_short_day : DefAt K mg (top 32) "short_day" ["web", "size", "days"]
  d_can_run : DefAt K mg (top 33) "can_run" ["web", "size", "days"]
  d_is_calm : DefAt K mg (top 19) "is_calm" ["web", "thing"]
  d_is_among : DefAt K mg (top 23) "is_among" ["thing", "roster"]
  d_is_right_run : DefAt K mg (top 27) "is_right_run" ["web", "size", "days", "thing"]
  d_is_run : DefAt K mg (top 28) "is_run" ["web", "size", "days", "thing"]
  d__law_draw : DefAt K mg (top 36) "_law_draw" ["hand", "many"]
  d__law_any : DefAt K mg (top 37) "_law_any" ["hand", "some"]
  d__law_web : DefAt K mg (top 38) "_law_web" ["hand", "many"]
  d__law_days : DefAt K mg (top 41) "_law_days" ["hand", "spec"]
  d__law_fits : DefAt K mg (top 39) "_law_fits" ["spec", "crew", "person"]
  d__law_crews_of : DefAt K mg (top 40) "_law_crews_of" ["spec", "size", "row"]
  d_count_runs : DefAt K mg (top 30) "count_runs" ["web", "size", "days"]
  d__law_bent : DefAt K mg (top 44) "_law_bent" ["hand", "spec", "some"]
  d__law_is_crew_of : DefAt K mg (top 43) "_law_is_crew_of" ["spec", "size", "row", "crew"]
  d__law_is_run : DefAt K mg (top 42) "_law_is_run" ["spec", "size", "days", "thing"]
  d__law_days_right : DefAt K mg (top 45) "_law_days_right" ["hand", "spec", "days", "size"]
  d__law_one_right : DefAt K mg (top 46) "_law_one_right" ["spec", "days", "size"]
  d_law : DefAt K mg (top 47) "law" ["script"]
  g_MOST_DAYS : ∃ v u, mg "MOST_DAYS" = some u ∧ RelV v u ∧ ∀ F, Dr K mg F v (.int 30)
  g_MOST_PERSONS : ∃ v u, mg "MOST_PERSONS" = some u ∧ RelV v u ∧ ∀ F, Dr K mg F v (.int 16)
  a_Web_clashes : NoAt K mg "Web" "clashes"
  a_Web_persons : NoAt K mg "Web" "persons"
  a_Web_rows : NoAt K mg "Web" "rows"
  i_Web : IcAt K mg "Web"
section
variable {P : Program} {w : World} {K : PySem.W.Frag} {mg : Str → Option Value} {base : Heap}
theorem ok__law_hand (T : Txt K mg) (f : Addr) (fd : FuncData) (F : Fun K "_law_hand" "_law_hand" (top 35) f fd) : FnOk P w K mg base CX0 1 f fd ["script"] (spF K mg 1 f__law_hand) :=
  fs_ok (N := ["script", "cells", "cell"]) F ⟨rfl, rfl, rfl, by decide +kernel, rfl, by decide +kernel, by decide +kernel⟩ (by decide) (by decide +kernel) T.bn at_nil
theorem n__law_hand (T : Txt K mg) {k : Nat} (h : 1 ≤ k) : (Need.fn "_law_hand" f__law_hand 1).At P w K mg base k := need_fn T.d__law_hand (ok__law_hand T) rfl h
theorem ok_is_integer (T : Txt K mg) (f : Addr) (fd : FuncData) (F : Fun K "is_integer" "is_integer" (top 1) f fd) : FnOk P w K mg base CX0 1 f fd ["thing"] (spF K mg 1 f_is_integer) :=
  fs_ok (N := ["thing"]) F ⟨rfl, rfl, rfl, by decide +kernel, rfl, by decide +kernel, by decide +kernel⟩ (by decide) (by decide +kernel) T.bn at_nil
theorem n_is_integer (T : Txt K mg) {k : Nat} (h : 1 ≤ k) : (Need.fn "is_integer" f_is_integer 1).At P w K mg base k := need_fn T.d_is_integer (ok_is_integer T) rfl h
theorem ok_is_within (T : Txt K mg) (f : Addr) (fd : FuncData) (F : Fun K "is_within" "is_within" (top 2) f fd) : FnOk P w K mg base CX0 2 f fd ["thing", "low", "high"] (spF K mg 3 f_is_within) :=
  fs_ok (N := ["thing", "low", "high"]) F ⟨rfl, rfl, rfl, by decide +kernel, rfl, by decide +kernel, by decide +kernel⟩ (by decide) (by decide +kernel) T.bn (at_cons (n_is_integer T (by decide)) at_nil)
theorem n_is_within (T : Txt K mg) {k : Nat} (h : 2 ≤ k) : (Need.fn "is_within" f_is_within 3).At P w K mg base k := need_fn T.d_is_within (ok_is_within T) rfl h
theorem ok_is_clash_form (T : Txt K mg) (f : Addr) (fd : FuncData) (F : Fun K "is_clash_form" "is_clash_form" (top 14) f fd) : FnOk P w K mg base CX0 3 f fd ["thing", "persons"] (spF K mg 2 f_is_clash_form) :=
  fs_ok (N := ["thing", "persons", "one"]) F ⟨rfl, rfl, rfl, by decide +kernel, rfl, by decide +kernel, by decide +kernel⟩ (by decide) (by decide +kernel) T.bn (at_cons (n_is_within T (by decide)) at_nil)
theorem n_is_clash_form (T : Txt K mg) {k : Nat} (h : 3 ≤ k) : (Need.fn "is_clash_form" f_is_clash_form 2).At P w K mg base k := need_fn T.d_is_clash_form (ok_is_clash_form T) rfl h
theorem ok_row_of (T : Txt K mg) (f : Addr) (fd : FuncData) (F : Fun K "row_of" "row_of" (top 5) f fd) : FnOk P w K mg base CX0 1 f fd ["some"] (spF K mg 1 f_row_of) :=
  fs_ok (N := ["some"]) F ⟨rfl, rfl, rfl, by decide +kernel, rfl, by decide +kernel, by decide +kernel⟩ (by decide) (by decide +kernel) T.bn at_nil
theorem n_row_of (T : Txt K mg) {k : Nat} (h : 1 ≤ k) : (Need.fn "row_of" f_row_of 1).At P w K mg base k := need_fn T.d_row_of (ok_row_of T) rfl h
theorem ok_met_by (T : Txt K mg) (f : Addr) (fd : FuncData) (F : Fun K "met_by" "met_by" (top 16) f fd) : FnOk P w K mg base CX0 1 f fd ["clashes", "person"] (spF K mg 2 f_met_by) :=
  fs_ok (N := ["clashes", "person", "x", "y"]) F ⟨rfl, rfl, rfl, by decide +kernel, rfl, by decide +kernel, by decide +kernel⟩ (by decide) (by decide +kernel) T.bn at_nil
theorem n_met_by (T : Txt K mg) {k : Nat} (h : 1 ≤ k) : (Need.fn "met_by" f_met_by 2).At P w K mg base k := need_fn T.d_met_by (ok_met_by T) rfl h
theorem ok_Web (T : Txt K mg) (f : Addr) (fd : FuncData) (F : Fun K "__init__" "Web.__init__" (inClass (top 15) 0) f fd) : FnOk P w K mg base CX0 4 f fd ["self", "persons", "clashes"] (spH K mg 3 h_Web) :=
  fh_ok (N := ["self", "persons", "clashes", "at", "pair", "person"]) F ⟨rfl, rfl, rfl, by decide +kernel, rfl, by decide +kernel, by decide +kernel⟩ (by decide) (by decide +kernel) T.bn (at_cons (n_is_within T (by decide)) (at_cons T.g_MOST_PERSONS (at_cons (n_is_clash_form T (by decide)) (at_cons (need_at T.d_Web T.a_Web_persons) (at_cons (need_at T.d_Web T.a_Web_clashes) (at_cons (need_at T.d_Web T.a_Web_rows) (at_cons (n_row_of T (by decide)) (at_cons (n_met_by T (by decide)) at_nil))))))))
theorem n_Web (T : Txt K mg) {k : Nat} (h : 5 ≤ k) : (Need.mk "Web" h_Web 3).At P w K mg base k := need_mk T.d_Web (ok_Web T) rfl h
theorem ok_check_web (T : Txt K mg) (f : Addr) (fd : FuncData) (F : Fun K "check_web" "check_web" (top 17) f fd) : FnOk P w K mg base CX0 1 f fd ["web"] (spF K mg 1 f_check_web) :=
  fs_ok (N := ["web"]) F ⟨rfl, rfl, rfl, by decide +kernel, rfl, by decide +kernel, by decide +kernel⟩ (by decide) (by decide +kernel) T.bn (at_cons (need_ic T.d_Web T.i_Web) at_nil)
theorem n_check_web (T : Txt K mg) {k : Nat} (h : 1 ≤ k) : (Need.fn "check_web" f_check_web 1).At P w K mg base k := need_fn T.d_check_web (ok_check_web T) rfl h
theorem ok_check_size (T : Txt K mg) (f : Addr) (fd : FuncData) (F : Fun K "check_size" "check_size" (top 20) f fd) : FnOk P w K mg base CX0 3 f fd ["web", "size"] (spF K mg 2 f_check_size) :=
  fs_ok (N := ["web", "size"]) F ⟨rfl, rfl, rfl, by decide +kernel, rfl, by decide +kernel, by decide +kernel⟩ (by decide) (by decide +kernel) T.bn (at_cons (n_check_web T (by decide)) (at_cons (n_is_within T (by decide)) (at_cons T.g_MOST_PERSONS at_nil)))
theorem n_check_size (T : Txt K mg) {k : Nat} (h : 3 ≤ k) : (Need.fn "check_size" f_check_size 2).At P w K mg base k := need_fn T.d_check_size (ok_check_size T) rfl h
theorem ok_are_below (T : Txt K mg) (f : Addr) (fd : FuncData) (F : Fun K "are_below" "are_below" (top 3) f fd) : FnOk P w K mg base CX0 3 f fd ["thing", "many"] (spF K mg 2 f_are_below) :=
  fs_ok (N := ["thing", "many", "one"]) F ⟨rfl, rfl, rfl, by decide +kernel, rfl, by decide +kernel, by decide +kernel⟩ (by decide) (by decide +kernel) T.bn (at_cons (n_is_within T (by decide)) at_nil)
theorem n_are_below (T : Txt K mg) {k : Nat} (h : 3 ≤ k) : (Need.fn "are_below" f_are_below 2).At P w K mg base k := need_fn T.d_are_below (ok_are_below T) rfl h
theorem ok_is_row (T : Txt K mg) (f : Addr) (fd : FuncData) (F : Fun K "is_row" "is_row" (top 4) f fd) : FnOk P w K mg base CX0 4 f fd ["thing", "many"] (spF K mg 2 f_is_row) :=
  fs_ok (N := ["thing", "many", "one", "other"]) F ⟨rfl, rfl, rfl, by decide +kernel, rfl, by decide +kernel, by decide +kernel⟩ (by decide) (by decide +kernel) T.bn (at_cons (n_are_below T (by decide)) at_nil)
theorem n_is_row (T : Txt K mg) {k : Nat} (h : 4 ≤ k) : (Need.fn "is_row" f_is_row 2).At P w K mg base k := need_fn T.d_is_row (ok_is_row T) rfl h
theorem ok_check_days (T : Txt K mg) (f : Addr) (fd : FuncData) (F : Fun K "check_days" "check_days" (top 26) f fd) : FnOk P w K mg base CX0 5 f fd ["web", "size", "days"] (spF K mg 3 f_check_days) :=
  fs_ok (N := ["web", "size", "days", "row"]) F ⟨rfl, rfl, rfl, by decide +kernel, rfl, by decide +kernel, by decide +kernel⟩ (by decide) (by decide +kernel) T.bn (at_cons (n_check_size T (by decide)) (at_cons T.g_MOST_DAYS (at_cons (n_is_row T (by decide)) (at_cons (need_at T.d_Web T.a_Web_persons) at_nil))))
theorem n_check_days (T : Txt K mg) {k : Nat} (h : 5 ≤ k) : (Need.fn "check_days" f_check_days 3).At P w K mg base k := need_fn T.d_check_days (ok_check_days T) rfl h
theorem ok_short_of (T : Txt K mg) (f : Addr) (fd : FuncData) (F : Fun K "short_of" "short_of" (top 31) f fd) : FnOk P w K mg base CX0 1 f fd ["some"] (spF K mg 1 f_short_of) :=
  fs_ok (N := ["some", "found", "day", "crews"]) F ⟨rfl, rfl, rfl, by decide +kernel, rfl, by decide +kernel, by decide +kernel⟩ (by decide) (by decide +kernel) T.bn at_nil
theorem n_short_of (T : Txt K mg) {k : Nat} (h : 1 ≤ k) : (Need.fn "short_of" f_short_of 1).At P w K mg base k := need_fn T.d_short_of (ok_short_of T) rfl h
theorem ok_clashes_with (T : Txt K mg) (f : Addr) (fd : FuncData) (F : Fun K "clashes_with" "clashes_with" (top 18) f fd) : FnOk P w K mg base CX0 1 f fd ["web", "person", "some"] (spF K mg 3 f_clashes_with) :=
  fs_ok (N := ["web", "person", "some", "other"]) F ⟨rfl, rfl, rfl, by decide +kernel, rfl, by decide +kernel, by decide +kernel⟩ (by decide) (by decide +kernel) T.bn (at_cons (need_at T.d_Web T.a_Web_rows) at_nil)
theorem n_clashes_with (T : Txt K mg) {k : Nat} (h : 1 ≤ k) : (Need.fn "clashes_with" f_clashes_with 3).At P w K mg base k := need_fn T.d_clashes_with (ok_clashes_with T) rfl h
theorem ok_lots_calm (T : Txt K mg) (f : Addr) (fd : FuncData) (F : Fun K "lots_calm" "lots_calm" (top 21) f fd) : FnOk P w K mg base CX0 2 f fd ["web", "roster", "size"] (spF K mg 3 f_lots_calm) :=
  fs_ok (N := ["web", "roster", "size", "found", "turn", "longer", "crew", "behind", "one"]) F ⟨rfl, rfl, rfl, by decide +kernel, rfl, by decide +kernel, by decide +kernel⟩ (by decide) (by decide +kernel) T.bn (at_cons (n_clashes_with T (by decide)) at_nil)
theorem n_lots_calm (T : Txt K mg) {k : Nat} (h : 2 ≤ k) : (Need.fn "lots_calm" f_lots_calm 3).At P w K mg base k := need_fn T.d_lots_calm (ok_lots_calm T) rfl h
theorem ok_choices (T : Txt K mg) (f : Addr) (fd : FuncData) (F : Fun K "choices" "choices" (top 29) f fd) : FnOk P w K mg base CX0 3 f fd ["web", "size", "days"] (spF K mg 3 f_choices) :=
  fs_ok (N := ["web", "size", "days", "row"]) F ⟨rfl, rfl, rfl, by decide +kernel, rfl, by decide +kernel, by decide +kernel⟩ (by decide) (by decide +kernel) T.bn (at_cons (n_lots_calm T (by decide)) at_nil)
theorem n_choices (T : Txt K mg) {k : Nat} (h : 3 ≤ k) : (Need.fn "choices" f_choices 3).At P w K mg base k := need_fn T.d_choices (ok_choices T) rfl h
theorem ok_short_day (T : Txt K mg) (f : Addr) (fd : FuncData) (F : Fun K "short_day" "short_day" (top 32) f fd) : FnOk P w K mg base CX0 6 f fd ["web", "size", "days"] (spF K mg 3 f_short_day) :=
  fs_ok (N := ["web", "size", "days"]) F ⟨rfl, rfl, rfl, by decide +kernel, rfl, by decide +kernel, by decide +kernel⟩ (by decide) (by decide +kernel) T.bn (at_cons (n_check_days T (by decide)) (at_cons (n_short_of T (by decide)) (at_cons (n_choices T (by decide)) at_nil)))
theorem n_short_day (T : Txt K mg) {k : Nat} (h : 6 ≤ k) : (Need.fn "short_day" f_short_day 3).At P w K mg base k := need_fn T.d_short_day (ok_short_day T) rfl h
theorem ok_can_run (T : Txt K mg) (f : Addr) (fd : FuncData) (F : Fun K "can_run" "can_run" (top 33) f fd) : FnOk P w K mg base CX0 6 f fd ["web", "size", "days"] (spF K mg 3 f_can_run) :=
  fs_ok (N := ["web", "size", "days"]) F ⟨rfl, rfl, rfl, by decide +kernel, rfl, by decide +kernel, by decide +kernel⟩ (by decide) (by decide +kernel) T.bn (at_cons (n_check_days T (by decide)) (at_cons (n_short_of T (by decide)) (at_cons (n_choices T (by decide)) at_nil)))
theorem n_can_run (T : Txt K mg) {k : Nat} (h : 6 ≤ k) : (Need.fn "can_run" f_can_run 3).At P w K mg base k := need_fn T.d_can_run (ok_can_run T) rfl h
theorem ok_is_calm (T : Txt K mg) (f : Addr) (fd : FuncData) (F : Fun K "is_calm" "is_calm" (top 19) f fd) : FnOk P w K mg base CX0 5 f fd ["web", "thing"] (spF K mg 2 f_is_calm) :=
  fs_ok (N := ["web", "thing", "person"]) F ⟨rfl, rfl, rfl, by decide +kernel, rfl, by decide +kernel, by decide +kernel⟩ (by decide) (by decide +kernel) T.bn (at_cons (n_is_row T (by decide)) (at_cons (need_at T.d_Web T.a_Web_persons) (at_cons (n_clashes_with T (by decide)) at_nil)))
theorem n_is_calm (T : Txt K mg) {k : Nat} (h : 5 ≤ k) : (Need.fn "is_calm" f_is_calm 2).At P w K mg base k := need_fn T.d_is_calm (ok_is_calm T) rfl h
theorem ok_is_among (T : Txt K mg) (f : Addr) (fd : FuncData) (F : Fun K "is_among" "is_among" (top 23) f fd) : FnOk P w K mg base CX0 1 f fd ["thing", "roster"] (spF K mg 2 f_is_among) :=
  fs_ok (N := ["thing", "roster", "one"]) F ⟨rfl, rfl, rfl, by decide +kernel, rfl, by decide +kernel, by decide +kernel⟩ (by decide) (by decide +kernel) T.bn at_nil
theorem n_is_among (T : Txt K mg) {k : Nat} (h : 1 ≤ k) : (Need.fn "is_among" f_is_among 2).At P w K mg base k := need_fn T.d_is_among (ok_is_among T) rfl h
theorem ok_is_right_run (T : Txt K mg) (f : Addr) (fd : FuncData) (F : Fun K "is_right_run" "is_right_run" (top 27) f fd) : FnOk P w K mg base CX0 6 f fd ["web", "size", "days", "thing"] (spF K mg 4 f_is_right_run) :=
  fs_ok (N := ["web", "size", "days", "thing", "crew", "row"]) F ⟨rfl, rfl, rfl, by decide +kernel, rfl, by decide +kernel, by decide +kernel⟩ (by decide) (by decide +kernel) T.bn (at_cons (n_is_calm T (by decide)) (at_cons (n_is_among T (by decide)) at_nil))
theorem n_is_right_run (T : Txt K mg) {k : Nat} (h : 6 ≤ k) : (Need.fn "is_right_run" f_is_right_run 4).At P w K mg base k := need_fn T.d_is_right_run (ok_is_right_run T) rfl h
theorem ok_is_run (T : Txt K mg) (f : Addr) (fd : FuncData) (F : Fun K "is_run" "is_run" (top 28) f fd) : FnOk P w K mg base CX0 7 f fd ["web", "size", "days", "thing"] (spF K mg 4 f_is_run) :=
  fs_ok (N := ["web", "size", "days", "thing"]) F ⟨rfl, rfl, rfl, by decide +kernel, rfl, by decide +kernel, by decide +kernel⟩ (by decide) (by decide +kernel) T.bn (at_cons (n_check_days T (by decide)) (at_cons (n_is_right_run T (by decide)) at_nil))
theorem n_is_run (T : Txt K mg) {k : Nat} (h : 7 ≤ k) : (Need.fn "is_run" f_is_run 4).At P w K mg base k := need_fn T.d_is_run (ok_is_run T) rfl h
theorem ok__law_draw (T : Txt K mg) (f : Addr) (fd : FuncData) (F : Fun K "_law_draw" "_law_draw" (top 36) f fd) : FnOk P w K mg base CX0 1 f fd ["hand", "many"] (spH K mg 2 h__law_draw) :=
  fh_ok (N := ["hand", "many", "number", "cell", "digit"]) F ⟨rfl, rfl, rfl, by decide +kernel, rfl, by decide +kernel, by decide +kernel⟩ (by decide) (by decide +kernel) T.bn at_nil
theorem n__law_draw (T : Txt K mg) {k : Nat} (h : 1 ≤ k) : (Need.fh "_law_draw" h__law_draw 2).At P w K mg base k := need_fh T.d__law_draw (ok__law_draw T) rfl h
theorem ok__law_any (T : Txt K mg) (f : Addr) (fd : FuncData) (F : Fun K "_law_any" "_law_any" (top 37) f fd) : FnOk P w K mg base CX0 2 f fd ["hand", "some"] (spH K mg 2 h__law_any) :=
  fh_ok (N := ["hand", "some"]) F ⟨rfl, rfl, rfl, by decide +kernel, rfl, by decide +kernel, by decide +kernel⟩ (by decide) (by decide +kernel) T.bn (at_cons (n__law_draw T (by decide)) at_nil)
theorem n__law_any (T : Txt K mg) {k : Nat} (h : 2 ≤ k) : (Need.fh "_law_any" h__law_any 2).At P w K mg base k := need_fh T.d__law_any (ok__law_any T) rfl h
theorem ok__law_web (T : Txt K mg) (f : Addr) (fd : FuncData) (F : Fun K "_law_web" "_law_web" (top 38) f fd) : FnOk P w K mg base CX0 3 f fd ["hand", "many"] (spH K mg 2 h__law_web) :=
  fh_ok (N := ["hand", "many", "one", "every", "share", "other", "pair"]) F ⟨rfl, rfl, rfl, by decide +kernel, rfl, by decide +kernel, by decide +kernel⟩ (by decide) (by decide +kernel) T.bn (at_cons (n__law_any T (by decide)) (at_cons (n__law_draw T (by decide)) at_nil))
theorem n__law_web (T : Txt K mg) {k : Nat} (h : 3 ≤ k) : (Need.fh "_law_web" h__law_web 2).At P w K mg base k := need_fh T.d__law_web (ok__law_web T) rfl h
theorem ok__law_days (T : Txt K mg) (f : Addr) (fd : FuncData) (F : Fun K "_law_days" "_law_days" (top 41) f fd) : FnOk P w K mg base CX0 3 f fd ["hand", "spec"] (spH K mg 2 h__law_days) :=
  fh_ok (N := ["hand", "spec", "found", "turn", "share", "one"]) F ⟨rfl, rfl, rfl, by decide +kernel, rfl, by decide +kernel, by decide +kernel⟩ (by decide) (by decide +kernel) T.bn (at_cons (n__law_draw T (by decide)) (at_cons (n__law_any T (by decide)) (at_cons (n__law_draw T (by decide)) at_nil)))
theorem n__law_days (T : Txt K mg) {k : Nat} (h : 3 ≤ k) : (Need.fh "_law_days" h__law_days 2).At P w K mg base k := need_fh T.d__law_days (ok__law_days T) rfl h
theorem ok__law_fits (T : Txt K mg) (f : Addr) (fd : FuncData) (F : Fun K "_law_fits" "_law_fits" (top 39) f fd) : FnOk P w K mg base CX0 1 f fd ["spec", "crew", "person"] (spF K mg 3 f__law_fits) :=
  fs_ok (N := ["spec", "crew", "person", "one"]) F ⟨rfl, rfl, rfl, by decide +kernel, rfl, by decide +kernel, by decide +kernel⟩ (by decide) (by decide +kernel) T.bn at_nil
theorem n__law_fits (T : Txt K mg) {k : Nat} (h : 1 ≤ k) : (Need.fn "_law_fits" f__law_fits 3).At P w K mg base k := need_fn T.d__law_fits (ok__law_fits T) rfl h
theorem ok__law_crews_of (T : Txt K mg) (f : Addr) (fd : FuncData) (F : Fun K "_law_crews_of" "_law_crews_of" (top 40) f fd) : FnOk P w K mg base CX0 2 f fd ["spec", "size", "row"] (spF K mg 3 f__law_crews_of) :=
  fs_ok (N := ["spec", "size", "row", "found", "turn", "longer", "crew", "some", "one"]) F ⟨rfl, rfl, rfl, by decide +kernel, rfl, by decide +kernel, by decide +kernel⟩ (by decide) (by decide +kernel) T.bn (at_cons (n__law_fits T (by decide)) at_nil)
theorem n__law_crews_of (T : Txt K mg) {k : Nat} (h : 2 ≤ k) : (Need.fn "_law_crews_of" f__law_crews_of 3).At P w K mg base k := need_fn T.d__law_crews_of (ok__law_crews_of T) rfl h
theorem ok_count_runs (T : Txt K mg) (f : Addr) (fd : FuncData) (F : Fun K "count_runs" "count_runs" (top 30) f fd) : FnOk P w K mg base CX0 6 f fd ["web", "size", "days"] (spF K mg 3 f_count_runs) :=
  fs_ok (N := ["web", "size", "days", "number", "crews"]) F ⟨rfl, rfl, rfl, by decide +kernel, rfl, by decide +kernel, by decide +kernel⟩ (by decide) (by decide +kernel) T.bn (at_cons (n_check_days T (by decide)) (at_cons (n_choices T (by decide)) at_nil))
theorem n_count_runs (T : Txt K mg) {k : Nat} (h : 6 ≤ k) : (Need.fn "count_runs" f_count_runs 3).At P w K mg base k := need_fn T.d_count_runs (ok_count_runs T) rfl h
theorem ok__law_bent (T : Txt K mg) (f : Addr) (fd : FuncData) (F : Fun K "_law_bent" "_law_bent" (top 44) f fd) : FnOk P w K mg base CX0 3 f fd ["hand", "spec", "some"] (spH K mg 3 h__law_bent) :=
  fh_ok (N := ["hand", "spec", "some", "odd", "at", "turn", "bent"]) F ⟨rfl, rfl, rfl, by decide +kernel, rfl, by decide +kernel, by decide +kernel⟩ (by decide) (by decide +kernel) T.bn (at_cons (n__law_any T (by decide)) (at_cons (n__law_any T (by decide)) (at_cons (n__law_draw T (by decide)) (at_cons (n__law_any T (by decide)) (at_cons (n__law_any T (by decide)) at_nil)))))
theorem n__law_bent (T : Txt K mg) {k : Nat} (h : 3 ≤ k) : (Need.fh "_law_bent" h__law_bent 3).At P w K mg base k := need_fh T.d__law_bent (ok__law_bent T) rfl h
theorem ok__law_is_crew_of (T : Txt K mg) (f : Addr) (fd : FuncData) (F : Fun K "_law_is_crew_of" "_law_is_crew_of" (top 43) f fd) : FnOk P w K mg base CX0 3 f fd ["spec", "size", "row", "crew"] (spF K mg 4 f__law_is_crew_of) :=
  fs_ok (N := ["spec", "size", "row", "crew", "one"]) F ⟨rfl, rfl, rfl, by decide +kernel, rfl, by decide +kernel, by decide +kernel⟩ (by decide) (by decide +kernel) T.bn (at_cons (n__law_crews_of T (by decide)) at_nil)
theorem n__law_is_crew_of (T : Txt K mg) {k : Nat} (h : 3 ≤ k) : (Need.fn "_law_is_crew_of" f__law_is_crew_of 4).At P w K mg base k := need_fn T.d__law_is_crew_of (ok__law_is_crew_of T) rfl h
theorem ok__law_is_run (T : Txt K mg) (f : Addr) (fd : FuncData) (F : Fun K "_law_is_run" "_law_is_run" (top 42) f fd) : FnOk P w K mg base CX0 4 f fd ["spec", "size", "days", "thing"] (spF K mg 4 f__law_is_run) :=
  fs_ok (N := ["spec", "size", "days", "thing", "row", "crew"]) F ⟨rfl, rfl, rfl, by decide +kernel, rfl, by decide +kernel, by decide +kernel⟩ (by decide) (by decide +kernel) T.bn (at_cons (n__law_is_crew_of T (by decide)) at_nil)
theorem n__law_is_run (T : Txt K mg) {k : Nat} (h : 4 ≤ k) : (Need.fn "_law_is_run" f__law_is_run 4).At P w K mg base k := need_fn T.d__law_is_run (ok__law_is_run T) rfl h
theorem ok__law_days_right (T : Txt K mg) (f : Addr) (fd : FuncData) (F : Fun K "_law_days_right" "_law_days_right" (top 45) f fd) : FnOk P w K mg base CX0 8 f fd ["hand", "spec", "days", "size"] (spH K mg 4 h__law_days_right) :=
  fh_ok (N := ["hand", "spec", "days", "size", "some", "thing", "fuller", "web", "lists", "short", "due", "flag", "crews_of", "row", "turn", "at"]) F ⟨rfl, rfl, rfl, by decide +kernel, rfl, by decide +kernel, by decide +kernel⟩ (by decide) (by decide +kernel) T.bn (at_cons (n_Web T (by decide)) (at_cons (n__law_crews_of T (by decide)) (at_cons (n_count_runs T (by decide)) (at_cons (n_can_run T (by decide)) (at_cons (n_short_day T (by decide)) (at_cons (n_can_run T (by decide)) (at_cons (n_short_day T (by decide)) (at_cons (n_is_run T (by decide)) (at_cons (n_can_run T (by decide)) (at_cons (n__law_any T (by decide)) (at_cons (n__law_bent T (by decide)) (at_cons (n_is_run T (by decide)) (at_cons (n__law_is_run T (by decide)) (at_cons (n__law_draw T (by decide)) (at_cons (n_is_run T (by decide)) (at_cons (n_can_run T (by decide)) at_nil))))))))))))))))
theorem n__law_days_right (T : Txt K mg) {k : Nat} (h : 8 ≤ k) : (Need.fh "_law_days_right" h__law_days_right 4).At P w K mg base k := need_fh T.d__law_days_right (ok__law_days_right T) rfl h
theorem ok__law_one_right (T : Txt K mg) (f : Addr) (fd : FuncData) (F : Fun K "_law_one_right" "_law_one_right" (top 46) f fd) : FnOk P w K mg base CX0 8 f fd ["spec", "days", "size"] (spF K mg 3 f__law_one_right) :=
  fs_ok (N := ["spec", "days", "size", "row", "web", "one", "crew", "day"]) F ⟨rfl, rfl, rfl, by decide +kernel, rfl, by decide +kernel, by decide +kernel⟩ (by decide) (by decide +kernel) T.bn (at_cons (n_Web T (by decide)) (at_cons (n__law_crews_of T (by decide)) (at_cons (n_is_run T (by decide)) at_nil)))
theorem n__law_one_right (T : Txt K mg) {k : Nat} (h : 8 ≤ k) : (Need.fn "_law_one_right" f__law_one_right 3).At P w K mg base k := need_fn T.d__law_one_right (ok__law_one_right T) rfl h
theorem ok_law (T : Txt K mg) (f : Addr) (fd : FuncData) (F : Fun K "law" "law" (top 47) f fd) : FnOk P w K mg base CX0 9 f fd ["script"] (spF K mg 1 f_law) :=
  fs_ok (N := ["script", "hand", "web", "turn", "spec", "days", "size"]) F ⟨rfl, rfl, rfl, by decide +kernel, rfl, by decide +kernel, by decide +kernel⟩ (by decide) (by decide +kernel) T.bn (at_cons (n__law_hand T (by decide)) (at_cons (n_Web T (by decide)) (at_cons (n_short_day T (by decide)) (at_cons (n_can_run T (by decide)) (at_cons (n_is_run T (by decide)) (at_cons (n_is_run T (by decide)) (at_cons (n_is_run T (by decide)) (at_cons (n__law_web T (by decide)) (at_cons (n__law_draw T (by decide)) (at_cons (n__law_days T (by decide)) (at_cons (n__law_draw T (by decide)) (at_cons (n__law_days_right T (by decide)) (at_cons (n__law_one_right T (by decide)) at_nil)))))))))))))
theorem n_law (T : Txt K mg) {k : Nat} (h : 9 ≤ k) : (Need.fn "law" f_law 1).At P w K mg base k := need_fn T.d_law (ok_law T) rfl h
theorem fin (T : Txt K mg) : DefAt K mg (top 47) "law" ["script"] ∧ ∀ base f fd, Fun K "law" "law" (top 47) f fd → FnOk P w K mg base CX0 9 f fd ["script"] (spF K mg 1 f_law) := ⟨T.d_law, fun base f fd Fn => ok_law T f fd Fn⟩
end
end Lk79


set_option Elab.async false
set_option linter.all false
set_option maxRecDepth 100000
set_option maxHeartbeats 1000000
open PySem DL
namespace Lk79
local macro_rules | `(tactic| and_intros) => `(tactic| simp only [bind_okS, bind_errS, datA_nil, datA_val, datA_own, datA_slot, dat_slot, dat_val, dat_own, slotD_val, slotD_own, obd_lst, obd_ins, obd_dct, dv_val, dv_own, varE_val, varE_own, ev_var, ev_gl, ev_int, ev_bl, ev_non, ev_str, ev_bin, ev_cmp, ev_ix, ev_rg1, ev_rg2, ev_neg, ev_isi, ev_isc, ev_sset, ev_lset, ev_attr, ev_rev, ev_bi, ev_ch, ev_tupS, ev_lstS, A.len, Nat.reduceAdd, Nat.reduceLeDiff, ev_dct0, ev_and, ev_or, ev_one, ev_not, ev_ife, ev_lc, ev_call, callE_ok, ev_callH, hotE_ok, ownE_own, ev_make, makE_ok, lstE_own, ev_app, ev_ext, extE_lst, ev_pop, ev_slE, sl1_tup, sl1_lst, sl1_frz, evP_no, evP_so, prtE_int, evA_nil, evA_cons, evB_nil, evB_cons, evN_nil, evN_cons, unsE_val, unsE_own, unsE_slot, evFz_eq, frz_val, frz_own, frz_dv, dat_dv, datA_dv, rd_valS, rd_ownS, frz_slot, frzE_own, frzE_val, evS_sq, evS_en, evS_zp, evS_rng1, evS_rng2, valE_eq, evS_sqT, evS_enT, evS_zpT, evC_yes, evC_so, tst_and, tst_or, tst_one, tst_not, tst_var, tst_bl, tst_bin, tst_cmp, tst_chain, tst_ix, tst_bi, tst_isi, tst_isc, tst_attr, tst_call, tst_callH, tEnd_bl, tEnd_int, tEnd_non, sr_ok, next_nx, next_rt, next_bk, next_ct, next_err, exs_nil, exs_cons, ex_pass, ex_brk, ex_cnt, ex_never, ex_expr, ex_ret, ex_retN, ex_ite, ex_asg, sl_val, sl_own, ex_par, putR_some, ex_asgT, ex_for, ex_whl, setIE_own, ex_setI, ex_setA, bind_ite, sr_ite, next_ite, fin_ite, ite_andS, ite_and2, ite_orS, ite_andT, ite_orT, fin_nx, fin_val, fin_own, fin_slot, finSl_own, finSl_val,
  wipeD, opEnd_eq, optR_some, rgE_eq, optS_some, sqE, enE, zpE, kindD, chE,
  List.nil_append, lapp, lget0, lgetS, lset0, lsetS, omap_some, omap_none, obind_some, obind_none, if_true, if_false, Bool.false_eq_true, isi_eq, isTy, Op.f, Cm.f, Bi.f,
  cmpI_int, ltD_int, addD_int, subD_int, negD_int, eqD_int, neD_int, eqD_bl, neD_bl, isD_bl, isD_non, lenD_lst, lenD_tup, lenD_frz, absD_int, intD_int, max2D_int, min2D_int, listD_tup, listD_lst, tupleD_lst, tupleD_tup, ixD_lst, ixD_tup, Bool.not_true, Bool.not_false, Bool.true_and, Bool.false_and, Bool.and_true, Bool.and_false, Bool.true_or, Bool.false_or, Bool.or_false, Bool.or_true])
def isI : D → Bool
  | .int _ => true
  | _ => false
def wi (lo hi : Int) : D → Bool
  | .int a => decide (lo ≤ a) && decide (a ≤ hi)
  | _ => false
/-- no instance -/
def plain : D → Bool
  | .ins _ _ => false
  | _ => true
theorem is_integer_eq (d : D) (h : plain d = true) : f_is_integer [d] = .ok (.val (.bl (isI d))) := by
  rw [r_is_integer, b_is_integer]
  cases d <;> first | cases h; done | (and_intros <;> rfl)
theorem is_within_eq (d : D) (lo hi : Int) (h : plain d = true) : f_is_within [d, .int lo, .int hi] = .ok (.val (.bl (wi lo hi d))) := by
  have e := is_integer_eq d h
  rw [r_is_within, b_is_within]
  cases d <;> first | cases h; done | (simp only [isI] at e; and_intros; simp only [e]; and_intros; rfl)
theorem are_below_tup (xs : List D) (n : Int) (h : ∀ x ∈ xs, plain x = true) : f_are_below [.tup xs, .int n] = .ok (.val (.bl (xs.all (wi 0 (n - 1))))) := by
  rw [r_are_below, b_are_below]
  and_intros
  rw [lcE_map id xs (fun a => .bl (wi 0 (n - 1) a)) (by rw [List.map_id]; rfl) (by rw [List.map_id]; rfl) ?h]
  case h =>
    intro a ha
    refine ⟨_, rfl, ?_, rfl⟩
    and_intros
    simp only [id, is_within_eq a 0 (n - 1) (h a ha)]
    and_intros
  and_intros
  rw [all_of (p := wi 0 (n - 1)) fun a _ => rfl]
  and_intros
theorem are_below_no (d : D) (n : Int) (h : plain d = true) (h2 : ∀ xs, d ≠ .tup xs) : f_are_below [d, .int n] = .ok (.val (.bl false)) := by
  rw [r_are_below, b_are_below]
  cases d <;> first | cases h; done | exact absurd rfl (h2 _) | (and_intros <;> rfl)
def ascB (ns : List Int) : Bool := (ns.zip (ns.drop 1)).all fun p => decide (p.1 < p.2)
def inR (n : Int) (a : Int) : Bool := decide (0 ≤ a) && decide (a ≤ n - 1)
theorem wi_ints (n : Int) (ns : List Int) : (ns.map D.int).all (wi 0 (n - 1)) = ns.all (inR n) := by
  rw [List.all_map]; rfl
theorem plain_ints {ns : List Int} : ∀ x ∈ ns.map D.int, plain x = true := fun x hx => by
  obtain ⟨i, _, rfl⟩ := List.mem_map.mp hx
  rfl
theorem is_row_ints (ns : List Int) (n : Int) : f_is_row [.tup (ns.map D.int), .int n] = .ok (.val (.bl (ns.all (inR n) && ascB ns))) := by
  have e := are_below_tup (ns.map D.int) n plain_ints
  rw [wi_ints] at e
  rw [r_is_row, b_is_row]
  and_intros
  simp only [e]
  and_intros
  have hz : zipD (ns.map D.int) (cutD (ns.map D.int) (some 1) none) = (ns.zip (ns.drop 1)).map fun p => D.tup [.int p.1, .int p.2] := by
    rw [show cutD (ns.map D.int) (some 1) none = _ from cut_from 1, ← List.map_drop, zipD_map]
  rw [lcE_map (fun p : Int × Int => D.tup [.int p.1, .int p.2]) (ns.zip (ns.drop 1)) (fun p => .bl (decide (p.1 < p.2))) ?h1 ?h2 ?h]
  case h1 => exact congrArg some hz
  case h2 => exact congrArg some hz
  case h =>
    intro a ha
    refine ⟨_, rfl, ?_, rfl⟩
    and_intros
  and_intros
  rw [all_of (p := fun p : Int × Int => decide (p.1 < p.2)) fun a _ => rfl]
  and_intros
  cases ns.all (inR n) <;> rfl
theorem is_row_bad (d : D) (n : Int) (h : f_are_below [d, .int n] = .ok (.val (.bl false))) : f_is_row [d, .int n] = .ok (.val (.bl false)) := by
  rw [r_is_row, b_is_row]
  and_intros
  simp only [h]
  and_intros
theorem row_of_eq (ns : List Int) (h : ns.length < 64) : f_row_of [.lst (ns.map D.int)] = .ok (.val (.tup ((sortU ns).map D.int))) := by
  rw [r_row_of, b_row_of]
  and_intros
  simp only [ssetD_lst h]
  and_intros
/-- whom a person meets -/
def met (ps : List (Int × Int)) (p : Int) : List Int := (ps.filter fun z => z.1 == p || z.2 == p).map fun z => if z.1 == p then z.2 else z.1
theorem met_by_eq (ps : List (Int × Int)) (p : Int) : f_met_by [.tup (ps.map pairD), .int p] = .ok (.own (.lst ((met ps p).map D.int))) := by
  rw [r_met_by, b_met_by]
  and_intros
  rw [lcE_pure pairD ps (fun z => z.1 == p || z.2 == p) (fun z => .int (if z.1 == p then z.2 else z.1)) rfl rfl ?h]
  case h =>
    intro a ha
    refine ⟨_, rfl, ?_, ?_, rfl⟩
    · and_intros
      have ok : (D.tup [D.int a.1, D.int a.2]).okE = true := okE_of (n := 1) ok_pair (by decide)
      rw [inD_tup ok_int ok]
      and_intros
      simp only [List.any_cons, List.any_nil, eqv_int, Bool.or_false, Bool.false_xor]
    · intro h
      and_intros
      cases a.1 == p <;> and_intros <;> rfl
  and_intros
  rw [met, List.map_map]
  rfl
end Lk79


set_option Elab.async false
set_option linter.all false
set_option maxRecDepth 100000
set_option maxHeartbeats 1000000
set_option profiler true
set_option profiler.threshold 500
open PySem DL L2
namespace Lk79
local macro_rules | `(tactic| and_intros) => `(tactic| simp only [bind_okS, bind_errS, datA_nil, datA_val, datA_own, datA_slot, dat_slot, dat_val, dat_own, slotD_val, slotD_own, obd_lst, obd_ins, obd_dct, dv_val, dv_own, varE_val, varE_own, ev_var, ev_gl, ev_int, ev_bl, ev_non, ev_str, ev_bin, ev_cmp, ev_ix, ev_rg1, ev_rg2, ev_neg, ev_isi, ev_isc, ev_sset, ev_lset, ev_attr, ev_rev, ev_bi, ev_ch, ev_tupS, ev_lstS, A.len, Nat.reduceAdd, Nat.reduceLeDiff, ev_dct0, ev_and, ev_or, ev_one, ev_not, ev_ife, ev_lc, ev_call, callE_ok, ev_callH, hotE_ok, ownE_own, ev_make, makE_ok, lstE_own, ev_app, ev_ext, extE_lst, ev_pop, ev_slE, sl1_tup, sl1_lst, sl1_frz, evP_no, evP_so, prtE_int, evA_nil, evA_cons, evB_nil, evB_cons, evN_nil, evN_cons, unsE_val, unsE_own, unsE_slot, evFz_eq, frz_val, frz_own, frz_dv, dat_dv, datA_dv, rd_valS, rd_ownS, frz_slot, frzE_own, frzE_val, evS_sq, evS_en, evS_zp, evS_rng1, evS_rng2, valE_eq, evS_sqT, evS_enT, evS_zpT, evC_yes, evC_so, tst_and, tst_or, tst_one, tst_not, tst_var, tst_bl, tst_bin, tst_cmp, tst_chain, tst_ix, tst_bi, tst_isi, tst_isc, tst_attr, tst_call, tst_callH, tEnd_bl, tEnd_int, tEnd_non, sr_ok, next_nx, next_rt, next_bk, next_ct, next_err, exs_nil, exs_cons, ex_pass, ex_brk, ex_cnt, ex_never, ex_expr, ex_ret, ex_retN, ex_ite, ex_asg, sl_val, sl_own, ex_par, putR_some, ex_asgT, ex_for, ex_whl, setIE_own, ex_setI, ex_setA, bind_ite, sr_ite, next_ite, fin_ite, ite_andS, ite_and2, ite_orS, ite_andT, ite_orT, fin_nx, fin_val, fin_own, fin_slot, finSl_own, finSl_val,
  wipeD, opEnd_eq, optR_some, rgE_eq, optS_some, sqE, enE, zpE, kindD, chE,
  List.nil_append, lapp, lget0, lgetS, lset0, lsetS, omap_some, omap_none, obind_some, obind_none, if_true, if_false, Bool.false_eq_true, isi_eq, isTy, Op.f, Cm.f, Bi.f,
  cmpI_int, ltD_int, addD_int, subD_int, negD_int, eqD_int, neD_int, eqD_bl, neD_bl, isD_bl, isD_non, lenD_lst, lenD_tup, lenD_frz, absD_int, intD_int, max2D_int, min2D_int, listD_tup, listD_lst, tupleD_lst, tupleD_tup, ixD_lst, ixD_tup, Bool.not_true, Bool.not_false, Bool.true_and, Bool.false_and, Bool.and_true, Bool.and_false, Bool.true_or, Bool.false_or, Bool.or_false, Bool.or_true])
def clash (n : Int) (p : Int × Int) : Bool := inR n p.1 && inR n p.2 && decide (p.1 < p.2)
theorem at0 {α : Type} {a : α} {l : List α} : atI (a :: l) 0 = some a := atI_lt (by omega) rfl
theorem at1 {α : Type} {a b : α} {l : List α} : atI (a :: b :: l) 1 = some b := atI_lt (by omega) rfl
theorem is_clash_form_eq (p : Int × Int) (n : Int) : f_is_clash_form [pairD p, .int n] = .ok (.val (.bl (clash n p))) := by
  rw [r_is_clash_form, b_is_clash_form, pairD]
  and_intros
  simp only [List.length_cons, List.length_nil]
  rw [lcE_map D.int [p.1, p.2] (fun a => .bl (inR n a)) rfl rfl ?h]
  case h =>
    intro a ha
    refine ⟨_, rfl, ?_, rfl⟩
    and_intros
    simp only [is_within_eq (.int a) 0 (n - 1) rfl]
    and_intros
    rfl
  rw [if_neg (by decide), show List.map (fun x => D.bl (inR n x)) [p.1, p.2] = [.bl (inR n p.1), .bl (inR n p.2)] from rfl]
  and_intros
  rw [show allD [D.lst [.bl (inR n p.1), .bl (inR n p.2)]] = some (.val (.bl (inR n p.1 && (inR n p.2 && true)))) from rfl]
  and_intros
  simp only [at0, at1]
  and_intros
  rw [clash]
  generalize inR n p.1 = a, inR n p.2 = b
  cases a <;> cases b <;> and_intros
  all_goals rfl
/-! ### Web -/
def VP (n : Int) (ps : List (Int × Int)) : Prop := (∀ p ∈ ps, 0 ≤ p.1 ∧ p.1 < p.2 ∧ p.2 < n) ∧ ps.Pairwise (fun p q => HT.lexLt [p.1, p.2] [q.1, q.2] = true) ∧ ps.length < 64
def rowsOf (n : Nat) (ps : List (Int × Int)) : List (List Int) := (List.range n).map fun (i : Nat) => sortU (met ps (i : Int))
def webF (n : Nat) (ps : List (Int × Int)) : List (Str × D) := [("persons", .int (n : Int)), ("clashes", .tup (ps.map pairD)), ("rows", .tup ((rowsOf n ps).map D.ints))]
def webD (n : Nat) (ps : List (Int × Int)) : D := .ins "Web" (webF n ps)
theorem met_len (ps : List (Int × Int)) (p : Int) : (met ps p).length ≤ ps.length := by
  unfold met
  rw [List.length_map]
  exact List.length_filter_le _ _
theorem clash_ok {n : Int} {ps : List (Int × Int)} (h : VP n ps) {p : Int × Int} (hp : p ∈ ps) : clash n p = true := by
  obtain ⟨h1, h2, h3⟩ := h.1 p hp
  simp only [clash, inR, Bool.and_eq_true, decide_eq_true_eq]
  omega
theorem str_pc : (("persons" : Str) == "clashes") = false := by decide +kernel
theorem str_pr : (("persons" : Str) == "rows") = false := by decide +kernel
theorem str_cp : (("clashes" : Str) == "persons") = false := by decide +kernel
theorem str_cr : (("clashes" : Str) == "rows") = false := by decide +kernel
theorem str_rp : (("rows" : Str) == "persons") = false := by decide +kernel
theorem str_rc : (("rows" : Str) == "clashes") = false := by decide +kernel
theorem Web_eq (n : Nat) (ps : List (Int × Int)) (hn : n ≤ 16) (h : VP n ps) : h_Web (.ins "Web" []) [.int (n : Int), .tup (ps.map pairD)] = .ok (.val .non, .ins "Web" (webF n ps)) := by
  rw [r_Web, b_Web]
  have e1 : wi 0 16 (.int (n : Int)) = true := by simp only [wi, Bool.and_eq_true, decide_eq_true_eq]; omega
  and_intros
  simp only [is_within_eq (.int (n : Int)) 0 16 rfl, e1]
  and_intros
  have hit : (Src.en true (Dv.val (D.tup (ps.map pairD)))).items [Slot.own (Ob.ins "Web" []), Slot.val (D.int (n : Int)), Slot.val (D.tup (ps.map pairD)), Slot.non, Slot.non, Slot.non] = some ((ps.zipIdx 0).map fun q => D.tup [.int (q.2 : Nat), pairD q.1]) := by
    rw [← enumD_map]
    rfl
  rw [forE_items rfl hit]
  generalize hfor : forGo _ _ _ _ = r
  obtain ⟨ρ', rfl, s3, s4, rfl⟩ := forGo_inv2 (fun _ ρ => ∃ s3 s4, ρ = [Slot.own (Ob.ins "Web" []), Slot.val (D.int (n : Int)), Slot.val (D.tup (ps.map pairD)), s3, s4, Slot.non]) (ps.zipIdx 0) hfor ⟨_, _, rfl⟩ (fun dn q rest ρ eq hI => by
      obtain ⟨s3, s4, rfl⟩ := hI
      refine ⟨_, [Slot.own (Ob.ins "Web" []), Slot.val (D.int (n : Int)), Slot.val (D.tup (ps.map pairD)), Slot.val (D.int (q.2 : Nat)), Slot.val (pairD q.1), Slot.non], rfl, .inl ?_, _, _, rfl⟩
      have hq : ps[q.2]? = some q.1 := by
        have hm : q ∈ ps.zipIdx 0 := by rw [eq]; simp
        have := List.mem_zipIdx_iff_getElem?.mp hm
        exact this
      have hmem : q.1 ∈ ps := List.mem_of_getElem? hq
      and_intros
      simp only [is_clash_form_eq, clash_ok h hmem]
      and_intros
      by_cases h0 : q.2 = 0
      · have : decide ((0 : Int) < (q.2 : Nat)) = false := by rw [h0]; rfl
        simp only [this]
        and_intros
      · have hlt : q.2 - 1 < ps.length := by
          have := (List.getElem?_eq_some_iff.mp hq).1
          omega
        have hprev : (ps.map pairD)[q.2 - 1]? = some (pairD ps[q.2 - 1]) := by rw [List.getElem?_map, List.getElem?_eq_getElem hlt]; rfl
        have hd : decide ((0 : Int) < (q.2 : Nat)) = true := by rw [decide_eq_true_eq]; omega
        have ha : atI (ps.map pairD) ((q.2 : Nat) - 1 : Int) = some (pairD ps[q.2 - 1]) := by
          rw [show ((q.2 : Nat) - 1 : Int) = ((q.2 - 1 : Nat) : Int) by omega, DL.atI_nat]
          exact hprev
        simp only [hd, ha]
        and_intros
        have hl := (List.getElem?_eq_some_iff.mp hq).1
        have hp := List.pairwise_iff_getElem.mp h.2.1 (q.2 - 1) q.2 hlt hl (by omega)
        have e3 : ps[q.2] = q.1 := (List.getElem?_eq_some_iff.mp hq).2
        rw [e3] at hp
        simp only [ltD_pair, hp]
        and_intros)
  and_intros
  rw [setE_new rfl (by decide)]
  and_intros
  rw [setE_new (by simp only [List.nil_append, List.lookup_cons, List.lookup_nil, str_cp]) (by simp only [List.length_cons, List.length_nil]; omega)]
  and_intros
  rw [rng1_int (by omega)]
  and_intros
  rw [lcE_map (fun (i : Nat) => D.int (i : Int)) (List.range n) (fun i => D.ints (sortU (met ps (i : Int)))) rng_items rng_items ?h]
  case h =>
    intro a ha
    refine ⟨_, rfl, ?_, rfl⟩
    and_intros
    simp only [met_by_eq]
    and_intros
    rw [row_of_eq _ (Nat.lt_of_le_of_lt (met_len ps _) h.2.2)]
    and_intros
    rfl
  and_intros
  rw [setE_new (by simp only [lapp, List.nil_append, List.lookup_cons, List.lookup_nil, str_rp, str_rc]) (by simp only [List.length_cons, List.length_nil]; omega)]
  and_intros
  rw [finH_nx rfl, webF, rowsOf, List.map_map]
  rfl
end Lk79


set_option Elab.async false
set_option linter.all false
set_option maxRecDepth 100000
set_option maxHeartbeats 1000000
open PySem DL L2
namespace Lk79
local macro_rules | `(tactic| and_intros) => `(tactic| simp only [bind_okS, bind_errS, datA_nil, datA_val, datA_own, datA_slot, dat_slot, dat_val, dat_own, slotD_val, slotD_own, obd_lst, obd_ins, obd_dct, dv_val, dv_own, varE_val, varE_own, ev_var, ev_gl, ev_int, ev_bl, ev_non, ev_str, ev_bin, ev_cmp, ev_ix, ev_rg1, ev_rg2, ev_neg, ev_isi, ev_isc, ev_sset, ev_lset, ev_attr, ev_rev, ev_bi, ev_ch, ev_tupS, ev_lstS, A.len, Nat.reduceAdd, Nat.reduceLeDiff, ev_dct0, ev_and, ev_or, ev_one, ev_not, ev_ife, ev_lc, ev_call, callE_ok, ev_callH, hotE_ok, ownE_own, ev_make, makE_ok, lstE_own, ev_app, ev_ext, extE_lst, ev_pop, ev_slE, sl1_tup, sl1_lst, sl1_frz, evP_no, evP_so, prtE_int, evA_nil, evA_cons, evB_nil, evB_cons, evN_nil, evN_cons, unsE_val, unsE_own, unsE_slot, evFz_eq, frz_val, frz_own, frz_dv, dat_dv, datA_dv, rd_valS, rd_ownS, frz_slot, frzE_own, frzE_val, evS_sq, evS_en, evS_zp, evS_rng1, evS_rng2, valE_eq, evS_sqT, evS_enT, evS_zpT, evC_yes, evC_so, tst_and, tst_or, tst_one, tst_not, tst_var, tst_bl, tst_bin, tst_cmp, tst_chain, tst_ix, tst_bi, tst_isi, tst_isc, tst_attr, tst_call, tst_callH, tEnd_bl, tEnd_int, tEnd_non, sr_ok, next_nx, next_rt, next_bk, next_ct, next_err, exs_nil, exs_cons, ex_pass, ex_brk, ex_cnt, ex_never, ex_expr, ex_ret, ex_retN, ex_ite, ex_asg, sl_val, sl_own, ex_par, putR_some, ex_asgT, ex_for, ex_whl, setIE_own, ex_setI, ex_setA, bind_ite, sr_ite, next_ite, fin_ite, ite_andS, ite_and2, ite_orS, ite_andT, ite_orT, fin_nx, fin_val, fin_own, fin_slot, finSl_own, finSl_val,
  wipeD, opEnd_eq, optR_some, rgE_eq, optS_some, sqE, enE, zpE, kindD, chE,
  List.nil_append, lapp, lget0, lgetS, lset0, lsetS, omap_some, omap_none, obind_some, obind_none, if_true, if_false, Bool.false_eq_true, isi_eq, isTy, Op.f, Cm.f, Bi.f,
  cmpI_int, ltD_int, addD_int, subD_int, negD_int, eqD_int, neD_int, eqD_bl, neD_bl, isD_bl, isD_non, lenD_lst, lenD_tup, lenD_frz, absD_int, intD_int, max2D_int, min2D_int, listD_tup, listD_lst, tupleD_lst, tupleD_tup, ixD_lst, ixD_tup, Bool.not_true, Bool.not_false, Bool.true_and, Bool.false_and, Bool.and_true, Bool.and_false, Bool.true_or, Bool.false_or, Bool.or_false, Bool.or_true])
theorem attr_p (n : Nat) (ps : List (Int × Int)) : attrD "Web" "persons" [webD n ps] = some (.val (.int (n : Int))) := by
  show (if ("Web" : Str) = "Web" then ((webF n ps).lookup ("persons" : Str)).map R.val else none) = _
  rw [if_pos rfl, webF, List.lookup_cons_self]
  rfl
theorem attr_r (n : Nat) (ps : List (Int × Int)) : attrD "Web" "rows" [webD n ps] = some (.val (.tup ((rowsOf n ps).map D.ints))) := by
  show (if ("Web" : Str) = "Web" then ((webF n ps).lookup ("rows" : Str)).map R.val else none) = _
  rw [if_pos rfl, webF, List.lookup_cons, str_rp]
  dsimp only
  rw [List.lookup_cons, str_rc]
  dsimp only
  rw [List.lookup_cons_self]
  rfl
theorem isc_web (n : Nat) (ps : List (Int × Int)) : iscD "Web" [webD n ps] = some (.val (.bl true)) := by
  show (if ("Web" : Str) = "Web" then some (R.val (.bl true)) else none) = _
  rw [if_pos rfl]
theorem check_web_eq (n : Nat) (ps : List (Int × Int)) : f_check_web [webD n ps] = .ok (.val .non) := by
  rw [r_check_web, b_check_web]
  and_intros
  rw [isc_web]
  and_intros
theorem wi_in {lo hi a : Int} (h1 : lo ≤ a) (h2 : a ≤ hi) : wi lo hi (.int a) = true := by
  simp only [wi, Bool.and_eq_true, decide_eq_true_eq]
  exact ⟨h1, h2⟩
theorem check_size_eq (n : Nat) (ps : List (Int × Int)) (k : Nat) (hk : k ≤ 16) : f_check_size [webD n ps, .int (k : Int)] = .ok (.val .non) := by
  rw [r_check_size, b_check_size]
  and_intros
  simp only [check_web_eq]
  and_intros
  simp only [is_within_eq (.int (k : Int)) 0 16 rfl, wi_in (show (0 : Int) ≤ k by omega) (show (k : Int) ≤ 16 by omega)]
  and_intros
/-- a row -/
def RowOk (n : Nat) (row : List Int) : Prop := row.all (inR n) = true ∧ ascB row = true
theorem is_row_ok {n : Nat} {row : List Int} (h : RowOk n row) : f_is_row [D.ints row, .int (n : Int)] = .ok (.val (.bl true)) := by
  have e := is_row_ints row n
  rw [h.1, h.2] at e
  exact e
theorem check_days_eq (n : Nat) (ps : List (Int × Int)) (k : Nat) (hk : k ≤ 16) (rows : List (List Int)) (hl : rows.length ≤ 30) (hr : ∀ r ∈ rows, RowOk n r) : f_check_days [webD n ps, .int (k : Int), .tup (rows.map D.ints)] = .ok (.val .non) := by
  rw [r_check_days, b_check_days]
  and_intros
  simp only [check_size_eq n ps k hk]
  and_intros
  have e : decide ((30 : Int) < ((rows.map D.ints).length : Nat)) = false := by
    rw [List.length_map, decide_eq_false_iff_not]
    omega
  simp only [e]
  and_intros
  rw [lcE_map D.ints rows (fun _ => .bl true) rfl rfl ?h]
  case h =>
    intro a ha
    refine ⟨_, rfl, ?_, rfl⟩
    and_intros
    rw [attr_p]
    and_intros
    rw [is_row_ok (hr a ha)]
    and_intros
  and_intros
  rw [all_of (p := fun _ => true) fun a _ => rfl, show (rows.all fun _ => true) = true by simp]
  and_intros
/-- someone of the crew meets p -/
def cw (ps : List (Int × Int)) (p : Int) (crew : List Int) : Bool := crew.any fun o => (met ps p).contains o
theorem rows_at {n : Nat} {ps : List (Int × Int)} {p : Int} (h : inR n p = true) : atI ((rowsOf n ps).map D.ints) p = some (D.ints (sortU (met ps p))) := by
  simp only [inR, Bool.and_eq_true, decide_eq_true_eq] at h
  refine atI_lt h.1 ?_
  rw [List.getElem?_map, rowsOf, List.getElem?_map, List.getElem?_range (by omega)]
  show some (D.ints (sortU (met ps ((p.toNat : Nat) : Int)))) = _
  rw [Int.toNat_of_nonneg h.1]
theorem sortU_contains (l : List Int) (z : Int) : (sortU l).contains z = l.contains z := by
  rw [Bool.eq_iff_iff]
  simp only [List.contains_iff_mem]
  exact sortU_mem
theorem in_ints (a : Int) (l : List Int) : inD false [.int a, D.ints l] = some (.val (.bl (l.contains a))) := by
  have ok : (D.ints l).okE = true := okE_of (n := 1) ok_ints (by decide)
  rw [D.ints] at *
  rw [inD_tup ok_int ok, any_map (f := D.int) (fun a b => eqv_int), Bool.false_xor]
theorem clashes_with_eq (n : Nat) (ps : List (Int × Int)) (p : Int) (crew : List Int) (h : inR n p = true) : f_clashes_with [webD n ps, .int p, D.ints crew] = .ok (.val (.bl (cw ps p crew))) := by
  rw [r_clashes_with, b_clashes_with, D.ints]
  and_intros
  rw [lcE_map D.int crew (fun o => .bl ((met ps p).contains o)) rfl rfl ?h]
  case h =>
    intro a ha
    refine ⟨_, rfl, ?_, rfl⟩
    and_intros
    rw [attr_r]
    and_intros
    rw [rows_at h]
    and_intros
    rw [in_ints, sortU_contains]
    and_intros
  and_intros
  rw [any_of (p := fun o => (met ps p).contains o) fun a _ => rfl]
  and_intros
  rfl
end Lk79


set_option Elab.async false
set_option linter.all false
set_option maxRecDepth 100000
set_option maxHeartbeats 1000000
open PySem DL L2
namespace Lk79
local macro_rules | `(tactic| and_intros) => `(tactic| simp only [bind_okS, bind_errS, datA_nil, datA_val, datA_own, datA_slot, dat_slot, dat_val, dat_own, slotD_val, slotD_own, obd_lst, obd_ins, obd_dct, dv_val, dv_own, varE_val, varE_own, ev_var, ev_gl, ev_int, ev_bl, ev_non, ev_str, ev_bin, ev_cmp, ev_ix, ev_rg1, ev_rg2, ev_neg, ev_isi, ev_isc, ev_sset, ev_lset, ev_attr, ev_rev, ev_bi, ev_ch, ev_tupS, ev_lstS, A.len, Nat.reduceAdd, Nat.reduceLeDiff, ev_dct0, ev_and, ev_or, ev_one, ev_not, ev_ife, ev_lc, ev_call, callE_ok, ev_callH, hotE_ok, ownE_own, ev_make, makE_ok, lstE_own, ev_app, ev_ext, extE_lst, ev_pop, ev_slE, sl1_tup, sl1_lst, sl1_frz, evP_no, evP_so, prtE_int, evA_nil, evA_cons, evB_nil, evB_cons, evN_nil, evN_cons, unsE_val, unsE_own, unsE_slot, evFz_eq, frz_val, frz_own, frz_dv, dat_dv, datA_dv, rd_valS, rd_ownS, frz_slot, frzE_own, frzE_val, evS_sq, evS_en, evS_zp, evS_rng1, evS_rng2, valE_eq, evS_sqT, evS_enT, evS_zpT, evC_yes, evC_so, tst_and, tst_or, tst_one, tst_not, tst_var, tst_bl, tst_bin, tst_cmp, tst_chain, tst_ix, tst_bi, tst_isi, tst_isc, tst_attr, tst_call, tst_callH, tEnd_bl, tEnd_int, tEnd_non, sr_ok, next_nx, next_rt, next_bk, next_ct, next_err, exs_nil, exs_cons, ex_pass, ex_brk, ex_cnt, ex_never, ex_expr, ex_ret, ex_retN, ex_ite, ex_asg, sl_val, sl_own, ex_par, putR_some, ex_asgT, ex_for, ex_whl, setIE_own, ex_setI, ex_setA, bind_ite, sr_ite, next_ite, fin_ite, ite_andS, ite_and2, ite_orS, ite_andT, ite_orT, fin_nx, fin_val, fin_own, fin_slot, finSl_own, finSl_val,
  wipeD, opEnd_eq, optR_some, rgE_eq, optS_some, sqE, enE, zpE, kindD, chE,
  List.nil_append, lapp, lget0, lgetS, lset0, lsetS, omap_some, omap_none, obind_some, obind_none, if_true, if_false, Bool.false_eq_true, isi_eq, isTy, Op.f, Cm.f, Bi.f,
  cmpI_int, ltD_int, addD_int, subD_int, negD_int, eqD_int, neD_int, eqD_bl, neD_bl, isD_bl, isD_non, lenD_lst, lenD_tup, lenD_frz, absD_int, intD_int, max2D_int, min2D_int, listD_tup, listD_lst, tupleD_lst, tupleD_tup, ixD_lst, ixD_tup, Bool.not_true, Bool.not_false, Bool.true_and, Bool.false_and, Bool.and_true, Bool.and_false, Bool.true_or, Bool.false_or, Bool.or_false, Bool.or_true])
/-- comes behind the crew -/
def behind (crew : List Int) (one : Int) : Bool := match crew.getLast? with
  | none => true
  | some l => decide (l < one)
def grow (ps : List (Int × Int)) (row crew : List Int) : List (List Int) := ((row.filter (behind crew)).filter fun one => !cw ps one crew).map fun one => crew ++ [one]
def lots (ps : List (Int × Int)) (row : List Int) : Nat → List (List Int)
  | 0 => [[]]
  | k + 1 => (lots ps row k).flatMap (grow ps row)
theorem grow_len (ps : List (Int × Int)) (row crew : List Int) : (grow ps row crew).length ≤ row.length := by
  unfold grow
  rw [List.length_map]
  exact Nat.le_trans (List.length_filter_le _ _) (List.length_filter_le _ _)
theorem flat_len {α β : Type} {f : α → List β} {m : Nat} : ∀ {l : List α}, (∀ a ∈ l, (f a).length ≤ m) → (l.flatMap f).length ≤ l.length * m
  | [], _ => by simp
  | a :: l, h => by
    rw [List.flatMap_cons, List.length_append, List.length_cons, Nat.succ_mul]
    have h1 := h a (by simp)
    have h2 := flat_len (l := l) (f := f) (m := m) fun b hb => h b (List.mem_cons_of_mem _ hb)
    omega
theorem lots_len (ps : List (Int × Int)) (row : List Int) : ∀ k, (lots ps row k).length ≤ row.length ^ k
  | 0 => by simp [lots]
  | k + 1 => by
    rw [lots, Nat.pow_succ]
    exact Nat.le_trans (flat_len fun a _ => grow_len ps row a) (Nat.mul_le_mul_right _ (lots_len ps row k))
theorem grow_step (n : Nat) (ps : List (Int × Int)) (row crew : List Int) (hr : row.all (inR n) = true) (s3 s4 : DL.Slot) (k : Int) (out : List D) (hl : out.length + (grow ps row crew).length ≤ sizeLine) (hcl : crew.length ≤ 100) (s7 s8 : DL.Slot) :
    exs [T.asg 7 (.lc (.sq (.var 1)) [8] (.nm 8) (.so (.or (.cmp .eq (.var 6) (.tup .nil)) (.one (.cmp .gt (.var 8) (.ix (.var 6) (.neg (.int 1))))))) (.var 8)), .expr (.ext 5 (.lc (.sq (.var 7)) [8] (.nm 8) (.so (.not (.call "clashes_with" f_clashes_with (.cons (.var 0) (.cons (.var 8) (.cons (.var 6) .nil)))))) (.bin .add (.var 6) (.tup (.cons (.var 8) .nil)))))]
      [.val (webD n ps), .val (D.ints row), .val (.int k), s3, s4, .own (.lst out), .val (D.ints crew), s7, s8] = .nx [.val (webD n ps), .val (D.ints row), .val (.int k), s3, s4, .own (.lst (out ++ (grow ps row crew).map D.ints)), .val (D.ints crew), .own (.lst ((row.filter (behind crew)).map D.int)), s8] := by
  have okc : (D.ints crew).okE = true := okE_of (n := 1) ok_ints (by decide)
  have ok0 : (D.tup []).okE = true := okE_of (n := 1) (okN_tup fun x hx => by simp at hx) (by decide)
  rw [D.ints]
  and_intros
  rw [lcE_pure D.int row (behind crew) D.int rfl rfl ?h]
  case h =>
    intro a ha
    refine ⟨_, rfl, ?_, fun _ => by and_intros, rfl⟩
    and_intros
    rw [show eqD [D.ints crew, D.tup []] = some (.val (.bl crew.isEmpty)) by rw [eqD_ok okc ok0, D.ints, eqv_tupA, eqvA_nil_r, List.isEmpty_map]]
    and_intros
    cases hc : crew with
    | nil => rfl
    | cons c cs =>
      and_intros
      rw [D.ints]
      and_intros
      rw [DL.atI_last, List.getLast?_map]
      simp only [List.isEmpty_cons, behind]
      rw [List.getLast?_eq_some_getLast (List.cons_ne_nil c cs)]
      and_intros
  and_intros
  rw [lcE_pure D.int (row.filter (behind crew)) (fun one => !cw ps one crew) (fun one => D.ints (crew ++ [one])) ?h2a ?h2b ?h2]
  case h2a => rfl
  case h2b => rfl
  case h2 =>
    intro a ha
    have hin : inR n a = true := List.all_eq_true.mp hr a (List.mem_filter.mp ha).1
    refine ⟨_, rfl, ?_, fun _ => ?_, rfl⟩
    · and_intros
      rw [clashes_with_eq n ps a crew hin]
      and_intros
    · rw [D.ints]
      and_intros
      rw [addD_tup (by rw [List.length_map]; show _ + 1 ≤ _; rw [sizeLine_eq]; omega)]
      and_intros
      rw [D.ints, List.map_append]
      rfl
  and_intros
  have e : (((row.filter (behind crew)).filter fun one => !cw ps one crew).map fun one => D.ints (crew ++ [one])) = (grow ps row crew).map D.ints := by
    rw [grow, List.map_map]
    rfl
  rw [e, if_pos (by rw [List.length_map]; exact hl)]
  and_intros
theorem lots_in (ps : List (Int × Int)) (row : List Int) : ∀ k, ∀ c ∈ lots ps row k, c.length = k
  | 0, c, h => by
    simp only [lots, List.mem_singleton] at h
    rw [h]
    rfl
  | k + 1, c, h => by
    rw [lots] at h
    obtain ⟨d, hd, hc⟩ := List.mem_flatMap.mp h
    have := lots_in ps row k d hd
    rw [grow] at hc
    obtain ⟨x, _, rfl⟩ := List.mem_map.mp hc
    rw [List.length_append, this]
    rfl
theorem lots_len2 (n : Nat) (ps : List (Int × Int)) {row : List Int} (hl : row.length ≤ 16) {k : Nat} (hk : k ≤ 5) : (lots ps row k).length ≤ 1048576 := by
  have h1 := lots_len ps row k
  have h2 : row.length ^ k ≤ 16 ^ k := Nat.pow_le_pow_left hl k
  have h3 : 16 ^ k ≤ 16 ^ 5 := Nat.pow_le_pow_right (by decide) hk
  have h4 : (16 : Nat) ^ 5 = 1048576 := by decide
  omega
theorem lots_step (n : Nat) (ps : List (Int × Int)) (row : List Int) (k : Int) (m : Nat) (hr : row.all (inR n) = true) (hl : row.length ≤ 16) (hm : m < 5) (t : D) (s3 s5 s6 s7 s8 : DL.Slot) (h3 : slotD (some s3) = some (.lst ((lots ps row m).map D.ints))) :
    ∃ y6 y7 y8 : DL.Slot, exs [T.asg 5 (.lst .nil), .for_ (.sq (.var 3)) (.nm 6) [T.asg 7 (.lc (.sq (.var 1)) [8] (.nm 8) (.so (.or (.cmp .eq (.var 6) (.tup .nil)) (.one (.cmp .gt (.var 8) (.ix (.var 6) (.neg (.int 1))))))) (.var 8)), .expr (.ext 5 (.lc (.sq (.var 7)) [8] (.nm 8) (.so (.not (.call "clashes_with" f_clashes_with (.cons (.var 0) (.cons (.var 8) (.cons (.var 6) .nil)))))) (.bin .add (.var 6) (.tup (.cons (.var 8) .nil)))))], .asg 3 (.var 5)]
      [.val (webD n ps), .val (D.ints row), .val (.int k), s3, .val t, s5, s6, s7, s8] = .nx [.val (webD n ps), .val (D.ints row), .val (.int k), .val (.lst ((lots ps row (m + 1)).map D.ints)), .val t, .val (.lst ((lots ps row (m + 1)).map D.ints)), y6, y7, y8] := by
  have hev : ∀ x4 x5 x6 x7 x8 : DL.Slot, ((ev (E.var 3) [.val (webD n ps), .val (D.ints row), .val (.int k), s3, x4, x5, x6, x7, x8]).bind frz) = .ok (.lst ((lots ps row m).map D.ints)) [.val (webD n ps), .val (D.ints row), .val (.int k), .val (.lst ((lots ps row m).map D.ints)), x4, x5, x6, x7, x8] := by
    intro x4 x5 x6 x7 x8
    cases s3 with
    | non => cases h3
    | val d =>
      rw [slotD_val] at h3
      cases h3
      and_intros
    | own o =>
      rw [slotD_own] at h3
      have h3' : o.d = _ := Option.some.inj h3
      and_intros
      rw [h3']
  have hf : ∀ x4 x5 x6 x7 x8 : DL.Slot, evS true (.sq (.var 3)) [.val (webD n ps), .val (D.ints row), .val (.int k), s3, x4, x5, x6, x7, x8] = .ok (.sq false (.val (.lst ((lots ps row m).map D.ints)))) [.val (webD n ps), .val (D.ints row), .val (.int k), .val (.lst ((lots ps row m).map D.ints)), x4, x5, x6, x7, x8] := by
    intro x4 x5 x6 x7 x8
    rw [evS_sqT, evFz_eq, hev]
    and_intros
  simp only [exs_cons, ex_asg, ex_for, ev_lstS, evA_nil, bind_okS, A.len, Nat.reduceLeDiff, if_true, unsE_own, sr_ok, sl_own, lsetS, lset0, next_nx, hf]
  rw [forE_items rfl (show (Src.sq false (Dv.val (.lst ((lots ps row m).map D.ints)))).items _ = some ((lots ps row m).map D.ints) from rfl)]
  generalize hfor : forGo _ _ _ _ = r
  obtain ⟨ρ', rfl, y6, y7, y8, rfl⟩ := forGo_inv2 (fun dn ρ => ∃ y6 y7 y8 : DL.Slot, ρ = [.val (webD n ps), .val (D.ints row), .val (.int k), .val (.lst ((lots ps row m).map D.ints)), .val t, .own (.lst ((dn.flatMap (grow ps row)).map D.ints)), y6, y7, y8]) (lots ps row m) hfor ⟨_, _, _, rfl⟩ (fun dn c rest ρ eq hI => by
    obtain ⟨y6, y7, y8, rfl⟩ := hI
    have hc : c ∈ lots ps row m := by rw [eq]; simp
    have hlen : (dn.flatMap (grow ps row)).length + (grow ps row c).length ≤ 1048576 := by
      have h1 := lots_len2 n ps hl (k := m + 1) (by omega)
      rw [lots, eq, List.flatMap_append, List.flatMap_cons, List.length_append, List.length_append] at h1
      omega
    have e : (dn.flatMap (grow ps row)).map D.ints ++ (grow ps row c).map D.ints = ((dn ++ [c]).flatMap (grow ps row)).map D.ints := by
      rw [List.flatMap_append, List.map_append, List.flatMap_cons, List.flatMap_nil, List.append_nil]
    have hg := grow_step n ps row c hr (.val (.lst ((lots ps row m).map D.ints))) (.val t) k ((dn.flatMap (grow ps row)).map D.ints) (by rw [List.length_map, sizeLine_eq]; omega) (by rw [lots_in ps row m c hc]; omega) y7 y8
    rw [e] at hg
    exact ⟨_, _, rfl, .inl hg, _, _, _, rfl⟩)
  refine ⟨y6, y7, y8, ?_⟩
  and_intros
  rfl
theorem lots_calm_eq (n : Nat) (ps : List (Int × Int)) (row : List Int) (k : Nat) (hr : row.all (inR n) = true) (hl : row.length ≤ 16) (hk : k ≤ 5) : ∃ z, f_lots_calm [webD n ps, D.ints row, .int (k : Int)] = .ok z ∧ z.d = .lst ((lots ps row k).map D.ints) := by
  rw [r_lots_calm, b_lots_calm]
  and_intros
  rw [rng1_int (by omega)]
  and_intros
  rw [forE_items rfl rng_items]
  generalize hfor : forGo _ _ _ _ = r
  obtain ⟨ρ', rfl, s3, s4, s5, s6, s7, s8, rfl, h3⟩ := forGo_inv2 (fun dn ρ => ∃ s3 s4 s5 s6 s7 s8 : DL.Slot, ρ = [.val (webD n ps), .val (D.ints row), .val (.int (k : Int)), s3, s4, s5, s6, s7, s8] ∧ slotD (some s3) = some (.lst ((lots ps row dn.length).map D.ints))) (List.range k) hfor ⟨_, _, _, _, _, _, rfl, by
      simp only [slotD_own, obd_lst, List.length_nil, lots]
      rfl⟩ (fun dn t rest ρ eq hI => by
    obtain ⟨s3, s4, s5, s6, s7, s8, rfl, h3⟩ := hI
    have hdn : dn.length < k := by
      have := congrArg List.length eq
      rw [List.length_range, List.length_append, List.length_cons] at this
      omega
    obtain ⟨y6, y7, y8, hy⟩ := lots_step n ps row k dn.length hr hl (by omega) (.int (t : Int)) s3 s5 s6 s7 s8 h3
    exact ⟨_, _, rfl, .inl hy, _, _, _, _, _, _, rfl, by rw [slotD_val, List.length_append]; rfl⟩)
  and_intros
  cases s3 with
  | non => cases h3
  | val d =>
    rw [slotD_val] at h3
    cases h3
    and_intros
    exact ⟨_, rfl, by rw [List.length_range]; rfl⟩
  | own o =>
    rw [slotD_own] at h3
    and_intros
    refine ⟨_, rfl, ?_⟩
    rw [List.length_range] at h3
    exact Option.some.inj h3
end Lk79


set_option Elab.async false
set_option linter.all false
set_option maxRecDepth 100000
set_option maxHeartbeats 1000000
open PySem DL L2
namespace Lk79
local macro_rules | `(tactic| and_intros) => `(tactic| simp only [bind_okS, bind_errS, datA_nil, datA_val, datA_own, datA_slot, dat_slot, dat_val, dat_own, slotD_val, slotD_own, obd_lst, obd_ins, obd_dct, dv_val, dv_own, varE_val, varE_own, ev_var, ev_gl, ev_int, ev_bl, ev_non, ev_str, ev_bin, ev_cmp, ev_ix, ev_rg1, ev_rg2, ev_neg, ev_isi, ev_isc, ev_sset, ev_lset, ev_attr, ev_rev, ev_bi, ev_ch, ev_tupS, ev_lstS, A.len, Nat.reduceAdd, Nat.reduceLeDiff, ev_dct0, ev_and, ev_or, ev_one, ev_not, ev_ife, ev_lc, ev_call, callE_ok, ev_callH, hotE_ok, ownE_own, ev_make, makE_ok, lstE_own, ev_app, ev_ext, extE_lst, ev_pop, ev_slE, sl1_tup, sl1_lst, sl1_frz, evP_no, evP_so, prtE_int, evA_nil, evA_cons, evB_nil, evB_cons, evN_nil, evN_cons, unsE_val, unsE_own, unsE_slot, evFz_eq, frz_val, frz_own, frz_dv, dat_dv, datA_dv, rd_valS, rd_ownS, frz_slot, frzE_own, frzE_val, evS_sq, evS_en, evS_zp, evS_rng1, evS_rng2, valE_eq, evS_sqT, evS_enT, evS_zpT, evC_yes, evC_so, tst_and, tst_or, tst_one, tst_not, tst_var, tst_bl, tst_bin, tst_cmp, tst_chain, tst_ix, tst_bi, tst_isi, tst_isc, tst_attr, tst_call, tst_callH, tEnd_bl, tEnd_int, tEnd_non, sr_ok, next_nx, next_rt, next_bk, next_ct, next_err, exs_nil, exs_cons, ex_pass, ex_brk, ex_cnt, ex_never, ex_expr, ex_ret, ex_retN, ex_ite, ex_asg, sl_val, sl_own, ex_par, putR_some, ex_asgT, ex_for, ex_whl, setIE_own, ex_setI, ex_setA, bind_ite, sr_ite, next_ite, fin_ite, ite_andS, ite_and2, ite_orS, ite_andT, ite_orT, fin_nx, fin_val, fin_own, fin_slot, finSl_own, finSl_val,
  wipeD, opEnd_eq, optR_some, rgE_eq, optS_some, sqE, enE, zpE, kindD, chE,
  List.nil_append, lapp, lget0, lgetS, lset0, lsetS, omap_some, omap_none, obind_some, obind_none, if_true, if_false, Bool.false_eq_true, isi_eq, isTy, Op.f, Cm.f, Bi.f,
  cmpI_int, ltD_int, addD_int, subD_int, negD_int, eqD_int, neD_int, eqD_bl, neD_bl, isD_bl, isD_non, lenD_lst, lenD_tup, lenD_frz, absD_int, intD_int, max2D_int, min2D_int, listD_tup, listD_lst, tupleD_lst, tupleD_tup, ixD_lst, ixD_tup, Bool.not_true, Bool.not_false, Bool.true_and, Bool.false_and, Bool.and_true, Bool.and_false, Bool.true_or, Bool.false_or, Bool.or_false, Bool.or_true])
/-- a row of at most sixteen -/
def RowS (n : Nat) (row : List Int) : Prop := RowOk n row ∧ row.length ≤ 16
def lotsD (cs : List (List Int)) : D := .lst (cs.map D.ints)
theorem choices_eq (n : Nat) (ps : List (Int × Int)) (k : Nat) (hk : k ≤ 5) (rows : List (List Int)) (hr : ∀ r ∈ rows, RowS n r) : f_choices [webD n ps, .int (k : Int), .tup (rows.map D.ints)] = .ok (.own (.lst (rows.map fun r => lotsD (lots ps r k)))) := by
  rw [r_choices, b_choices]
  and_intros
  rw [lcE_map D.ints rows (fun r => lotsD (lots ps r k)) ?h1 ?h2 ?h]
  case h1 => rfl
  case h2 => rfl
  case h =>
    intro a ha
    refine ⟨_, rfl, ?_, rfl⟩
    and_intros
    obtain ⟨z, hz, hd⟩ := lots_calm_eq n ps a k (hr a ha).1.1 (hr a ha).2 hk
    rw [hz]
    and_intros
    rw [hd, lotsD]
  and_intros
def prod (ns : List Nat) : Nat := ns.foldl (· * ·) 1
theorem check_daysS (n : Nat) (ps : List (Int × Int)) (k : Nat) (hk : k ≤ 5) (rows : List (List Int)) (hl : rows.length ≤ 30) (hr : ∀ r ∈ rows, RowS n r) : f_check_days [webD n ps, .int (k : Int), .tup (rows.map D.ints)] = .ok (.val .non) :=
  check_days_eq n ps k (by omega) rows hl fun r h => (hr r h).1
theorem okMul_r {a b : Int} (h1 : -(2 ^ 64) < b) (h2 : b < 2 ^ 64) : okMul a b = true := by
  simp only [okMul, Bool.or_eq_true, Bool.and_eq_true, decide_eq_true_eq]
  exact .inr ⟨h1, h2⟩
theorem count_runs_eq (n : Nat) (ps : List (Int × Int)) (k : Nat) (hk : k ≤ 5) (rows : List (List Int)) (hl : rows.length ≤ 30) (hr : ∀ r ∈ rows, RowS n r) : f_count_runs [webD n ps, .int (k : Int), .tup (rows.map D.ints)] = .ok (.val (.int (prod (rows.map fun r => (lots ps r k).length) : Nat))) := by
  rw [r_count_runs, b_count_runs]
  and_intros
  rw [check_daysS n ps k hk rows hl hr]
  and_intros
  rw [choices_eq n ps k hk rows hr]
  and_intros
  rw [forE_items rfl (show (Src.sq false (Dv.val (.lst (rows.map fun r => lotsD (lots ps r k))))).items _ = some (rows.map fun r => lotsD (lots ps r k)) from rfl)]
  generalize hfor : forGo _ _ _ _ = r
  obtain ⟨ρ', rfl, y4, rfl⟩ := forGo_inv2 (fun dn ρ => ∃ y4 : DL.Slot, ρ = [.val (webD n ps), .val (.int (k : Int)), .val (.tup (rows.map D.ints)), .val (.int (prod (dn.map fun r => (lots ps r k).length) : Nat)), y4]) rows hfor ⟨_, rfl⟩ (fun dn c rest ρ eq hI => by
    obtain ⟨y4, rfl⟩ := hI
    have hc : RowS n c := hr c (by rw [eq]; simp)
    have hlen := lots_len2 n ps hc.2 hk
    refine ⟨_, [.val (webD n ps), .val (.int (k : Int)), .val (.tup (rows.map D.ints)), .val (.int (prod ((dn ++ [c]).map fun r => (lots ps r k).length) : Nat)), .val (lotsD (lots ps c k))], rfl, .inl ?_, _, rfl⟩
    rw [lotsD]
    and_intros
    rw [mulD_int (okMul_r (by omega) (by rw [List.length_map]; omega))]
    and_intros
    rw [List.length_map]
    congr 5
    rw [List.map_append, prod, prod, List.foldl_append]
    rfl)
  and_intros
/-- the days without a crew -/
def shortAt (cs : List (List (List Int))) : List Nat := ((cs.zipIdx 0).filter fun p => p.1.isEmpty).map (·.2)
def headD (l : List Nat) : D := match l with
  | [] => .non
  | a :: _ => .int (a : Int)
theorem ok_lots {cs : List (List Int)} : (lotsD cs).okE = true := okE_of (n := 2) (okN_lst (ok_map fun a => ok_ints)) (by decide)
theorem ok_nil : (D.lst []).okE = true := okE_of (n := 1) (okN_lst fun x hx => by simp at hx) (by decide)
theorem short_of_eq (cs : List (List (List Int))) : f_short_of [.lst (cs.map lotsD)] = .ok (.val (headD (shortAt cs))) := by
  rw [r_short_of, b_short_of]
  and_intros
  rw [lcE_pure (fun p : (List (List Int)) × Nat => D.tup [.int (p.2 : Nat), lotsD p.1]) (cs.zipIdx 0) (fun p => p.1.isEmpty) (fun p => .int (p.2 : Int)) ?h1 ?h2 ?h]
  case h1 => exact congrArg some (enumD_map lotsD cs 0)
  case h2 => exact congrArg some (enumD_map lotsD cs 0)
  case h =>
    intro a ha
    refine ⟨_, rfl, ?_, fun _ => by and_intros, rfl⟩
    and_intros
    rw [eqD_ok ok_lots ok_nil, lotsD, eqv_lstA, eqvA_nil_r, List.isEmpty_map]
    and_intros
  and_intros
  have e : ((cs.zipIdx 0).filter fun p => p.1.isEmpty).map (fun p => D.int (p.2 : Int)) = (shortAt cs).map fun (a : Nat) => D.int (a : Int) := by
    rw [shortAt, List.map_map]
    rfl
  rw [e]
  have okf : (D.lst ((shortAt cs).map fun (a : Nat) => D.int (a : Int))).okE = true := okE_of (n := 1) (okN_lst (ok_map fun a => okN_int)) (by decide)
  rw [neD_ok okf ok_nil, eqv_lstA, eqvA_nil_r, List.isEmpty_map]
  cases hs : shortAt cs with
  | nil =>
    simp only [List.isEmpty_nil]
    and_intros
    rfl
  | cons a l =>
    simp only [List.isEmpty_cons]
    and_intros
    rw [List.map_cons, at0]
    and_intros
    rfl
theorem short_day_eq (n : Nat) (ps : List (Int × Int)) (k : Nat) (hk : k ≤ 5) (rows : List (List Int)) (hl : rows.length ≤ 30) (hr : ∀ r ∈ rows, RowS n r) : f_short_day [webD n ps, .int (k : Int), .tup (rows.map D.ints)] = .ok (.val (headD (shortAt (rows.map fun r => lots ps r k)))) := by
  rw [r_short_day, b_short_day]
  and_intros
  rw [check_daysS n ps k hk rows hl hr]
  and_intros
  rw [choices_eq n ps k hk rows hr]
  and_intros
  rw [show (rows.map fun r => lotsD (lots ps r k)) = (rows.map fun r => lots ps r k).map lotsD by rw [List.map_map]; rfl, short_of_eq]
  and_intros
theorem can_run_eq (n : Nat) (ps : List (Int × Int)) (k : Nat) (hk : k ≤ 5) (rows : List (List Int)) (hl : rows.length ≤ 30) (hr : ∀ r ∈ rows, RowS n r) : f_can_run [webD n ps, .int (k : Int), .tup (rows.map D.ints)] = .ok (.val (.bl (shortAt (rows.map fun r => lots ps r k)).isEmpty)) := by
  rw [r_can_run, b_can_run]
  and_intros
  rw [check_daysS n ps k hk rows hl hr]
  and_intros
  rw [choices_eq n ps k hk rows hr]
  and_intros
  rw [show (rows.map fun r => lotsD (lots ps r k)) = (rows.map fun r => lots ps r k).map lotsD by rw [List.map_map]; rfl, short_of_eq]
  and_intros
  cases shortAt (rows.map fun r => lots ps r k) <;> rfl
end Lk79


set_option Elab.async false
set_option linter.all false
set_option maxRecDepth 100000
set_option maxHeartbeats 1000000
open PySem DL L2
namespace Lk79
local macro_rules | `(tactic| and_intros) => `(tactic| simp only [bind_okS, bind_errS, datA_nil, datA_val, datA_own, datA_slot, dat_slot, dat_val, dat_own, slotD_val, slotD_own, obd_lst, obd_ins, obd_dct, dv_val, dv_own, varE_val, varE_own, ev_var, ev_gl, ev_int, ev_bl, ev_non, ev_str, ev_bin, ev_cmp, ev_ix, ev_rg1, ev_rg2, ev_neg, ev_isi, ev_isc, ev_sset, ev_lset, ev_attr, ev_rev, ev_bi, ev_ch, ev_tupS, ev_lstS, A.len, Nat.reduceAdd, Nat.reduceLeDiff, ev_dct0, ev_and, ev_or, ev_one, ev_not, ev_ife, ev_lc, ev_call, callE_ok, ev_callH, hotE_ok, ownE_own, ev_make, makE_ok, lstE_own, ev_app, ev_ext, extE_lst, ev_pop, ev_slE, sl1_tup, sl1_lst, sl1_frz, evP_no, evP_so, prtE_int, evA_nil, evA_cons, evB_nil, evB_cons, evN_nil, evN_cons, unsE_val, unsE_own, unsE_slot, evFz_eq, frz_val, frz_own, frz_dv, dat_dv, datA_dv, rd_valS, rd_ownS, frz_slot, frzE_own, frzE_val, evS_sq, evS_en, evS_zp, evS_rng1, evS_rng2, valE_eq, evS_sqT, evS_enT, evS_zpT, evC_yes, evC_so, tst_and, tst_or, tst_one, tst_not, tst_var, tst_bl, tst_bin, tst_cmp, tst_chain, tst_ix, tst_bi, tst_isi, tst_isc, tst_attr, tst_call, tst_callH, tEnd_bl, tEnd_int, tEnd_non, sr_ok, next_nx, next_rt, next_bk, next_ct, next_err, exs_nil, exs_cons, ex_pass, ex_brk, ex_cnt, ex_never, ex_expr, ex_ret, ex_retN, ex_ite, ex_asg, sl_val, sl_own, ex_par, putR_some, ex_asgT, ex_for, ex_whl, setIE_own, ex_setI, ex_setA, bind_ite, sr_ite, next_ite, fin_ite, ite_andS, ite_and2, ite_orS, ite_andT, ite_orT, fin_nx, fin_val, fin_own, fin_slot, finSl_own, finSl_val,
  wipeD, opEnd_eq, optR_some, rgE_eq, optS_some, sqE, enE, zpE, kindD, chE,
  List.nil_append, lapp, lget0, lgetS, lset0, lsetS, omap_some, omap_none, obind_some, obind_none, if_true, if_false, Bool.false_eq_true, isi_eq, isTy, Op.f, Cm.f, Bi.f,
  cmpI_int, ltD_int, addD_int, subD_int, negD_int, eqD_int, neD_int, eqD_bl, neD_bl, isD_bl, isD_non, lenD_lst, lenD_tup, lenD_frz, absD_int, intD_int, max2D_int, min2D_int, listD_tup, listD_lst, tupleD_lst, tupleD_tup, ixD_lst, ixD_tup, Bool.not_true, Bool.not_false, Bool.true_and, Bool.false_and, Bool.and_true, Bool.and_false, Bool.true_or, Bool.false_or, Bool.or_false, Bool.or_true])
/-- no instance, in a tuple none -/
def plain2 : D → Bool
  | .ins _ _ => false
  | .tup xs => xs.all plain
  | _ => true
def calmI (n : Int) (ps : List (Int × Int)) (ns : List Int) : Bool := ns.all (inR n) && ascB ns && !(ns.any fun p => cw ps p ns)
def calmD (n : Int) (ps : List (Int × Int)) : D → Bool
  | .tup xs => match intsOf xs with
    | some ns => calmI n ps ns
    | none => false
  | _ => false
theorem ints_none : ∀ {xs : List D}, intsOf xs = none → xs.all isI = false
  | [], h => by cases h
  | x :: xs, h => by
    cases x <;> try rfl
    rename_i i
    have : intsOf xs = none := by
      cases e : intsOf xs with
      | none => rfl
      | some ns =>
        have h' : (intsOf xs).map (i :: ·) = none := h
        rw [e] at h'
        cases h'
    rw [List.all_cons, ints_none this]
    rfl
theorem wi_isI {lo hi : Int} {d : D} (h : wi lo hi d = true) : isI d = true := by cases d <;> first | rfl | cases h
theorem is_row_no {n : Int} {d : D} (h : plain2 d = true) (h2 : ∀ xs ns, d = .tup xs → intsOf xs ≠ some ns) : f_is_row [d, .int n] = .ok (.val (.bl false)) := by
  refine is_row_bad d n ?_
  cases d with
  | tup xs =>
    have hn : intsOf xs = none := by
      cases e : intsOf xs with
      | none => rfl
      | some ns => exact absurd e (h2 xs ns rfl)
    rw [are_below_tup xs n (List.all_eq_true.mp h)]
    have : xs.all (wi 0 (n - 1)) = false := by
      cases e : xs.all (wi 0 (n - 1)) with
      | false => rfl
      | true =>
        have := ints_none hn
        rw [List.all_eq_false] at this
        obtain ⟨x, hx, hb⟩ := this
        exact absurd (wi_isI (List.all_eq_true.mp e x hx)) hb
    rw [this]
  | ins c fs => cases h
  | _ => exact are_below_no _ n rfl fun xs e => by cases e
theorem is_calm_ints (n : Nat) (ps : List (Int × Int)) (ns : List Int) : f_is_calm [webD n ps, .tup (ns.map D.int)] = .ok (.val (.bl (calmI n ps ns))) := by
  rw [r_is_calm, b_is_calm]
  and_intros
  rw [attr_p]
  and_intros
  rw [is_row_ints]
  and_intros
  cases hrow : (ns.all (inR n) && ascB ns) with
  | false =>
    rw [calmI, hrow]
    and_intros
  | true =>
    and_intros
    have hr : ns.all (inR n) = true := by
      rw [Bool.and_eq_true] at hrow
      exact hrow.1
    rw [lcE_map D.int ns (fun p => .bl (cw ps p ns)) ?h1 ?h2 ?h]
    case h1 => rfl
    case h2 => rfl
    case h =>
      intro a ha
      refine ⟨_, rfl, ?_, rfl⟩
      and_intros
      have e := clashes_with_eq n ps a ns (List.all_eq_true.mp hr a ha)
      rw [D.ints] at e
      rw [e]
      and_intros
    and_intros
    rw [any_of (p := fun p => cw ps p ns) fun a _ => rfl]
    and_intros
    rw [calmI, hrow]
    and_intros
theorem is_calm_eq (n : Nat) (ps : List (Int × Int)) (d : D) (h : plain2 d = true) : f_is_calm [webD n ps, d] = .ok (.val (.bl (calmD n ps d))) := by
  by_cases h2 : ∃ xs ns, d = .tup xs ∧ intsOf xs = some ns
  · obtain ⟨xs, ns, rfl, e⟩ := h2
    rw [intsOf_eq e, is_calm_ints]
    show _ = Except.ok (R.val (.bl (match intsOf (ns.map D.int) with | some ns => calmI n ps ns | none => false)))
    rw [intsOf_map]
  · have h3 : calmD n ps d = false := by
      cases d <;> try rfl
      rename_i xs
      show (match intsOf xs with | some ns => calmI n ps ns | none => false) = false
      cases e : intsOf xs with
      | none => rfl
      | some ns => exact absurd ⟨xs, ns, rfl, e⟩ h2
    rw [h3, r_is_calm, b_is_calm]
    and_intros
    rw [attr_p]
    and_intros
    rw [is_row_no h fun xs ns e1 e2 => h2 ⟨xs, ns, e1, e2⟩]
    and_intros
theorem is_among_eq (c row : List Int) : f_is_among [D.ints c, D.ints row] = .ok (.val (.bl (c.all row.contains))) := by
  rw [r_is_among, b_is_among, D.ints, D.ints]
  and_intros
  rw [lcE_map D.int c (fun o => .bl (row.contains o)) ?h1 ?h2 ?h]
  case h1 => rfl
  case h2 => rfl
  case h =>
    intro a ha
    refine ⟨_, rfl, ?_, rfl⟩
    and_intros
    have e := in_ints a row
    rw [D.ints] at e
    rw [e]
    and_intros
  and_intros
  rw [all_of (p := row.contains) fun a _ => rfl]
  and_intros
/-- a crew of the size by the program's test -/
def crewOk (n : Int) (ps : List (Int × Int)) (k : Nat) : D → Bool
  | .tup xs => match intsOf xs with
    | some ns => calmI n ps ns && (ns.length == k)
    | none => false
  | _ => false
def among (d : D) (row : List Int) : Bool := match d with
  | .tup xs => match intsOf xs with
    | some ns => ns.all row.contains
    | none => false
  | _ => false
def runOk (n : Int) (ps : List (Int × Int)) (k : Nat) (rows : List (List Int)) : D → Bool
  | .lst xs => (xs.length == rows.length) && (xs.all (crewOk n ps k) && (xs.zip rows).all fun p => among p.1 p.2)
  | _ => false
/-- what may be asked of is_run -/
def plain3 : D → Bool
  | .ins _ _ => false
  | .frz _ => false
  | .lst xs => xs.all plain2
  | _ => true
theorem crewOk_ints {n : Int} {ps : List (Int × Int)} {k : Nat} {d : D} (h : crewOk n ps k d = true) : ∃ ns, d = D.ints ns := by
  cases d <;> try (cases h; done)
  rename_i xs
  cases e : intsOf xs with
  | none => simp only [crewOk, e] at h; cases h
  | some ns => exact ⟨ns, by rw [intsOf_eq e]; rfl⟩
theorem among_ints {ns row : List Int} : among (D.ints ns) row = ns.all row.contains := by
  rw [D.ints, among, intsOf_map]
theorem is_right_run_eq (n : Nat) (ps : List (Int × Int)) (k : Nat) (rows : List (List Int)) (d : D) (h : plain3 d = true) : f_is_right_run [webD n ps, .int (k : Int), .tup (rows.map D.ints), d] = .ok (.val (.bl (runOk n ps k rows d))) := by
  rw [r_is_right_run, b_is_right_run]
  cases d <;> try (first | cases h; done | (and_intros; rfl))
  rename_i xs
  and_intros
  rw [List.length_map, runOk]
  cases hlen : (xs.length == rows.length) with
  | false =>
    have : ((xs.length : Int) != (rows.length : Int)) = true := by
      rw [beq_eq_false_iff_ne] at hlen
      rw [bne_iff_ne]
      omega
    rw [this]
    and_intros
  | true =>
    have : ((xs.length : Int) != (rows.length : Int)) = false := by
      rw [beq_iff_eq] at hlen
      rw [hlen]
      simp
    rw [this]
    and_intros
    rw [lcE_map id xs (fun c => .bl (crewOk n ps k c)) ?h1 ?h2 ?h]
    case h1 => rw [List.map_id]; rfl
    case h2 => rw [List.map_id]; rfl
    case h =>
      intro a ha
      refine ⟨_, rfl, ?_, rfl⟩
      rw [id]
      and_intros
      rw [is_calm_eq n ps a (List.all_eq_true.mp h a ha)]
      and_intros
      cases a <;> try rfl
      rename_i ys
      rw [calmD, crewOk]
      cases e : intsOf ys with
      | none => and_intros
      | some ns =>
        dsimp only
        rw [intsOf_eq e]
        rcases Bool.eq_false_or_eq_true (calmI (n : Int) ps ns) with hb | hb
        · simp only [hb]
          and_intros
          have e9 : ((((ns.map D.int).length : Nat) : Int) == (k : Int)) = (ns.length == k) := by
            rw [List.length_map, Bool.eq_iff_iff, beq_iff_eq, beq_iff_eq]
            omega
          rw [e9]
        · simp only [hb]
          and_intros
    and_intros
    rw [all_of (p := crewOk n ps k) fun a _ => rfl]
    and_intros
    cases hall : xs.all (crewOk n ps k) with
    | false => and_intros
    | true =>
      and_intros
      rw [lcE_map (fun p : D × List Int => D.tup [p.1, D.ints p.2]) (xs.zip rows) (fun p => .bl (among p.1 p.2)) ?h3 ?h4 ?h5]
      case h3 => exact congrArg some ((congrArg (zipD · (rows.map D.ints)) (List.map_id xs).symm).trans (zipD_map id D.ints xs rows))
      case h4 => exact congrArg some ((congrArg (zipD · (rows.map D.ints)) (List.map_id xs).symm).trans (zipD_map id D.ints xs rows))
      case h5 =>
        intro p hp
        obtain ⟨ns, hns⟩ := crewOk_ints (List.all_eq_true.mp hall p.1 (List.of_mem_zip hp).1)
        refine ⟨_, rfl, ?_, rfl⟩
        and_intros
        rw [hns, is_among_eq, among_ints]
        and_intros
      and_intros
      rw [all_of (p := fun p : D × List Int => among p.1 p.2) fun a _ => rfl]
      and_intros
theorem is_run_eq (n : Nat) (ps : List (Int × Int)) (k : Nat) (hk : k ≤ 5) (rows : List (List Int)) (hl : rows.length ≤ 30) (hr : ∀ r ∈ rows, RowS n r) (d : D) (h : plain3 d = true) : f_is_run [webD n ps, .int (k : Int), .tup (rows.map D.ints), d] = .ok (.val (.bl (runOk n ps k rows d))) := by
  rw [r_is_run, b_is_run]
  and_intros
  rw [check_daysS n ps k hk rows hl hr]
  and_intros
  rw [is_right_run_eq n ps k rows d h]
  and_intros
end Lk79


set_option Elab.async false
set_option linter.all false
set_option maxRecDepth 100000
set_option maxHeartbeats 1000000
open PySem DL L2
namespace Lk79
local macro_rules | `(tactic| infer_instance) => `(tactic| simp only [bind_okS, bind_errS, datA_nil, datA_val, datA_own, datA_slot, dat_slot, dat_val, dat_own, slotD_val, slotD_own, obd_lst, obd_ins, obd_dct, dv_val, dv_own, varE_val, varE_own, ev_var, ev_gl, ev_int, ev_bl, ev_non, ev_str, ev_bin, ev_cmp, ev_ix, ev_rg1, ev_rg2, ev_neg, ev_isi, ev_isc, ev_sset, ev_lset, ev_attr, ev_rev, ev_bi, ev_ch, ev_tupS, ev_lstS, A.len, Nat.reduceAdd, Nat.reduceLeDiff, ev_dct0, ev_and, ev_or, ev_one, ev_not, ev_ife, ev_lc, ev_call, callE_ok, ev_callH, hotE_ok, ownE_own, ev_make, makE_ok, lstE_own, ev_app, ev_ext, extE_lst, ev_pop, ev_slE, sl1_tup, sl1_lst, sl1_frz, evP_no, evP_so, prtE_int, evA_nil, evA_cons, evB_nil, evB_cons, evN_nil, evN_cons, unsE_val, unsE_own, unsE_slot, evFz_eq, frz_val, frz_own, frz_dv, dat_dv, datA_dv, rd_valS, rd_ownS, frz_slot, frzE_own, frzE_val, evS_sq, evS_en, evS_zp, evS_rng1, evS_rng2, valE_eq, evS_sqT, evS_enT, evS_zpT, evC_yes, evC_so, tst_and, tst_or, tst_one, tst_not, tst_var, tst_bl, tst_bin, tst_cmp, tst_chain, tst_ix, tst_bi, tst_isi, tst_isc, tst_attr, tst_call, tst_callH, tEnd_bl, tEnd_int, tEnd_non, sr_ok, next_nx, next_rt, next_bk, next_ct, next_err, exs_nil, exs_cons, ex_pass, ex_brk, ex_cnt, ex_never, ex_expr, ex_ret, ex_retN, ex_ite, ex_asg, sl_val, sl_own, ex_par, putR_some, ex_asgT, ex_for, ex_whl, setIE_own, ex_setI, ex_setA, bind_ite, sr_ite, next_ite, fin_ite, ite_andS, ite_and2, ite_orS, ite_andT, ite_orT, fin_nx, fin_val, fin_own, fin_slot, finSl_own, finSl_val,
  wipeD, opEnd_eq, optR_some, rgE_eq, optS_some, sqE, enE, zpE, kindD, chE,
  List.nil_append, lapp, lget0, lgetS, lset0, lsetS, omap_some, omap_none, obind_some, obind_none, if_true, if_false, Bool.false_eq_true, isi_eq, isTy, Op.f, Cm.f, Bi.f,
  cmpI_int, ltD_int, addD_int, subD_int, negD_int, eqD_int, neD_int, eqD_bl, neD_bl, isD_bl, isD_non, lenD_lst, lenD_tup, lenD_frz, absD_int, intD_int, max2D_int, min2D_int, listD_tup, listD_lst, tupleD_lst, tupleD_tup, ixD_lst, ixD_tup, Bool.not_true, Bool.not_false, Bool.true_and, Bool.false_and, Bool.and_true, Bool.and_false, Bool.true_or, Bool.false_or, Bool.or_false, Bool.or_true])
def hnd (cells : List Int) (p b s c : Int) : List D := [.lst (cells.map D.int), .int p, .int b, .int s, .int c]
def HandOk (o : Ob) : Prop := ∃ (cells : List Int) (p b s c : Int), 0 ≤ p ∧ o = .lst (hnd cells p b s c)
theorem h0 {cells : List Int} {p b s c : Int} : atI (hnd cells p b s c) 0 = some (.lst (cells.map D.int)) := atI_lt (by omega) rfl
theorem h1 {cells : List Int} {p b s c : Int} : atI (hnd cells p b s c) 1 = some (.int p) := atI_lt (by omega) rfl
theorem h2 {cells : List Int} {p b s c : Int} : atI (hnd cells p b s c) 2 = some (.int b) := atI_lt (by omega) rfl
theorem h3 {cells : List Int} {p b s c : Int} : atI (hnd cells p b s c) 3 = some (.int s) := atI_lt (by omega) rfl
theorem h4 {cells : List Int} {p b s c : Int} : atI (hnd cells p b s c) 4 = some (.int c) := atI_lt (by omega) rfl
theorem i1 {cells : List Int} {p b s c x : Int} {o : DL.Slot} {ρ : DEnv} : ixE (hnd cells p b s c) 1 (.int x) 0 (o :: ρ) = .nx (.own (.lst (hnd cells x b s c)) :: ρ) := by rfl
theorem i2 {cells : List Int} {p b s c x : Int} {o : DL.Slot} {ρ : DEnv} : ixE (hnd cells p b s c) 2 (.int x) 0 (o :: ρ) = .nx (.own (.lst (hnd cells p x s c)) :: ρ) := by rfl
theorem i3 {cells : List Int} {p b s c x : Int} {o : DL.Slot} {ρ : DEnv} : ixE (hnd cells p b s c) 3 (.int x) 0 (o :: ρ) = .nx (.own (.lst (hnd cells p b x c)) :: ρ) := by rfl
theorem i4 {cells : List Int} {p b s c x : Int} {o : DL.Slot} {ρ : DEnv} : ixE (hnd cells p b s c) 4 (.int x) 0 (o :: ρ) = .nx (.own (.lst (hnd cells p b s x)) :: ρ) := by rfl
theorem mulS {a b : Int} (h : -(2 ^ 64) < b ∧ b < 2 ^ 64) : mulD [.int a, .int b] = some (.val (.int (a * b))) := mulD_int (okMul_r h.1 h.2)
theorem mulL {a b : Int} (h : -(2 ^ 64) < a ∧ a < 2 ^ 64) : mulD [.int a, .int b] = some (.val (.int (a * b))) := mulD_int (by
  simp only [okMul, Bool.or_eq_true, Bool.and_eq_true, decide_eq_true_eq]
  exact .inl h)
theorem pow18 : ∃ z : Int, powD [.int 10, .int 18] = some (.val (.int z)) := ⟨10 ^ (18 : Int).toNat, by
  show (if okPow 10 18 = true then some (R.val (.int (10 ^ (18 : Int).toNat))) else none) = _
  rw [if_pos (by decide)]⟩
theorem mod_pos {a b : Int} (h : 0 < b) : modD [.int a, .int b] = some (.val (.int (a % b))) := modD_int h
theorem draw1 (cells : List Int) (p b s c : Int) (hp : 0 ≤ p) (m : D) (s2 s3 s4 : DL.Slot) : ∃ (p' b' s' : Int) (y3 : DL.Slot), 0 ≤ p' ∧
    ex (.ite (.and (.cmp .eq (.ix (.var 0) (.int 2)) (.int 0)) (.one (.cmp .lt (.ix (.var 0) (.int 1)) (.bi .len (.cons (.ix (.var 0) (.int 0)) .nil))))) [.asg 3 (.ix (.ix (.var 0) (.int 0)) (.ix (.var 0) (.int 1))), .setI 0 (.int 1) (.bin .add (.ix (.var 0) (.int 1)) (.int 1)), .setI 0 (.int 3) (.bin .mod (.bi .int (.cons (.bin .add (.bin .add (.bin .mul (.ix (.var 0) (.int 3)) (.int 69621)) (.bin .mul (.var 3) (.int 40692))) (.int 37)) .nil)) (.int 2147483629)), .ite (.cmp .ge (.var 3) (.bin .pow (.int 10) (.int 18))) [.setI 0 (.int 2) (.var 3)] []] [])
      [.own (.lst (hnd cells p b s c)), .val m, s2, s3, s4] = .nx [.own (.lst (hnd cells p' b' s' c)), .val m, s2, y3, s4] := by
  obtain ⟨z, hz⟩ := pow18
  repeat (first | simp only [h0, h1, h2] | infer_instance)
  rw [List.length_map]
  rcases Bool.eq_false_or_eq_true (b == 0) with hb | hb
  rotate_left
  · refine ⟨p, b, s, s3, hp, ?_⟩
    simp only [hb]
    infer_instance
  rcases Bool.eq_false_or_eq_true (decide (p < (cells.length : Nat))) with hc | hc
  rotate_left
  · refine ⟨p, b, s, s3, hp, ?_⟩
    simp only [hb, hc]
    infer_instance
  simp only [hb, hc]
  rw [decide_eq_true_eq] at hc
  have hlt : p.toNat < cells.length := by omega
  have ha : atI (cells.map D.int) p = some (.int cells[p.toNat]) := atI_lt hp (by rw [List.getElem?_map, List.getElem?_eq_getElem hlt]; rfl)
  repeat (first | simp only [h0, h1, h2, h3, ha, i1, mulS (a := s) (b := 69621) (by omega), mulS (a := cells[p.toNat]) (b := 40692) (by omega), mod_pos (show (0 : Int) < 2147483629 by omega), i3, hz] | infer_instance)
  rcases Bool.eq_false_or_eq_true (decide (z ≤ cells[p.toNat])) with hd | hd
  · refine ⟨p + 1, cells[p.toNat], (s * 69621 + cells[p.toNat] * 40692 + 37) % 2147483629, .val (.int cells[p.toNat]), by omega, ?_⟩
    simp only [hd]
    repeat (first | simp only [i2] | infer_instance)
  · refine ⟨p + 1, b, (s * 69621 + cells[p.toNat] * 40692 + 37) % 2147483629, .val (.int cells[p.toNat]), by omega, ?_⟩
    simp only [hd]
    repeat (first | simp only [i2] | infer_instance)
theorem finH_rtV {d : D} {o : Ob} {r : List DL.Slot} : finH (.rt (.val d) (.own o :: r)) = .ok (.val d, o) := by rfl
theorem finH_ite {c : Prop} [Decidable c] {r s : SR} : finH (if c then r else s) = if c then finH r else finH s := by split <;> rfl
theorem fdivS {a b : Int} (h : 0 < b ∧ b < 1073741824) : fdivD [.int a, .int b] = some (.val (.int (a / b))) := fdivD_int h
theorem draw_eq (o : Ob) (ho : HandOk o) (m : Int) (h0m : 0 < m) (hm : m < 1073741824) : ∃ (r : Int) (o' : Ob), h__law_draw o [.int m] = .ok (.val (.int r), o') ∧ 0 ≤ r ∧ r < m ∧ HandOk o' := by
  obtain ⟨cells, p, b, s, c, hp, rfl⟩ := ho
  obtain ⟨p', b', s', y3, hp', e1⟩ := draw1 cells p b s c hp (.int m) .non .non .non
  rw [r__law_draw, b__law_draw, exs_cons, e1, next_nx, exs_cons]
  have k1 := Int.emod_nonneg b' (show m ≠ 0 by omega)
  have k2 := Int.emod_lt_of_pos b' h0m
  repeat (first | simp only [h2] | infer_instance)
  rcases Bool.eq_false_or_eq_true (decide (0 < b')) with hb | hb
  · refine ⟨b' % m, .lst (hnd cells p' (b' / m) s' c), ?_, k1, k2, cells, p', b' / m, s', c, hp', rfl⟩
    simp only [hb]
    repeat (first | simp only [h2, mod_pos h0m, fdivS ⟨h0m, hm⟩, i2, finH_rtV] | infer_instance)
  · simp only [hb]
    have x1 : ∀ a b : Int, 0 ≤ a * b % 2147483647 ∧ a * b % 2147483647 < 2147483647 := fun a b => ⟨Int.emod_nonneg _ (by omega), Int.emod_lt_of_pos _ (by omega)⟩
    obtain ⟨hx1, hx2⟩ := x1 (s' + 7919 * (c + 1)) 48271
    generalize hx : (s' + 7919 * (c + 1)) * 48271 % 2147483647 = x at hx1 hx2
    obtain ⟨hy1, hy2⟩ := x1 x (x / 1009 + 69621)
    generalize hy : x * (x / 1009 + 69621) % 2147483647 = y at hy1 hy2
    repeat (first | simp only [h3, h4, i4, mulL (a := 7919) (b := c + 1) (by omega), mulS (a := s' + 7919 * (c + 1)) (b := 48271) (by omega), mod_pos (show (0 : Int) < 2147483647 by omega), mod_pos (show (0 : Int) < 2147483563 by omega), hx, hy, fdivS (a := x) (b := 1009) (by omega), mulL (a := x) (b := x / 1009 + 69621) (by omega), fdivS (a := y) (b := 2003) (by omega), mulL (a := y) (b := y / 2003 + 40014) (by omega), fdivS (b := 16) (by omega), mod_pos h0m, finH_rtV] | infer_instance)
    exact ⟨_, _, rfl, Int.emod_nonneg _ (by omega), Int.emod_lt_of_pos _ h0m, cells, p', b', s', c + 1, hp', rfl⟩
theorem any_eq (o : Ob) (ho : HandOk o) (xs : List D) (h0 : 0 < xs.length) (hl : xs.length ≤ 1000000) : ∃ (x : D) (o' : Ob), x ∈ xs ∧ h__law_any o [.lst xs] = .ok (.val x, o') ∧ HandOk o' := by
  obtain ⟨r, o', e, h1, h2, h3⟩ := draw_eq o ho xs.length (by omega) (by omega)
  have hlt : r.toNat < xs.length := by omega
  refine ⟨xs[r.toNat], o', List.getElem_mem hlt, ?_, h3⟩
  rw [r__law_any, b__law_any]
  infer_instance
  rw [e]
  infer_instance
  rw [atI_lt h1 (List.getElem?_eq_getElem hlt)]
  infer_instance
  rw [finH_rtV]
end Lk79


set_option Elab.async false
set_option linter.all false
set_option maxRecDepth 100000
set_option maxHeartbeats 1000000
open PySem DL L2
namespace Lk79
local macro_rules | `(tactic| infer_instance) => `(tactic| simp only [bind_okS, bind_errS, datA_nil, datA_val, datA_own, datA_slot, dat_slot, dat_val, dat_own, slotD_val, slotD_own, obd_lst, obd_ins, obd_dct, dv_val, dv_own, varE_val, varE_own, ev_var, ev_gl, ev_int, ev_bl, ev_non, ev_str, ev_bin, ev_cmp, ev_ix, ev_rg1, ev_rg2, ev_neg, ev_isi, ev_isc, ev_sset, ev_lset, ev_attr, ev_rev, ev_bi, ev_ch, ev_tupS, ev_lstS, A.len, Nat.reduceAdd, Nat.reduceLeDiff, ev_dct0, ev_and, ev_or, ev_one, ev_not, ev_ife, ev_lc, ev_call, callE_ok, ev_callH, hotE_ok, ownE_own, ev_make, makE_ok, lstE_own, ev_app, ev_ext, extE_lst, ev_pop, ev_slE, sl1_tup, sl1_lst, sl1_frz, evP_no, evP_so, prtE_int, evA_nil, evA_cons, evB_nil, evB_cons, evN_nil, evN_cons, unsE_val, unsE_own, unsE_slot, evFz_eq, frz_val, frz_own, frz_dv, dat_dv, datA_dv, rd_valS, rd_ownS, frz_slot, frzE_own, frzE_val, evS_sq, evS_en, evS_zp, evS_rng1, evS_rng2, valE_eq, evS_sqT, evS_enT, evS_zpT, evC_yes, evC_so, tst_and, tst_or, tst_one, tst_not, tst_var, tst_bl, tst_bin, tst_cmp, tst_chain, tst_ix, tst_bi, tst_isi, tst_isc, tst_attr, tst_call, tst_callH, tEnd_bl, tEnd_int, tEnd_non, sr_ok, next_nx, next_rt, next_bk, next_ct, next_err, exs_nil, exs_cons, ex_pass, ex_brk, ex_cnt, ex_never, ex_expr, ex_ret, ex_retN, ex_ite, ex_asg, sl_val, sl_own, ex_par, putR_some, ex_asgT, ex_for, ex_whl, setIE_own, ex_setI, ex_setA, bind_ite, sr_ite, next_ite, fin_ite, ite_andS, ite_and2, ite_orS, ite_andT, ite_orT, fin_nx, fin_val, fin_own, fin_slot, finSl_own, finSl_val,
  wipeD, opEnd_eq, optR_some, rgE_eq, optS_some, sqE, enE, zpE, kindD, chE,
  List.nil_append, lapp, lget0, lgetS, lset0, lsetS, omap_some, omap_none, obind_some, obind_none, if_true, if_false, Bool.false_eq_true, isi_eq, isTy, Op.f, Cm.f, Bi.f,
  cmpI_int, ltD_int, addD_int, subD_int, negD_int, eqD_int, neD_int, eqD_bl, neD_bl, isD_bl, isD_non, lenD_lst, lenD_tup, lenD_frz, absD_int, intD_int, max2D_int, min2D_int, listD_tup, listD_lst, tupleD_lst, tupleD_tup, ixD_lst, ixD_tup, Bool.not_true, Bool.not_false, Bool.true_and, Bool.false_and, Bool.and_true, Bool.and_false, Bool.true_or, Bool.false_or, Bool.or_false, Bool.or_true])
def specD (n : Nat) (ps : List (Int × Int)) : D := .tup [.int (n : Int), .tup (ps.map pairD)]
def pairsFrom (n i : Nat) : List (Int × Int) := (List.range (n - (i + 1))).map fun j => ((i : Int), ((i + 1 + j : Nat) : Int))
def allP (n : Nat) : List (Int × Int) := (List.range n).flatMap (pairsFrom n)
def vpB (n : Int) (ps : List (Int × Int)) : Bool := ps.all (fun p => decide (0 ≤ p.1) && decide (p.1 < p.2) && decide (p.2 < n)) && decide (ps.Pairwise fun p q => HT.lexLt [p.1, p.2] [q.1, q.2] = true) && decide (ps.length < 64)
theorem vp_of {n : Int} {ps : List (Int × Int)} (h : vpB n ps = true) : VP n ps := by
  simp only [vpB, Bool.and_eq_true, List.all_eq_true, decide_eq_true_eq] at h
  exact ⟨fun p hp => ⟨(h.1.1 p hp).1.1, (h.1.1 p hp).1.2, (h.1.1 p hp).2⟩, h.1.2, h.2⟩
theorem allP_ok : ∀ n < 9, vpB ((n : Nat) : Int) (allP n) = true := by decide +kernel
theorem VP.sub {n : Int} {ps qs : List (Int × Int)} (h : VP n qs) (s : ps.Sublist qs) : VP n ps := ⟨fun p hp => h.1 p (s.subset hp), h.2.1.sublist s, Nat.lt_of_le_of_lt s.length_le h.2.2⟩
theorem web_loop (n i : Nat) (hn : n ≤ 8) (hi : i < n) (out : List D) (ho : out.length ≤ 100) (o : Ob) (sh : D) (s5 : DL.Slot) :
    exs [T.expr (.ext 3 (.lc (.rng (.cons (.bin .add (.var 2) (.int 1)) (.cons (.var 1) .nil))) [5] (.nm 5) .yes (.tup (.cons (.var 2) (.cons (.var 5) .nil)))))] [.own o, .val (.int (n : Int)), .val (.int (i : Int)), .own (.lst out), .val sh, s5, .non] =
      .nx [.own o, .val (.int (n : Int)), .val (.int (i : Int)), .own (.lst (out ++ (pairsFrom n i).map pairD)), .val sh, s5, .non] := by
  infer_instance
  rw [show ((i : Int) + 1) = ((i + 1 : Nat) : Int) by omega, rng2_int (by omega) (by omega)]
  infer_instance
  rw [lcE_map (fun (j : Nat) => D.int ((i + 1 + j : Nat) : Int)) (List.range (n - (i + 1))) (fun j => pairD ((i : Int), ((i + 1 + j : Nat) : Int))) rng2_items rng2_items ?h]
  case h =>
    intro a ha
    refine ⟨_, rfl, ?_, rfl⟩
    infer_instance
    rfl
  infer_instance
  have e : ((List.range (n - (i + 1))).map fun j => pairD ((i : Int), ((i + 1 + j : Nat) : Int))) = (pairsFrom n i).map pairD := by
    rw [pairsFrom, List.map_map]
    rfl
  rw [e, if_pos]
  rw [List.length_map, pairsFrom, List.length_map, List.length_range, sizeLine_eq]
  omega
theorem flat_bound {α β : Type} {f : α → List β} (dn : List α) (h : ∀ a ∈ dn, (f a).length ≤ 8) (hl : dn.length ≤ 8) : (dn.flatMap f).length ≤ 64 := by
  have := flat_len h
  have h2 : dn.length * 8 ≤ 8 * 8 := Nat.mul_le_mul_right _ hl
  omega
theorem putAll_cons {ρ : DEnv} {i : Nat} {is : List Nat} {r : Dv} {rs : List Dv} : putAll ρ (i :: is) (r :: rs) = putAll (ρ.set i r.sl) is rs := by rfl
theorem putAll_nil {ρ : DEnv} : putAll ρ [] [] = ρ := by rfl
theorem par2 {α : Type} {a b : Dv} {i j : Nat} {x y : SR} : (if [a, b].length = [i, j].length ∧ [a, b].length ≤ sizeLine then x else y) = x := if_pos ⟨rfl, by show 2 ≤ sizeLine; decide⟩
theorem law_web_eq (o : Ob) (ho : HandOk o) (n : Nat) (hn : n ≤ 8) : ∃ (ps : List (Int × Int)) (o' : Ob), h__law_web o [.int (n : Int)] = .ok (.val (specD n ps), o') ∧ VP n ps ∧ HandOk o' := by
  obtain ⟨x, o1, hx, e1, ho1⟩ := any_eq o ho [.int 2, .int 3, .int 4, .int 1, .int 90] (by decide) (by decide)
  obtain ⟨sh, rfl, hs1, hs2⟩ : ∃ sh : Int, x = .int sh ∧ 0 < sh ∧ sh < 1073741824 := by
    simp only [List.mem_cons, List.not_mem_nil, or_false] at hx
    rcases hx with rfl | rfl | rfl | rfl | rfl <;> exact ⟨_, rfl, by omega, by omega⟩
  rw [r__law_web, b__law_web]
  infer_instance
  rw [e1]
  infer_instance
  rw [par2 (α := Nat), putAll_cons, putAll_cons, putAll_nil]
  infer_instance
  rw [rng1_int (by omega)]
  infer_instance
  rw [forE_items rfl rng_items]
  generalize hfor : forGo _ _ _ _ = r
  obtain ⟨ρ', rfl, s2, s5, rfl⟩ := forGo_inv2 (fun dn ρ => ∃ s2 s5 : DL.Slot, ρ = [.own o1, .val (.int (n : Int)), s2, .own (.lst ((dn.flatMap (pairsFrom n)).map pairD)), .val (.int sh), s5, .non]) (List.range n) hfor ⟨_, _, rfl⟩ (fun dn i rest ρ eq hI => by
    obtain ⟨s2, s5, rfl⟩ := hI
    have hi : i < n := List.mem_range.mp (by rw [eq]; simp)
    have hdn : dn.length ≤ 8 := by
      have := congrArg List.length eq
      rw [List.length_range, List.length_append] at this
      omega
    have hw := web_loop n i hn hi ((dn.flatMap (pairsFrom n)).map pairD) (by
      rw [List.length_map]
      have := flat_bound (f := pairsFrom n) dn (fun a _ => by rw [pairsFrom, List.length_map, List.length_range]; omega) hdn
      omega) o1 (.int sh) s5
    have e : (dn.flatMap (pairsFrom n)).map pairD ++ (pairsFrom n i).map pairD = ((dn ++ [i]).flatMap (pairsFrom n)).map pairD := by
      rw [List.flatMap_append, List.map_append, List.flatMap_cons, List.flatMap_nil, List.append_nil]
    rw [e] at hw
    exact ⟨_, _, rfl, .inl hw, _, _, rfl⟩)
  infer_instance
  generalize hlc : lcE _ _ _ _ _ _ = r
  obtain ⟨acc, ρ', h1, ps, o2, ho2, rfl, hsub, rfl⟩ := lcE_inv pairD (allP n) (fun dn acc ρ => ∃ (ps : List (Int × Int)) (o2 : Ob), HandOk o2 ∧ acc = ps.map pairD ∧ ps.Sublist dn ∧ ρ = [.own o2, .val (.int (n : Int)), s2, .own (.lst ((allP n).map pairD)), .val (.int sh), s5, .non]) (s := Src.sq false (Dv.slot 3)) (vs := [6]) (t := .nm 6) (c := evC (.so (.cmp .eq (.callH "_law_draw" h__law_draw 0 (.cons (.var 4) .nil)) (.int 0)))) (e := evFz (ev (.var 6)))
    (ρ := [.own o1, .val (.int (n : Int)), s2, .own (.lst ((allP n).map pairD)), .val (.int sh), s5, .non]) rfl (fun dn acc ρ h => by
      obtain ⟨ps, o2, _, _, _, rfl⟩ := h
      rfl) ⟨[], o1, ho1, rfl, .slnil, rfl⟩ (fun dn a rest acc ρ eq hI => by
      obtain ⟨ps, o2, ho2, rfl, hsub, rfl⟩ := hI
      obtain ⟨r, o3, e3, hr1, hr2, ho3⟩ := draw_eq o2 ho2 sh hs1 hs2
      refine ⟨_, r == 0, [.own o3, .val (.int (n : Int)), s2, .own (.lst ((allP n).map pairD)), .val (.int sh), s5, .val (pairD a)], rfl, ?_, fun _ => ⟨pairD a, [.own o3, .val (.int (n : Int)), s2, .own (.lst ((allP n).map pairD)), .val (.int sh), s5, .val (pairD a)], ?_, ps ++ [a], o3, ho3, by rw [List.map_append]; rfl, hsub.append (.refl _), rfl⟩, fun _ => ⟨ps, o3, ho3, rfl, by simpa using hsub.append (List.nil_sublist [a]), rfl⟩⟩
      · infer_instance
        rw [e3]
        infer_instance
      · infer_instance)
  subst hlc
  rw [allP] at h1
  rw [h1]
  infer_instance
  refine ⟨ps, o2, ?_, (vp_of (allP_ok n (by omega))).sub hsub, ho2⟩
  rfl
end Lk79


set_option Elab.async false
set_option linter.all false
set_option maxRecDepth 100000
set_option maxHeartbeats 1000000
open PySem DL L2
namespace Lk79
local macro_rules | `(tactic| infer_instance) => `(tactic| simp only [bind_okS, bind_errS, datA_nil, datA_val, datA_own, datA_slot, dat_slot, dat_val, dat_own, slotD_val, slotD_own, obd_lst, obd_ins, obd_dct, dv_val, dv_own, varE_val, varE_own, ev_var, ev_gl, ev_int, ev_bl, ev_non, ev_str, ev_bin, ev_cmp, ev_ix, ev_rg1, ev_rg2, ev_neg, ev_isi, ev_isc, ev_sset, ev_lset, ev_attr, ev_rev, ev_bi, ev_ch, ev_tupS, ev_lstS, A.len, Nat.reduceAdd, Nat.reduceLeDiff, ev_dct0, ev_and, ev_or, ev_one, ev_not, ev_ife, ev_lc, ev_call, callE_ok, ev_callH, hotE_ok, ownE_own, ev_make, makE_ok, lstE_own, ev_app, ev_ext, extE_lst, ev_pop, ev_slE, sl1_tup, sl1_lst, sl1_frz, evP_no, evP_so, prtE_int, evA_nil, evA_cons, evB_nil, evB_cons, evN_nil, evN_cons, unsE_val, unsE_own, unsE_slot, evFz_eq, frz_val, frz_own, frz_dv, dat_dv, datA_dv, rd_valS, rd_ownS, frz_slot, frzE_own, frzE_val, evS_sq, evS_en, evS_zp, evS_rng1, evS_rng2, valE_eq, evS_sqT, evS_enT, evS_zpT, evC_yes, evC_so, tst_and, tst_or, tst_one, tst_not, tst_var, tst_bl, tst_bin, tst_cmp, tst_chain, tst_ix, tst_bi, tst_isi, tst_isc, tst_attr, tst_call, tst_callH, tEnd_bl, tEnd_int, tEnd_non, sr_ok, next_nx, next_rt, next_bk, next_ct, next_err, exs_nil, exs_cons, ex_pass, ex_brk, ex_cnt, ex_never, ex_expr, ex_ret, ex_retN, ex_ite, ex_asg, sl_val, sl_own, ex_par, putR_some, ex_asgT, ex_for, ex_whl, setIE_own, ex_setI, ex_setA, bind_ite, sr_ite, next_ite, fin_ite, ite_andS, ite_and2, ite_orS, ite_andT, ite_orT, fin_nx, fin_val, fin_own, fin_slot, finSl_own, finSl_val,
  wipeD, opEnd_eq, optR_some, rgE_eq, optS_some, sqE, enE, zpE, kindD, chE,
  List.nil_append, lapp, lget0, lgetS, lset0, lsetS, omap_some, omap_none, obind_some, obind_none, if_true, if_false, Bool.false_eq_true, isi_eq, isTy, Op.f, Cm.f, Bi.f,
  cmpI_int, ltD_int, addD_int, subD_int, negD_int, eqD_int, neD_int, eqD_bl, neD_bl, isD_bl, isD_non, lenD_lst, lenD_tup, lenD_frz, absD_int, intD_int, max2D_int, min2D_int, listD_tup, listD_lst, tupleD_lst, tupleD_tup, ixD_lst, ixD_tup, Bool.not_true, Bool.not_false, Bool.true_and, Bool.false_and, Bool.and_true, Bool.and_false, Bool.true_or, Bool.false_or, Bool.or_false, Bool.or_true])

def fits (ps : List (Int × Int)) (crew : List Int) (p : Int) : Bool := !crew.contains p && !(crew.any fun o => ps.contains (min o p, max o p))
theorem nin_ints (a : Int) (l : List Int) : inD true [.int a, D.ints l] = some (.val (.bl (!l.contains a))) := by
  have ok : (D.ints l).okE = true := okE_of (n := 1) ok_ints (by decide)
  rw [D.ints] at *
  rw [inD_tup ok_int ok, any_map (f := D.int) (fun a b => eqv_int), Bool.true_xor]
theorem in_pairs (a b : Int) (ps : List (Int × Int)) : inD false [.tup [.int a, .int b], .tup (ps.map pairD)] = some (.val (.bl (ps.contains (a, b)))) := by
  have ok1 : (pairD (a, b)).okE = true := okE_of (n := 1) ok_pair (by decide)
  have ok2 : (D.tup (ps.map pairD)).okE = true := okE_of (n := 2) (okN_tup (ok_map fun a => ok_pair)) (by decide)
  show inD false [pairD (a, b), .tup (ps.map pairD)] = _
  rw [inD_tup ok1 ok2, any_map (f := pairD) (fun a b => eqv_pair), Bool.false_xor]
theorem law_fits_eq (n : Nat) (ps : List (Int × Int)) (crew : List Int) (p : Int) : f__law_fits [specD n ps, D.ints crew, .int p] = .ok (.val (.bl (fits ps crew p))) := by
  rw [r__law_fits, b__law_fits, fits]
  infer_instance
  rw [nin_ints]
  infer_instance
  rcases Bool.eq_false_or_eq_true (crew.contains p) with hc | hc
  · simp only [hc]
    infer_instance
  · simp only [hc]
    infer_instance
    rw [D.ints, specD]
    infer_instance
    rw [lcE_map D.int crew (fun o => .bl (ps.contains (min o p, max o p))) ?h1 ?h2 ?h]
    case h1 => rfl
    case h2 => rfl
    case h =>
      intro a ha
      refine ⟨_, rfl, ?_, rfl⟩
      infer_instance
      rw [at1]
      infer_instance
      rw [in_pairs]
      infer_instance
    infer_instance
    rw [any_of (p := fun o => ps.contains (min o p, max o p)) fun a _ => rfl]
    infer_instance
def growL (ps : List (Int × Int)) (row crew : List Int) : List (List Int) := ((row.filter (behind crew)).filter (fits ps crew)).map fun one => crew ++ [one]
def lotsL (ps : List (Int × Int)) (row : List Int) : Nat → List (List Int)
  | 0 => [[]]
  | k + 1 => (lotsL ps row k).flatMap (growL ps row)
theorem growL_len (ps : List (Int × Int)) (row crew : List Int) : (growL ps row crew).length ≤ row.length := by
  unfold growL
  rw [List.length_map]
  exact Nat.le_trans (List.length_filter_le _ _) (List.length_filter_le _ _)
theorem lotsL_len (ps : List (Int × Int)) (row : List Int) : ∀ k, (lotsL ps row k).length ≤ row.length ^ k
  | 0 => by simp [lotsL]
  | k + 1 => by
    rw [lotsL, Nat.pow_succ]
    exact Nat.le_trans (flat_len fun a _ => growL_len ps row a) (Nat.mul_le_mul_right _ (lotsL_len ps row k))
theorem growL_step (n : Nat) (ps : List (Int × Int)) (row crew : List Int) (s3 s4 : DL.Slot) (k : Int) (out : List D) (hl : out.length + (growL ps row crew).length ≤ sizeLine) (hcl : crew.length ≤ 100) (s7 s8 : DL.Slot) :
    exs [T.asg 7 (.lc (.sq (.var 2)) [8] (.nm 8) (.so (.or (.cmp .eq (.bi .len (.cons (.var 6) .nil)) (.int 0)) (.one (.cmp .gt (.var 8) (.ix (.var 6) (.neg (.int 1))))))) (.var 8)), .expr (.ext 5 (.lc (.sq (.var 7)) [8] (.nm 8) (.so (.call "_law_fits" f__law_fits (.cons (.var 0) (.cons (.var 6) (.cons (.var 8) .nil))))) (.bin .add (.var 6) (.tup (.cons (.var 8) .nil)))))]
      [.val (specD n ps), .val (.int k), .val (D.ints row), s3, s4, .own (.lst out), .val (D.ints crew), s7, s8] = .nx [.val (specD n ps), .val (.int k), .val (D.ints row), s3, s4, .own (.lst (out ++ (growL ps row crew).map D.ints)), .val (D.ints crew), .own (.lst ((row.filter (behind crew)).map D.int)), s8] := by
  have okc : (D.ints crew).okE = true := okE_of (n := 1) ok_ints (by decide)
  have ok0 : (D.tup []).okE = true := okE_of (n := 1) (okN_tup fun x hx => by simp at hx) (by decide)
  rw [D.ints]
  infer_instance
  rw [lcE_pure D.int row (behind crew) D.int rfl rfl ?h]
  case h =>
    intro a ha
    refine ⟨_, rfl, ?_, fun _ => by infer_instance, rfl⟩
    infer_instance
    rw [show lenD [D.ints crew] = some (.val (.int (crew.length : Nat))) by rw [D.ints, lenD_tup, List.length_map]]
    infer_instance
    cases hc : crew with
    | nil => rfl
    | cons c cs =>
      have hlc : ((((c :: cs).length : Nat) : Int) == 0) = false := by
        rw [beq_eq_false_iff_ne, List.length_cons]
        omega
      simp only [hlc]
      infer_instance
      rw [D.ints]
      infer_instance
      rw [DL.atI_last, List.getLast?_map]
      simp only [behind]
      rw [List.getLast?_eq_some_getLast (List.cons_ne_nil c cs)]
      infer_instance
  infer_instance
  rw [lcE_pure D.int (row.filter (behind crew)) (fits ps crew) (fun one => D.ints (crew ++ [one])) ?h2a ?h2b ?h2]
  case h2a => rfl
  case h2b => rfl
  case h2 =>
    intro a ha
    refine ⟨_, rfl, ?_, fun _ => ?_, rfl⟩
    · infer_instance
      rw [law_fits_eq]
      infer_instance
    · rw [D.ints]
      infer_instance
      rw [addD_tup (by rw [List.length_map]; show _ + 1 ≤ _; rw [sizeLine_eq]; omega)]
      infer_instance
      rw [D.ints, List.map_append]
      rfl
  infer_instance
  have e : (((row.filter (behind crew)).filter (fits ps crew)).map fun one => D.ints (crew ++ [one])) = (growL ps row crew).map D.ints := by
    rw [growL, List.map_map]
    rfl
  rw [e, if_pos (by rw [List.length_map]; exact hl)]
theorem lotsL_in (ps : List (Int × Int)) (row : List Int) : ∀ k, ∀ c ∈ lotsL ps row k, c.length = k
  | 0, c, h => by
    simp only [lotsL, List.mem_singleton] at h
    rw [h]
    rfl
  | k + 1, c, h => by
    rw [lotsL] at h
    obtain ⟨d, hd, hc⟩ := List.mem_flatMap.mp h
    have := lotsL_in ps row k d hd
    rw [growL] at hc
    obtain ⟨x, _, rfl⟩ := List.mem_map.mp hc
    rw [List.length_append, this]
    rfl
theorem lotsL_len2 (n : Nat) (ps : List (Int × Int)) {row : List Int} (hl : row.length ≤ 16) {k : Nat} (hk : k ≤ 5) : (lotsL ps row k).length ≤ 1048576 := by
  have h1 := lotsL_len ps row k
  have h2 : row.length ^ k ≤ 16 ^ k := Nat.pow_le_pow_left hl k
  have h3 : 16 ^ k ≤ 16 ^ 5 := Nat.pow_le_pow_right (by decide) hk
  have h4 : (16 : Nat) ^ 5 = 1048576 := by decide
  omega
theorem lotsL_step (n : Nat) (ps : List (Int × Int)) (row : List Int) (k : Int) (m : Nat) (hl : row.length ≤ 16) (hm : m < 5) (t : D) (s3 s5 s6 s7 s8 : DL.Slot) (h3 : slotD (some s3) = some (.lst ((lotsL ps row m).map D.ints))) :
    ∃ y6 y7 y8 : DL.Slot, exs [T.asg 5 (.lst .nil), .for_ (.sq (.var 3)) (.nm 6) [T.asg 7 (.lc (.sq (.var 2)) [8] (.nm 8) (.so (.or (.cmp .eq (.bi .len (.cons (.var 6) .nil)) (.int 0)) (.one (.cmp .gt (.var 8) (.ix (.var 6) (.neg (.int 1))))))) (.var 8)), .expr (.ext 5 (.lc (.sq (.var 7)) [8] (.nm 8) (.so (.call "_law_fits" f__law_fits (.cons (.var 0) (.cons (.var 6) (.cons (.var 8) .nil))))) (.bin .add (.var 6) (.tup (.cons (.var 8) .nil)))))], .asg 3 (.var 5)]
      [.val (specD n ps), .val (.int k), .val (D.ints row), s3, .val t, s5, s6, s7, s8] = .nx [.val (specD n ps), .val (.int k), .val (D.ints row), .val (.lst ((lotsL ps row (m + 1)).map D.ints)), .val t, .val (.lst ((lotsL ps row (m + 1)).map D.ints)), y6, y7, y8] := by
  have hev : ∀ x4 x5 x6 x7 x8 : DL.Slot, ((ev (E.var 3) [.val (specD n ps), .val (.int k), .val (D.ints row), s3, x4, x5, x6, x7, x8]).bind frz) = .ok (.lst ((lotsL ps row m).map D.ints)) [.val (specD n ps), .val (.int k), .val (D.ints row), .val (.lst ((lotsL ps row m).map D.ints)), x4, x5, x6, x7, x8] := by
    intro x4 x5 x6 x7 x8
    cases s3 with
    | non => cases h3
    | val d =>
      rw [slotD_val] at h3
      cases h3
      infer_instance
    | own o =>
      rw [slotD_own] at h3
      have h3' : o.d = _ := Option.some.inj h3
      infer_instance
      rw [h3']
  have hf : ∀ x4 x5 x6 x7 x8 : DL.Slot, evS true (.sq (.var 3)) [.val (specD n ps), .val (.int k), .val (D.ints row), s3, x4, x5, x6, x7, x8] = .ok (.sq false (.val (.lst ((lotsL ps row m).map D.ints)))) [.val (specD n ps), .val (.int k), .val (D.ints row), .val (.lst ((lotsL ps row m).map D.ints)), x4, x5, x6, x7, x8] := by
    intro x4 x5 x6 x7 x8
    rw [evS_sqT, evFz_eq, hev]
    infer_instance
  simp only [exs_cons, ex_asg, ex_for, ev_lstS, evA_nil, bind_okS, A.len, Nat.reduceLeDiff, if_true, unsE_own, sr_ok, sl_own, lsetS, lset0, next_nx, hf]
  rw [forE_items rfl (show (Src.sq false (Dv.val (.lst ((lotsL ps row m).map D.ints)))).items _ = some ((lotsL ps row m).map D.ints) from rfl)]
  generalize hfor : forGo _ _ _ _ = r
  obtain ⟨ρ', rfl, y6, y7, y8, rfl⟩ := forGo_inv2 (fun dn ρ => ∃ y6 y7 y8 : DL.Slot, ρ = [.val (specD n ps), .val (.int k), .val (D.ints row), .val (.lst ((lotsL ps row m).map D.ints)), .val t, .own (.lst ((dn.flatMap (growL ps row)).map D.ints)), y6, y7, y8]) (lotsL ps row m) hfor ⟨_, _, _, rfl⟩ (fun dn c rest ρ eq hI => by
    obtain ⟨y6, y7, y8, rfl⟩ := hI
    have hc : c ∈ lotsL ps row m := by rw [eq]; simp
    have hlen : (dn.flatMap (growL ps row)).length + (growL ps row c).length ≤ 1048576 := by
      have h1 := lotsL_len2 n ps hl (k := m + 1) (by omega)
      rw [lotsL, eq, List.flatMap_append, List.flatMap_cons, List.length_append, List.length_append] at h1
      omega
    have e : (dn.flatMap (growL ps row)).map D.ints ++ (growL ps row c).map D.ints = ((dn ++ [c]).flatMap (growL ps row)).map D.ints := by
      rw [List.flatMap_append, List.map_append, List.flatMap_cons, List.flatMap_nil, List.append_nil]
    have hg := growL_step n ps row c (.val (.lst ((lotsL ps row m).map D.ints))) (.val t) k ((dn.flatMap (growL ps row)).map D.ints) (by rw [List.length_map, sizeLine_eq]; omega) (by rw [lotsL_in ps row m c hc]; omega) y7 y8
    rw [e] at hg
    exact ⟨_, _, rfl, .inl hg, _, _, _, rfl⟩)
  refine ⟨y6, y7, y8, ?_⟩
  infer_instance
  rfl
theorem crews_of_eq (n : Nat) (ps : List (Int × Int)) (row : List Int) (k : Nat) (hl : row.length ≤ 16) (hk : k ≤ 5) : ∃ z, f__law_crews_of [specD n ps, .int (k : Int), D.ints row] = .ok z ∧ z.d = .lst ((lotsL ps row k).map D.ints) := by
  rw [r__law_crews_of, b__law_crews_of]
  infer_instance
  rw [rng1_int (by omega)]
  infer_instance
  rw [forE_items rfl rng_items]
  generalize hfor : forGo _ _ _ _ = r
  obtain ⟨ρ', rfl, s3, s4, s5, s6, s7, s8, rfl, h3⟩ := forGo_inv2 (fun dn ρ => ∃ s3 s4 s5 s6 s7 s8 : DL.Slot, ρ = [.val (specD n ps), .val (.int (k : Int)), .val (D.ints row), s3, s4, s5, s6, s7, s8] ∧ slotD (some s3) = some (.lst ((lotsL ps row dn.length).map D.ints))) (List.range k) hfor ⟨_, _, _, _, _, _, rfl, by
      simp only [slotD_own, obd_lst, List.length_nil, lotsL]
      rfl⟩ (fun dn t rest ρ eq hI => by
    obtain ⟨s3, s4, s5, s6, s7, s8, rfl, h3⟩ := hI
    have hdn : dn.length < k := by
      have := congrArg List.length eq
      rw [List.length_range, List.length_append, List.length_cons] at this
      omega
    obtain ⟨y6, y7, y8, hy⟩ := lotsL_step n ps row k dn.length hl (by omega) (.int (t : Int)) s3 s5 s6 s7 s8 h3
    exact ⟨_, _, rfl, .inl hy, _, _, _, _, _, _, rfl, by rw [slotD_val, List.length_append]; rfl⟩)
  infer_instance
  cases s3 with
  | non => cases h3
  | val d =>
    rw [slotD_val] at h3
    cases h3
    infer_instance
    exact ⟨_, rfl, by rw [List.length_range]; rfl⟩
  | own o =>
    rw [slotD_own] at h3
    infer_instance
    refine ⟨_, rfl, ?_⟩
    rw [List.length_range] at h3
    exact Option.some.inj h3
end Lk79


set_option Elab.async false
set_option linter.all false
set_option maxRecDepth 100000
set_option maxHeartbeats 1000000
open PySem DL L2
namespace Lk79
local macro_rules | `(tactic| infer_instance) => `(tactic| simp only [bind_okS, bind_errS, datA_nil, datA_val, datA_own, datA_slot, dat_slot, dat_val, dat_own, slotD_val, slotD_own, obd_lst, obd_ins, obd_dct, dv_val, dv_own, varE_val, varE_own, ev_var, ev_gl, ev_int, ev_bl, ev_non, ev_str, ev_bin, ev_cmp, ev_ix, ev_rg1, ev_rg2, ev_neg, ev_isi, ev_isc, ev_sset, ev_lset, ev_attr, ev_rev, ev_bi, ev_ch, ev_tupS, ev_lstS, A.len, Nat.reduceAdd, Nat.reduceLeDiff, ev_dct0, ev_and, ev_or, ev_one, ev_not, ev_ife, ev_lc, ev_call, callE_ok, ev_callH, hotE_ok, ownE_own, ev_make, makE_ok, lstE_own, ev_app, ev_ext, extE_lst, ev_pop, ev_slE, sl1_tup, sl1_lst, sl1_frz, evP_no, evP_so, prtE_int, evA_nil, evA_cons, evB_nil, evB_cons, evN_nil, evN_cons, unsE_val, unsE_own, unsE_slot, evFz_eq, frz_val, frz_own, frz_dv, dat_dv, datA_dv, rd_valS, rd_ownS, frz_slot, frzE_own, frzE_val, evS_sq, evS_en, evS_zp, evS_rng1, evS_rng2, valE_eq, evS_sqT, evS_enT, evS_zpT, evC_yes, evC_so, tst_and, tst_or, tst_one, tst_not, tst_var, tst_bl, tst_bin, tst_cmp, tst_chain, tst_ix, tst_bi, tst_isi, tst_isc, tst_attr, tst_call, tst_callH, tEnd_bl, tEnd_int, tEnd_non, sr_ok, next_nx, next_rt, next_bk, next_ct, next_err, exs_nil, exs_cons, ex_pass, ex_brk, ex_cnt, ex_never, ex_expr, ex_ret, ex_retN, ex_ite, ex_asg, sl_val, sl_own, ex_par, putR_some, ex_asgT, ex_for, ex_whl, setIE_own, ex_setI, ex_setA, bind_ite, sr_ite, next_ite, fin_ite, ite_andS, ite_and2, ite_orS, ite_andT, ite_orT, fin_nx, fin_val, fin_own, fin_slot, finSl_own, finSl_val,
  wipeD, opEnd_eq, optR_some, rgE_eq, optS_some, sqE, enE, zpE, kindD, chE,
  List.nil_append, lapp, lget0, lgetS, lset0, lsetS, omap_some, omap_none, obind_some, obind_none, if_true, if_false, Bool.false_eq_true, isi_eq, isTy, Op.f, Cm.f, Bi.f,
  cmpI_int, ltD_int, addD_int, subD_int, negD_int, eqD_int, neD_int, eqD_bl, neD_bl, isD_bl, isD_non, lenD_lst, lenD_tup, lenD_frz, absD_int, intD_int, max2D_int, min2D_int, listD_tup, listD_lst, tupleD_lst, tupleD_tup, ixD_lst, ixD_tup, Bool.not_true, Bool.not_false, Bool.true_and, Bool.false_and, Bool.and_true, Bool.and_false, Bool.true_or, Bool.false_or, Bool.or_false, Bool.or_true])
def crewL (ps : List (Int × Int)) (k : Nat) (row : List Int) : D → Bool
  | .tup xs => (xs.length == k) && (match intsOf xs with
    | some ns => (lotsL ps row k).contains ns
    | none => false)
  | _ => false
theorem all_isI {xs : List D} (h : xs.all isI = true) : ∃ ns, intsOf xs = some ns := by
  cases e : intsOf xs with
  | some ns => exact ⟨ns, rfl⟩
  | none => rw [ints_none e] at h; cases h
theorem isI_ints : ∀ (ns : List Int), (ns.map D.int).all isI = true
  | [] => rfl
  | n :: ns => by rw [List.map_cons, List.all_cons, isI_ints ns]; rfl
theorem in_lots (ns : List Int) (ls : List (List Int)) : inD false [D.ints ns, .lst (ls.map D.ints)] = some (.val (.bl (ls.contains ns))) := by
  have ok1 : (D.ints ns).okE = true := okE_of (n := 1) ok_ints (by decide)
  have ok2 : (D.lst (ls.map D.ints)).okE = true := okE_of (n := 2) (okN_lst (ok_map fun a => ok_ints)) (by decide)
  rw [inD_lst ok1 ok2, any_map (f := D.ints) (fun a b => eqv_ints), Bool.false_xor]
theorem is_crew_of_eq (n : Nat) (ps : List (Int × Int)) (k : Nat) (hk : k ≤ 5) (row : List Int) (hl : row.length ≤ 16) (d : D) (h : plain2 d = true) : f__law_is_crew_of [specD n ps, .int (k : Int), D.ints row, d] = .ok (.val (.bl (crewL ps k row d))) := by
  rw [r__law_is_crew_of, b__law_is_crew_of]
  cases d <;> try (first | cases h; done | (infer_instance; rfl))
  rename_i xs
  infer_instance
  rw [crewL]
  have e1 : (((xs.length : Nat) : Int) != (k : Int)) = !(xs.length == k) := by
    rw [Bool.eq_iff_iff, bne_iff_ne, Bool.not_eq_true', beq_eq_false_iff_ne]
    omega
  rw [e1]
  rcases Bool.eq_false_or_eq_true (xs.length == k) with hlen | hlen
  rotate_left
  · simp only [hlen]
    infer_instance
  · simp only [hlen]
    infer_instance
    rw [lcE_map id xs (fun c => .bl (isI c)) ?h1 ?h2 ?h]
    case h1 => rw [List.map_id]; rfl
    case h2 => rw [List.map_id]; rfl
    case h =>
      intro a ha
      refine ⟨_, rfl, ?_, rfl⟩
      rw [id]
      have hp := List.all_eq_true.mp (show xs.all plain = true from h) a ha
      cases a <;> first | cases hp; done | (infer_instance <;> rfl)
    infer_instance
    rw [all_of (p := isI) fun a _ => rfl]
    infer_instance
    rcases Bool.eq_false_or_eq_true (xs.all isI) with hall | hall
    · obtain ⟨ns, hns⟩ := all_isI hall
      simp only [hall, hns]
      infer_instance
      obtain ⟨z, hz, hd⟩ := crews_of_eq n ps row k hl hk
      rw [hz]
      infer_instance
      rw [hd, intsOf_eq hns]
      have e := in_lots ns (lotsL ps row k)
      rw [D.ints] at e
      rw [e]
      infer_instance
    · have hno : intsOf xs = none := by
        cases e : intsOf xs with
        | none => rfl
        | some ns =>
          rw [intsOf_eq e, isI_ints] at hall
          cases hall
      simp only [hall, hno]
      infer_instance
/-- the law's flag -/
def runL (ps : List (Int × Int)) (k : Nat) (rows : List (List Int)) : D → Bool
  | .lst xs => (xs.length == rows.length) && (rows.zip xs).all fun p => crewL ps k p.1 p.2
  | _ => false
theorem law_is_run_eq (n : Nat) (ps : List (Int × Int)) (k : Nat) (hk : k ≤ 5) (rows : List (List Int)) (hr : ∀ r ∈ rows, r.length ≤ 16) (d : D) (h : plain3 d = true) : f__law_is_run [specD n ps, .int (k : Int), .tup (rows.map D.ints), d] = .ok (.val (.bl (runL ps k rows d))) := by
  rw [r__law_is_run, b__law_is_run]
  cases d <;> try (first | cases h; done | (infer_instance; rfl))
  rename_i xs
  infer_instance
  rw [List.length_map, runL]
  have e1 : (((xs.length : Nat) : Int) != ((rows.length : Nat) : Int)) = !(xs.length == rows.length) := by
    rw [Bool.eq_iff_iff, bne_iff_ne, Bool.not_eq_true', beq_eq_false_iff_ne]
    omega
  rw [e1]
  rcases Bool.eq_false_or_eq_true (xs.length == rows.length) with hlen | hlen
  rotate_left
  · simp only [hlen]
    infer_instance
  · simp only [hlen]
    infer_instance
    rw [lcE_map (fun p : List Int × D => D.tup [D.ints p.1, p.2]) (rows.zip xs) (fun p => .bl (crewL ps k p.1 p.2)) ?h3 ?h4 ?h5]
    case h3 => exact congrArg some ((congrArg (zipD (rows.map D.ints)) (List.map_id xs).symm).trans (zipD_map D.ints id rows xs))
    case h4 => exact congrArg some ((congrArg (zipD (rows.map D.ints)) (List.map_id xs).symm).trans (zipD_map D.ints id rows xs))
    case h5 =>
      intro p hp
      refine ⟨_, rfl, ?_, rfl⟩
      infer_instance
      rw [is_crew_of_eq n ps k hk p.1 (hr _ (List.of_mem_zip hp).1) p.2 (List.all_eq_true.mp h _ (List.of_mem_zip hp).2)]
      infer_instance
    infer_instance
    rw [all_of (p := fun p : List Int × D => crewL ps k p.1 p.2) fun a _ => rfl]
    infer_instance
end Lk79


set_option Elab.async false
set_option linter.all false
set_option maxRecDepth 100000
set_option maxHeartbeats 1000000
open PySem DL L2
namespace Lk79
/-! the plain law: the program's runs are the law's runs -/
theorem ascB_cons2 (a b : Int) (l : List Int) : ascB (a :: b :: l) = (decide (a < b) && ascB (b :: l)) := rfl
theorem ascB_iff : ∀ (l : List Int), ascB l = true ↔ l.Pairwise (· < ·)
  | [] => by simp [ascB]
  | [a] => by simp [ascB]
  | a :: b :: l => by
    rw [ascB_cons2, Bool.and_eq_true, decide_eq_true_eq, ascB_iff (b :: l)]
    constructor
    · rintro ⟨h1, h2⟩
      refine List.pairwise_cons.mpr ⟨fun x hx => ?_, h2⟩
      rcases List.mem_cons.mp hx with rfl | hx
      · exact h1
      · have := (List.pairwise_cons.mp h2).1 x hx
        omega
    · intro h
      have := List.pairwise_cons.mp h
      exact ⟨this.1 b (by simp), this.2⟩
def mt (ps : List (Int × Int)) (a b : Int) : Prop := (a, b) ∈ ps ∨ (b, a) ∈ ps
theorem mt_symm {ps : List (Int × Int)} {a b : Int} (h : mt ps a b) : mt ps b a := Or.symm h
theorem met_mem {n : Int} {ps : List (Int × Int)} (h : VP n ps) (p o : Int) : o ∈ met ps p ↔ mt ps p o := by
  unfold met mt
  rw [List.mem_map]
  constructor
  · rintro ⟨z, hz, rfl⟩
    obtain ⟨h1, h2⟩ := List.mem_filter.mp hz
    rw [Bool.or_eq_true, beq_iff_eq, beq_iff_eq] at h2
    by_cases e : z.1 = p
    · rw [if_pos (by rw [e]; exact beq_self_eq_true p)]
      left
      rw [← e]
      exact h1
    · rw [if_neg (by rw [beq_iff_eq]; exact e)]
      right
      have : z.2 = p := h2.resolve_left e
      rw [← this]
      exact h1
  · rintro (h1 | h1)
    · exact ⟨(p, o), List.mem_filter.mpr ⟨h1, by simp⟩, by simp⟩
    · refine ⟨(o, p), List.mem_filter.mpr ⟨h1, by simp⟩, ?_⟩
      have := (h.1 _ h1).2.1
      have hne : ¬ ((o, p).1 == p) = true := by
        rw [beq_iff_eq]
        show ¬ o = p
        intro e
        have h3 : o < p := this
        omega
      rw [if_neg hne]
theorem minmax {n : Int} {ps : List (Int × Int)} (h : VP n ps) (a b : Int) : (min a b, max a b) ∈ ps ↔ mt ps a b := by
  unfold mt
  constructor
  · intro hm
    by_cases hab : a ≤ b
    · rw [Int.min_eq_left hab, Int.max_eq_right hab] at hm
      exact .inl hm
    · rw [Int.min_eq_right (by omega), Int.max_eq_left (by omega)] at hm
      exact .inr hm
  · rintro (hm | hm)
    · have h3 : a < b := (h.1 _ hm).2.1
      rw [Int.min_eq_left (by omega), Int.max_eq_right (by omega)]
      exact hm
    · have h3 : b < a := (h.1 _ hm).2.1
      rw [Int.min_eq_right (by omega), Int.max_eq_left (by omega)]
      exact hm
theorem mt_irr {n : Int} {ps : List (Int × Int)} (h : VP n ps) (a : Int) : ¬ mt ps a a := by
  rintro (hm | hm) <;> exact absurd (h.1 _ hm).2.1 (by show ¬ a < a; omega)
theorem fits_iff {n : Int} {ps : List (Int × Int)} (h : VP n ps) (crew : List Int) (p : Int) : fits ps crew p = true ↔ p ∉ crew ∧ ∀ o ∈ crew, ¬ mt ps o p := by
  unfold fits
  rw [Bool.and_eq_true, Bool.not_eq_true', Bool.not_eq_true']
  constructor
  · rintro ⟨h1, h2⟩
    refine ⟨fun hm => (by rw [List.contains_iff_mem.mpr hm] at h1; cases h1), fun o ho hm => ?_⟩
    rw [List.any_eq_false] at h2
    exact h2 o ho (List.contains_iff_mem.mpr ((minmax h o p).mpr hm))
  · rintro ⟨h1, h2⟩
    refine ⟨Bool.eq_false_iff.mpr fun e => h1 (List.contains_iff_mem.mp e), ?_⟩
    rw [List.any_eq_false]
    exact fun o ho hm => h2 o ho ((minmax h o p).mp (List.contains_iff_mem.mp hm))
theorem last_lt {c : List Int} {x : Int} (hc : c.Pairwise (· < ·)) : behind c x = true ↔ ∀ y ∈ c, y < x := by
  unfold behind
  rcases List.eq_nil_or_concat c with rfl | ⟨d, l, rfl⟩
  · simp
  · rw [List.concat_eq_append] at *
    rw [List.getLast?_append]
    show decide (l < x) = true ↔ _
    rw [decide_eq_true_eq]
    constructor
    · intro hl y hy
      rcases List.mem_append.mp hy with hy | hy
      · have := (List.pairwise_append.mp hc).2.2 y hy l (by simp)
        omega
      · rw [List.mem_singleton.mp hy]
        exact hl
    · exact fun hh => hh l (by simp)
def GoodC (ps : List (Int × Int)) (row : List Int) (k : Nat) (ns : List Int) : Prop := ns.length = k ∧ (∀ x ∈ ns, x ∈ row) ∧ ns.Pairwise (· < ·) ∧ ns.Pairwise fun a b => ¬ mt ps a b
theorem mem_lotsL {n : Int} {ps : List (Int × Int)} (h : VP n ps) (row : List Int) : ∀ (k : Nat) (ns : List Int), ns ∈ lotsL ps row k ↔ GoodC ps row k ns
  | 0, ns => by
    rw [lotsL, List.mem_singleton, GoodC]
    constructor
    · rintro rfl
      simp
    · exact fun hh => List.length_eq_zero_iff.mp hh.1
  | k + 1, ns => by
    rw [lotsL, List.mem_flatMap]
    constructor
    · rintro ⟨c, hc, hg⟩
      obtain ⟨h1, h2, h3, h4⟩ := (mem_lotsL h row k c).mp hc
      rw [growL, List.mem_map] at hg
      obtain ⟨x, hx, rfl⟩ := hg
      obtain ⟨hx1, hx2⟩ := List.mem_filter.mp hx
      obtain ⟨hx3, hx4⟩ := List.mem_filter.mp hx1
      have hb := (last_lt h3).mp hx4
      have hf := (fits_iff h c x).mp hx2
      refine ⟨by rw [List.length_append, h1]; rfl, fun y hy => ?_, List.pairwise_append.mpr ⟨h3, List.pairwise_singleton _ _, fun a ha b hb' => ?_⟩, List.pairwise_append.mpr ⟨h4, List.pairwise_singleton _ _, fun a ha b hb' => ?_⟩⟩
      · rcases List.mem_append.mp hy with hy | hy
        · exact h2 y hy
        · rw [List.mem_singleton.mp hy]
          exact hx3
      · rw [List.mem_singleton.mp hb']
        exact hb a ha
      · rw [List.mem_singleton.mp hb']
        exact hf.2 a ha
    · rintro ⟨h1, h2, h3, h4⟩
      rcases List.eq_nil_or_concat ns with rfl | ⟨c, x, rfl⟩
      · cases h1
      · rw [List.concat_eq_append] at *
        have p3 := List.pairwise_append.mp h3
        have p4 := List.pairwise_append.mp h4
        refine ⟨c, (mem_lotsL h row k c).mpr ⟨by rw [List.length_append] at h1; simpa using h1, fun y hy => h2 y (List.mem_append_left _ hy), p3.1, p4.1⟩, ?_⟩
        rw [growL, List.mem_map]
        have hlt : ∀ y ∈ c, y < x := fun y hy => p3.2.2 y hy x (by simp)
        exact ⟨x, List.mem_filter.mpr ⟨List.mem_filter.mpr ⟨h2 x (by simp), (last_lt p3.1).mpr hlt⟩, (fits_iff h c x).mpr ⟨fun hm => by have := hlt x hm; omega, fun o ho => p4.2.2 o ho x (by simp)⟩⟩, rfl⟩
theorem cw_iff {n : Int} {ps : List (Int × Int)} (h : VP n ps) (p : Int) (crew : List Int) : cw ps p crew = true ↔ ∃ o ∈ crew, mt ps p o := by
  unfold cw
  rw [List.any_eq_true]
  constructor
  · rintro ⟨o, ho, hm⟩
    exact ⟨o, ho, (met_mem h p o).mp (List.contains_iff_mem.mp hm)⟩
  · rintro ⟨o, ho, hm⟩
    exact ⟨o, ho, List.contains_iff_mem.mpr ((met_mem h p o).mpr hm)⟩
theorem pair_all {R : Int → Int → Prop} (hs : ∀ a b, R a b → R b a) (hr : ∀ a, R a a) : ∀ {l : List Int}, l.Pairwise R → ∀ a ∈ l, ∀ b ∈ l, R a b
  | [], _, a, ha, _, _ => by simp at ha
  | x :: l, h, a, ha, b, hb => by
    obtain ⟨h1, h2⟩ := List.pairwise_cons.mp h
    rcases List.mem_cons.mp ha with e1 | ha'
    · rcases List.mem_cons.mp hb with e2 | hb'
      · rw [e1, e2]
        exact hr x
      · rw [e1]
        exact h1 b hb'
    · rcases List.mem_cons.mp hb with e2 | hb'
      · rw [e2]
        exact hs _ _ (h1 a ha')
      · exact pair_all hs hr h2 a ha' b hb'
theorem all_pair {R : Int → Int → Prop} : ∀ {l : List Int}, (∀ a ∈ l, ∀ b ∈ l, R a b) → l.Pairwise R
  | [], _ => .nil
  | x :: l, h => List.pairwise_cons.mpr ⟨fun y hy => h x (by simp) y (List.mem_cons_of_mem _ hy), all_pair fun a ha b hb => h a (List.mem_cons_of_mem _ ha) b (List.mem_cons_of_mem _ hb)⟩
theorem crew_eq {n : Int} {ps : List (Int × Int)} (h : VP n ps) {row : List Int} (hr : row.all (inR n) = true) (k : Nat) (ns : List Int) : ((calmI n ps ns && (ns.length == k)) && ns.all row.contains) = ((ns.length == k) && (lotsL ps row k).contains ns) := by
  rw [Bool.eq_iff_iff]
  simp only [calmI, Bool.and_eq_true, Bool.not_eq_true', beq_iff_eq, List.all_eq_true, List.contains_iff_mem, ascB_iff]
  rw [mem_lotsL h row k ns, List.any_eq_false]
  constructor
  · rintro ⟨⟨⟨⟨h1, h2⟩, h3⟩, h4⟩, h5⟩
    exact ⟨h4, h4, h5, h2, all_pair fun a ha b hb hm => h3 a ha ((cw_iff h a ns).mpr ⟨b, hb, hm⟩)⟩
  · rintro ⟨h1, _, h2, h3, h4⟩
    refine ⟨⟨⟨⟨fun x hx => List.all_eq_true.mp hr x (h2 x hx), h3⟩, fun a ha hc => ?_⟩, h1⟩, h2⟩
    obtain ⟨b, hb, hm⟩ := (cw_iff h a ns).mp hc
    exact pair_all (R := fun a b => ¬ mt ps a b) (fun a b hn hm => hn (mt_symm hm)) (fun a => mt_irr h a) h4 a ha b hb hm
theorem crewD_eq {n : Int} {ps : List (Int × Int)} (h : VP n ps) {row : List Int} (hr : row.all (inR n) = true) (k : Nat) (d : D) : (crewOk n ps k d && among d row) = crewL ps k row d := by
  cases d <;> try rfl
  rename_i xs
  rw [crewOk, among, crewL]
  cases e : intsOf xs with
  | none => simp
  | some ns =>
    dsimp only
    rw [crew_eq h hr k ns, intsOf_eq e, List.length_map]
theorem zip_eq {n : Int} {ps : List (Int × Int)} (h : VP n ps) (k : Nat) : ∀ (xs : List D) (rows : List (List Int)), (∀ r ∈ rows, r.all (inR n) = true) → xs.length = rows.length → (xs.all (crewOk n ps k) && (xs.zip rows).all fun p => among p.1 p.2) = (rows.zip xs).all fun p => crewL ps k p.1 p.2
  | [], [], _, _ => rfl
  | [], _ :: _, _, hl => by cases hl
  | _ :: _, [], _, hl => by cases hl
  | x :: xs, r :: rows, hr, hl => by
    have ih := zip_eq h k xs rows (fun r hr' => hr r (List.mem_cons_of_mem _ hr')) (by simpa using hl)
    rw [List.zip_cons_cons, List.zip_cons_cons, List.all_cons, List.all_cons, List.all_cons, ← ih, ← crewD_eq h (hr r (by simp)) k x]
    cases crewOk n ps k x <;> cases among x r <;> simp
theorem run_eq {n : Nat} {ps : List (Int × Int)} (h : VP n ps) (k : Nat) (rows : List (List Int)) (hr : ∀ r ∈ rows, r.all (inR n) = true) (d : D) : runOk n ps k rows d = runL ps k rows d := by
  cases d <;> try rfl
  rename_i xs
  rw [runOk, runL]
  cases e : (xs.length == rows.length) with
  | false => rfl
  | true => rw [Bool.true_and, Bool.true_and, zip_eq h k xs rows hr (beq_iff_eq.mp e)]
end Lk79


set_option Elab.async false
set_option linter.all false
set_option maxRecDepth 100000
set_option maxHeartbeats 1000000
open PySem DL L2
namespace Lk79
local macro_rules | `(tactic| infer_instance) => `(tactic| simp only [bind_okS, bind_errS, datA_nil, datA_val, datA_own, datA_slot, dat_slot, dat_val, dat_own, slotD_val, slotD_own, obd_lst, obd_ins, obd_dct, dv_val, dv_own, varE_val, varE_own, ev_var, ev_gl, ev_int, ev_bl, ev_non, ev_str, ev_bin, ev_cmp, ev_ix, ev_rg1, ev_rg2, ev_neg, ev_isi, ev_isc, ev_sset, ev_lset, ev_attr, ev_rev, ev_bi, ev_ch, ev_tupS, ev_lstS, A.len, Nat.reduceAdd, Nat.reduceLeDiff, ev_dct0, ev_and, ev_or, ev_one, ev_not, ev_ife, ev_lc, ev_call, callE_ok, ev_callH, hotE_ok, ownE_own, ev_make, makE_ok, lstE_own, ev_app, ev_ext, extE_lst, ev_pop, ev_slE, sl1_tup, sl1_lst, sl1_frz, evP_no, evP_so, prtE_int, evA_nil, evA_cons, evB_nil, evB_cons, evN_nil, evN_cons, unsE_val, unsE_own, unsE_slot, evFz_eq, frz_val, frz_own, frz_dv, dat_dv, datA_dv, rd_valS, rd_ownS, frz_slot, frzE_own, frzE_val, evS_sq, evS_en, evS_zp, evS_rng1, evS_rng2, valE_eq, evS_sqT, evS_enT, evS_zpT, evC_yes, evC_so, tst_and, tst_or, tst_one, tst_not, tst_var, tst_bl, tst_bin, tst_cmp, tst_chain, tst_ix, tst_bi, tst_isi, tst_isc, tst_attr, tst_call, tst_callH, tEnd_bl, tEnd_int, tEnd_non, sr_ok, next_nx, next_rt, next_bk, next_ct, next_err, exs_nil, exs_cons, ex_pass, ex_brk, ex_cnt, ex_never, ex_expr, ex_ret, ex_retN, ex_ite, ex_asg, sl_val, sl_own, ex_par, putR_some, ex_asgT, ex_for, ex_whl, setIE_own, ex_setI, ex_setA, bind_ite, sr_ite, next_ite, fin_ite, ite_andS, ite_and2, ite_orS, ite_andT, ite_orT, fin_nx, fin_val, fin_own, fin_slot, finSl_own, finSl_val,
  wipeD, opEnd_eq, optR_some, rgE_eq, optS_some, sqE, enE, zpE, kindD, chE,
  List.nil_append, lapp, lget0, lgetS, lset0, lsetS, omap_some, omap_none, obind_some, obind_none, if_true, if_false, Bool.false_eq_true, isi_eq, isTy, Op.f, Cm.f, Bi.f,
  cmpI_int, ltD_int, addD_int, subD_int, negD_int, eqD_int, neD_int, eqD_bl, neD_bl, isD_bl, isD_non, lenD_lst, lenD_tup, lenD_frz, absD_int, intD_int, max2D_int, min2D_int, listD_tup, listD_lst, tupleD_lst, tupleD_tup, ixD_lst, ixD_tup, Bool.not_true, Bool.not_false, Bool.true_and, Bool.false_and, Bool.and_true, Bool.and_false, Bool.true_or, Bool.false_or, Bool.or_false, Bool.or_true])
theorem law_hand_eq (ns : List Int) : ∃ o, f__law_hand [.frz (ns.map D.int)] = .ok (.own o) ∧ HandOk o := by
  refine ⟨.lst (hnd ((ns.take 63).map fun i => if (i < 0) then -i else i) 0 0 (421 + 5 * (((ns.take 63).length : Nat) : Int)) 0), ?_, _, _, _, _, _, by omega, rfl⟩
  rw [r__law_hand, b__law_hand]
  infer_instance
  have hcut : cutD (ns.map D.int) none (some 63) = (ns.take 63).map D.int := by
    rw [show cutD (ns.map D.int) none (some 63) = _ from cut_to 63, ← List.map_take]
  rw [lcE_map D.int (ns.take 63) (fun i => D.int (if (i < 0) then -i else i)) ?h1 ?h2 ?h]
  case h1 => exact congrArg some hcut
  case h2 => exact congrArg some hcut
  case h =>
    intro a ha
    refine ⟨_, rfl, ?_, rfl⟩
    infer_instance
  infer_instance
  rw [List.length_map]
  simp only [mulL (a := 5) (b := (((ns.take 63).length : Nat) : Int)) (by omega)]
  infer_instance
  rw [hnd, List.map_map]
  rfl
theorem asc_sub {n : Nat} {r : List Int} (h : r.Sublist ((List.range n).map fun (i : Nat) => (i : Int))) (hn : n ≤ 16) : RowS n r := by
  have hp : ((List.range n).map fun (i : Nat) => (i : Int)).Pairwise (· < ·) := by
    rw [List.pairwise_map]
    exact (List.pairwise_lt_range).imp fun h => by omega
  refine ⟨⟨List.all_eq_true.mpr fun x hx => ?_, (ascB_iff r).mpr (hp.sublist h)⟩, ?_⟩
  · obtain ⟨i, hi, rfl⟩ := List.mem_map.mp (h.subset hx)
    have := List.mem_range.mp hi
    simp only [inR, Bool.and_eq_true, decide_eq_true_eq]
    omega
  · have := h.length_le
    rw [List.length_map, List.length_range] at this
    omega
theorem day_row (o : Ob) (ho : HandOk o) (n : Nat) (hn : n ≤ 8) (ps : List (Int × Int)) (s2 s3 : DL.Slot) (sh : Int) (hs1 : 0 < sh) (hs2 : sh < 1073741824) : ∃ (r : List Int) (o' : Ob), HandOk o' ∧ RowS n r ∧
    ev (.bi .tuple (.cons (.lc (.rng (.cons (.ix (.var 1) (.int 0)) .nil)) [5] (.nm 5) (.so (.or (.cmp .eq (.var 4) (.int 1)) (.one (.cmp .gt (.callH "_law_draw" h__law_draw 0 (.cons (.var 4) .nil)) (.int 0))))) (.var 5)) .nil)) [.own o, .val (specD n ps), s2, s3, .val (.int sh), .non] = .ok (.val (D.ints r)) [.own o', .val (specD n ps), s2, s3, .val (.int sh), .non] := by
  obtain ⟨acc, ρ', h1, r, o2, ho2, rfl, hsub, rfl⟩ := lcE_inv (fun (i : Nat) => D.int (i : Int)) (List.range n) (fun dn acc ρ => ∃ (r : List Int) (o2 : Ob), HandOk o2 ∧ acc = r.map D.int ∧ r.Sublist (dn.map fun (i : Nat) => (i : Int)) ∧ ρ = [.own o2, .val (specD n ps), s2, s3, .val (.int sh), .non]) (s := Src.rng 0 n) (vs := [5]) (t := .nm 5) (c := evC (.so (.or (.cmp .eq (.var 4) (.int 1)) (.one (.cmp .gt (.callH "_law_draw" h__law_draw 0 (.cons (.var 4) .nil)) (.int 0)))))) (e := evFz (ev (.var 5)))
    (ρ := [.own o, .val (specD n ps), s2, s3, .val (.int sh), .non]) rng_items (fun dn acc ρ h => rng_items) ⟨[], o, ho, rfl, .slnil, rfl⟩ (fun dn a rest acc ρ eq hI => by
      obtain ⟨r, o2, ho2, rfl, hsub, rfl⟩ := hI
      have key : ∀ (o3 : Ob), HandOk o3 → ∃ d ρ3, evFz (ev (.var 5)) [.own o3, .val (specD n ps), s2, s3, .val (.int sh), .val (.int (a : Int))] = .ok d ρ3 ∧ ∃ (r' : List Int) (o4 : Ob), HandOk o4 ∧ r.map D.int ++ [d] = r'.map D.int ∧ r'.Sublist ((dn ++ [a]).map fun (i : Nat) => (i : Int)) ∧ wipeD ρ3 [5] = [.own o4, .val (specD n ps), s2, s3, .val (.int sh), .non] := fun o3 ho3 => by
        refine ⟨.int (a : Int), [.own o3, .val (specD n ps), s2, s3, .val (.int sh), .val (.int (a : Int))], by infer_instance, r ++ [(a : Int)], o3, ho3, by rw [List.map_append]; rfl, ?_, rfl⟩
        rw [List.map_append]
        exact hsub.append (.refl _)
      have skip : r.Sublist ((dn ++ [a]).map fun (i : Nat) => (i : Int)) := by
        rw [List.map_append]
        simpa using hsub.append (List.nil_sublist [(a : Int)])
      rcases Bool.eq_false_or_eq_true (sh == 1) with h1 | h1
      · refine ⟨_, true, [.own o2, .val (specD n ps), s2, s3, .val (.int sh), .val (.int (a : Int))], rfl, ?_, fun _ => key o2 ho2, fun h => by cases h⟩
        infer_instance
        simp only [h1]
        infer_instance
      · obtain ⟨x, o3, e3, hr1, hr2, ho3⟩ := draw_eq o2 ho2 sh hs1 hs2
        refine ⟨_, decide (0 < x), [.own o3, .val (specD n ps), s2, s3, .val (.int sh), .val (.int (a : Int))], rfl, ?_, fun _ => key o3 ho3, fun _ => ⟨r, o3, ho3, rfl, skip, rfl⟩⟩
        infer_instance
        simp only [h1]
        infer_instance
        rw [e3]
        infer_instance)
  refine ⟨r, o2, ho2, asc_sub hsub (by omega), ?_⟩
  infer_instance
  rw [specD]
  infer_instance
  rw [at0]
  infer_instance
  rw [rng1_int (by omega)]
  infer_instance
  rw [specD] at h1
  rw [h1]
  infer_instance
  rfl
theorem law_days_eq (o : Ob) (ho : HandOk o) (n : Nat) (hn : n ≤ 8) (ps : List (Int × Int)) : ∃ (rows : List (List Int)) (o' : Ob), h__law_days o [specD n ps] = .ok (.val (.tup (rows.map D.ints)), o') ∧ rows.length ≤ 6 ∧ (∀ r ∈ rows, RowS n r) ∧ HandOk o' := by
  obtain ⟨m, o1, e1, hm1, hm2, ho1⟩ := draw_eq o ho 7 (by omega) (by omega)
  obtain ⟨m, rfl⟩ := Int.eq_ofNat_of_zero_le hm1
  rw [r__law_days, b__law_days]
  infer_instance
  rw [e1]
  infer_instance
  rw [rng1_int (by omega)]
  infer_instance
  rw [forE_items rfl rng_items]
  generalize hfor : forGo _ _ _ _ = r
  obtain ⟨ρ', rfl, rows, o2, s3, s4, ho2, hlen, hrows, rfl⟩ := forGo_inv2 (fun dn ρ => ∃ (rows : List (List Int)) (o2 : Ob) (s3 s4 : DL.Slot), HandOk o2 ∧ rows.length = dn.length ∧ (∀ r ∈ rows, RowS n r) ∧ ρ = [.own o2, .val (specD n ps), .own (.lst (rows.map D.ints)), s3, s4, .non]) (List.range m) hfor ⟨[], o1, _, _, ho1, rfl, (fun r hr => by simp at hr), rfl⟩ (fun dn i rest ρ eq hI => by
    obtain ⟨rows, o2, s3, s4, ho2, hlen, hrows, rfl⟩ := hI
    have hdn : dn.length ≤ 7 := by
      have := congrArg List.length eq
      rw [List.length_range, List.length_append] at this
      omega
    obtain ⟨x, o3, hx, e3, ho3⟩ := any_eq o2 ho2 [.int 1, .int 5, .int 3, .int 2] (by decide) (by decide)
    obtain ⟨sh, rfl, hs1, hs2⟩ : ∃ sh : Int, x = .int sh ∧ 0 < sh ∧ sh < 1073741824 := by
      simp only [List.mem_cons, List.not_mem_nil, or_false] at hx
      rcases hx with rfl | rfl | rfl | rfl <;> exact ⟨_, rfl, by omega, by omega⟩
    obtain ⟨r, o4, ho4, hr, e4⟩ := day_row o3 ho3 n hn ps (.own (.lst (rows.map D.ints))) (.val (.int (i : Int))) sh hs1 hs2
    refine ⟨_, [.own o4, .val (specD n ps), .own (.lst ((rows ++ [r]).map D.ints)), .val (.int (i : Int)), .val (.int sh), .non], rfl, .inl ?_, rows ++ [r], o4, _, _, ho4, (by rw [List.length_append, List.length_append, hlen]; rfl), fun q hq => ?_, rfl⟩
    · simp only [exs_cons, exs_nil, ex_asg, ex_expr, ev_callH, lget0, ownE_own, evA_cons, evA_nil, evFz_eq, ev_lstS, ev_int, bind_okS, frz_val, A.len, Nat.reduceAdd, Nat.reduceLeDiff, if_true, frz_own, obd_lst, e3, hotE_ok, dv_val, unsE_val, sr_ok, sl_val, lset0, lsetS, next_nx, ev_app, lgetS, lstE_own, e4]
      rw [if_pos (by rw [List.length_map, hlen, sizeLine_eq]; omega)]
      infer_instance
      rw [List.map_append]
      rfl
    · rcases List.mem_append.mp hq with hq | hq
      · exact hrows q hq
      · rw [List.mem_singleton.mp hq]
        exact hr)
  infer_instance
  refine ⟨rows, o2, finH_rtV, ?_, hrows, ho2⟩
  rw [hlen, List.length_range]
  omega
end Lk79


set_option Elab.async false
set_option linter.all false
set_option maxRecDepth 100000
set_option maxHeartbeats 1000000
open PySem DL L2
namespace Lk79
local macro_rules | `(tactic| infer_instance) => `(tactic| simp only [bind_okS, bind_errS, datA_nil, datA_val, datA_own, datA_slot, dat_slot, dat_val, dat_own, slotD_val, slotD_own, obd_lst, obd_ins, obd_dct, dv_val, dv_own, varE_val, varE_own, ev_var, ev_gl, ev_int, ev_bl, ev_non, ev_str, ev_bin, ev_cmp, ev_ix, ev_rg1, ev_rg2, ev_neg, ev_isi, ev_isc, ev_sset, ev_lset, ev_attr, ev_rev, ev_bi, ev_ch, ev_tupS, ev_lstS, A.len, Nat.reduceAdd, Nat.reduceLeDiff, ev_dct0, ev_and, ev_or, ev_one, ev_not, ev_ife, ev_lc, ev_call, callE_ok, ev_callH, hotE_ok, ownE_own, ev_make, makE_ok, lstE_own, ev_app, ev_ext, extE_lst, ev_pop, ev_slE, sl1_tup, sl1_lst, sl1_frz, evP_no, evP_so, prtE_int, evA_nil, evA_cons, evB_nil, evB_cons, evN_nil, evN_cons, unsE_val, unsE_own, unsE_slot, evFz_eq, frz_val, frz_own, frz_dv, dat_dv, datA_dv, rd_valS, rd_ownS, frz_slot, frzE_own, frzE_val, evS_sq, evS_en, evS_zp, evS_rng1, evS_rng2, valE_eq, evS_sqT, evS_enT, evS_zpT, evC_yes, evC_so, tst_and, tst_or, tst_one, tst_not, tst_var, tst_bl, tst_bin, tst_cmp, tst_chain, tst_ix, tst_bi, tst_isi, tst_isc, tst_attr, tst_call, tst_callH, tEnd_bl, tEnd_int, tEnd_non, sr_ok, next_nx, next_rt, next_bk, next_ct, next_err, exs_nil, exs_cons, ex_pass, ex_brk, ex_cnt, ex_never, ex_expr, ex_ret, ex_retN, ex_ite, ex_asg, sl_val, sl_own, ex_par, putR_some, ex_asgT, ex_for, ex_whl, setIE_own, ex_setI, ex_setA, bind_ite, sr_ite, next_ite, fin_ite, ite_andS, ite_and2, ite_orS, ite_andT, ite_orT, fin_nx, fin_val, fin_own, fin_slot, finSl_own, finSl_val,
  wipeD, opEnd_eq, optR_some, rgE_eq, optS_some, sqE, enE, zpE, kindD, chE,
  List.nil_append, lapp, lget0, lgetS, lset0, lsetS, omap_some, omap_none, obind_some, obind_none, if_true, if_false, Bool.false_eq_true, isi_eq, isTy, Op.f, Cm.f, Bi.f,
  cmpI_int, ltD_int, addD_int, subD_int, negD_int, eqD_int, neD_int, eqD_bl, neD_bl, isD_bl, isD_non, lenD_lst, lenD_tup, lenD_frz, absD_int, intD_int, max2D_int, min2D_int, listD_tup, listD_lst, tupleD_lst, tupleD_tup, ixD_lst, ixD_tup, Bool.not_true, Bool.not_false, Bool.true_and, Bool.false_and, Bool.and_true, Bool.and_false, Bool.true_or, Bool.false_or, Bool.or_false, Bool.or_true])
theorem plain2_ints (c : List Int) : plain2 (D.ints c) = true := by
  rw [D.ints, plain2]
  exact List.all_eq_true.mpr plain_ints
theorem plain3_lst {xs : List D} (h : ∀ x ∈ xs, plain2 x = true) : plain3 (.lst xs) = true := List.all_eq_true.mpr h
theorem plain2_crews {cs : List (List Int)} : ∀ x ∈ cs.map D.ints, plain2 x = true := fun x hx => by
  obtain ⟨c, _, rfl⟩ := List.mem_map.mp hx
  exact plain2_ints c
def odds (n : Nat) : List D := [.tup [], .tup [.int 0], .tup [.int (n : Int)], .lst [.int 0], .non, .bl true, .str "x", .dct [], .tup [.int 0, .int 0], .tup [.int 1, .int 0], .tup [.bl true], .tup [.int (-1)]]
theorem odds_plain {n : Nat} {x : D} (h : x ∈ odds n) : plain2 x = true := by
  simp only [odds, List.mem_cons, List.not_mem_nil, or_false] at h
  rcases h with rfl | rfl | rfl | rfl | rfl | rfl | rfl | rfl | rfl | rfl | rfl | rfl <;> rfl
theorem bent_first (o : Ob) (n : Nat) (ps : List (Int × Int)) (o1 : Ob) (x : D) (e1 : h__law_any o [.lst (odds n)] = .ok (.val x, o1)) (d : D) (s3 s4 s5 s6 : DL.Slot) :
    ex (.asg 3 (.callH "_law_any" h__law_any 0 (.cons (.lst (.cons (.tup .nil) (.cons (.tup (.cons (.int 0) .nil)) (.cons (.tup (.cons (.ix (.var 1) (.int 0)) .nil)) (.cons (.lst (.cons (.int 0) .nil)) (.cons .non (.cons (.bl true) (.cons (.str "x") (.cons .dct0 (.cons (.tup (.cons (.int 0) (.cons (.int 0) .nil))) (.cons (.tup (.cons (.int 1) (.cons (.int 0) .nil))) (.cons (.tup (.cons (.bl true) .nil)) (.cons (.tup (.cons (.neg (.int 1)) .nil)) .nil))))))))))))) .nil)))
      [.own o, .val (specD n ps), .val d, s3, s4, s5, s6] = .nx [.own o1, .val (specD n ps), .val d, .val x, s4, s5, s6] := by
  rw [odds] at e1
  infer_instance
  rw [specD]
  infer_instance
  rw [at0]
  infer_instance
  rw [e1]
  infer_instance
theorem at_crews {cs : List (List Int)} {r : Int} {c : List Int} (h0 : 0 ≤ r) (h : cs[r.toNat]? = some c) : atI (cs.map D.ints) r = some (D.ints c) := atI_lt h0 (by rw [List.getElem?_map, h]; rfl)
theorem bent_turn (o : Ob) (n : Nat) (ps : List (Int × Int)) (cs : List (List Int)) (c : List Int) (r : Int) (hr : 0 ≤ r) (hget : cs[r.toNat]? = some c) (x : D) (hx : plain2 x = true) : ∃ y, plain2 y = true ∧
    ex (.asg 5 (.ife (.cmp .gt (.bi .len (.cons (.ix (.var 2) (.var 4)) .nil)) (.int 1)) (.rev (.ix (.var 2) (.var 4))) (.var 3))) [.own o, .val (specD n ps), .val (.lst (cs.map D.ints)), .val x, .val (.int r), .non, .non] =
      .nx [.own o, .val (specD n ps), .val (.lst (cs.map D.ints)), .val x, .val (.int r), .val y, .non] := by
  have hlen : lenD [D.ints c] = some (.val (.int (c.length : Nat))) := by rw [D.ints, lenD_tup, List.length_map]
  have hat := at_crews hr hget
  rcases Bool.eq_false_or_eq_true (decide ((1 : Int) < (c.length : Nat))) with h | h
  · refine ⟨D.ints c.reverse, plain2_ints _, ?_⟩
    have hrev : rev1 [D.ints c] = some (.val (D.ints c.reverse)) := by rw [D.ints, D.ints, List.map_reverse]; rfl
    repeat (first | simp only [hat, hlen, h, hrev] | infer_instance)
  · refine ⟨x, hx, ?_⟩
    repeat (first | simp only [hat, hlen, h] | infer_instance)
theorem bent_mix (o : Ob) (n : Nat) (ps : List (Int × Int)) (cs : List (List Int)) (hl : cs.length ≤ 6) (c : List Int) (hcl : c.length ≤ 5) (a : Nat) (hget : cs[a]? = some c) (x y z : D) (o2 : Ob) (e : h__law_any o [.lst [x, x, y, .lst (c.map D.int), .tup (c.map D.int ++ [.int 0])]] = .ok (.val z, o2)) :
    ex (.asg 6 (.bin .add (.bin .add (.sl (.var 2) .no (.so (.var 4))) (.lst (.cons (.callH "_law_any" h__law_any 0 (.cons (.lst (.cons (.var 3) (.cons (.var 3) (.cons (.var 5) (.cons (.bi .list (.cons (.ix (.var 2) (.var 4)) .nil)) (.cons (.bin .add (.ix (.var 2) (.var 4)) (.tup (.cons (.int 0) .nil))) .nil)))))) .nil)) .nil))) (.sl (.var 2) (.so (.bin .add (.var 4) (.int 1))) .no)))
      [.own o, .val (specD n ps), .val (.lst (cs.map D.ints)), .val x, .val (.int (a : Int)), .val y, .non] =
      .nx [.own o2, .val (specD n ps), .val (.lst (cs.map D.ints)), .val x, .val (.int (a : Int)), .val y, .own (.lst (((cs.map D.ints).take a ++ [z]) ++ (cs.map D.ints).drop (a + 1)))] := by
  have hat : atI (cs.map D.ints) (a : Int) = some (.tup (c.map D.int)) := at_crews (by omega) (by simpa using hget)
  have hadd : addD [.tup (c.map D.int), .tup [.int 0]] = some (.val (.tup (c.map D.int ++ [.int 0]))) := addD_tup (by rw [List.length_map, sizeLine_eq]; show _ + 1 ≤ _; omega)
  have hc1 : cutD (cs.map D.ints) none (some (a : Int)) = (cs.map D.ints).take a := cut_to a
  have hc2 : cutD (cs.map D.ints) (some ((a : Int) + 1)) none = (cs.map D.ints).drop (a + 1) := cut_from (a + 1)
  have h1 : addD [.lst ((cs.map D.ints).take a), .lst [z]] = some (.own (.lst ((cs.map D.ints).take a ++ [z]))) := addD_lst (by rw [List.length_take, List.length_map, sizeLine_eq]; show _ + 1 ≤ _; omega)
  have h2 : addD [.lst ((cs.map D.ints).take a ++ [z]), .lst ((cs.map D.ints).drop (a + 1))] = some (.own (.lst (((cs.map D.ints).take a ++ [z]) ++ (cs.map D.ints).drop (a + 1)))) := addD_lst (by rw [List.length_append, List.length_take, List.length_drop, List.length_map, sizeLine_eq]; show _ + 1 + _ ≤ _; omega)
  repeat (first | simp only [hat, hadd, hc1, hc2, e, h1, h2] | infer_instance)
theorem law_bent_eq (o : Ob) (ho : HandOk o) (n : Nat) (ps : List (Int × Int)) (cs : List (List Int)) (hl : cs.length ≤ 6) (hc : ∀ c ∈ cs, c.length ≤ 5) : ∃ (d : D) (o' : Ob), h__law_bent o [specD n ps, .lst (cs.map D.ints)] = .ok (.val d, o') ∧ plain3 d = true ∧ HandOk o' := by
  obtain ⟨x, o1, hx, e1, ho1⟩ := any_eq o ho (odds n) (by simp [odds]) (by rw [odds]; simp only [List.length_cons, List.length_nil]; omega)
  have hxp := odds_plain hx
  rw [r__law_bent, b__law_bent, exs_cons, bent_first o n ps o1 x e1, next_nx, exs_cons, ex_ite]
  by_cases hnil : cs = []
  · subst hnil
    obtain ⟨y, o2, hy, e2, ho2⟩ := any_eq o1 ho1 [.lst [x], .tup [], .non, .int 0, .dct [], .lst [.lst []], .lst [.tup []]] (by simp) (by simp only [List.length_cons, List.length_nil]; omega)
    refine ⟨y, o2, ?_, ?_, ho2⟩
    · infer_instance
      rw [if_pos (by decide)]
      rw [e2]
      infer_instance
      rfl
    · simp only [List.mem_cons, List.not_mem_nil, or_false] at hy
      rcases hy with rfl | rfl | rfl | rfl | rfl | rfl | rfl
      · exact plain3_lst fun z hz => by rw [List.mem_singleton.mp hz]; exact hxp
      all_goals rfl
  · have hpos : 0 < cs.length := List.length_pos_iff.mpr hnil
    obtain ⟨r, o2, e2, hr1, hr2, ho2⟩ := draw_eq o1 ho1 (cs.length : Nat) (by omega) (by omega)
    obtain ⟨a, rfl⟩ := Int.eq_ofNat_of_zero_le hr1
    have hlt : a < cs.length := by omega
    have hget : cs[a]? = some cs[a] := List.getElem?_eq_getElem hlt
    have hcm : cs[a] ∈ cs := List.getElem_mem hlt
    generalize cs[a] = c at hget hcm
    have hcl := hc c hcm
    have hlen : lenD [.lst (cs.map D.ints)] = some (.val (.int (cs.length : Nat))) := by rw [lenD_lst, List.length_map]
    have hne : (((cs.length : Nat) : Int) == 0) = false := by rw [beq_eq_false_iff_ne]; omega
    obtain ⟨y, hyp, e3⟩ := bent_turn o2 n ps cs c (a : Int) hr1 (by simpa using hget) x hxp
    obtain ⟨z, o3, hz, e4, ho3⟩ := any_eq o2 ho2 [x, x, y, .lst (c.map D.int), .tup (c.map D.int ++ [.int 0])] (by simp) (by simp only [List.length_cons, List.length_nil]; omega)
    have e5 := bent_mix o2 n ps cs hl c hcl a hget x y z o3 e4
    have hzp : plain2 z = true := by
      simp only [List.mem_cons, List.not_mem_nil, or_false] at hz
      rcases hz with rfl | rfl | rfl | rfl | rfl
      · exact hxp
      · exact hxp
      · exact hyp
      · rfl
      · exact plain2_ints (c ++ [0]) ▸ (by rw [D.ints, List.map_append]; rfl)
    have hB : ∀ q ∈ ((cs.map D.ints).take a ++ [z]) ++ (cs.map D.ints).drop (a + 1), plain2 q = true := fun q hq => by
      rcases List.mem_append.mp hq with hq | hq
      · rcases List.mem_append.mp hq with hq | hq
        · exact plain2_crews q (List.mem_of_mem_take hq)
        · rw [List.mem_singleton.mp hq]
          exact hzp
      · exact plain2_crews q (List.mem_of_mem_drop hq)
    generalize ((cs.map D.ints).take a ++ [z]) ++ (cs.map D.ints).drop (a + 1) = B at hB e5
    obtain ⟨u, o4, hu, e6, ho4⟩ := any_eq o3 ho3 [.lst B, .lst B, .lst B, .lst ((cs.map D.ints).drop 1), .lst (cs.map D.ints ++ (cs.map D.ints).take 1), .lst (cs.map D.ints).reverse, .tup (cs.map D.ints), .non, .int 0, .lst [.lst (cs.map D.ints)]] (by simp) (by simp only [List.length_cons, List.length_nil]; omega)
    have c1 : cutD (cs.map D.ints) (some 1) none = (cs.map D.ints).drop 1 := cut_from 1
    have c2 : cutD (cs.map D.ints) none (some 1) = (cs.map D.ints).take 1 := cut_to 1
    have c3 : addD [.lst (cs.map D.ints), .lst ((cs.map D.ints).take 1)] = some (.own (.lst (cs.map D.ints ++ (cs.map D.ints).take 1))) := addD_lst (by rw [List.length_take, List.length_map, sizeLine_eq]; omega)
    have c4 : rev1 [.lst (cs.map D.ints)] = some (.own (.lst (cs.map D.ints).reverse)) := rfl
    refine ⟨u, o4, ?_, ?_, ho4⟩
    · have t1 : tst (.cmp .eq (.bi .len (.cons (.var 2) .nil)) (.int 0)) [Slot.own o1, Slot.val (specD n ps), Slot.val (D.lst (cs.map D.ints)), Slot.val x, Slot.non, Slot.non, Slot.non] = .ok false [Slot.own o1, Slot.val (specD n ps), Slot.val (D.lst (cs.map D.ints)), Slot.val x, Slot.non, Slot.non, Slot.non] := by
        repeat (first | simp only [List.length_map, hne] | infer_instance)
      have t2 : ex (.asg 4 (.callH "_law_draw" h__law_draw 0 (.cons (.bi .len (.cons (.var 2) .nil)) .nil))) [Slot.own o1, Slot.val (specD n ps), Slot.val (D.lst (cs.map D.ints)), Slot.val x, Slot.non, Slot.non, Slot.non] = .nx [Slot.own o2, Slot.val (specD n ps), Slot.val (D.lst (cs.map D.ints)), Slot.val x, Slot.val (D.int (a : Int)), Slot.non, Slot.non] := by
        repeat (first | simp only [List.length_map, e2] | infer_instance)
      rw [t1, sr_ok, if_neg Bool.false_ne_true, exs_nil, next_nx, exs_cons, t2, next_nx, exs_cons]
      rw [e3, next_nx, exs_cons, e5, next_nx]
      repeat (first | simp only [c1, c2, c3, c4, e6, finH_rtV] | infer_instance)
    · simp only [List.mem_cons, List.not_mem_nil, or_false] at hu
      rcases hu with rfl | rfl | rfl | rfl | rfl | rfl | rfl | rfl | rfl | rfl
      · exact plain3_lst hB
      · exact plain3_lst hB
      · exact plain3_lst hB
      · exact plain3_lst fun q hq => plain2_crews q (List.mem_of_mem_drop hq)
      · refine plain3_lst fun q hq => ?_
        rcases List.mem_append.mp hq with hq | hq
        · exact plain2_crews q hq
        · exact plain2_crews q (List.mem_of_mem_take hq)
      · exact plain3_lst fun q hq => plain2_crews q (List.mem_reverse.mp hq)
      all_goals rfl
end Lk79


set_option Elab.async false
set_option linter.all false
set_option maxRecDepth 100000
set_option maxHeartbeats 1000000
open PySem DL L2
namespace Lk79
theorem grow_eq {n : Int} {ps : List (Int × Int)} (h : VP n ps) (row : List Int) {c : List Int} (hc : c.Pairwise (· < ·)) : grow ps row c = growL ps row c := by
  unfold grow growL
  congr 1
  refine List.filter_congr fun x hx => ?_
  have hb := (last_lt hc).mp (List.mem_filter.mp hx).2
  rw [Bool.eq_iff_iff, fits_iff h c x, Bool.not_eq_true', Bool.eq_false_iff]
  constructor
  · exact fun hn => ⟨fun hm => by have := hb x hm; omega, fun o ho hm => hn ((cw_iff h x c).mpr ⟨o, ho, mt_symm hm⟩)⟩
  · rintro ⟨_, h2⟩ hcw
    obtain ⟨o, ho, hm⟩ := (cw_iff h x c).mp hcw
    exact h2 o ho (mt_symm hm)
theorem lots_eq {n : Int} {ps : List (Int × Int)} (h : VP n ps) (row : List Int) : ∀ k, lots ps row k = lotsL ps row k
  | 0 => rfl
  | k + 1 => by
    rw [lots, lotsL, lots_eq h row k]
    rw [List.flatMap_def, List.flatMap_def]
    congr 1
    exact List.map_congr_left fun c hc => grow_eq h row ((mem_lotsL h row k c).mp hc).2.2.1
end Lk79


set_option Elab.async false
set_option linter.all false
set_option maxRecDepth 100000
set_option maxHeartbeats 1000000
open PySem DL L2
namespace Lk79
local macro_rules | `(tactic| infer_instance) => `(tactic| simp only [bind_okS, bind_errS, datA_nil, datA_val, datA_own, datA_slot, dat_slot, dat_val, dat_own, slotD_val, slotD_own, obd_lst, obd_ins, obd_dct, dv_val, dv_own, varE_val, varE_own, ev_var, ev_gl, ev_int, ev_bl, ev_non, ev_str, ev_bin, ev_cmp, ev_ix, ev_rg1, ev_rg2, ev_neg, ev_isi, ev_isc, ev_sset, ev_lset, ev_attr, ev_rev, ev_bi, ev_ch, ev_tupS, ev_lstS, A.len, Nat.reduceAdd, Nat.reduceLeDiff, ev_dct0, ev_and, ev_or, ev_one, ev_not, ev_ife, ev_lc, ev_call, callE_ok, ev_callH, hotE_ok, ownE_own, ev_make, makE_ok, lstE_own, ev_app, ev_ext, extE_lst, ev_pop, ev_slE, sl1_tup, sl1_lst, sl1_frz, evP_no, evP_so, prtE_int, evA_nil, evA_cons, evB_nil, evB_cons, evN_nil, evN_cons, unsE_val, unsE_own, unsE_slot, evFz_eq, frz_val, frz_own, frz_dv, dat_dv, datA_dv, rd_valS, rd_ownS, frz_slot, frzE_own, frzE_val, evS_sq, evS_en, evS_zp, evS_rng1, evS_rng2, valE_eq, evS_sqT, evS_enT, evS_zpT, evC_yes, evC_so, tst_and, tst_or, tst_one, tst_not, tst_var, tst_bl, tst_bin, tst_cmp, tst_chain, tst_ix, tst_bi, tst_isi, tst_isc, tst_attr, tst_call, tst_callH, tEnd_bl, tEnd_int, tEnd_non, sr_ok, next_nx, next_rt, next_bk, next_ct, next_err, exs_nil, exs_cons, ex_pass, ex_brk, ex_cnt, ex_never, ex_expr, ex_ret, ex_retN, ex_ite, ex_asg, sl_val, sl_own, ex_par, putR_some, ex_asgT, ex_for, ex_whl, setIE_own, ex_setI, ex_setA, bind_ite, sr_ite, next_ite, fin_ite, ite_andS, ite_and2, ite_orS, ite_andT, ite_orT, fin_nx, fin_val, fin_own, fin_slot, finSl_own, finSl_val,
  wipeD, opEnd_eq, optR_some, rgE_eq, optS_some, sqE, enE, zpE, kindD, chE,
  List.nil_append, lapp, lget0, lgetS, lset0, lsetS, omap_some, omap_none, obind_some, obind_none, if_true, if_false, Bool.false_eq_true, isi_eq, isTy, Op.f, Cm.f, Bi.f,
  cmpI_int, ltD_int, addD_int, subD_int, negD_int, eqD_int, neD_int, eqD_bl, neD_bl, isD_bl, isD_non, lenD_lst, lenD_tup, lenD_frz, absD_int, intD_int, max2D_int, min2D_int, listD_tup, listD_lst, tupleD_lst, tupleD_tup, ixD_lst, ixD_tup, Bool.not_true, Bool.not_false, Bool.true_and, Bool.false_and, Bool.and_true, Bool.and_false, Bool.true_or, Bool.false_or, Bool.or_false, Bool.or_true])

theorem growL_stepX (n : Nat) (ps : List (Int × Int)) (row crew : List Int) (s3 s4 : DL.Slot) (k : Int) (out : List D) (hl : out.length + (growL ps row crew).length ≤ sizeLine) (hcl : crew.length ≤ 100) (s7 s8 : DL.Slot) :
    exs [T.asg 7 (.lc (.sq (.var 2)) [8] (.nm 8) (.so (.or (.cmp .eq (.bi .len (.cons (.var 6) .nil)) (.int 0)) (.one (.cmp .gt (.var 8) (.ix (.var 6) (.neg (.int 1))))))) (.var 8)), .expr (.ext 5 (.lc (.sq (.var 7)) [8] (.nm 8) (.so (.call "_law_fits" f__law_fits (.cons (.var 0) (.cons (.var 6) (.cons (.var 8) .nil))))) (.bin .add (.var 6) (.tup (.cons (.var 8) .nil)))))]
      [.val (specD n ps), .val (.int k), .val (.lst (row.map D.int)), s3, s4, .own (.lst out), .val (D.ints crew), s7, s8] = .nx [.val (specD n ps), .val (.int k), .val (.lst (row.map D.int)), s3, s4, .own (.lst (out ++ (growL ps row crew).map D.ints)), .val (D.ints crew), .own (.lst ((row.filter (behind crew)).map D.int)), s8] := by
  have okc : (D.ints crew).okE = true := okE_of (n := 1) ok_ints (by decide)
  have ok0 : (D.tup []).okE = true := okE_of (n := 1) (okN_tup fun x hx => by simp at hx) (by decide)
  infer_instance
  rw [lcE_pure D.int row (behind crew) D.int rfl rfl ?h]
  case h =>
    intro a ha
    refine ⟨_, rfl, ?_, fun _ => by infer_instance, rfl⟩
    infer_instance
    rw [show lenD [D.ints crew] = some (.val (.int (crew.length : Nat))) by rw [D.ints, lenD_tup, List.length_map]]
    infer_instance
    cases hc : crew with
    | nil => rfl
    | cons c cs =>
      have hlc : ((((c :: cs).length : Nat) : Int) == 0) = false := by
        rw [beq_eq_false_iff_ne, List.length_cons]
        omega
      simp only [hlc]
      infer_instance
      rw [D.ints]
      infer_instance
      rw [DL.atI_last, List.getLast?_map]
      simp only [behind]
      rw [List.getLast?_eq_some_getLast (List.cons_ne_nil c cs)]
      infer_instance
  infer_instance
  rw [lcE_pure D.int (row.filter (behind crew)) (fits ps crew) (fun one => D.ints (crew ++ [one])) ?h2a ?h2b ?h2]
  case h2a => rfl
  case h2b => rfl
  case h2 =>
    intro a ha
    refine ⟨_, rfl, ?_, fun _ => ?_, rfl⟩
    · infer_instance
      rw [law_fits_eq]
      infer_instance
    · rw [D.ints]
      infer_instance
      rw [addD_tup (by rw [List.length_map]; show _ + 1 ≤ _; rw [sizeLine_eq]; omega)]
      infer_instance
      rw [D.ints, List.map_append]
      rfl
  infer_instance
  have e : (((row.filter (behind crew)).filter (fits ps crew)).map fun one => D.ints (crew ++ [one])) = (growL ps row crew).map D.ints := by
    rw [growL, List.map_map]
    rfl
  rw [e, if_pos (by rw [List.length_map]; exact hl)]
theorem lotsL_stepX (n : Nat) (ps : List (Int × Int)) (row : List Int) (k : Int) (m : Nat) (hl : row.length ≤ 16) (hm : m < 5) (t : D) (s3 s5 s6 s7 s8 : DL.Slot) (h3 : slotD (some s3) = some (.lst ((lotsL ps row m).map D.ints))) :
    ∃ y6 y7 y8 : DL.Slot, exs [T.asg 5 (.lst .nil), .for_ (.sq (.var 3)) (.nm 6) [T.asg 7 (.lc (.sq (.var 2)) [8] (.nm 8) (.so (.or (.cmp .eq (.bi .len (.cons (.var 6) .nil)) (.int 0)) (.one (.cmp .gt (.var 8) (.ix (.var 6) (.neg (.int 1))))))) (.var 8)), .expr (.ext 5 (.lc (.sq (.var 7)) [8] (.nm 8) (.so (.call "_law_fits" f__law_fits (.cons (.var 0) (.cons (.var 6) (.cons (.var 8) .nil))))) (.bin .add (.var 6) (.tup (.cons (.var 8) .nil)))))], .asg 3 (.var 5)]
      [.val (specD n ps), .val (.int k), .val (.lst (row.map D.int)), s3, .val t, s5, s6, s7, s8] = .nx [.val (specD n ps), .val (.int k), .val (.lst (row.map D.int)), .val (.lst ((lotsL ps row (m + 1)).map D.ints)), .val t, .val (.lst ((lotsL ps row (m + 1)).map D.ints)), y6, y7, y8] := by
  have hev : ∀ x4 x5 x6 x7 x8 : DL.Slot, ((ev (E.var 3) [.val (specD n ps), .val (.int k), .val (.lst (row.map D.int)), s3, x4, x5, x6, x7, x8]).bind frz) = .ok (.lst ((lotsL ps row m).map D.ints)) [.val (specD n ps), .val (.int k), .val (.lst (row.map D.int)), .val (.lst ((lotsL ps row m).map D.ints)), x4, x5, x6, x7, x8] := by
    intro x4 x5 x6 x7 x8
    cases s3 with
    | non => cases h3
    | val d =>
      rw [slotD_val] at h3
      cases h3
      infer_instance
    | own o =>
      rw [slotD_own] at h3
      have h3' : o.d = _ := Option.some.inj h3
      infer_instance
      rw [h3']
  have hf : ∀ x4 x5 x6 x7 x8 : DL.Slot, evS true (.sq (.var 3)) [.val (specD n ps), .val (.int k), .val (.lst (row.map D.int)), s3, x4, x5, x6, x7, x8] = .ok (.sq false (.val (.lst ((lotsL ps row m).map D.ints)))) [.val (specD n ps), .val (.int k), .val (.lst (row.map D.int)), .val (.lst ((lotsL ps row m).map D.ints)), x4, x5, x6, x7, x8] := by
    intro x4 x5 x6 x7 x8
    rw [evS_sqT, evFz_eq, hev]
    infer_instance
  simp only [exs_cons, ex_asg, ex_for, ev_lstS, evA_nil, bind_okS, A.len, Nat.reduceLeDiff, if_true, unsE_own, sr_ok, sl_own, lsetS, lset0, next_nx, hf]
  rw [forE_items rfl (show (Src.sq false (Dv.val (.lst ((lotsL ps row m).map D.ints)))).items _ = some ((lotsL ps row m).map D.ints) from rfl)]
  generalize hfor : forGo _ _ _ _ = r
  obtain ⟨ρ', rfl, y6, y7, y8, rfl⟩ := forGo_inv2 (fun dn ρ => ∃ y6 y7 y8 : DL.Slot, ρ = [.val (specD n ps), .val (.int k), .val (.lst (row.map D.int)), .val (.lst ((lotsL ps row m).map D.ints)), .val t, .own (.lst ((dn.flatMap (growL ps row)).map D.ints)), y6, y7, y8]) (lotsL ps row m) hfor ⟨_, _, _, rfl⟩ (fun dn c rest ρ eq hI => by
    obtain ⟨y6, y7, y8, rfl⟩ := hI
    have hc : c ∈ lotsL ps row m := by rw [eq]; simp
    have hlen : (dn.flatMap (growL ps row)).length + (growL ps row c).length ≤ 1048576 := by
      have h1 := lotsL_len2 n ps hl (k := m + 1) (by omega)
      rw [lotsL, eq, List.flatMap_append, List.flatMap_cons, List.length_append, List.length_append] at h1
      omega
    have e : (dn.flatMap (growL ps row)).map D.ints ++ (growL ps row c).map D.ints = ((dn ++ [c]).flatMap (growL ps row)).map D.ints := by
      rw [List.flatMap_append, List.map_append, List.flatMap_cons, List.flatMap_nil, List.append_nil]
    have hg := growL_stepX n ps row c (.val (.lst ((lotsL ps row m).map D.ints))) (.val t) k ((dn.flatMap (growL ps row)).map D.ints) (by rw [List.length_map, sizeLine_eq]; omega) (by rw [lotsL_in ps row m c hc]; omega) y7 y8
    rw [e] at hg
    exact ⟨_, _, rfl, .inl hg, _, _, _, rfl⟩)
  refine ⟨y6, y7, y8, ?_⟩
  infer_instance
  rfl
theorem crews_of_eqX (n : Nat) (ps : List (Int × Int)) (row : List Int) (k : Nat) (hl : row.length ≤ 16) (hk : k ≤ 5) : ∃ z, f__law_crews_of [specD n ps, .int (k : Int), .lst (row.map D.int)] = .ok z ∧ z.d = .lst ((lotsL ps row k).map D.ints) := by
  rw [r__law_crews_of, b__law_crews_of]
  infer_instance
  rw [rng1_int (by omega)]
  infer_instance
  rw [forE_items rfl rng_items]
  generalize hfor : forGo _ _ _ _ = r
  obtain ⟨ρ', rfl, s3, s4, s5, s6, s7, s8, rfl, h3⟩ := forGo_inv2 (fun dn ρ => ∃ s3 s4 s5 s6 s7 s8 : DL.Slot, ρ = [.val (specD n ps), .val (.int (k : Int)), .val (.lst (row.map D.int)), s3, s4, s5, s6, s7, s8] ∧ slotD (some s3) = some (.lst ((lotsL ps row dn.length).map D.ints))) (List.range k) hfor ⟨_, _, _, _, _, _, rfl, by
      simp only [slotD_own, obd_lst, List.length_nil, lotsL]
      rfl⟩ (fun dn t rest ρ eq hI => by
    obtain ⟨s3, s4, s5, s6, s7, s8, rfl, h3⟩ := hI
    have hdn : dn.length < k := by
      have := congrArg List.length eq
      rw [List.length_range, List.length_append, List.length_cons] at this
      omega
    obtain ⟨y6, y7, y8, hy⟩ := lotsL_stepX n ps row k dn.length hl (by omega) (.int (t : Int)) s3 s5 s6 s7 s8 h3
    exact ⟨_, _, rfl, .inl hy, _, _, _, _, _, _, rfl, by rw [slotD_val, List.length_append]; rfl⟩)
  infer_instance
  cases s3 with
  | non => cases h3
  | val d =>
    rw [slotD_val] at h3
    cases h3
    infer_instance
    exact ⟨_, rfl, by rw [List.length_range]; rfl⟩
  | own o =>
    rw [slotD_own] at h3
    infer_instance
    refine ⟨_, rfl, ?_⟩
    rw [List.length_range] at h3
    exact Option.some.inj h3
end Lk79


set_option Elab.async false
set_option linter.all false
set_option maxRecDepth 100000
set_option maxHeartbeats 1000000
open PySem DL L2
namespace Lk79
local macro_rules | `(tactic| infer_instance) => `(tactic| simp only [bind_okS, bind_errS, datA_nil, datA_val, datA_own, datA_slot, dat_slot, dat_val, dat_own, slotD_val, slotD_own, obd_lst, obd_ins, obd_dct, dv_val, dv_own, varE_val, varE_own, ev_var, ev_gl, ev_int, ev_bl, ev_non, ev_str, ev_bin, ev_cmp, ev_ix, ev_rg1, ev_rg2, ev_neg, ev_isi, ev_isc, ev_sset, ev_lset, ev_attr, ev_rev, ev_bi, ev_ch, ev_tupS, ev_lstS, A.len, Nat.reduceAdd, Nat.reduceLeDiff, ev_dct0, ev_and, ev_or, ev_one, ev_not, ev_ife, ev_lc, ev_call, callE_ok, ev_callH, hotE_ok, ownE_own, ev_make, makE_ok, lstE_own, ev_app, ev_ext, extE_lst, ev_pop, ev_slE, sl1_tup, sl1_lst, sl1_frz, evP_no, evP_so, prtE_int, evA_nil, evA_cons, evB_nil, evB_cons, evN_nil, evN_cons, unsE_val, unsE_own, unsE_slot, evFz_eq, frz_val, frz_own, frz_dv, dat_dv, datA_dv, rd_valS, rd_ownS, frz_slot, frzE_own, frzE_val, evS_sq, evS_en, evS_zp, evS_rng1, evS_rng2, valE_eq, evS_sqT, evS_enT, evS_zpT, evC_yes, evC_so, tst_and, tst_or, tst_one, tst_not, tst_var, tst_bl, tst_bin, tst_cmp, tst_chain, tst_ix, tst_bi, tst_isi, tst_isc, tst_attr, tst_call, tst_callH, tEnd_bl, tEnd_int, tEnd_non, sr_ok, next_nx, next_rt, next_bk, next_ct, next_err, exs_nil, exs_cons, ex_pass, ex_brk, ex_cnt, ex_never, ex_expr, ex_ret, ex_retN, ex_ite, ex_asg, sl_val, sl_own, ex_par, putR_some, ex_asgT, ex_for, ex_whl, setIE_own, ex_setI, ex_setA, bind_ite, sr_ite, next_ite, fin_ite, ite_andS, ite_and2, ite_orS, ite_andT, ite_orT, fin_nx, fin_val, fin_own, fin_slot, finSl_own, finSl_val,
  wipeD, opEnd_eq, optR_some, rgE_eq, optS_some, sqE, enE, zpE, kindD, chE,
  List.nil_append, lapp, lget0, lgetS, lset0, lsetS, omap_some, omap_none, obind_some, obind_none, if_true, if_false, Bool.false_eq_true, isi_eq, isTy, Op.f, Cm.f, Bi.f,
  cmpI_int, ltD_int, addD_int, subD_int, negD_int, eqD_int, neD_int, eqD_bl, neD_bl, isD_bl, isD_non, lenD_lst, lenD_tup, lenD_frz, absD_int, intD_int, max2D_int, min2D_int, listD_tup, listD_lst, tupleD_lst, tupleD_tup, ixD_lst, ixD_tup, Bool.not_true, Bool.not_false, Bool.true_and, Bool.false_and, Bool.and_true, Bool.and_false, Bool.true_or, Bool.false_or, Bool.or_false, Bool.or_true])
theorem crewL_ints (ps : List (Int × Int)) (k : Nat) (row ns : List Int) : crewL ps k row (D.ints ns) = ((ns.length == k) && (lotsL ps row k).contains ns) := by
  rw [D.ints, crewL, intsOf_map, List.length_map]
theorem runL_crews (ps : List (Int × Int)) (k : Nat) (rows cs : List (List Int)) : runL ps k rows (.lst (cs.map D.ints)) = ((cs.length == rows.length) && (rows.zip cs).all fun p => (p.2.length == k) && (lotsL ps p.1 k).contains p.2) := by
  rw [runL, List.length_map]
  congr 1
  rw [List.zip_map_right, List.all_map]
  congr 1
  funext p
  exact crewL_ints _ _ _ _
theorem runL_true {ps : List (Int × Int)} {k : Nat} {rows cs : List (List Int)} (hl : cs.length = rows.length) (h : ∀ p ∈ rows.zip cs, p.2 ∈ lotsL ps p.1 k) : runL ps k rows (.lst (cs.map D.ints)) = true := by
  rw [runL_crews, Bool.and_eq_true, beq_iff_eq, List.all_eq_true]
  refine ⟨hl, fun p hp => ?_⟩
  have := h p hp
  rw [Bool.and_eq_true, beq_iff_eq, List.contains_iff_mem]
  exact ⟨lotsL_in ps p.1 k p.2 this, this⟩
theorem lots_mono {n : Int} {ps : List (Int × Int)} (h : VP n ps) {r r' : List Int} {k : Nat} {c : List Int} (hs : ∀ x ∈ r, x ∈ r') (hc : c ∈ lotsL ps r k) : c ∈ lotsL ps r' k := by
  obtain ⟨a, b, c', d⟩ := (mem_lotsL h r k c).mp hc
  exact (mem_lotsL h r' k c).mpr ⟨a, fun x hx => hs x (b x hx), c', d⟩
def rowOf (n : Nat) (rows : List (List Int)) : List Int := ((List.range n).filter fun (i : Nat) => rows.all fun r => r.contains (i : Int)).map fun (i : Nat) => (i : Int)
theorem rowOf_len (n : Nat) (rows : List (List Int)) : (rowOf n rows).length ≤ n := by
  rw [rowOf, List.length_map]
  exact Nat.le_trans (List.length_filter_le _ _) (by rw [List.length_range]; exact Nat.le_refl _)
theorem rowOf_in {n : Nat} {rows : List (List Int)} {x : Int} (h : x ∈ rowOf n rows) : ∀ r ∈ rows, x ∈ r := by
  rw [rowOf] at h
  obtain ⟨i, hi, rfl⟩ := List.mem_map.mp h
  have := (List.mem_filter.mp hi).2
  intro r hr
  exact List.contains_iff_mem.mp (List.all_eq_true.mp this r hr)
theorem rep_flat {α : Type} (a : α) : ∀ m : Nat, (List.replicate m [a]).flatten = List.replicate m a
  | 0 => rfl
  | m + 1 => by rw [List.replicate_succ, List.flatten_cons, rep_flat a m, List.replicate_succ]; rfl
theorem mul_one {d : D} {m : Nat} (h : m ≤ 1000) : mulD [.lst [d], .int (m : Int)] = some (.own (.lst (List.replicate m d))) := by
  have e : mulD [.lst [d], .int (m : Int)] = if -(2 ^ 63) ≤ (m : Int) ∧ (m : Int) < 2 ^ 63 ∧ [d].length * ((m : Int)).toNat ≤ sizeLine then some (.own (.lst (List.replicate ((m : Int)).toNat [d]).flatten)) else none := by rfl
  rw [e, if_pos ⟨by omega, by omega, by rw [sizeLine_eq, Int.toNat_natCast]; simp only [List.length_cons, List.length_nil]; omega⟩, Int.toNat_natCast, rep_flat]
theorem rep_map {c : List Int} {m : Nat} : List.replicate m (D.ints c) = (List.replicate m c).map D.ints := by rw [List.map_replicate]
theorem isrun_true (n : Nat) (ps : List (Int × Int)) (hv : VP n ps) (rows : List (List Int)) (hl : rows.length ≤ 6) (hr : ∀ r ∈ rows, RowS n r) (k : Nat) (hk : k ≤ 4) (cs : List (List Int)) (hc : cs.length = rows.length) (h : ∀ p ∈ rows.zip cs, p.2 ∈ lotsL ps p.1 k) : f_is_run [webD n ps, .int (k : Int), .tup (rows.map D.ints), .lst (cs.map D.ints)] = .ok (.val (.bl true)) := by
  rw [is_run_eq n ps k (by omega) rows (by omega) hr _ (plain3_lst plain2_crews), run_eq hv k rows (fun r h => (hr r h).1.1), runL_true hc h]
theorem isrun_one (n : Nat) (ps : List (Int × Int)) (hv : VP n ps) (rows : List (List Int)) (hl : rows.length ≤ 6) (hr : ∀ r ∈ rows, RowS n r) (k : Nat) (hk : k ≤ 4) (c : List Int) (h : c ∈ lotsL ps (rowOf n rows) k) : f_is_run [webD n ps, .int (k : Int), .tup (rows.map D.ints), .lst (List.replicate rows.length (D.ints c))] = .ok (.val (.bl true)) := by
  rw [rep_map]
  refine isrun_true n ps hv rows hl hr k hk _ (List.length_replicate) fun p hp => ?_
  obtain ⟨h1, h2⟩ := List.of_mem_zip hp
  rw [(List.mem_replicate.mp h2).2]
  exact lots_mono hv (fun x hx => rowOf_in hx _ h1) h
theorem one_right_eq (n : Nat) (hn : n ≤ 8) (ps : List (Int × Int)) (hv : VP n ps) (rows : List (List Int)) (hl : rows.length ≤ 6) (hr : ∀ r ∈ rows, RowS n r) (k : Nat) (hk : k ≤ 4) : f__law_one_right [specD n ps, .tup (rows.map D.ints), .int (k : Int)] = .ok (.val (.bl true)) := by
  rw [r__law_one_right, b__law_one_right]
  rw [specD]
  infer_instance
  rw [at0]
  infer_instance
  rw [rng1_int (by omega)]
  infer_instance
  rw [lcE_pure (fun (i : Nat) => D.int (i : Int)) (List.range n) (fun i => rows.all fun r => r.contains (i : Int)) (fun i => D.int (i : Int)) rng_items rng_items ?h]
  case h =>
    intro a ha
    refine ⟨_, rfl, ?_, fun _ => by infer_instance, rfl⟩
    infer_instance
    rw [lcE_map D.ints rows (fun r => .bl (r.contains (a : Int))) rfl rfl ?h2]
    case h2 =>
      intro r hr
      refine ⟨_, rfl, ?_, rfl⟩
      infer_instance
      rw [in_ints]
      infer_instance
    infer_instance
    rw [all_of (p := fun r : List Int => r.contains (a : Int)) fun a _ => rfl]
    infer_instance
  rw [show ((List.range n).filter fun (i : Nat) => rows.all fun r => r.contains (i : Int)).map (fun (i : Nat) => D.int (i : Int)) = (rowOf n rows).map D.int by rw [rowOf, List.map_map]; rfl]
  repeat (first | simp only [at0, at1, Web_eq n ps (by omega) hv] | infer_instance)
  obtain ⟨z, hz, hd⟩ := crews_of_eqX n ps (rowOf n rows) k (Nat.le_trans (rowOf_len n rows) (by omega)) (by omega)
  rw [specD] at hz
  rw [hz]
  infer_instance
  rw [hd]
  infer_instance
  rw [show cutD (List.map D.ints (lotsL ps (rowOf n rows) k)) none (some 4) = ((lotsL ps (rowOf n rows) k).take 4).map D.ints from (cut_to 4).trans (List.map_take ..).symm]
  generalize hlc : lcE _ _ _ _ _ _ = r
  obtain ⟨acc, ρ', h1, rfl, s4, rfl, hs4⟩ := lcE_inv D.ints ((lotsL ps (rowOf n rows) k).take 4) (fun dn acc ρ => acc = dn.map (fun _ => D.bl true) ∧ ∃ s4 : DL.Slot, ρ = [.val (specD n ps), .val (.tup (rows.map D.ints)), .val (.int (k : Int)), .val (.lst ((rowOf n rows).map D.int)), s4, .non, .non, .non] ∧ (s4 = .own (.ins "Web" (webF n ps)) ∨ s4 = .val (webD n ps)))
    (s := Src.sq false (Dv.own (Ob.lst (((lotsL ps (rowOf n rows) k).take 4).map D.ints)))) (vs := [6]) (t := .nm 6) (c := evC .yes) (e := evFz (ev (.cmp .is (.call "is_run" f_is_run (.cons (.var 4) (.cons (.var 2) (.cons (.var 1) (.cons (.bin .mul (.lst (.cons (.var 6) .nil)) (.bi .len (.cons (.var 1) .nil))) .nil))))) (.bl true))))
    (ρ := [.val (specD n ps), .val (.tup (rows.map D.ints)), .val (.int (k : Int)), .val (.lst ((rowOf n rows).map D.int)), .own (.ins "Web" (webF n ps)), .non, .non, .non]) rfl (fun _ _ _ _ => rfl) ⟨rfl, _, rfl, .inl rfl⟩ (fun dn c rest acc ρ eq hI => by
      obtain ⟨rfl, s4, rfl, hs4⟩ := hI
      have hc : c ∈ lotsL ps (rowOf n rows) k := List.mem_of_mem_take (by rw [eq]; simp : c ∈ (lotsL ps (rowOf n rows) k).take 4)
      have e1 := isrun_one n ps hv rows hl hr k hk c hc
      have e2 : mulD [.lst [D.ints c], .int (rows.length : Int)] = _ := mul_one (by omega)
      refine ⟨_, true, _, rfl, evC_yes, fun _ => ⟨.bl true, [.val (specD n ps), .val (.tup (rows.map D.ints)), .val (.int (k : Int)), .val (.lst ((rowOf n rows).map D.int)), .val (webD n ps), .non, .val (D.ints c), .non], ?_, by rw [List.map_append]; rfl, _, rfl, .inr rfl⟩, fun h => by cases h⟩
      rcases hs4 with rfl | rfl
      · repeat (first | simp only [List.length_map, e2] | infer_instance)
        rw [show D.ins "Web" (webF n ps) = webD n ps from rfl, e1]
        infer_instance
        rfl
      · repeat (first | simp only [List.length_map, e2, e1] | infer_instance)
        rfl)
  subst hlc
  rw [specD] at h1
  rw [h1]
  infer_instance
  rw [all_of (p := fun _ : List Int => true) fun a _ => rfl]
  infer_instance
  rw [List.all_eq_true.mpr fun _ _ => rfl]
end Lk79


set_option Elab.async false
set_option linter.all false
set_option maxRecDepth 100000
set_option maxHeartbeats 1000000
open PySem DL L2
namespace Lk79
local macro_rules | `(tactic| infer_instance) => `(tactic| simp only [bind_okS, bind_errS, datA_nil, datA_val, datA_own, datA_slot, dat_slot, dat_val, dat_own, slotD_val, slotD_own, obd_lst, obd_ins, obd_dct, dv_val, dv_own, varE_val, varE_own, ev_var, ev_gl, ev_int, ev_bl, ev_non, ev_str, ev_bin, ev_cmp, ev_ix, ev_rg1, ev_rg2, ev_neg, ev_isi, ev_isc, ev_sset, ev_lset, ev_attr, ev_rev, ev_bi, ev_ch, ev_tupS, ev_lstS, A.len, Nat.reduceAdd, Nat.reduceLeDiff, ev_dct0, ev_and, ev_or, ev_one, ev_not, ev_ife, ev_lc, ev_call, callE_ok, ev_callH, hotE_ok, ownE_own, ev_make, makE_ok, lstE_own, ev_app, ev_ext, extE_lst, ev_pop, ev_slE, sl1_tup, sl1_lst, sl1_frz, evP_no, evP_so, prtE_int, evA_nil, evA_cons, evB_nil, evB_cons, evN_nil, evN_cons, unsE_val, unsE_own, unsE_slot, evFz_eq, frz_val, frz_own, frz_dv, dat_dv, datA_dv, rd_valS, rd_ownS, frz_slot, frzE_own, frzE_val, evS_sq, evS_en, evS_zp, evS_rng1, evS_rng2, valE_eq, evS_sqT, evS_enT, evS_zpT, evC_yes, evC_so, tst_and, tst_or, tst_one, tst_not, tst_var, tst_bl, tst_bin, tst_cmp, tst_chain, tst_ix, tst_bi, tst_isi, tst_isc, tst_attr, tst_call, tst_callH, tEnd_bl, tEnd_int, tEnd_non, sr_ok, next_nx, next_rt, next_bk, next_ct, next_err, exs_nil, exs_cons, ex_pass, ex_brk, ex_cnt, ex_never, ex_expr, ex_ret, ex_retN, ex_ite, ex_asg, sl_val, sl_own, ex_par, putR_some, ex_asgT, ex_for, ex_whl, setIE_own, ex_setI, ex_setA, bind_ite, sr_ite, next_ite, fin_ite, ite_andS, ite_and2, ite_orS, ite_andT, ite_orT, fin_nx, fin_val, fin_own, fin_slot, finSl_own, finSl_val,
  wipeD, opEnd_eq, optR_some, rgE_eq, optS_some, sqE, enE, zpE, kindD, chE,
  List.nil_append, lapp, lget0, lgetS, lset0, lsetS, omap_some, omap_none, obind_some, obind_none, if_true, if_false, Bool.false_eq_true, isi_eq, isTy, Op.f, Cm.f, Bi.f,
  cmpI_int, ltD_int, addD_int, subD_int, negD_int, eqD_int, neD_int, eqD_bl, neD_bl, isD_bl, isD_non, lenD_lst, lenD_tup, lenD_frz, absD_int, intD_int, max2D_int, min2D_int, listD_tup, listD_lst, tupleD_lst, tupleD_tup, ixD_lst, ixD_tup, Bool.not_true, Bool.not_false, Bool.true_and, Bool.false_and, Bool.and_true, Bool.and_false, Bool.true_or, Bool.false_or, Bool.or_false, Bool.or_true])

def lists (ps : List (Int × Int)) (rows : List (List Int)) (k : Nat) : List (List (List Int)) := rows.map fun r => lotsL ps r k
theorem lists_eq {n : Nat} {ps : List (Int × Int)} (hv : VP n ps) (rows : List (List Int)) (k : Nat) : (rows.map fun r => lots ps r k) = lists ps rows k := List.map_congr_left fun r _ => lots_eq hv r k
section
variable (n : Nat) (hn : n ≤ 8) (ps : List (Int × Int)) (hv : VP n ps) (rows : List (List Int)) (hl : rows.length ≤ 6) (hr : ∀ r ∈ rows, RowS n r) (k : Nat) (hk : k ≤ 4)
theorem lens_map (l : List (List (List Int))) : (l.map lotsD).length = l.length := List.length_map ..
include hn hv hl hr hk
theorem st0 (o : Ob) : ex (.par [7, 8] (.cons (.make "Web" h_Web (.cons (.ix (.var 1) (.int 0)) (.cons (.ix (.var 1) (.int 1)) .nil))) (.cons (.lc (.sq (.var 2)) [13] (.nm 13) .yes (.call "_law_crews_of" f__law_crews_of (.cons (.var 1) (.cons (.var 3) (.cons (.var 13) .nil))))) .nil))) [.own o, .val (specD n ps), .val (.tup (rows.map D.ints)), .val (.int (k : Int)), .non, .non, .non, .non, .non, .non, .non, .non, .non, .non, .non, .non] = .nx [.own o, .val (specD n ps), .val (.tup (rows.map D.ints)), .val (.int (k : Int)), .non, .non, .non, .own (.ins "Web" (webF n ps)), .own (.lst ((lists ps rows k).map lotsD)), .non, .non, .non, .non, .non, .non, .non] := by
  rw [specD]
  repeat (first | simp only [at0, at1, Web_eq n ps (by omega) hv] | infer_instance)
  rw [lcE_map D.ints rows (fun r => lotsD (lotsL ps r k)) rfl rfl ?h]
  case h =>
    intro r hr'
    obtain ⟨z, hz, hd⟩ := crews_of_eq n ps r k (hr r hr').2 (by omega)
    rw [specD] at hz
    refine ⟨_, rfl, ?_, rfl⟩
    repeat (first | simp only [hz, hd, lotsD] | infer_instance)
  infer_instance
  rw [par2 (α := Nat), putAll_cons, putAll_cons, putAll_nil]
  infer_instance
  rw [lists, List.map_map]
  rfl
theorem st1 (o : Ob) (s7 : DL.Slot) (cs : List (List (List Int))) : ex (.par [9, 10] (.cons (.lc (.en (.var 8)) [15, 4] (.tup [15, 4]) (.so (.cmp .eq (.bi .len (.cons (.var 4) .nil)) (.int 0))) (.var 15)) (.cons (.int 1) .nil))) [.own o, .val (specD n ps), .val (.tup (rows.map D.ints)), .val (.int (k : Int)), .non, .non, .non, s7, .own (.lst (cs.map lotsD)), .non, .non, .non, .non, .non, .non, .non] = .nx [.own o, .val (specD n ps), .val (.tup (rows.map D.ints)), .val (.int (k : Int)), .non, .non, .non, s7, .own (.lst (cs.map lotsD)), .own (.lst ((shortAt cs).map fun (a : Nat) => D.int (a : Int))), .val (.int 1), .non, .non, .non, .non, .non] := by
  infer_instance
  rw [lcE_pure (fun p : (List (List Int)) × Nat => D.tup [.int (p.2 : Nat), lotsD p.1]) (cs.zipIdx 0) (fun p => p.1.isEmpty) (fun p => .int (p.2 : Int)) ?h1 ?h2 ?h]
  case h1 => exact congrArg some (enumD_map lotsD cs 0)
  case h2 => exact congrArg some (enumD_map lotsD cs 0)
  case h =>
    intro a ha
    refine ⟨_, rfl, ?_, fun _ => by infer_instance, rfl⟩
    have hz : (((a.1.length : Nat) : Int) == 0) = a.1.isEmpty := by
      cases a.1 with
      | nil => rfl
      | cons x l => rw [List.length_cons, List.isEmpty_cons, beq_eq_false_iff_ne]; omega
    repeat (first | simp only [lotsD, List.length_map, hz] | infer_instance)
  infer_instance
  rw [par2 (α := Nat), putAll_cons, putAll_cons, putAll_nil]
  infer_instance
  rw [shortAt, List.map_map]
  rfl
theorem st2 (o : Ob) (s7 s9 : DL.Slot) (cs : List (List (List Int))) (hc : ∀ c ∈ cs, c.length ≤ 1048576) : ∃ s4, ex (.for_ (.sq (.var 8)) (.nm 4) [.asg 10 (.bin .mul (.var 10) (.bi .len (.cons (.var 4) .nil)))]) [.own o, .val (specD n ps), .val (.tup (rows.map D.ints)), .val (.int (k : Int)), .non, .non, .non, s7, .own (.lst (cs.map lotsD)), s9, .val (.int 1), .non, .non, .non, .non, .non] = .nx [.own o, .val (specD n ps), .val (.tup (rows.map D.ints)), .val (.int (k : Int)), s4, .non, .non, s7, .val (.lst (cs.map lotsD)), s9, .val (.int (prod (cs.map List.length) : Nat)), .non, .non, .non, .non, .non] := by
  infer_instance
  rw [forE_items rfl (show (Src.sq false (Dv.val (.lst (cs.map lotsD)))).items _ = some (cs.map lotsD) from rfl)]
  generalize hfor : forGo _ _ _ _ = r
  obtain ⟨ρ', rfl, y4, rfl⟩ := forGo_inv2 (fun dn ρ => ∃ y4 : DL.Slot, ρ = [.own o, .val (specD n ps), .val (.tup (rows.map D.ints)), .val (.int (k : Int)), y4, .non, .non, s7, .val (.lst (cs.map lotsD)), s9, .val (.int (prod (dn.map List.length) : Nat)), .non, .non, .non, .non, .non]) cs hfor ⟨_, rfl⟩ (fun dn c rest ρ eq hI => by
    obtain ⟨y4, rfl⟩ := hI
    have hlen := hc c (by rw [eq]; simp)
    refine ⟨_, [.own o, .val (specD n ps), .val (.tup (rows.map D.ints)), .val (.int (k : Int)), .val (lotsD c), .non, .non, s7, .val (.lst (cs.map lotsD)), s9, .val (.int (prod ((dn ++ [c]).map List.length) : Nat)), .non, .non, .non, .non, .non], rfl, .inl ?_, _, rfl⟩
    rw [lotsD]
    repeat (first | simp only [List.length_map, mulD_int (okMul_r (a := ((prod (dn.map List.length) : Nat) : Int)) (b := ((c.length : Nat) : Int)) (by omega) (by omega))] | infer_instance)
    congr 13
    rw [List.map_append, prod, prod, List.foldl_append]
    rfl)
  exact ⟨_, rfl⟩
end
end Lk79


set_option Elab.async false
set_option linter.all false
set_option maxRecDepth 100000
set_option maxHeartbeats 1000000
open PySem DL L2
namespace Lk79
local macro_rules | `(tactic| infer_instance) => `(tactic| simp only [bind_okS, bind_errS, datA_nil, datA_val, datA_own, datA_slot, dat_slot, dat_val, dat_own, slotD_val, slotD_own, obd_lst, obd_ins, obd_dct, dv_val, dv_own, varE_val, varE_own, ev_var, ev_gl, ev_int, ev_bl, ev_non, ev_str, ev_bin, ev_cmp, ev_ix, ev_rg1, ev_rg2, ev_neg, ev_isi, ev_isc, ev_sset, ev_lset, ev_attr, ev_rev, ev_bi, ev_ch, ev_tupS, ev_lstS, A.len, Nat.reduceAdd, Nat.reduceLeDiff, ev_dct0, ev_and, ev_or, ev_one, ev_not, ev_ife, ev_lc, ev_call, callE_ok, ev_callH, hotE_ok, ownE_own, ev_make, makE_ok, lstE_own, ev_app, ev_ext, extE_lst, ev_pop, ev_slE, sl1_tup, sl1_lst, sl1_frz, evP_no, evP_so, prtE_int, evA_nil, evA_cons, evB_nil, evB_cons, evN_nil, evN_cons, unsE_val, unsE_own, unsE_slot, evFz_eq, frz_val, frz_own, frz_dv, dat_dv, datA_dv, rd_valS, rd_ownS, frz_slot, frzE_own, frzE_val, evS_sq, evS_en, evS_zp, evS_rng1, evS_rng2, valE_eq, evS_sqT, evS_enT, evS_zpT, evC_yes, evC_so, tst_and, tst_or, tst_one, tst_not, tst_var, tst_bl, tst_bin, tst_cmp, tst_chain, tst_ix, tst_bi, tst_isi, tst_isc, tst_attr, tst_call, tst_callH, tEnd_bl, tEnd_int, tEnd_non, sr_ok, next_nx, next_rt, next_bk, next_ct, next_err, exs_nil, exs_cons, ex_pass, ex_brk, ex_cnt, ex_never, ex_expr, ex_ret, ex_retN, ex_ite, ex_asg, sl_val, sl_own, ex_par, putR_some, ex_asgT, ex_for, ex_whl, setIE_own, ex_setI, ex_setA, bind_ite, sr_ite, next_ite, fin_ite, ite_andS, ite_and2, ite_orS, ite_andT, ite_orT, fin_nx, fin_val, fin_own, fin_slot, finSl_own, finSl_val,
  wipeD, opEnd_eq, optR_some, rgE_eq, optS_some, sqE, enE, zpE, kindD, chE,
  List.nil_append, lapp, lget0, lgetS, lset0, lsetS, omap_some, omap_none, obind_some, obind_none, if_true, if_false, Bool.false_eq_true, isi_eq, isTy, Op.f, Cm.f, Bi.f,
  cmpI_int, ltD_int, addD_int, subD_int, negD_int, eqD_int, neD_int, eqD_bl, neD_bl, isD_bl, isD_non, lenD_lst, lenD_tup, lenD_frz, absD_int, intD_int, max2D_int, min2D_int, listD_tup, listD_lst, tupleD_lst, tupleD_tup, ixD_lst, ixD_tup, Bool.not_true, Bool.not_false, Bool.true_and, Bool.false_and, Bool.and_true, Bool.and_false, Bool.true_or, Bool.false_or, Bool.or_false, Bool.or_true])

theorem lots_small {ps : List (Int × Int)} {row : List Int} (hl : row.length ≤ 16) {k : Nat} (hk : k ≤ 4) : (lotsL ps row k).length ≤ 65536 := by
  have h1 := lotsL_len ps row k
  have h2 : row.length ^ k ≤ 16 ^ k := Nat.pow_le_pow_left hl k
  have h3 : 16 ^ k ≤ 16 ^ 4 := Nat.pow_le_pow_right (by decide) hk
  have h4 : (16 : Nat) ^ 4 = 65536 := by decide
  omega
theorem shortAt_nil {cs : List (List (List Int))} : shortAt cs = [] ↔ ∀ c ∈ cs, c ≠ [] := by
  rw [shortAt, List.map_eq_nil_iff, List.filter_eq_nil_iff]
  constructor
  · intro h c hc
    obtain ⟨i, hi, rfl⟩ := List.getElem_of_mem hc
    have := h (cs[i], i) (by rw [List.mem_zipIdx_iff_getElem?]; simp [hi])
    intro h0
    rw [h0] at this
    exact this rfl
  · intro h p hp
    have : p.1 ∈ cs := by
      have := List.mem_zipIdx_iff_getElem?.mp hp
      exact List.mem_of_getElem? this
    have := h p.1 this
    cases hq : p.1 with
    | nil => exact absurd hq this
    | cons a l => simp
theorem shortAt_len (cs : List (List (List Int))) : (shortAt cs).length ≤ cs.length := by
  rw [shortAt, List.length_map]
  exact Nat.le_trans (List.length_filter_le _ _) (by rw [List.length_zipIdx]; exact Nat.le_refl _)
theorem ne_head (l : List Nat) : neD [headD l, headD l] = some (.val (.bl false)) := by
  cases l with
  | nil =>
    rw [headD, neD_ok ok_non ok_non]
    unfold D.eqv D.py
    rw [PyData.eqv]
    rfl
  | cons a l =>
    rw [headD, neD_int]
    simp
theorem head_at (l : List Nat) : atI ((l.map fun (a : Nat) => D.int (a : Int)) ++ [.non]) 0 = some (headD l) := by
  cases l <;> exact at0
theorem hd_isN (l : List Nat) : (headD l).isN = l.isEmpty := by cases l <;> rfl
theorem rg1_nat (n : Nat) (h : n ≤ 1000) : rg1D false [.int (n : Int)] = some (.own (.lst (((List.range n).map fun (i : Nat) => (i : Int)).map D.int))) := by
  have e : rg1D false [.int (n : Int)] = rgR false 0 (n : Int) := by rfl
  rw [e, rgR, if_pos (by simp only [okRg, Bool.and_eq_true, decide_eq_true_eq]; omega), if_neg Bool.false_ne_true]
  rw [rgI, show (((n : Int)) - 0).toNat = n by omega]
  simp only [Int.zero_add]
section
variable (n : Nat) (hn : n ≤ 8) (ps : List (Int × Int)) (hv : VP n ps) (rows : List (List Int)) (hl : rows.length ≤ 6) (hr : ∀ r ∈ rows, RowS n r) (k : Nat) (hk : k ≤ 4)
include hn hv hl hr hk
theorem lens_eq : (rows.map fun r => (lots ps r k).length) = (lists ps rows k).map List.length := by
  rw [lists, List.map_map]
  exact List.map_congr_left fun r _ => congrArg List.length (lots_eq hv r k)
theorem st3 (o : Ob) (s4 s9 : DL.Slot) : ex (.ite (.cmp .ne (.call "count_runs" f_count_runs (.cons (.var 7) (.cons (.var 3) (.cons (.var 2) .nil)))) (.var 10)) [.ret (.bl false)] []) [.own o, .val (specD n ps), .val (.tup (rows.map D.ints)), .val (.int (k : Int)), s4, .non, .non, .own (.ins "Web" (webF n ps)), .val (.lst ((lists ps rows k).map lotsD)), s9, .val (.int (prod ((lists ps rows k).map List.length) : Nat)), .non, .non, .non, .non, .non] = .nx [.own o, .val (specD n ps), .val (.tup (rows.map D.ints)), .val (.int (k : Int)), s4, .non, .non, .val (webD n ps), .val (.lst ((lists ps rows k).map lotsD)), s9, .val (.int (prod ((lists ps rows k).map List.length) : Nat)), .non, .non, .non, .non, .non] := by
  have e := count_runs_eq n ps k (by omega) rows (by omega) hr
  rw [lens_eq n hn ps hv rows hl hr k hk] at e
  infer_instance
  rw [show D.ins "Web" (webF n ps) = webD n ps from rfl, e]
  have hb : ∀ a : Int, (a != a) = false := fun a => by simp
  repeat (first | simp only [hb] | infer_instance)
theorem st4 (o : Ob) (s4 s8 s10 : DL.Slot) : ex (.ite (.or (.cmp .ne (.call "can_run" f_can_run (.cons (.var 7) (.cons (.var 3) (.cons (.var 2) .nil)))) (.cmp .eq (.bi .len (.cons (.var 9) .nil)) (.int 0))) (.one (.cmp .ne (.call "short_day" f_short_day (.cons (.var 7) (.cons (.var 3) (.cons (.var 2) .nil)))) (.ix (.bin .add (.var 9) (.lst (.cons .non .nil))) (.int 0))))) [.ret (.bl false)] []) [.own o, .val (specD n ps), .val (.tup (rows.map D.ints)), .val (.int (k : Int)), s4, .non, .non, .val (webD n ps), s8, .own (.lst ((shortAt (lists ps rows k)).map fun (a : Nat) => D.int (a : Int))), s10, .non, .non, .non, .non, .non] = .nx [.own o, .val (specD n ps), .val (.tup (rows.map D.ints)), .val (.int (k : Int)), s4, .non, .non, .val (webD n ps), s8, .own (.lst ((shortAt (lists ps rows k)).map fun (a : Nat) => D.int (a : Int))), s10, .non, .non, .non, .non, .non] := by
  have e1 := can_run_eq n ps k (by omega) rows (by omega) hr
  have e2 := short_day_eq n ps k (by omega) rows (by omega) hr
  rw [lists_eq hv] at e1 e2
  have hle := shortAt_len (lists ps rows k)
  have hll : (lists ps rows k).length = rows.length := by rw [lists, List.length_map]
  generalize shortAt (lists ps rows k) = l at e1 e2 hle
  have hz : (((l.length : Nat) : Int) == 0) = l.isEmpty := by
    cases l with
    | nil => rfl
    | cons x l => rw [List.length_cons, List.isEmpty_cons, beq_eq_false_iff_ne]; omega
  have hb : ∀ a : Bool, (a != a) = false := fun a => by cases a <;> rfl
  have ha : addD [.lst (l.map fun (a : Nat) => D.int (a : Int)), .lst [.non]] = some (.own (.lst ((l.map fun (a : Nat) => D.int (a : Int)) ++ [.non]))) := addD_lst (by rw [List.length_map, sizeLine_eq]; simp only [List.length_cons, List.length_nil]; omega)
  repeat (first | simp only [e1, e2, List.length_map, hz, hb, ha, head_at, ne_head] | infer_instance)
theorem st5 (o : Ob) (s4 s8 s9 s10 : DL.Slot) : ex (.ite (.or (.cmp .isNot (.call "can_run" f_can_run (.cons (.var 7) (.cons (.int 0) (.cons (.var 2) .nil)))) (.bl true)) (.one (.cmp .isNot (.call "short_day" f_short_day (.cons (.var 7) (.cons (.int 0) (.cons (.var 2) .nil)))) .non))) [.ret (.bl false)] []) [.own o, .val (specD n ps), .val (.tup (rows.map D.ints)), .val (.int (k : Int)), s4, .non, .non, .val (webD n ps), s8, s9, s10, .non, .non, .non, .non, .non] = .nx [.own o, .val (specD n ps), .val (.tup (rows.map D.ints)), .val (.int (k : Int)), s4, .non, .non, .val (webD n ps), s8, s9, s10, .non, .non, .non, .non, .non] := by
  have e1 : f_can_run [webD n ps, .int 0, .tup (rows.map D.ints)] = _ := can_run_eq n ps 0 (by omega) rows (by omega) hr
  have e2 : f_short_day [webD n ps, .int 0, .tup (rows.map D.ints)] = _ := short_day_eq n ps 0 (by omega) rows (by omega) hr
  have h0 : shortAt (rows.map fun r => lots ps r 0) = [] := shortAt_nil.mpr fun c hc => by
    obtain ⟨r, _, rfl⟩ := List.mem_map.mp hc
    rw [lots]
    simp
  rw [h0] at e1 e2
  rw [headD] at e2
  repeat (first | simp only [e1, e2, List.isEmpty_nil, decide_true, Bool.xor_true, D.isN] | infer_instance)
end
end Lk79


set_option Elab.async false
set_option linter.all false
set_option maxRecDepth 100000
set_option maxHeartbeats 1000000
open PySem DL L2
namespace Lk79
local macro_rules | `(tactic| infer_instance) => `(tactic| simp only [bind_okS, bind_errS, datA_nil, datA_val, datA_own, datA_slot, dat_slot, dat_val, dat_own, slotD_val, slotD_own, obd_lst, obd_ins, obd_dct, dv_val, dv_own, varE_val, varE_own, ev_var, ev_gl, ev_int, ev_bl, ev_non, ev_str, ev_bin, ev_cmp, ev_ix, ev_rg1, ev_rg2, ev_neg, ev_isi, ev_isc, ev_sset, ev_lset, ev_attr, ev_rev, ev_bi, ev_ch, ev_tupS, ev_lstS, A.len, Nat.reduceAdd, Nat.reduceLeDiff, ev_dct0, ev_and, ev_or, ev_one, ev_not, ev_ife, ev_lc, ev_call, callE_ok, ev_callH, hotE_ok, ownE_own, ev_make, makE_ok, lstE_own, ev_app, ev_ext, extE_lst, ev_pop, ev_slE, sl1_tup, sl1_lst, sl1_frz, evP_no, evP_so, prtE_int, evA_nil, evA_cons, evB_nil, evB_cons, evN_nil, evN_cons, unsE_val, unsE_own, unsE_slot, evFz_eq, frz_val, frz_own, frz_dv, dat_dv, datA_dv, rd_valS, rd_ownS, frz_slot, frzE_own, frzE_val, evS_sq, evS_en, evS_zp, evS_rng1, evS_rng2, valE_eq, evS_sqT, evS_enT, evS_zpT, evC_yes, evC_so, tst_and, tst_or, tst_one, tst_not, tst_var, tst_bl, tst_bin, tst_cmp, tst_chain, tst_ix, tst_bi, tst_isi, tst_isc, tst_attr, tst_call, tst_callH, tEnd_bl, tEnd_int, tEnd_non, sr_ok, next_nx, next_rt, next_bk, next_ct, next_err, exs_nil, exs_cons, ex_pass, ex_brk, ex_cnt, ex_never, ex_expr, ex_ret, ex_retN, ex_ite, ex_asg, sl_val, sl_own, ex_par, putR_some, ex_asgT, ex_for, ex_whl, setIE_own, ex_setI, ex_setA, bind_ite, sr_ite, next_ite, fin_ite, ite_andS, ite_and2, ite_orS, ite_andT, ite_orT, fin_nx, fin_val, fin_own, fin_slot, finSl_own, finSl_val,
  wipeD, opEnd_eq, optR_some, rgE_eq, optS_some, sqE, enE, zpE, kindD, chE,
  List.nil_append, lapp, lget0, lgetS, lset0, lsetS, omap_some, omap_none, obind_some, obind_none, if_true, if_false, Bool.false_eq_true, isi_eq, isTy, Op.f, Cm.f, Bi.f,
  cmpI_int, ltD_int, addD_int, subD_int, negD_int, eqD_int, neD_int, eqD_bl, neD_bl, isD_bl, isD_non, lenD_lst, lenD_tup, lenD_frz, absD_int, intD_int, max2D_int, min2D_int, listD_tup, listD_lst, tupleD_lst, tupleD_tup, ixD_lst, ixD_tup, Bool.not_true, Bool.not_false, Bool.true_and, Bool.false_and, Bool.and_true, Bool.and_false, Bool.true_or, Bool.false_or, Bool.or_false, Bool.or_true])

section
variable (n : Nat) (hn : n ≤ 8) (ps : List (Int × Int)) (hv : VP n ps) (rows : List (List Int)) (hl : rows.length ≤ 6) (hr : ∀ r ∈ rows, RowS n r) (k : Nat) (hk : k ≤ 4)
include hn hv hl hr hk
theorem st6a (o : Ob) (s4 s8 s10 : DL.Slot) (h0 : shortAt (lists ps rows k) = []) : ex (.ite (.cmp .gt (.bi .len (.cons (.var 9) .nil)) (.int 0)) [.ret (.and (.cmp .is (.call "is_run" f_is_run (.cons (.var 7) (.cons (.var 3) (.cons (.var 2) (.cons (.bin .mul (.lst (.cons (.tup .nil) .nil)) (.bi .len (.cons (.var 2) .nil))) .nil))))) (.bl false)) (.one (.not (.call "can_run" f_can_run (.cons (.var 7) (.cons (.var 3) (.cons (.bin .add (.var 2) (.tup (.cons (.tup .nil) .nil))) .nil)))))))] []) [.own o, .val (specD n ps), .val (.tup (rows.map D.ints)), .val (.int (k : Int)), s4, .non, .non, .val (webD n ps), s8, .own (.lst ((shortAt (lists ps rows k)).map fun (a : Nat) => D.int (a : Int))), s10, .non, .non, .non, .non, .non] = .nx [.own o, .val (specD n ps), .val (.tup (rows.map D.ints)), .val (.int (k : Int)), s4, .non, .non, .val (webD n ps), s8, .own (.lst []), s10, .non, .non, .non, .non, .non] := by
  rw [h0, List.map_nil]
  have e : decide ((0 : Int) < (([] : List D).length : Nat)) = false := by decide
  repeat (first | simp only [e] | infer_instance)
theorem st6b (o : Ob) (s4 s8 s10 : DL.Slot) (h0 : shortAt (lists ps rows k) ≠ []) : ex (.ite (.cmp .gt (.bi .len (.cons (.var 9) .nil)) (.int 0)) [.ret (.and (.cmp .is (.call "is_run" f_is_run (.cons (.var 7) (.cons (.var 3) (.cons (.var 2) (.cons (.bin .mul (.lst (.cons (.tup .nil) .nil)) (.bi .len (.cons (.var 2) .nil))) .nil))))) (.bl false)) (.one (.not (.call "can_run" f_can_run (.cons (.var 7) (.cons (.var 3) (.cons (.bin .add (.var 2) (.tup (.cons (.tup .nil) .nil))) .nil)))))))] []) [.own o, .val (specD n ps), .val (.tup (rows.map D.ints)), .val (.int (k : Int)), s4, .non, .non, .val (webD n ps), s8, .own (.lst ((shortAt (lists ps rows k)).map fun (a : Nat) => D.int (a : Int))), s10, .non, .non, .non, .non, .non] = .rt (.val (.bl true)) [.own o, .val (specD n ps), .val (.tup (rows.map D.ints)), .val (.int (k : Int)), s4, .non, .non, .val (webD n ps), s8, .own (.lst ((shortAt (lists ps rows k)).map fun (a : Nat) => D.int (a : Int))), s10, .non, .non, .non, .non, .non] := by
  have hc : ∃ r ∈ rows, lotsL ps r k = [] := by
    apply Classical.byContradiction
    intro hne
    exact h0 (shortAt_nil.mpr fun c hc => by
      obtain ⟨r, hr', rfl⟩ := List.mem_map.mp hc
      exact fun h => hne ⟨r, hr', h⟩)
  obtain ⟨r, hrm, hr0⟩ := hc
  have e : decide ((0 : Int) < (((shortAt (lists ps rows k)).map fun (a : Nat) => D.int (a : Int)).length : Nat)) = true := by
    rw [decide_eq_true_eq, List.length_map]
    have := List.length_pos_iff.mpr h0
    omega
  have e2 : mulD [.lst [D.ints []], .int (rows.length : Int)] = _ := mul_one (by omega)
  have e3 : f_is_run [webD n ps, .int (k : Int), .tup (rows.map D.ints), .lst (List.replicate rows.length (D.ints []))] = .ok (.val (.bl false)) := by
    rw [rep_map, is_run_eq n ps k (by omega) rows (by omega) hr _ (plain3_lst plain2_crews), run_eq hv k rows (fun r h => (hr r h).1.1), runL_crews]
    have : ((rows.zip (List.replicate rows.length [])).all fun p => (p.2.length == k) && (lotsL ps p.1 k).contains p.2) = false := by
      rw [Bool.eq_false_iff]
      intro h
      obtain ⟨i, hi, hgi⟩ := List.getElem_of_mem hrm
      have hm : (rows[i], ([] : List Int)) ∈ rows.zip (List.replicate rows.length []) := by
        rw [List.mem_iff_getElem?]
        exact ⟨i, by rw [List.getElem?_zip_eq_some]; simp [hi]⟩
      have := List.all_eq_true.mp h _ hm
      rw [hgi, hr0, Bool.and_eq_true] at this
      exact absurd this.2 (by simp)
    rw [this, Bool.and_false]
  have e4 : addD [.tup (rows.map D.ints), .tup [.tup []]] = some (.val (.tup ((rows ++ [[]]).map D.ints))) := by
    rw [addD_tup (by rw [List.length_map, sizeLine_eq]; simp only [List.length_cons, List.length_nil]; omega), List.map_append]
    rfl
  have hr2 : ∀ q ∈ rows ++ [[]], RowS n q := fun q hq => by
    rcases List.mem_append.mp hq with hq | hq
    · exact hr q hq
    · rw [List.mem_singleton.mp hq]
      exact ⟨⟨rfl, rfl⟩, by simp⟩
  have e5 := can_run_eq n ps k (by omega) (rows ++ [[]]) (by rw [List.length_append]; simp only [List.length_cons, List.length_nil]; omega) hr2
  have e6 : (shortAt ((rows ++ [[]]).map fun r => lots ps r k)).isEmpty = false := by
    rw [Bool.eq_false_iff]
    intro h
    have := shortAt_nil.mp (List.isEmpty_iff.mp h) (lots ps r k) (List.mem_map.mpr ⟨r, List.mem_append_left _ hrm, rfl⟩)
    exact this (by rw [lots_eq hv r k, hr0])
  rw [e6] at e5
  have e3' := e3
  rw [D.ints, List.map_nil] at e2 e3'
  repeat (first | simp only [e, e2, e3', e4, e5, List.length_map, decide_true, Bool.xor_false] | infer_instance)
  rw [List.length_map] at e
  rw [if_pos e]
  rfl
theorem picks_len {α β : Type} {dn : List α} {cs : List β} (h : cs.length = dn.length) {R : α → β → Prop} (hz : ∀ p ∈ dn.zip cs, R p.1 p.2) {a : α} {c : β} (hac : R a c) : ∀ p ∈ (dn ++ [a]).zip (cs ++ [c]), R p.1 p.2 := fun p hp => by
  rw [List.zip_append h.symm] at hp
  rcases List.mem_append.mp hp with hp | hp
  · exact hz p hp
  · simp only [List.zip_cons_cons, List.zip_nil_right, List.mem_singleton] at hp
    rw [hp]
    exact hac
theorem st7 (o : Ob) (ho : HandOk o) (s4 s9 s10 : DL.Slot) (h0 : shortAt (lists ps rows k) = []) : ∃ (cs : List (List Int)) (o' : Ob), HandOk o' ∧ cs.length = rows.length ∧ (∀ p ∈ rows.zip cs, p.2 ∈ lotsL ps p.1 k) ∧
    ex (.asg 4 (.lc (.sq (.var 8)) [12] (.nm 12) .yes (.callH "_law_any" h__law_any 0 (.cons (.var 12) .nil)))) [.own o, .val (specD n ps), .val (.tup (rows.map D.ints)), .val (.int (k : Int)), s4, .non, .non, .val (webD n ps), .val (.lst ((lists ps rows k).map lotsD)), s9, s10, .non, .non, .non, .non, .non] = .nx [.own o', .val (specD n ps), .val (.tup (rows.map D.ints)), .val (.int (k : Int)), .own (.lst (cs.map D.ints)), .non, .non, .val (webD n ps), .val (.lst ((lists ps rows k).map lotsD)), s9, s10, .non, .non, .non, .non, .non] := by
  have hne := shortAt_nil.mp h0
  obtain ⟨acc, ρ', h1, cs, o2, ho2, rfl, hlen, hz, rfl⟩ := lcE_inv (fun r => lotsD (lotsL ps r k)) rows (fun dn acc ρ => ∃ (cs : List (List Int)) (o2 : Ob), HandOk o2 ∧ acc = cs.map D.ints ∧ cs.length = dn.length ∧ (∀ p ∈ dn.zip cs, p.2 ∈ lotsL ps p.1 k) ∧ ρ = [.own o2, .val (specD n ps), .val (.tup (rows.map D.ints)), .val (.int (k : Int)), s4, .non, .non, .val (webD n ps), .val (.lst (rows.map fun r => lotsD (lotsL ps r k))), s9, s10, .non, .non, .non, .non, .non])
    (s := Src.sq false (Dv.val (.lst (rows.map fun r => lotsD (lotsL ps r k))))) (vs := [12]) (t := .nm 12) (c := evC .yes) (e := evFz (ev (.callH "_law_any" h__law_any 0 (.cons (.var 12) .nil))))
    (ρ := [.own o, .val (specD n ps), .val (.tup (rows.map D.ints)), .val (.int (k : Int)), s4, .non, .non, .val (webD n ps), .val (.lst (rows.map fun r => lotsD (lotsL ps r k))), s9, s10, .non, .non, .non, .non, .non]) rfl (fun _ _ _ _ => rfl) ⟨[], o, ho, rfl, rfl, fun p hp => by simp at hp, rfl⟩ (fun dn r rest acc ρ eq hI => by
      obtain ⟨cs, o2, ho2, rfl, hlen, hz, rfl⟩ := hI
      have hrm : r ∈ rows := by rw [eq]; simp
      have hr0 : lotsL ps r k ≠ [] := hne _ (List.mem_map.mpr ⟨r, hrm, rfl⟩)
      have hsm := lots_small (ps := ps) (hr r hrm).2 hk
      obtain ⟨x, o3, hx, e1, ho3⟩ := any_eq o2 ho2 ((lotsL ps r k).map D.ints) (by rw [List.length_map]; exact List.length_pos_iff.mpr hr0) (by rw [List.length_map]; omega)
      obtain ⟨c, hc, rfl⟩ := List.mem_map.mp hx
      refine ⟨_, true, _, rfl, evC_yes, fun _ => ⟨D.ints c, [.own o3, .val (specD n ps), .val (.tup (rows.map D.ints)), .val (.int (k : Int)), s4, .non, .non, .val (webD n ps), .val (.lst (rows.map fun r => lotsD (lotsL ps r k))), s9, s10, .non, .val (lotsD (lotsL ps r k)), .non, .non, .non], ?_, cs ++ [c], o3, ho3, by rw [List.map_append]; rfl, by rw [List.length_append, List.length_append, hlen]; rfl, picks_len n hn ps hv rows hl hr k hk hlen (R := fun r c => c ∈ lotsL ps r k) hz hc, rfl⟩, fun h => by cases h⟩
      repeat (first | simp only [lotsD, e1] | infer_instance))
  refine ⟨cs, o2, ho2, hlen, hz, ?_⟩
  rw [show (lists ps rows k).map lotsD = rows.map fun r => lotsD (lotsL ps r k) by rw [lists, List.map_map]; rfl]
  infer_instance
  rw [h1]
  infer_instance
  rfl
end
end Lk79


set_option Elab.async false
set_option linter.all false
set_option maxRecDepth 100000
set_option maxHeartbeats 1000000
open PySem DL L2
namespace Lk79
local macro_rules | `(tactic| infer_instance) => `(tactic| simp only [bind_okS, bind_errS, datA_nil, datA_val, datA_own, datA_slot, dat_slot, dat_val, dat_own, slotD_val, slotD_own, obd_lst, obd_ins, obd_dct, dv_val, dv_own, varE_val, varE_own, ev_var, ev_gl, ev_int, ev_bl, ev_non, ev_str, ev_bin, ev_cmp, ev_ix, ev_rg1, ev_rg2, ev_neg, ev_isi, ev_isc, ev_sset, ev_lset, ev_attr, ev_rev, ev_bi, ev_ch, ev_tupS, ev_lstS, A.len, Nat.reduceAdd, Nat.reduceLeDiff, ev_dct0, ev_and, ev_or, ev_one, ev_not, ev_ife, ev_lc, ev_call, callE_ok, ev_callH, hotE_ok, ownE_own, ev_make, makE_ok, lstE_own, ev_app, ev_ext, extE_lst, ev_pop, ev_slE, sl1_tup, sl1_lst, sl1_frz, evP_no, evP_so, prtE_int, evA_nil, evA_cons, evB_nil, evB_cons, evN_nil, evN_cons, unsE_val, unsE_own, unsE_slot, evFz_eq, frz_val, frz_own, frz_dv, dat_dv, datA_dv, rd_valS, rd_ownS, frz_slot, frzE_own, frzE_val, evS_sq, evS_en, evS_zp, evS_rng1, evS_rng2, valE_eq, evS_sqT, evS_enT, evS_zpT, evC_yes, evC_so, tst_and, tst_or, tst_one, tst_not, tst_var, tst_bl, tst_bin, tst_cmp, tst_chain, tst_ix, tst_bi, tst_isi, tst_isc, tst_attr, tst_call, tst_callH, tEnd_bl, tEnd_int, tEnd_non, sr_ok, next_nx, next_rt, next_bk, next_ct, next_err, exs_nil, exs_cons, ex_pass, ex_brk, ex_cnt, ex_never, ex_expr, ex_ret, ex_retN, ex_ite, ex_asg, sl_val, sl_own, ex_par, putR_some, ex_asgT, ex_for, ex_whl, setIE_own, ex_setI, ex_setA, bind_ite, sr_ite, next_ite, fin_ite, ite_andS, ite_and2, ite_orS, ite_andT, ite_orT, fin_nx, fin_val, fin_own, fin_slot, finSl_own, finSl_val,
  wipeD, opEnd_eq, optR_some, rgE_eq, optS_some, sqE, enE, zpE, kindD, chE,
  List.nil_append, lapp, lget0, lgetS, lset0, lsetS, omap_some, omap_none, obind_some, obind_none, if_true, if_false, Bool.false_eq_true, isi_eq, isTy, Op.f, Cm.f, Bi.f,
  cmpI_int, ltD_int, addD_int, subD_int, negD_int, eqD_int, neD_int, eqD_bl, neD_bl, isD_bl, isD_non, lenD_lst, lenD_tup, lenD_frz, absD_int, intD_int, max2D_int, min2D_int, listD_tup, listD_lst, tupleD_lst, tupleD_tup, ixD_lst, ixD_tup, Bool.not_true, Bool.not_false, Bool.true_and, Bool.false_and, Bool.and_true, Bool.and_false, Bool.true_or, Bool.false_or, Bool.or_false, Bool.or_true])

theorem plain3_lst3 {cs : List (List Int)} : plain3 (.lst (cs.map D.ints)) = true := plain3_lst plain2_crews
section
variable (n : Nat) (hn : n ≤ 8) (ps : List (Int × Int)) (hv : VP n ps) (rows : List (List Int)) (hl : rows.length ≤ 6) (hr : ∀ r ∈ rows, RowS n r) (k : Nat) (hk : k ≤ 4)
include hn hv hl hr hk
theorem st8 (o : Ob) (ho : HandOk o) (s8 s9 s10 : DL.Slot) (cs : List (List Int)) (hcl : cs.length = rows.length) (hcs : ∀ c ∈ cs, c.length ≤ 5) : ∃ (o' : Ob) (s5 s11 : DL.Slot), HandOk o' ∧
    ex (.for_ (.sq (.bin .add (.lst (.cons (.var 4) .nil)) (.lc (.rng (.cons (.int 6) .nil)) [14] (.nm 14) .yes (.callH "_law_bent" h__law_bent 0 (.cons (.var 1) (.cons (.var 4) .nil)))))) (.nm 5) [.asg 11 (.call "is_run" f_is_run (.cons (.var 7) (.cons (.var 3) (.cons (.var 2) (.cons (.var 5) .nil))))), .ite (.or (.not (.isi .bool (.var 11))) (.one (.cmp .ne (.var 11) (.call "_law_is_run" f__law_is_run (.cons (.var 1) (.cons (.var 3) (.cons (.var 2) (.cons (.var 5) .nil)))))))) [.ret (.bl false)] []]) [.own o, .val (specD n ps), .val (.tup (rows.map D.ints)), .val (.int (k : Int)), .own (.lst (cs.map D.ints)), .non, .non, .val (webD n ps), s8, s9, s10, .non, .non, .non, .non, .non] = .nx [.own o', .val (specD n ps), .val (.tup (rows.map D.ints)), .val (.int (k : Int)), .val (.lst (cs.map D.ints)), s5, .non, .val (webD n ps), s8, s9, s10, s11, .non, .non, .non, .non] := by
  obtain ⟨acc, ρ', h1, o2, ho2, hacc, hal, rfl⟩ := lcE_inv (fun (i : Nat) => D.int (i : Int)) (List.range 6) (fun dn acc ρ => ∃ (o2 : Ob), HandOk o2 ∧ (∀ x ∈ acc, plain3 x = true) ∧ acc.length = dn.length ∧ ρ = [.own o2, .val (specD n ps), .val (.tup (rows.map D.ints)), .val (.int (k : Int)), .val (.lst (cs.map D.ints)), .non, .non, .val (webD n ps), s8, s9, s10, .non, .non, .non, .non, .non])
    (s := Src.rng 0 6) (vs := [14]) (t := .nm 14) (c := evC .yes) (e := evFz (ev (.callH "_law_bent" h__law_bent 0 (.cons (.var 1) (.cons (.var 4) .nil)))))
    (ρ := [.own o, .val (specD n ps), .val (.tup (rows.map D.ints)), .val (.int (k : Int)), .val (.lst (cs.map D.ints)), .non, .non, .val (webD n ps), s8, s9, s10, .non, .non, .non, .non, .non]) rng_items (fun _ _ _ _ => rng_items) ⟨o, ho, fun x hx => by simp at hx, rfl, rfl⟩ (fun dn i rest acc ρ eq hI => by
      obtain ⟨o2, ho2, hacc, hal, rfl⟩ := hI
      obtain ⟨d, o3, e1, hd, ho3⟩ := law_bent_eq o2 ho2 n ps cs (by omega) hcs
      refine ⟨_, true, _, rfl, evC_yes, fun _ => ⟨d, [.own o3, .val (specD n ps), .val (.tup (rows.map D.ints)), .val (.int (k : Int)), .val (.lst (cs.map D.ints)), .non, .non, .val (webD n ps), s8, s9, s10, .non, .non, .non, .val (.int (i : Int)), .non], ?_, o3, ho3, fun x hx => ?_, by rw [List.length_append, List.length_append, hal]; rfl, rfl⟩, fun h => by cases h⟩
      · repeat (first | simp only [e1] | infer_instance)
      · rcases List.mem_append.mp hx with hx | hx
        · exact hacc x hx
        · rw [List.mem_singleton.mp hx]
          exact hd)
  rw [List.length_range] at hal
  have e6 : rngS1 [.int 6] = some (.rng 0 6) := rng1_int (n := 6) (by omega)
  have e7 : addD [.lst [.lst (cs.map D.ints)], .lst acc] = some (.own (.lst (.lst (cs.map D.ints) :: acc))) := by
    rw [addD_lst (by rw [sizeLine_eq]; simp only [List.length_cons, List.length_nil]; omega)]
    rfl
  have hpl : ∀ x ∈ (D.lst (cs.map D.ints) :: acc), plain3 x = true := fun x hx => by
    rcases List.mem_cons.mp hx with rfl | hx
    · exact plain3_lst3
    · exact hacc x hx
  generalize (D.lst (cs.map D.ints) :: acc) = things at hpl e7
  have hbb : ∀ a : Bool, (a != a) = false := fun a => by cases a <;> rfl
  repeat (first | simp only [e6, h1, e7] | infer_instance)
  rw [forE_items rfl (show (Src.sq false (Dv.val (.lst things))).items _ = some things from rfl)]
  have hid : things = things.map id := (List.map_id _).symm
  rw [hid]
  generalize hfor : forGo _ _ _ _ = r
  obtain ⟨ρ', rfl, s5, s11, rfl⟩ := forGo_inv2 (enc := id) (fun dn ρ => ∃ s5 s11 : DL.Slot, ρ = [.own o2, .val (specD n ps), .val (.tup (rows.map D.ints)), .val (.int (k : Int)), .val (.lst (cs.map D.ints)), s5, .non, .val (webD n ps), s8, s9, s10, s11, .non, .non, .non, .non]) things hfor ⟨_, _, rfl⟩ (fun dn d rest ρ eq hI => by
    obtain ⟨s5, s11, rfl⟩ := hI
    have hd : plain3 d = true := hpl d (by rw [eq]; simp)
    have e1 := is_run_eq n ps k (by omega) rows (by omega) hr d hd
    have e2 := law_is_run_eq n ps k (by omega) rows (fun r h => (hr r h).2) d hd
    rw [run_eq hv k rows (fun r h => (hr r h).1.1)] at e1
    refine ⟨_, [.own o2, .val (specD n ps), .val (.tup (rows.map D.ints)), .val (.int (k : Int)), .val (.lst (cs.map D.ints)), .val d, .non, .val (webD n ps), s8, s9, s10, .val (.bl (runL ps k rows d)), .non, .non, .non, .non], rfl, .inl ?_, _, _, rfl⟩
    simp only [id]
    repeat (first | simp only [e1, e2, hbb] | infer_instance))
  exact ⟨o2, s5, s11, ho2, rfl⟩
theorem st9 (o : Ob) (ho : HandOk o) (s4 s5 s8 s9 s10 s11 : DL.Slot) : ∃ (rows' : List (List Int)) (o' : Ob), HandOk o' ∧ rows'.length = rows.length ∧ (∀ p ∈ rows.zip rows', RowS n p.2 ∧ ∀ x ∈ p.1, x ∈ p.2) ∧
    ex (.asg 6 (.bi .tuple (.cons (.lc (.sq (.var 2)) [13] (.nm 13) .yes (.ife (.cmp .eq (.callH "_law_draw" h__law_draw 0 (.cons (.int 2) .nil)) (.int 0)) (.bi .tuple (.cons (.rg1 false (.ix (.var 1) (.int 0))) .nil)) (.var 13))) .nil))) [.own o, .val (specD n ps), .val (.tup (rows.map D.ints)), .val (.int (k : Int)), s4, s5, .non, .val (webD n ps), s8, s9, s10, s11, .non, .non, .non, .non] = .nx [.own o', .val (specD n ps), .val (.tup (rows.map D.ints)), .val (.int (k : Int)), s4, s5, .val (.tup (rows'.map D.ints)), .val (webD n ps), s8, s9, s10, s11, .non, .non, .non, .non] := by
  have hall : RowS n ((List.range n).map fun (i : Nat) => (i : Int)) := asc_sub (.refl _) (by omega)
  obtain ⟨acc, ρ', h1, rows', o2, ho2, rfl, hlen, hz, rfl⟩ := lcE_inv D.ints rows (fun dn acc ρ => ∃ (rows' : List (List Int)) (o2 : Ob), HandOk o2 ∧ acc = rows'.map D.ints ∧ rows'.length = dn.length ∧ (∀ p ∈ dn.zip rows', RowS n p.2 ∧ ∀ x ∈ p.1, x ∈ p.2) ∧ ρ = [.own o2, .val (specD n ps), .val (.tup (rows.map D.ints)), .val (.int (k : Int)), s4, s5, .non, .val (webD n ps), s8, s9, s10, s11, .non, .non, .non, .non])
    (s := Src.sq true (Dv.val (.tup (rows.map D.ints)))) (vs := [13]) (t := .nm 13) (c := evC .yes) (e := evFz (ev (.ife (.cmp .eq (.callH "_law_draw" h__law_draw 0 (.cons (.int 2) .nil)) (.int 0)) (.bi .tuple (.cons (.rg1 false (.ix (.var 1) (.int 0))) .nil)) (.var 13))))
    (ρ := [.own o, .val (specD n ps), .val (.tup (rows.map D.ints)), .val (.int (k : Int)), s4, s5, .non, .val (webD n ps), s8, s9, s10, s11, .non, .non, .non, .non]) rfl (fun _ _ _ _ => rfl) ⟨[], o, ho, rfl, rfl, fun p hp => by simp at hp, rfl⟩ (fun dn r rest acc ρ eq hI => by
      obtain ⟨rows', o2, ho2, rfl, hlen, hz, rfl⟩ := hI
      have hrm : r ∈ rows := by rw [eq]; simp
      obtain ⟨x, o3, e1, hx1, hx2, ho3⟩ := draw_eq o2 ho2 2 (by omega) (by omega)
      have key : ∀ r', RowS n r' → (∀ x ∈ r, x ∈ r') → ∃ (rows'' : List (List Int)) (o4 : Ob), HandOk o4 ∧ rows'.map D.ints ++ [D.ints r'] = rows''.map D.ints ∧ rows''.length = (dn ++ [r]).length ∧ (∀ p ∈ (dn ++ [r]).zip rows'', RowS n p.2 ∧ ∀ x ∈ p.1, x ∈ p.2) ∧ wipeD [.own o3, .val (specD n ps), .val (.tup (rows.map D.ints)), .val (.int (k : Int)), s4, s5, .non, .val (webD n ps), s8, s9, s10, s11, .non, .val (D.ints r), .non, .non] [13] = [.own o4, .val (specD n ps), .val (.tup (rows.map D.ints)), .val (.int (k : Int)), s4, s5, .non, .val (webD n ps), s8, s9, s10, s11, .non, .non, .non, .non] := fun r' h1 h2 =>
        ⟨rows' ++ [r'], o3, ho3, by rw [List.map_append]; rfl, by rw [List.length_append, List.length_append, hlen]; rfl, picks_len n hn ps hv rows hl hr k hk hlen (R := fun r r' => RowS n r' ∧ ∀ x ∈ r, x ∈ r') hz ⟨h1, h2⟩, rfl⟩
      rcases Bool.eq_false_or_eq_true (x == 0) with h0 | h0
      · refine ⟨_, true, _, rfl, evC_yes, fun _ => ⟨D.ints ((List.range n).map fun (i : Nat) => (i : Int)), _, ?_, key _ hall fun x hx => ?_⟩, fun h => by cases h⟩
        · rw [specD]
          repeat (first | simp only [e1, h0, at0, rg1_nat n (by omega)] | infer_instance)
          rfl
        · have := (hr r hrm).1.1
          have := List.all_eq_true.mp this x hx
          simp only [inR, Bool.and_eq_true, decide_eq_true_eq] at this
          exact List.mem_map.mpr ⟨x.toNat, List.mem_range.mpr (by omega), by omega⟩
      · refine ⟨_, true, _, rfl, evC_yes, fun _ => ⟨D.ints r, _, ?_, key r (hr r hrm) fun x hx => hx⟩, fun h => by cases h⟩
        repeat (first | simp only [e1, h0] | infer_instance))
  refine ⟨rows', o2, ho2, hlen, hz, ?_⟩
  repeat (first | simp only [h1] | infer_instance)
  rfl
end
theorem days_right_eq (o : Ob) (ho : HandOk o) (n : Nat) (hn : n ≤ 8) (ps : List (Int × Int)) (hv : VP n ps) (rows : List (List Int)) (hl : rows.length ≤ 6) (hr : ∀ r ∈ rows, RowS n r) (k : Nat) (hk : k ≤ 4) : ∃ o', HandOk o' ∧ h__law_days_right o [specD n ps, .tup (rows.map D.ints), .int (k : Int)] = .ok (.val (.bl true), o') := by
  have hsm : ∀ c ∈ lists ps rows k, c.length ≤ 1048576 := fun c hc => by
    obtain ⟨r, hr', rfl⟩ := List.mem_map.mp hc
    have := lots_small (ps := ps) (hr r hr').2 hk
    omega
  rw [r__law_days_right, b__law_days_right, exs_cons, st0 n hn ps hv rows hl hr k hk o, next_nx, exs_cons, st1 n hn ps hv rows hl hr k hk, next_nx, exs_cons]
  obtain ⟨s4, e2⟩ := st2 n hn ps hv rows hl hr k hk o (.own (.ins "Web" (webF n ps))) (.own (.lst ((shortAt (lists ps rows k)).map fun (a : Nat) => D.int (a : Int)))) (lists ps rows k) hsm
  rw [e2, next_nx, exs_cons, st3 n hn ps hv rows hl hr k hk, next_nx, exs_cons, st4 n hn ps hv rows hl hr k hk, next_nx, exs_cons, st5 n hn ps hv rows hl hr k hk, next_nx, exs_cons]
  by_cases h0 : shortAt (lists ps rows k) = []
  · rw [st6a n hn ps hv rows hl hr k hk _ _ _ _ h0, next_nx, exs_cons]
    obtain ⟨cs, o1, ho1, hcl, hz, e7⟩ := st7 n hn ps hv rows hl hr k hk o ho s4 (.own (.lst [])) (.val (.int (prod ((lists ps rows k).map List.length) : Nat))) h0
    have hcs : ∀ c ∈ cs, c.length ≤ 5 := fun c hc => by
      obtain ⟨i, hi, rfl⟩ := List.getElem_of_mem hc
      have hm : (rows[i]'(by omega), cs[i]) ∈ rows.zip cs := by
        rw [List.mem_iff_getElem?]
        exact ⟨i, by rw [List.getElem?_zip_eq_some]; exact ⟨List.getElem?_eq_getElem _, List.getElem?_eq_getElem _⟩⟩
      have := lotsL_in ps _ k _ (hz _ hm)
      simp only at this
      omega
    obtain ⟨o2, s5, s11, ho2, e8⟩ := st8 n hn ps hv rows hl hr k hk o1 ho1 (.val (.lst ((lists ps rows k).map lotsD))) (.own (.lst [])) (.val (.int (prod ((lists ps rows k).map List.length) : Nat))) cs hcl hcs
    obtain ⟨rows', o3, ho3, hl3, hz3, e9⟩ := st9 n hn ps hv rows hl hr k hk o2 ho2 (.val (.lst (cs.map D.ints))) s5 (.val (.lst ((lists ps rows k).map lotsD))) (.own (.lst [])) (.val (.int (prod ((lists ps rows k).map List.length) : Nat))) s11
    rw [e7, next_nx, exs_cons, e8, next_nx, exs_cons, e9, next_nx, exs_cons]
    have hr3 : ∀ r ∈ rows', RowS n r := fun r hr' => by
      obtain ⟨i, hi, rfl⟩ := List.getElem_of_mem hr'
      have hm : (rows[i]'(by omega), rows'[i]) ∈ rows.zip rows' := by
        rw [List.mem_iff_getElem?]
        exact ⟨i, by rw [List.getElem?_zip_eq_some]; exact ⟨List.getElem?_eq_getElem _, List.getElem?_eq_getElem _⟩⟩
      exact (hz3 _ hm).1
    have hsome : ∀ p ∈ rows'.zip cs, p.2 ∈ lotsL ps p.1 k := fun p hp => by
      obtain ⟨i, hgi⟩ := List.mem_iff_getElem?.mp hp
      rw [List.getElem?_zip_eq_some] at hgi
      have hi1 : i < rows'.length := (List.getElem?_eq_some_iff.mp hgi.1).1
      have hi2 : i < cs.length := (List.getElem?_eq_some_iff.mp hgi.2).1
      have hm : (rows[i]'(by omega), p.1) ∈ rows.zip rows' := by
        rw [List.mem_iff_getElem?]
        exact ⟨i, by rw [List.getElem?_zip_eq_some]; exact ⟨List.getElem?_eq_getElem _, hgi.1⟩⟩
      have hm2 : (rows[i]'(by omega), p.2) ∈ rows.zip cs := by
        rw [List.mem_iff_getElem?]
        exact ⟨i, by rw [List.getElem?_zip_eq_some]; exact ⟨List.getElem?_eq_getElem _, hgi.2⟩⟩
      exact lots_mono hv (hz3 _ hm).2 (hz _ hm2)
    have e1 := isrun_true n ps hv rows' (by omega) hr3 k hk cs (by omega) hsome
    have e2 := can_run_eq n ps k (by omega) rows' (by omega) hr3
    have e3 : shortAt (rows'.map fun r => lots ps r k) = [] := shortAt_nil.mpr fun c hc => by
      obtain ⟨r, hr', rfl⟩ := List.mem_map.mp hc
      obtain ⟨i, hi, rfl⟩ := List.getElem_of_mem hr'
      have hm : (rows'[i], cs[i]'(by omega)) ∈ rows'.zip cs := by
        rw [List.mem_iff_getElem?]
        exact ⟨i, by rw [List.getElem?_zip_eq_some]; exact ⟨List.getElem?_eq_getElem _, List.getElem?_eq_getElem _⟩⟩
      rw [lots_eq hv]
      exact List.ne_nil_of_mem (hsome _ hm)
    rw [e3] at e2
    refine ⟨o3, ho3, ?_⟩
    repeat (first | simp only [e1, e2, List.isEmpty_nil, decide_true, Bool.xor_false, Bool.false_xor] | infer_instance)
    rfl
  · rw [st6b n hn ps hv rows hl hr k hk _ _ _ _ h0, next_rt]
    exact ⟨o, ho, rfl⟩
end Lk79


set_option Elab.async false
set_option linter.all false
set_option maxRecDepth 100000
set_option maxHeartbeats 1000000
open PySem DL L2
namespace Lk79
local macro_rules | `(tactic| infer_instance) => `(tactic| simp only [bind_okS, bind_errS, datA_nil, datA_val, datA_own, datA_slot, dat_slot, dat_val, dat_own, slotD_val, slotD_own, obd_lst, obd_ins, obd_dct, dv_val, dv_own, varE_val, varE_own, ev_var, ev_gl, ev_int, ev_bl, ev_non, ev_str, ev_bin, ev_cmp, ev_ix, ev_rg1, ev_rg2, ev_neg, ev_isi, ev_isc, ev_sset, ev_lset, ev_attr, ev_rev, ev_bi, ev_ch, ev_tupS, ev_lstS, A.len, Nat.reduceAdd, Nat.reduceLeDiff, ev_dct0, ev_and, ev_or, ev_one, ev_not, ev_ife, ev_lc, ev_call, callE_ok, ev_callH, hotE_ok, ownE_own, ev_make, makE_ok, lstE_own, ev_app, ev_ext, extE_lst, ev_pop, ev_slE, sl1_tup, sl1_lst, sl1_frz, evP_no, evP_so, prtE_int, evA_nil, evA_cons, evB_nil, evB_cons, evN_nil, evN_cons, unsE_val, unsE_own, unsE_slot, evFz_eq, frz_val, frz_own, frz_dv, dat_dv, datA_dv, rd_valS, rd_ownS, frz_slot, frzE_own, frzE_val, evS_sq, evS_en, evS_zp, evS_rng1, evS_rng2, valE_eq, evS_sqT, evS_enT, evS_zpT, evC_yes, evC_so, tst_and, tst_or, tst_one, tst_not, tst_var, tst_bl, tst_bin, tst_cmp, tst_chain, tst_ix, tst_bi, tst_isi, tst_isc, tst_attr, tst_call, tst_callH, tEnd_bl, tEnd_int, tEnd_non, sr_ok, next_nx, next_rt, next_bk, next_ct, next_err, exs_nil, exs_cons, ex_pass, ex_brk, ex_cnt, ex_never, ex_expr, ex_ret, ex_retN, ex_ite, ex_asg, sl_val, sl_own, ex_par, putR_some, ex_asgT, ex_for, ex_whl, setIE_own, ex_setI, ex_setA, bind_ite, sr_ite, next_ite, fin_ite, ite_andS, ite_and2, ite_orS, ite_andT, ite_orT, fin_nx, fin_val, fin_own, fin_slot, finSl_own, finSl_val,
  wipeD, opEnd_eq, optR_some, rgE_eq, optS_some, sqE, enE, zpE, kindD, chE,
  List.nil_append, lapp, lget0, lgetS, lset0, lsetS, omap_some, omap_none, obind_some, obind_none, if_true, if_false, Bool.false_eq_true, isi_eq, isTy, Op.f, Cm.f, Bi.f,
  cmpI_int, ltD_int, addD_int, subD_int, negD_int, eqD_int, neD_int, eqD_bl, neD_bl, isD_bl, isD_non, lenD_lst, lenD_tup, lenD_frz, absD_int, intD_int, max2D_int, min2D_int, listD_tup, listD_lst, tupleD_lst, tupleD_tup, ixD_lst, ixD_tup, Bool.not_true, Bool.not_false, Bool.true_and, Bool.false_and, Bool.and_true, Bool.and_false, Bool.true_or, Bool.false_or, Bool.or_false, Bool.or_true])

def pw : List (Int × Int) := [(0, 1), (1, 2), (2, 3)]
theorem pw_ok : VP 4 pw := vp_of (by decide)
theorem rows_ok {n : Nat} {rows : List (List Int)} (h : (rows.all fun r => r.all (inR n) && ascB r && decide (r.length ≤ 16)) = true) : ∀ r ∈ rows, RowS n r := fun r hr => by
  have := List.all_eq_true.mp h r hr
  rw [Bool.and_eq_true, Bool.and_eq_true, decide_eq_true_eq] at this
  exact ⟨this.1, this.2⟩
theorem c1 : f_short_day [webD 4 pw, .int 2, .tup [.tup [.int 0, .int 2], .tup [.int 0, .int 1], .tup []]] = .ok (.val (.int 1)) := by
  have e := short_day_eq 4 pw 2 (by omega) [[0, 2], [0, 1], []] (by decide) (rows_ok (by decide))
  have : shortAt (([[0, 2], [0, 1], []] : List (List Int)).map fun r => lots pw r 2) = [1, 2] := by decide
  rw [this] at e
  exact e
theorem c2 : f_can_run [webD 4 pw, .int 1, .tup []] = .ok (.val (.bl true)) := can_run_eq 4 pw 1 (by omega) [] (by decide) (rows_ok (by decide))
theorem c3 : f_is_run [webD 4 pw, .int 3, .tup [], .lst []] = .ok (.val (.bl true)) := is_run_eq 4 pw 3 (by omega) [] (by decide) (rows_ok (by decide)) (.lst []) rfl
theorem c4 : f_is_run [webD 4 pw, .int 1, .tup [.tup [.int 0, .int 1], .tup [.int 2]], .lst [.tup [.int 1], .tup [.int 2]]] = .ok (.val (.bl true)) := isrun_true 4 pw pw_ok [[0, 1], [2]] (by decide) (rows_ok (by decide)) 1 (by omega) [[1], [2]] rfl (by decide)
theorem c5 : f_is_run [webD 4 pw, .int 1, .tup [.tup [.int 0, .int 1]], .lst [.tup [.int 2]]] = .ok (.val (.bl false)) := by
  have e := is_run_eq 4 pw 1 (by omega) [[0, 1]] (by decide) (rows_ok (by decide)) (.lst ([[2]].map D.ints)) (plain3_lst plain2_crews)
  rw [run_eq pw_ok 1 [[0, 1]] (by decide), runL_crews] at e
  exact e
theorem law_true (ns : List Int) (h : ns.length ≤ 63) : f_law [.frz (ns.map D.int)] = .ok (.val (.bl true)) := by
  obtain ⟨o, e0, ho⟩ := law_hand_eq ns
  have eW : h_Web (.ins "Web" []) [.int 4, .tup [.tup [.int 0, .int 1], .tup [.int 1, .int 2], .tup [.int 2, .int 3]]] = .ok (.val .non, .ins "Web" (webF 4 pw)) := Web_eq 4 pw (by omega) pw_ok
  have hne : ∀ a : Int, (a != a) = false := fun a => by simp
  rw [r_law, b_law]
  repeat (first | simp only [e0, eW] | infer_instance)
  rw [show D.ins "Web" (webF 4 pw) = webD 4 pw from rfl]
  repeat (first | simp only [c1, c2, c3, c4, c5, hne, decide_true, Bool.xor_true, Bool.xor_false, Bool.true_xor] | infer_instance)
  rw [show rngS1 [.int 4] = some (.rng 0 4) from rng1_int (n := 4) (by omega)]
  infer_instance
  rw [forE_items rfl rng_items]
  generalize hfor : forGo _ _ _ _ = r
  obtain ⟨ρ', rfl, o', s3, s4, s5, s6, ho', rfl⟩ := forGo_inv2 (fun dn ρ => ∃ (o' : Ob) (s3 s4 s5 s6 : DL.Slot), HandOk o' ∧ ρ = [.val (.frz (ns.map D.int)), .own o', .val (webD 4 pw), s3, s4, s5, s6]) (List.range 4) hfor ⟨_, _, _, _, _, ho, rfl⟩ (fun dn i rest ρ eq hI => by
    obtain ⟨o', s3, s4, s5, s6, ho', rfl⟩ := hI
    obtain ⟨m, o1, e1, hm1, hm2, ho1⟩ := draw_eq o' ho' 8 (by omega) (by omega)
    obtain ⟨n, rfl⟩ := Int.eq_ofNat_of_zero_le hm1
    obtain ⟨ps, o2, e2, hv, ho2⟩ := law_web_eq o1 ho1 n (by omega)
    obtain ⟨rows, o3, e3, hl, hr, ho3⟩ := law_days_eq o2 ho2 n (by omega) ps
    obtain ⟨m, o4, e4, hk1, hk2, ho4⟩ := draw_eq o3 ho3 5 (by omega) (by omega)
    obtain ⟨k, rfl⟩ := Int.eq_ofNat_of_zero_le hk1
    obtain ⟨o5, ho5, e5⟩ := days_right_eq o4 ho4 n (by omega) ps hv rows hl hr k (by omega)
    have e6 := one_right_eq n (by omega) ps hv rows hl hr k (by omega)
    refine ⟨_, [.val (.frz (ns.map D.int)), .own o5, .val (webD 4 pw), .val (.int (i : Int)), .val (specD n ps), .val (.tup (rows.map D.ints)), .val (.int (k : Int))], rfl, .inl ?_, o5, _, _, _, _, ho5, rfl⟩
    repeat (first | simp only [e1, e2, e3, e4, par2 (α := Nat), putAll_cons, putAll_nil, e5, e6] | infer_instance))
  infer_instance
end Lk79


set_option Elab.async false
set_option linter.all false
set_option maxRecDepth 100000
open PySem PySem.W PyProof.Rows L2
set_option maxRecDepth 100000 in
set_option maxHeartbeats 0 in
theorem PySem.Challenge.cw_calmcrews_k79_whole_runs_over_days_holds : PySem.Challenge.rw_calmcrews_k79_whole_runs_over_days.Holds := by
  w_on; o_law; k_head; (case hw => w_witness2)
  k_fill
  refine DL.law_walk (l := PySem.Challenge.rw_calmcrews_k79_whole_runs_over_days) (st := Lk79.top 47) (g := Lk79.f_law) (m := 63) (k := 9) rfl (by decide) rfl ⟨rfl, by decide, by decide⟩ (fun w h Y => PySem.W.kIn_of Y) rfl Lk79.law_true ?F
  case F =>
  intro w mg h KX G
  refine' Lk79.fin ⟨?bn, ?d__law_hand, ?d_is_integer, ?d_is_within, ?d_is_clash_form, ?d_row_of, ?d_met_by, ?d_Web, ?d_check_web, ?d_check_size, ?d_are_below, ?d_is_row, ?d_check_days, ?d_short_of, ?d_clashes_with, ?d_lots_calm, ?d_choices, ?d_short_day, ?d_can_run, ?d_is_calm, ?d_is_among, ?d_is_right_run, ?d_is_run, ?d__law_draw, ?d__law_any, ?d__law_web, ?d__law_days, ?d__law_fits, ?d__law_crews_of, ?d_count_runs, ?d__law_bent, ?d__law_is_crew_of, ?d__law_is_run, ?d__law_days_right, ?d__law_one_right, ?d_law, ?g_MOST_DAYS, ?g_MOST_PERSONS, ?a_Web_clashes, ?a_Web_persons, ?a_Web_rows, ?i_Web⟩
  (case bn => exact DL.bn_of (PySem.W.mg_none_of KX G (by k_is)) (PySem.W.mg_none_of KX G (by k_is)) (PySem.W.mg_none_of KX G (by k_is)) (PySem.W.mg_none_of KX G (by k_is)) (PySem.W.mg_none_of KX G (by k_is)) (PySem.W.mg_none_of KX G (by k_is)) (PySem.W.mg_none_of KX G (by k_is)) (PySem.W.mg_none_of KX G (by k_is)) (PySem.W.mg_none_of KX G (by k_is)) (PySem.W.mg_none_of KX G (by k_is)) (PySem.W.mg_none_of KX G (by k_is)) (PySem.W.mg_none_of KX G (by k_is)) (PySem.W.mg_none_of KX G (by k_is)) (PySem.W.mg_none_of KX G (by k_is)) (PySem.W.mg_none_of KX G (by k_is)) (PySem.W.mg_none_of KX G (by k_is)) (PySem.W.mg_none_of KX G (by k_is)) (PySem.W.mg_none_of KX G (by k_is)) (PySem.W.mg_none_of KX G (by k_is)))
  (case d__law_hand => refine' DL.def_at KX G ?a ?l ?c ?k ?b; (case a => k_is); (case l => k_is); (case c => k_is); (case k => k_is); (case b => intro us hl; match us, hl with | [_], _ => rfl))
  (case d_is_integer => refine' DL.def_at KX G ?a ?l ?c ?k ?b; (case a => k_is); (case l => k_is); (case c => k_is); (case k => k_is); (case b => intro us hl; match us, hl with | [_], _ => rfl))
  (case d_is_within => refine' DL.def_at KX G ?a ?l ?c ?k ?b; (case a => k_is); (case l => k_is); (case c => k_is); (case k => k_is); (case b => intro us hl; match us, hl with | [_, _, _], _ => rfl))
  (case d_is_clash_form => refine' DL.def_at KX G ?a ?l ?c ?k ?b; (case a => k_is); (case l => k_is); (case c => k_is); (case k => k_is); (case b => intro us hl; match us, hl with | [_, _], _ => rfl))
  (case d_row_of => refine' DL.def_at KX G ?a ?l ?c ?k ?b; (case a => k_is); (case l => k_is); (case c => k_is); (case k => k_is); (case b => intro us hl; match us, hl with | [_], _ => rfl))
  (case d_met_by => refine' DL.def_at KX G ?a ?l ?c ?k ?b; (case a => k_is); (case l => k_is); (case c => k_is); (case k => k_is); (case b => intro us hl; match us, hl with | [_, _], _ => rfl))
  (case d_Web => refine' DL.cls_at KX G ?a ?i ?fn ?l ?c ?k ?pg ?hd ?po ?sa ?mk ?kc ?b; (case a => k_is); (case i => k_is); (case fn => k_is); (case l => k_is); (case c => k_is); (case k => k_is); (case pg => k_is); (case hd => k_is); (case po => k_is); (case sa => k_is); (case mk => k_is); (case kc => k_is); (case b => intro us hl; match us, hl with | [_, _, _], _ => rfl))
  (case d_check_web => refine' DL.def_at KX G ?a ?l ?c ?k ?b; (case a => k_is); (case l => k_is); (case c => k_is); (case k => k_is); (case b => intro us hl; match us, hl with | [_], _ => rfl))
  (case d_check_size => refine' DL.def_at KX G ?a ?l ?c ?k ?b; (case a => k_is); (case l => k_is); (case c => k_is); (case k => k_is); (case b => intro us hl; match us, hl with | [_, _], _ => rfl))
  (case d_are_below => refine' DL.def_at KX G ?a ?l ?c ?k ?b; (case a => k_is); (case l => k_is); (case c => k_is); (case k => k_is); (case b => intro us hl; match us, hl with | [_, _], _ => rfl))
  (case d_is_row => refine' DL.def_at KX G ?a ?l ?c ?k ?b; (case a => k_is); (case l => k_is); (case c => k_is); (case k => k_is); (case b => intro us hl; match us, hl with | [_, _], _ => rfl))
  (case d_check_days => refine' DL.def_at KX G ?a ?l ?c ?k ?b; (case a => k_is); (case l => k_is); (case c => k_is); (case k => k_is); (case b => intro us hl; match us, hl with | [_, _, _], _ => rfl))
  (case d_short_of => refine' DL.def_at KX G ?a ?l ?c ?k ?b; (case a => k_is); (case l => k_is); (case c => k_is); (case k => k_is); (case b => intro us hl; match us, hl with | [_], _ => rfl))
  (case d_clashes_with => refine' DL.def_at KX G ?a ?l ?c ?k ?b; (case a => k_is); (case l => k_is); (case c => k_is); (case k => k_is); (case b => intro us hl; match us, hl with | [_, _, _], _ => rfl))
  (case d_lots_calm => refine' DL.def_at KX G ?a ?l ?c ?k ?b; (case a => k_is); (case l => k_is); (case c => k_is); (case k => k_is); (case b => intro us hl; match us, hl with | [_, _, _], _ => rfl))
  (case d_choices => refine' DL.def_at KX G ?a ?l ?c ?k ?b; (case a => k_is); (case l => k_is); (case c => k_is); (case k => k_is); (case b => intro us hl; match us, hl with | [_, _, _], _ => rfl))
  (case d_short_day => refine' DL.def_at KX G ?a ?l ?c ?k ?b; (case a => k_is); (case l => k_is); (case c => k_is); (case k => k_is); (case b => intro us hl; match us, hl with | [_, _, _], _ => rfl))
  (case d_can_run => refine' DL.def_at KX G ?a ?l ?c ?k ?b; (case a => k_is); (case l => k_is); (case c => k_is); (case k => k_is); (case b => intro us hl; match us, hl with | [_, _, _], _ => rfl))
  (case d_is_calm => refine' DL.def_at KX G ?a ?l ?c ?k ?b; (case a => k_is); (case l => k_is); (case c => k_is); (case k => k_is); (case b => intro us hl; match us, hl with | [_, _], _ => rfl))
  (case d_is_among => refine' DL.def_at KX G ?a ?l ?c ?k ?b; (case a => k_is); (case l => k_is); (case c => k_is); (case k => k_is); (case b => intro us hl; match us, hl with | [_, _], _ => rfl))
  (case d_is_right_run => refine' DL.def_at KX G ?a ?l ?c ?k ?b; (case a => k_is); (case l => k_is); (case c => k_is); (case k => k_is); (case b => intro us hl; match us, hl with | [_, _, _, _], _ => rfl))
  (case d_is_run => refine' DL.def_at KX G ?a ?l ?c ?k ?b; (case a => k_is); (case l => k_is); (case c => k_is); (case k => k_is); (case b => intro us hl; match us, hl with | [_, _, _, _], _ => rfl))
  (case d__law_draw => refine' DL.def_at KX G ?a ?l ?c ?k ?b; (case a => k_is); (case l => k_is); (case c => k_is); (case k => k_is); (case b => intro us hl; match us, hl with | [_, _], _ => rfl))
  (case d__law_any => refine' DL.def_at KX G ?a ?l ?c ?k ?b; (case a => k_is); (case l => k_is); (case c => k_is); (case k => k_is); (case b => intro us hl; match us, hl with | [_, _], _ => rfl))
  (case d__law_web => refine' DL.def_at KX G ?a ?l ?c ?k ?b; (case a => k_is); (case l => k_is); (case c => k_is); (case k => k_is); (case b => intro us hl; match us, hl with | [_, _], _ => rfl))
  (case d__law_days => refine' DL.def_at KX G ?a ?l ?c ?k ?b; (case a => k_is); (case l => k_is); (case c => k_is); (case k => k_is); (case b => intro us hl; match us, hl with | [_, _], _ => rfl))
  (case d__law_fits => refine' DL.def_at KX G ?a ?l ?c ?k ?b; (case a => k_is); (case l => k_is); (case c => k_is); (case k => k_is); (case b => intro us hl; match us, hl with | [_, _, _], _ => rfl))
  (case d__law_crews_of => refine' DL.def_at KX G ?a ?l ?c ?k ?b; (case a => k_is); (case l => k_is); (case c => k_is); (case k => k_is); (case b => intro us hl; match us, hl with | [_, _, _], _ => rfl))
  (case d_count_runs => refine' DL.def_at KX G ?a ?l ?c ?k ?b; (case a => k_is); (case l => k_is); (case c => k_is); (case k => k_is); (case b => intro us hl; match us, hl with | [_, _, _], _ => rfl))
  (case d__law_bent => refine' DL.def_at KX G ?a ?l ?c ?k ?b; (case a => k_is); (case l => k_is); (case c => k_is); (case k => k_is); (case b => intro us hl; match us, hl with | [_, _, _], _ => rfl))
  (case d__law_is_crew_of => refine' DL.def_at KX G ?a ?l ?c ?k ?b; (case a => k_is); (case l => k_is); (case c => k_is); (case k => k_is); (case b => intro us hl; match us, hl with | [_, _, _, _], _ => rfl))
  (case d__law_is_run => refine' DL.def_at KX G ?a ?l ?c ?k ?b; (case a => k_is); (case l => k_is); (case c => k_is); (case k => k_is); (case b => intro us hl; match us, hl with | [_, _, _, _], _ => rfl))
  (case d__law_days_right => refine' DL.def_at KX G ?a ?l ?c ?k ?b; (case a => k_is); (case l => k_is); (case c => k_is); (case k => k_is); (case b => intro us hl; match us, hl with | [_, _, _, _], _ => rfl))
  (case d__law_one_right => refine' DL.def_at KX G ?a ?l ?c ?k ?b; (case a => k_is); (case l => k_is); (case c => k_is); (case k => k_is); (case b => intro us hl; match us, hl with | [_, _, _], _ => rfl))
  (case d_law => refine' DL.def_at KX G ?a ?l ?c ?k ?b; (case a => k_is); (case l => k_is); (case c => k_is); (case k => k_is); (case b => intro us hl; match us, hl with | [_], _ => rfl))
  (case g_MOST_DAYS => refine' DL.gl_int KX G ?a; (case a => k_is))
  (case g_MOST_PERSONS => refine' DL.gl_int KX G ?a; (case a => k_is))
  (case a_Web_clashes => refine' DL.no_at KX G ?a ?i; (case a => k_is); (case i => k_is))
  (case a_Web_persons => refine' DL.no_at KX G ?a ?i; (case a => k_is); (case i => k_is))
  (case a_Web_rows => refine' DL.no_at KX G ?a ?i; (case a => k_is); (case i => k_is))
  (case i_Web => refine' DL.ic_at KX G ?a ?h1 ?h2 ?h3 ?h4 ?t1 ?t2 ?t3 ?t4 ?t5 ?t6 ?t7; (case a => k_is); (case h1 => k_is); (case h2 => k_is); (case h3 => k_is); (case h4 => k_is); (case t1 => kit_is); (case t2 => kit_is); (case t3 => kit_is); (case t4 => kit_is); (case t5 => kit_is); (case t6 => kit_is); (case t7 => kit_is))

