import PyProof.Rows.All
import HandS.ForMost
import HandS.Flow
import HandS.Style
import HandS.TupAny
import HandS.Wide
import HandS.TupMul
import HandS.TupLe
import HandS.IsInst
import KE.DataEq
import KE.DataCmp
import HandS.Dict
import HandS.Text
import HandS.Codes
import KE.SortData
import HandS.Conv
import KE.DataMinMax
import HandS.More
import HandS.Defaults
import HandS.Iter
import HandS.Zip
import HandS.Rev
import HandS.Comp
import HandS.SortInts
import HandS.SetFor
import HandS.Deep
import PyProof.AutoSeq1
import Wide.All
import OpenK.AllK
import Wide.FinOn
import KE.KStateDown
import HandS.Base
import HandS.Call
import HandS.Ends
import HandS.Words
import HandS.WordsExc
import HandS.Head0
import HandS.Head1
import HandS.Head2
import HandS.HeadEnd
import HandS.HeadHook1
import HandS.HeadHook2
import HandS.EndBits
import PySem.Challenge.RW_whocame_k75_whole_rooms_in_common
set_option Elab.async false
set_option linter.all false
set_option maxRecDepth 100000
set_option maxHeartbeats 0
/-! Ev: pure values, an environment of owned slots, and what it is for the machine's state to bear them. -/
namespace Ev
open PySem PySem.Spec PyProof.Rows L2

/-- a plain value -/
inductive Val where
  | non | bl (b : Bool) | int (i : Int) | str (s : Str)
  | tup (xs : List Val) | lst (xs : List Val)
  | dK (kvs : List (Key × Val)) | dT (kvs : List (List Key × Val))
  | scr (ns : List Int)
  | ktup (xs : List Val)
  | fn (n : Str)

abbrev MG := Str → Option Value

mutual
/-- the value v of the machine, over what is frozen at Z, is x -/
inductive Rl (K : PySem.W.Frag) (mg : MG) (Z : Hp) : V → Val → Prop
  | non : Rl K mg Z .non .non
  | bl (b : Bool) : Rl K mg Z (.bl b) (.bl b)
  | int (i : Int) : Rl K mg Z (.int i) (.int i)
  | str (s : Str) : Rl K mg Z (.str s) (.str s)
  | tup {a : Addr} {vs : List V} {xs : List Val} : Z a = some (.tup vs) → Rls K mg Z vs xs → Rl K mg Z (.ref a) (.tup xs)
  | ktup {a : Addr} {vs : List V} {xs : List Val} : SqT K Z a vs → Rls K mg Z vs xs → Rl K mg Z (.ref a) (.ktup xs)
  | lst {a : Addr} {vs : List V} {xs : List Val} : Z a = some (.lst vs) → Rls K mg Z vs xs → Rl K mg Z (.ref a) (.lst xs)
  | dK {a : Addr} {kvs : List (Key × V)} {kxs : List (Key × Val)} : Z a = some (.dK kvs) → kvs.map (·.1) = kxs.map (·.1) → Rls K mg Z (kvs.map (·.2)) (kxs.map (·.2)) → Rl K mg Z (.ref a) (.dK kxs)
  | dT {a : Addr} {kvs : List (List Key × V)} {kxs : List (List Key × Val)} : Z a = some (.dT kvs) → kvs.map (·.1) = kxs.map (·.1) → Rls K mg Z (kvs.map (·.2)) (kxs.map (·.2)) → Rl K mg Z (.ref a) (.dT kxs)
  | scr {a : Addr} {ns : List Int} : SqL K Z a (ns.map V.int) → Rl K mg Z (.ref a) (.scr ns)
  | fn {a : Addr} {n : Str} : mg n = some (.ref a) → PySem.W.keepIn K (.ref a) = true → Rl K mg Z (.ref a) (.fn n)
inductive Rls (K : PySem.W.Frag) (mg : MG) (Z : Hp) : List V → List Val → Prop
  | nil : Rls K mg Z [] []
  | cons {v : V} {x : Val} {vs : List V} {xs : List Val} : Rl K mg Z v x → Rls K mg Z vs xs → Rls K mg Z (v :: vs) (x :: xs)
end

theorem seqT_mono {K : PySem.W.Frag} {H H' : Hp} {a : Addr} {xs : List V} (e : Same H H') (h : SqT K H a xs) : SqT K H' a xs := by
  rcases h with (h | ⟨o, h⟩) | h
  · exact .inl (.inl (e _ _ h))
  · exact .inl (.inr ⟨o, e _ _ h⟩)
  · exact .inr h

section
variable {K : PySem.W.Frag} {mg : MG} {Z Z' : Hp}
mutual
theorem Rl.mono (e : Same Z Z') : ∀ {v : V} {x : Val}, Rl K mg Z v x → Rl K mg Z' v x
  | _, _, .non => .non
  | _, _, .bl b => .bl b
  | _, _, .int i => .int i
  | _, _, .str s => .str s
  | _, _, .tup h r => .tup (e _ _ h) (Rls.mono e r)
  | _, _, .ktup h r => .ktup (seqT_mono e h) (Rls.mono e r)
  | _, _, .lst h r => .lst (e _ _ h) (Rls.mono e r)
  | _, _, .dK h k r => .dK (e _ _ h) k (Rls.mono e r)
  | _, _, .dT h k r => .dT (e _ _ h) k (Rls.mono e r)
  | _, _, .scr h => .scr (e.seq h)
  | _, _, .fn h k => .fn h k
theorem Rls.mono (e : Same Z Z') : ∀ {vs : List V} {xs : List Val}, Rls K mg Z vs xs → Rls K mg Z' vs xs
  | _, _, .nil => .nil
  | _, _, .cons h t => .cons (Rl.mono e h) (Rls.mono e t)
end
theorem Rls.length : ∀ {vs : List V} {xs : List Val}, Rls K mg Z vs xs → vs.length = xs.length
  | _, _, .nil => rfl
  | _, _, .cons _ t => by rw [List.length_cons, List.length_cons, Rls.length t]
theorem Rls.get : ∀ {vs : List V} {xs : List Val} {i : Nat} {x : Val}, Rls K mg Z vs xs → xs[i]? = some x → ∃ v, vs[i]? = some v ∧ Rl K mg Z v x
  | _, _, _, _, .nil, e => by simp at e
  | _, _, 0, _, .cons r _, e => by simp at e; subst e; exact ⟨_, rfl, r⟩
  | _, _, i + 1, x, .cons _ t, e => by
    obtain ⟨u, h1, h2⟩ := Rls.get (i := i) (x := x) t (by simpa using e)
    exact ⟨u, by simpa using h1, h2⟩
theorem Rls.get' : ∀ {vs : List V} {xs : List Val} {i : Nat} {v : V}, Rls K mg Z vs xs → vs[i]? = some v → ∃ x, xs[i]? = some x ∧ Rl K mg Z v x
  | _, _, _, _, .nil, e => by simp at e
  | _, _, 0, _, .cons r _, e => by simp at e; subst e; exact ⟨_, rfl, r⟩
  | _, _, i + 1, x, .cons _ t, e => by
    obtain ⟨u, h1, h2⟩ := Rls.get' (i := i) (v := x) t (by simpa using e)
    exact ⟨u, by simpa using h1, h2⟩
theorem Rls.append : ∀ {vs ws : List V} {xs ys : List Val}, Rls K mg Z vs xs → Rls K mg Z ws ys → Rls K mg Z (vs ++ ws) (xs ++ ys)
  | _, _, _, _, .nil, s => s
  | _, _, _, _, .cons r t, s => .cons r (Rls.append t s)
theorem Rls.one {v : V} {x : Val} (r : Rl K mg Z v x) : Rls K mg Z [v] [x] := .cons r .nil
theorem Rls.set {v : V} {x : Val} (r : Rl K mg Z v x) : ∀ {vs : List V} {xs : List Val} (i : Nat), Rls K mg Z vs xs → Rls K mg Z (vs.set i v) (xs.set i x)
  | _, _, _, .nil => .nil
  | _, _, 0, .cons _ t => .cons r t
  | _, _, i + 1, .cons q t => .cons q (Rls.set r i t)
theorem Rls.take : ∀ {vs : List V} {xs : List Val} (n : Nat), Rls K mg Z vs xs → Rls K mg Z (vs.take n) (xs.take n)
  | _, _, 0, _ => by simp; exact .nil
  | _, _, _ + 1, .nil => .nil
  | _, _, n + 1, .cons r t => .cons r (Rls.take n t)
theorem Rls.drop : ∀ {vs : List V} {xs : List Val} (n : Nat), Rls K mg Z vs xs → Rls K mg Z (vs.drop n) (xs.drop n)
  | _, _, 0, r => r
  | _, _, _ + 1, .nil => .nil
  | _, _, n + 1, .cons _ t => Rls.drop n t
theorem Rls.eraseIdx : ∀ {vs : List V} {xs : List Val} (n : Nat), Rls K mg Z vs xs → Rls K mg Z (vs.eraseIdx n) (xs.eraseIdx n)
  | _, _, _, .nil => .nil
  | _, _, 0, .cons r t => t
  | _, _, n + 1, .cons r t => .cons r (Rls.eraseIdx n t)
theorem Rls.reverse : ∀ {vs : List V} {xs : List Val}, Rls K mg Z vs xs → Rls K mg Z vs.reverse xs.reverse
  | _, _, .nil => .nil
  | _, _, .cons r t => by
    rw [List.reverse_cons, List.reverse_cons]
    exact (Rls.reverse t).append (.one r)
theorem Rls.dropLast {vs : List V} {xs : List Val} (r : Rls K mg Z vs xs) : Rls K mg Z vs.dropLast xs.dropLast := by
  rw [List.dropLast_eq_take, List.dropLast_eq_take, r.length]
  exact r.take _
theorem Rls.ints : ∀ (ns : List Int), Rls K mg Z (ns.map V.int) (ns.map Val.int)
  | [] => .nil
  | n :: ns => .cons (.int n) (Rls.ints ns)
theorem Rls.of_ints : ∀ {vs : List V} {ns : List Int}, Rls K mg Z vs (ns.map Val.int) → vs = ns.map V.int
  | _, [], h => by cases h; rfl
  | _, n :: ns, h => by
    cases h with
    | cons r t =>
      cases r
      rw [Rls.of_ints t]
      rfl
end

/-! ### slots -/
inductive Sl where
  | no
  | fz (x : Val)
  | own (xs : List Val)
  | own2 (xss : List (List Val))
  | odK (kxs : List (Key × Val))
  | odT (kxs : List (List Key × Val))
  | lck (xs : List Val)
  | box (cells : List Int) (d s : Int)
  | par (xs : List Val)

abbrev Env := List Sl
/-- what may not change: things, and the addresses at some slots -/
structure Lk where
  hp : Hp
  fx : Nat → Option Addr
  lk : Nat → Option Addr
  wf : ∀ j a, lk j = some a → hp a ≠ none
instance : CoeFun Lk fun _ => Hp := ⟨Lk.hp⟩
instance : Coe Lk Hp := ⟨Lk.hp⟩
abbrev Lab := Addr → Option (Nat × Nat)

/-- the children of a list of owned lists -/
inductive Own2 (K : PySem.W.Frag) (mg : MG) (Z H : Hp) (O : Lab) (i : Nat) : Nat → List Addr → List (List Val) → Prop
  | nil {k : Nat} : Own2 K mg Z H O i k [] []
  | cons {k : Nat} {b : Addr} {ws : List V} {xs : List Val} {bs : List Addr} {xss : List (List Val)} : O b = some (i, k + 1) → H b = some (.lst ws) → Rls K mg Z ws xs → Own2 K mg Z H O i (k + 1) bs xss → Own2 K mg Z H O i k (b :: bs) (xs :: xss)

def SlotR (K : PySem.W.Frag) (mg : MG) (Z H : Hp) (O : Lab) (C : Lk) (i : Nat) (v : Option (Option V)) : Sl → Prop
  | .no => True
  | .fz x => ∃ u, v = some (some u) ∧ Rl K mg Z u x
  | .own xs => ∃ a vs, v = some (some (.ref a)) ∧ O a = some (i, 0) ∧ H a = some (.lst vs) ∧ Rls K mg Z vs xs
  | .par xs => ∃ a vs, v = some (some (.ref a)) ∧ O a = some (i, 0) ∧ H a = some (.lst vs) ∧ Rls K mg Z vs xs ∧ C.fx i = some a
  | .own2 xss => ∃ a bs, v = some (some (.ref a)) ∧ O a = some (i, 0) ∧ H a = some (.lst (bs.map V.ref)) ∧ Own2 K mg Z H O i 0 bs xss
  | .odK kxs => ∃ a kvs, v = some (some (.ref a)) ∧ O a = some (i, 0) ∧ H a = some (.dK kvs) ∧ kvs.map (·.1) = kxs.map (·.1) ∧ Rls K mg Z (kvs.map (·.2)) (kxs.map (·.2))
  | .odT kxs => ∃ a kvs, v = some (some (.ref a)) ∧ O a = some (i, 0) ∧ H a = some (.dT kvs) ∧ kvs.map (·.1) = kxs.map (·.1) ∧ Rls K mg Z (kvs.map (·.2)) (kxs.map (·.2))
  | .lck xs => ∃ a vs, v = some (some (.ref a)) ∧ C a = some (.lst vs) ∧ Rls K mg Z vs xs ∧ C.lk i = some a
  | .box cells d s => ∃ a c, v = some (some (.ref a)) ∧ O a = some (i, 0) ∧ O c = some (i, 1) ∧ H a = some (.lst [.ref c, .int d, .int s]) ∧ H c = some (.lst (cells.map V.int))

/-- the state bears the environment -/
structure EnvR (K : PySem.W.Frag) (mg : MG) (Z H : Hp) (O : Lab) (C : Lk) (σ : L2.St) (ρ : Env) : Prop where
  len : ρ.length = σ.length
  zh : Same Z H
  ch : Same C H
  oz : ∀ b, O b ≠ none → Z b = none ∧ C b = none ∧ H b ≠ none
  ob : ∀ b i q, O b = some (i, q) → i < ρ.length
  sl : ∀ i s, ρ[i]? = some s → SlotR K mg Z H O C i σ[i]? s

structure Ext (Z H : Hp) (O : Lab) (Z' H' : Hp) (O' : Lab) : Prop where
  z : Same Z Z'
  h : ∀ b o, H b = some o → O b = none → H' b = some o ∧ O' b = none
  t : ∀ b, H b ≠ none → H' b ≠ none
  o : ∀ b i q, O' b = some (i, q) → H b = none ∨ ∃ q', O b = some (i, q')
  zn : ∀ b, Z' b ≠ none → Z b ≠ none ∨ H b = none ∨ O b ≠ none

theorem Ext.refl (Z H : Hp) (O : Lab) : Ext Z H O Z H O := ⟨Same.refl Z, fun _ _ h1 h2 => ⟨h1, h2⟩, fun _ h => h, fun _ _ q h => .inr ⟨q, h⟩, fun _ h => .inl h⟩
theorem Ext.trans {Z H : Hp} {O : Lab} {Z1 H1 : Hp} {O1 : Lab} {Z2 H2 : Hp} {O2 : Lab} (a : Ext Z H O Z1 H1 O1) (b : Ext Z1 H1 O1 Z2 H2 O2) : Ext Z H O Z2 H2 O2 where
  z := a.z.trans b.z
  h := fun c o h1 h2 => let ⟨h3, h4⟩ := a.h c o h1 h2; b.h c o h3 h4
  t := fun c h => b.t c (a.t c h)
  o := fun c i q h => by
    rcases b.o c i q h with h1 | ⟨q', h1⟩
    · left
      cases e : H c with
      | none => rfl
      | some o => exact absurd h1 (a.t c (by rw [e]; simp))
    · exact a.o c i q' h1
  zn := fun c h => by
    rcases b.zn c h with h1 | h1 | h1
    · exact a.zn c h1
    · refine .inr (.inl ?_)
      cases e : H c with
      | none => rfl
      | some o => exact absurd h1 (a.t c (by rw [e]; simp))
    · obtain ⟨⟨i, q⟩, hp⟩ := Option.ne_none_iff_exists'.mp h1
      rcases a.o c i q hp with h2 | ⟨q', h2⟩
      · exact .inr (.inl h2)
      · exact .inr (.inr (by rw [h2]; simp))

/-- nothing but new things -/
structure Grow (Z H Z' H' : Hp) : Prop where
  z : Same Z Z'
  h : Same H H'
  zh : Same Z' H'
  zn : ∀ b, Z' b ≠ none → Z b ≠ none ∨ H b = none
theorem Grow.refl {Z H : Hp} (h : Same Z H) : Grow Z H Z H := ⟨Same.refl Z, Same.refl H, h, fun _ h => .inl h⟩
theorem Grow.trans {Z H Z1 H1 Z2 H2 : Hp} (a : Grow Z H Z1 H1) (b : Grow Z1 H1 Z2 H2) : Grow Z H Z2 H2 where
  z := a.z.trans b.z
  h := a.h.trans b.h
  zh := b.zh
  zn := fun c h => by
    rcases b.zn c h with h1 | h1
    · exact a.zn c h1
    · exact .inr (a.h.free h1)
theorem Grow.ext {Z H Z' H' : Hp} {O : Lab} (g : Grow Z H Z' H') : Ext Z H O Z' H' O :=
  ⟨g.z, fun b o h1 h2 => ⟨g.h b o h1, h2⟩, fun b h => by
    cases e : H b with
    | none => exact absurd e h
    | some o => rw [g.h b o e]; simp, fun _ _ q h => .inr ⟨q, h⟩, fun b h => (g.zn b h).elim .inl fun h => .inr (.inl h)⟩
theorem same_upd {H : Hp} {p : Addr} {o : HO} (h : H p = none) : Same H (upd H p o) := fun b x e => by
  rw [upd_ne (ne_of_none e h)]
  exact e
/-- a new thing, frozen -/
theorem Grow.newZ {Z H : Hp} {p : Addr} {o : HO} (zh : Same Z H) (h : H p = none) : Grow Z H (upd Z p o) (upd H p o) where
  z := same_upd (zh.free h)
  h := same_upd h
  zh := fun b u e => by
    by_cases hb : b = p
    · subst hb; rw [upd_same] at e ⊢; exact e
    · rw [upd_ne hb] at e ⊢; exact zh b u e
  zn := fun b hb => by
    by_cases e : b = p
    · subst e; exact .inr h
    · rw [upd_ne e] at hb; exact .inl hb
/-- a new thing, not frozen -/
theorem Grow.newH {Z H : Hp} {p : Addr} {o : HO} (zh : Same Z H) (h : H p = none) : Grow Z H Z (upd H p o) :=
  ⟨Same.refl Z, same_upd h, zh.trans (same_upd h), fun _ h => .inl h⟩

section
variable {K : PySem.W.Frag} {mg : MG} {Z H Z' H' : Hp} {O O' : Lab} {C : Lk} {σ : L2.St} {ρ : Env}
theorem Own2.mono {i : Nat} : ∀ {k : Nat} {bs : List Addr} {xss : List (List Val)}, Own2 K mg Z H O i k bs xss → Same Z Z' → (∀ b q, O b = some (i, q) → H' b = H b ∧ O' b = some (i, q)) → Own2 K mg Z' H' O' i k bs xss
  | _, _, _, .nil, _, _ => .nil
  | _, _, _, .cons h1 h2 h3 h4, hz, hh => .cons (hh _ _ h1).2 (by rw [(hh _ _ h1).1]; exact h2) (h3.mono hz) (h4.mono hz hh)
/-- a slot whose own things stand -/
theorem SlotR.keep {i : Nat} {v : Option (Option V)} {s : Sl} (h : SlotR K mg Z H O C i v s) (hz : Same Z Z') (hh : ∀ b q, O b = some (i, q) → H' b = H b ∧ O' b = some (i, q)) : SlotR K mg Z' H' O' C i v s := by
  cases s with
  | no => trivial
  | fz x => obtain ⟨u, e, r⟩ := h; exact ⟨u, e, r.mono hz⟩
  | own xs => obtain ⟨a, vs, e, o, m, r⟩ := h; exact ⟨a, vs, e, (hh a 0 o).2, by rw [(hh a 0 o).1]; exact m, r.mono hz⟩
  | par xs => obtain ⟨a, vs, e, o, m, r, fx⟩ := h; exact ⟨a, vs, e, (hh a 0 o).2, by rw [(hh a 0 o).1]; exact m, r.mono hz, fx⟩
  | own2 xss => obtain ⟨a, bs, e, o, m, r⟩ := h; exact ⟨a, bs, e, (hh a 0 o).2, by rw [(hh a 0 o).1]; exact m, r.mono hz hh⟩
  | odK kxs => obtain ⟨a, kvs, e, o, m, k, r⟩ := h; exact ⟨a, kvs, e, (hh a 0 o).2, by rw [(hh a 0 o).1]; exact m, k, r.mono hz⟩
  | odT kxs => obtain ⟨a, kvs, e, o, m, k, r⟩ := h; exact ⟨a, kvs, e, (hh a 0 o).2, by rw [(hh a 0 o).1]; exact m, k, r.mono hz⟩
  | lck xs => obtain ⟨a, vs, e, m, r, fx⟩ := h; exact ⟨a, vs, e, m, r.mono hz, fx⟩
  | box cells d s =>
    obtain ⟨a, c, e, o1, o2, m1, m2⟩ := h
    exact ⟨a, c, e, (hh a 0 o1).2, (hh c 1 o2).2, by rw [(hh a 0 o1).1]; exact m1, by rw [(hh c 1 o2).1]; exact m2⟩
theorem EnvR.grow (R : EnvR K mg Z H O C σ ρ) (g : Grow Z H Z' H') : EnvR K mg Z' H' O C σ ρ where
  len := R.len
  zh := g.zh
  ch := R.ch.trans g.h
  oz := fun b hb => by
    obtain ⟨h1, h2, h3⟩ := R.oz b hb
    refine ⟨?_, h2, ?_⟩
    · cases e : Z' b with
      | none => rfl
      | some o =>
        rcases g.zn b (by rw [e]; simp) with h | h
        · exact absurd h1 h
        · exact absurd h h3
    · cases e : H b with
      | none => exact absurd e h3
      | some o => rw [g.h b o e]; simp
  ob := R.ob
  sl := fun i s e => (R.sl i s e).keep g.z fun b q hb => ⟨by
    obtain ⟨_, _, h3⟩ := R.oz b (by rw [hb]; simp)
    cases e : H b with
    | none => exact absurd e h3
    | some o => rw [g.h b o e], hb⟩
theorem EnvR.lt (R : EnvR K mg Z H O C σ ρ) {i : Nat} {s : Sl} (e : ρ[i]? = some s) : i < σ.length := by
  rw [← R.len]; exact (List.getElem?_eq_some_iff.mp e).1
end

/-! ### outcomes -/
inductive Out (α : Type) where
  | ok (a : α)
  | exc (e : Val)
  | bad
def Out.bind {α β : Type} (x : Out α) (f : α → Out β) : Out β := match x with
  | .ok a => f a
  | .exc e => .exc e
  | .bad => .bad
theorem Out.bind_ok {α β : Type} {x : Out α} {f : α → Out β} {b : β} (h : x.bind f = .ok b) : ∃ a, x = .ok a ∧ f a = .ok b := by
  cases x with
  | ok a => exact ⟨a, rfl, h⟩
  | exc e => cases h
  | bad => cases h
def Out.of {α : Type} : Option α → Out α
  | some a => .ok a
  | none => .bad
theorem Out.of_ok {α : Type} {x : Option α} {a : α} (h : Out.of x = .ok a) : x = some a := by
  cases x with
  | none => cases h
  | some b => cases h; rfl

/-- what an operand is: a value, or a slot that is read when the operation comes -/
inductive Hd where
  | val (x : Val)
  | slot (i : Nat)
abbrev DH := Env → Out (Hd × Env)
abbrev DV := Env → Out (Val × Env)
abbrev DT := Env → Out (Bool × Env)
abbrev DA := Env → Out (List Hd × Env)
abbrev DO := Env → Out (Sl × Env)

def Sl.view : Sl → Option Val
  | .fz x => some x
  | .own xs => some (.lst xs)
  | .odK k => some (.dK k)
  | .odT k => some (.dT k)
  | .lck xs => some (.lst xs)
  | .par xs => some (.lst xs)
  | _ => none
def deref (ρ : Env) : Hd → Option Val
  | .val x => some x
  | .slot i => match ρ[i]? with
    | some s => s.view
    | none => none

/-- v may be read as x now: frozen, or its top alone is not -/
inductive BorR (K : PySem.W.Frag) (mg : MG) (Z H : Hp) : V → Val → Prop
  | fz {v : V} {x : Val} : Rl K mg Z v x → BorR K mg Z H v x
  | lst {a : Addr} {vs : List V} {xs : List Val} : H a = some (.lst vs) → Rls K mg Z vs xs → BorR K mg Z H (.ref a) (.lst xs)
  | dK {a : Addr} {kvs : List (Key × V)} {kxs : List (Key × Val)} : H a = some (.dK kvs) → kvs.map (·.1) = kxs.map (·.1) → Rls K mg Z (kvs.map (·.2)) (kxs.map (·.2)) → BorR K mg Z H (.ref a) (.dK kxs)
  | dT {a : Addr} {kvs : List (List Key × V)} {kxs : List (List Key × Val)} : H a = some (.dT kvs) → kvs.map (·.1) = kxs.map (·.1) → Rls K mg Z (kvs.map (·.2)) (kxs.map (·.2)) → BorR K mg Z H (.ref a) (.dT kxs)

def HdR (K : PySem.W.Frag) (mg : MG) (Z : Hp) (σ : L2.St) (v : V) : Hd → Prop
  | .val x => Rl K mg Z v x
  | .slot i => σ[i]? = some (some v)
theorem HdR.mono {K : PySem.W.Frag} {mg : MG} {Z Z' : Hp} {σ : L2.St} {v : V} {h : Hd} (r : HdR K mg Z σ v h) (z : Same Z Z') : HdR K mg Z' σ v h := by
  cases h with
  | val x => exact Rl.mono z r
  | slot i => exact r

theorem deref_bor {K : PySem.W.Frag} {mg : MG} {Z H : Hp} {O : Lab} {C : Lk} {σ : L2.St} {ρ : Env} {v : V} {h : Hd} {x : Val} (R : EnvR K mg Z H O C σ ρ) (r : HdR K mg Z σ v h) (e : deref ρ h = some x) : BorR K mg Z H v x := by
  cases h with
  | val y => cases e; exact .fz r
  | slot i =>
    have r : σ[i]? = some (some v) := r
    unfold deref at e
    cases q : ρ[i]? with
    | none => simp only [q] at e; cases e
    | some s =>
      simp only [q] at e
      have z := R.sl i s q
      rw [r] at z
      cases s with
      | no => cases e
      | fz y => cases e; obtain ⟨u, e1, q⟩ := z; cases e1; exact .fz q
      | own xs => cases e; obtain ⟨a, vs, e1, _, m, q⟩ := z; cases e1; exact .lst m q
      | own2 _ => cases e
      | par xs => cases e; obtain ⟨a, vs, e1, _, m, q, _⟩ := z; cases e1; exact .lst m q
      | odK k => cases e; obtain ⟨a, vs, e1, _, m, q1, q⟩ := z; cases e1; exact .dK m q1 q
      | odT k => cases e; obtain ⟨a, vs, e1, _, m, q1, q⟩ := z; cases e1; exact .dT m q1 q
      | lck xs => cases e; obtain ⟨a, vs, e1, m, q, _⟩ := z; cases e1; exact .lst (R.ch _ _ m) q
      | box _ _ _ => cases e

/-! ### the judgements' readings -/
def TH (K : PySem.W.Frag) (mg : MG) (d : DH) : TE := fun σ H Q => ∃ Z O C ρ, EnvR K mg Z H O C σ ρ ∧ ∃ h ρ', d ρ = .ok (h, ρ') ∧
  ∀ v H' Z' O', Ext Z H O Z' H' O' → EnvR K mg Z' H' O' C σ ρ' → HdR K mg Z' σ v h → Q v H'
def TV (K : PySem.W.Frag) (mg : MG) (d : DV) : TE := fun σ H Q => ∃ Z O C ρ, EnvR K mg Z H O C σ ρ ∧ ∃ x ρ', d ρ = .ok (x, ρ') ∧
  ∀ v H' Z' O', Ext Z H O Z' H' O' → EnvR K mg Z' H' O' C σ ρ' → Rl K mg Z' v x → Q v H'
def TTt (K : PySem.W.Frag) (mg : MG) (d : DT) : TT := fun σ H Q => ∃ Z O C ρ, EnvR K mg Z H O C σ ρ ∧ ∃ b ρ', d ρ = .ok (b, ρ') ∧
  ∀ H' Z' O', Ext Z H O Z' H' O' → EnvR K mg Z' H' O' C σ ρ' → Q b H'
inductive HdRs (K : PySem.W.Frag) (mg : MG) (Z : Hp) (σ : L2.St) : List V → List Hd → Prop
  | nil : HdRs K mg Z σ [] []
  | cons {v : V} {h : Hd} {vs : List V} {hs : List Hd} : HdR K mg Z σ v h → HdRs K mg Z σ vs hs → HdRs K mg Z σ (v :: vs) (h :: hs)
theorem HdRs.mono {K : PySem.W.Frag} {mg : MG} {Z Z' : Hp} {σ : L2.St} (z : Same Z Z') : ∀ {vs : List V} {hs : List Hd}, HdRs K mg Z σ vs hs → HdRs K mg Z' σ vs hs
  | _, _, .nil => .nil
  | _, _, .cons r t => .cons (r.mono z) (HdRs.mono z t)
def TAs (K : PySem.W.Frag) (mg : MG) (d : DA) : TA := fun σ H Q => ∃ Z O C ρ, EnvR K mg Z H O C σ ρ ∧ ∃ hs ρ', d ρ = .ok (hs, ρ') ∧
  ∀ vs H' Z' O', Ext Z H O Z' H' O' → EnvR K mg Z' H' O' C σ ρ' → HdRs K mg Z' σ vs hs → Q vs H'

theorem PE.imp {X : Cx} {e : Expr} {t t' : TE} (h : PE X e t) (i : ∀ σ H Q, t' σ H Q → t σ H Q) : PE X e t' := ⟨fun pins s σ H Q I q => h.run pins s σ H Q I (i σ H Q q)⟩
theorem PT.imp {X : Cx} {e : Expr} {t t' : TT} (h : PT X e t) (i : ∀ σ H Q, t' σ H Q → t σ H Q) : PT X e t' := ⟨fun pins s σ H Q I q => h.run pins s σ H Q I (i σ H Q q)⟩
theorem PW.imp {X : Cx} {e : Expr} {t t' : TT} (h : PW X e t) (i : ∀ σ H Q, t' σ H Q → t σ H Q) : PW X e t' := ⟨fun wh pins s σ H Q I q => h.run wh pins s σ H Q I (i σ H Q q)⟩
theorem PA.imp {X : Cx} {es : List Expr} {t t' : TA} (h : PA X es t) (i : ∀ σ H Q, t' σ H Q → t σ H Q) : PA X es t' := ⟨fun pos pins s σ H Q I q => h.run pos pins s σ H Q I (i σ H Q q)⟩
theorem PS.imp {X : Cx} {e : Stmt} {t t' : TS} (h : PS X e t) (i : ∀ D σ H, t' D σ H → t D σ H) : PS X e t' := ⟨fun pins s σ H Q I q => h.run pins s σ H Q I (i Q σ H q)⟩
theorem PSs.imp {X : Cx} {e : List Stmt} {t t' : TS} (h : PSs X e t) (i : ∀ D σ H, t' D σ H → t D σ H) : PSs X e t' := ⟨fun pins s σ H Q I q => h.run pins s σ H Q I (i Q σ H q)⟩
theorem OpR.imp {X : Cx} {f : Value → Value → Sem Value} {r r' : R2} (h : OpR X f r) (i : ∀ x y H Q, r' x y H Q → r x y H Q) : OpR X f r' := fun pins s σ H x y v u Q I r1 r2 q => h pins s σ H x y v u Q I r1 r2 (i x y H Q q)
theorem IxR.imp {X : Cx} {r r' : R2} (h : IxR X r) (i : ∀ x y H Q, r' x y H Q → r x y H Q) : IxR X r' := fun va sl pins s σ H x y v u Q I r1 r2 q hs => h va sl pins s σ H x y v u Q I r1 r2 (i x y H Q q) hs
theorem SlR.imp {X : Cx} {r r' : V → Option Int → Option Int → Hp → VK → Prop} (h : SlR X r) (i : ∀ x lo hi H Q, r' x lo hi H Q → r x lo hi H Q) : SlR X r' := fun pins s σ H x v vl vu lo hi sl Q I r1 r2 p1 p2 q => h pins s σ H x v vl vu lo hi sl Q I r1 r2 p1 p2 (i x lo hi H Q q)
theorem MtR.imp {X : Cx} {id : String} {r r' : V → List V → Hp → VK → Prop} (h : MtR X id r) (i : ∀ x xs H Q, r' x xs H Q → r x xs H Q) : MtR X id r' := fun pins s σ H x xs v us Q I r1 r2 q => h pins s σ H x xs v us Q I r1 r2 (i x xs H Q q)
theorem CallR.imp {X : Cx} {f : Value} {r r' : List V → Hp → VK → Prop} (h : CallR X f r) (i : ∀ xs H Q, r' xs H Q → r xs H Q) : CallR X f r' := fun pins s σ H xs us Q I r1 q => h pins s σ H xs us Q I r1 (i xs H Q q)

abbrev PH (X : Cx) (e : Expr) (d : DH) : Prop := PE X e (TH X.K X.mg d)
abbrev PV (X : Cx) (e : Expr) (d : DV) : Prop := PE X e (TV X.K X.mg d)
abbrev PTt (X : Cx) (e : Expr) (d : DT) : Prop := PT X e (TTt X.K X.mg d)
abbrev PWt (X : Cx) (e : Expr) (d : DT) : Prop := PW X e (TTt X.K X.mg d)
abbrev PAs (X : Cx) (es : List Expr) (d : DA) : Prop := PA X es (TAs X.K X.mg d)

/-- a value as an operand -/
def dHV (d : DV) : DH := fun ρ => (d ρ).bind fun p => .ok (.val p.1, p.2)
theorem ph_of {X : Cx} {e : Expr} {d : DV} (h : PV X e d) : PH X e (dHV d) := PE.imp h fun σ H Q ⟨Z, O, C, ρ, R, x, ρ', q, k⟩ => by
  obtain ⟨⟨y, ρ1⟩, e1, e2⟩ := Out.bind_ok q
  cases e2
  exact ⟨Z, O, C, ρ, R, y, ρ1, e1, fun v H' Z' O' ex R' r => k v H' Z' O' ex R' r⟩

/-! ### names, constants -/
def dVar (i : Nat) : DH := fun ρ => match ρ[i]? with
  | some (.fz x) => .ok (.val x, ρ)
  | some (.own _) => .ok (.slot i, ρ)
  | some (.par _) => .ok (.slot i, ρ)
  | some (.odK _) => .ok (.slot i, ρ)
  | some (.odT _) => .ok (.slot i, ρ)
  | some (.lck _) => .ok (.slot i, ρ)
  | some (.box _ _ _) => .ok (.slot i, ρ)
  | some (.own2 _) => .ok (.slot i, ρ)
  | _ => .bad
theorem ph_var {X : Cx} {i : Nat} {x : Str} {pos : Pos} (hN : X.N[i]? = some x := by rfl) (hv : Vis X.env.scope x := by first | exact Or.inl rfl | exact Or.inr (Or.inl rfl) | exact Or.inr (Or.inr rfl)) (hd : (x == ("__debug__" : Str)) = false := by decide)
    (hcd : (x == ("__classdict__" : Str)) = false := by decide) : PH X (.Name x pos) (dVar i) := PE.imp (pe_var hN hv hd hcd) fun σ H Q ⟨Z, O, C, ρ, R, h, ρ', q, k⟩ => by
  have key : ∀ v, σ[i]? = some (some v) → h = .slot i → ρ = ρ' → ∃ v, σ[i]? = some (some v) ∧ Q v H := fun v e1 e2 e3 => ⟨v, e1, k v H Z O (Ext.refl _ _ _) (e3 ▸ R) (by rw [e2]; exact e1)⟩
  unfold dVar at q
  cases e : ρ[i]? with
  | none => simp only [e] at q; cases q
  | some s =>
    have z := R.sl i s e
    simp only [e] at q
    cases s with
    | no => cases q
    | fz y =>
      cases q
      obtain ⟨u, e1, r⟩ := z
      exact ⟨u, e1, k u H Z O (Ext.refl _ _ _) R r⟩
    | own _ => cases q; obtain ⟨a, vs, e1, _⟩ := z; exact key _ e1 rfl rfl
    | par _ => cases q; obtain ⟨a, vs, e1, _⟩ := z; exact key _ e1 rfl rfl
    | own2 _ => cases q; obtain ⟨a, vs, e1, _⟩ := z; exact key _ e1 rfl rfl
    | odK _ => cases q; obtain ⟨a, vs, e1, _⟩ := z; exact key _ e1 rfl rfl
    | odT _ => cases q; obtain ⟨a, vs, e1, _⟩ := z; exact key _ e1 rfl rfl
    | lck _ => cases q; obtain ⟨a, vs, e1, _⟩ := z; exact key _ e1 rfl rfl
    | box _ _ _ => cases q; obtain ⟨a, vs, e1, _⟩ := z; exact key _ e1 rfl rfl
def dC (x : Val) : DV := fun ρ => .ok (x, ρ)
theorem pv_con {X : Cx} {e : Expr} {v : V} {x : Val} (h : PE X e (tC v)) (r : ∀ Z, Rl X.K X.mg Z v x) : PV X e (dC x) := PE.imp h fun σ H Q ⟨Z, O, C, ρ, R, y, ρ', q, k⟩ => by
  cases q
  exact k v H Z O (Ext.refl _ _ _) R (r Z)
theorem pv_int {X : Cx} {i j pos} : PV X (.Constant (.int i) j pos) (dC (.int i)) := pv_con pe_int fun _ => .int i
theorem pv_bl {X : Cx} {b j pos} : PV X (.Constant (.bool b) j pos) (dC (.bl b)) := pv_con pe_bl fun _ => .bl b
theorem pv_non {X : Cx} {j pos} : PV X (.Constant .none j pos) (dC .non) := pv_con pe_non fun _ => .non
theorem pv_str {X : Cx} {s j pos} : PV X (.Constant (.str s) j pos) (dC (.str s)) := pv_con pe_str fun _ => .str s
theorem pv_gint {X : Cx} {x : Str} {i : Int} {pos : Pos} (hg : Gl X x) (hm : ∃ t, X.mg x = some (.int i t)) (hd : (x == ("__debug__" : Str)) = false := by decide) : PV X (.Name x pos) (dC (.int i)) := by
  obtain ⟨t, hm⟩ := hm
  exact pv_con (pe_glob (v := .int i) hg hm ⟨t, rfl⟩ hd) fun _ => .int i
theorem pv_gstr {X : Cx} {x : Str} {i : Str} {pos : Pos} (hg : Gl X x) (hm : ∃ t, X.mg x = some (.str i t)) (hd : (x == ("__debug__" : Str)) = false := by decide) : PV X (.Name x pos) (dC (.str i)) := by
  obtain ⟨t, hm⟩ := hm
  exact pv_con (pe_glob (v := .str i) hg hm ⟨t, rfl⟩ hd) fun _ => .str i

/-! ### a slot used as a value: it is frozen -/
def frOf : Sl → Option Val
  | .fz x => some x
  | .own xs => some (.lst xs)
  | .own2 xss => some (.lst (xss.map Val.lst))
  | .odK k => some (.dK k)
  | .odT k => some (.dT k)
  | _ => none
/-- an operand taken as a value -/
def takeV (h : Hd) (ρ : Env) : Option (Val × Env) := match h with
  | .val x => some (x, ρ)
  | .slot i => match ρ[i]? with
    | some s => match frOf s with
      | some x => some (x, ρ.set i (.fz x))
      | none => none
    | none => none
/-- all of slot i is frozen -/
def frZ (i : Nat) (Z H : Hp) (O : Lab) : Hp := fun b => match O b with
  | some (j, _) => if j = i then H b else Z b
  | none => Z b
def frO (i : Nat) (O : Lab) : Lab := fun b => match O b with
  | some (j, q) => if j = i then none else some (j, q)
  | none => none
theorem frZ_at {i : Nat} {Z H : Hp} {O : Lab} {b : Addr} {q : Nat} (h : O b = some (i, q)) : frZ i Z H O b = H b := by unfold frZ; rw [h]; simp
theorem frZ_ne {i : Nat} {Z H : Hp} {O : Lab} {b : Addr} (h : ∀ q, O b ≠ some (i, q)) : frZ i Z H O b = Z b := by
  unfold frZ
  cases e : O b with
  | none => rfl
  | some p =>
    obtain ⟨j, q⟩ := p
    have : j ≠ i := fun z => h q (by rw [e, z])
    simp [this]
theorem frO_some {i : Nat} {O : Lab} {b : Addr} {j q : Nat} (h : frO i O b = some (j, q)) : O b = some (j, q) ∧ j ≠ i := by
  unfold frO at h
  cases e : O b with
  | none => rw [e] at h; cases h
  | some p =>
    obtain ⟨j', q'⟩ := p
    rw [e] at h
    by_cases hj : j' = i
    · simp [hj] at h
    · simp [hj] at h
      obtain ⟨h1, h2⟩ := h
      subst h1 h2
      exact ⟨rfl, hj⟩
theorem frO_ne {i : Nat} {O : Lab} {b : Addr} {j q : Nat} (h : O b = some (j, q)) (hj : j ≠ i) : frO i O b = some (j, q) := by unfold frO; rw [h]; simp [hj]
theorem frO_none {i : Nat} {O : Lab} {b : Addr} (h : O b = none) : frO i O b = none := by unfold frO; rw [h]
theorem frO_at {i : Nat} {O : Lab} {b : Addr} {q : Nat} (h : O b = some (i, q)) : frO i O b = none := by unfold frO; rw [h]; simp

section
variable {K : PySem.W.Frag} {mg : MG} {Z H : Hp} {O : Lab} {C : Lk} {σ : L2.St} {ρ : Env}
theorem frZ_same (oz : ∀ b, O b ≠ none → Z b = none ∧ C b = none ∧ H b ≠ none) (i : Nat) : Same Z (frZ i Z H O) := fun b o e => by
  cases q : O b with
  | none => unfold frZ; rw [q]; exact e
  | some p =>
    have := (oz b (by rw [q]; simp)).1
    rw [this] at e; cases e
theorem frZ_zh (zh : Same Z H) (i : Nat) : Same (frZ i Z H O) H := fun b o e => by
  unfold frZ at e
  cases q : O b with
  | none => rw [q] at e; exact zh b o e
  | some p =>
    rw [q] at e
    simp only at e
    split at e
    · exact e
    · exact zh b o e
theorem Own2.fr {i : Nat} (hz : Same Z (frZ i Z H O)) : ∀ {k : Nat} {bs : List Addr} {xss : List (List Val)}, Own2 K mg Z H O i k bs xss → Rls K mg (frZ i Z H O) (bs.map V.ref) (xss.map Val.lst)
  | _, _, _, .nil => .nil
  | _, _, _, .cons h1 h2 h3 h4 => .cons (.lst (by rw [frZ_at h1]; exact h2) (h3.mono hz)) (Own2.fr hz h4)
/-- slot i is frozen -/
theorem EnvR.freeze (R : EnvR K mg Z H O C σ ρ) {i : Nat} {s : Sl} {x : Val} (e : ρ[i]? = some s) (f : frOf s = some x) :
    ∃ v, σ[i]? = some (some v) ∧ Rl K mg (frZ i Z H O) v x ∧ EnvR K mg (frZ i Z H O) H (frO i O) C σ (ρ.set i (.fz x)) ∧ Ext Z H O (frZ i Z H O) H (frO i O) := by
  have hz := frZ_same R.oz i
  have z := R.sl i s e
  have hi : i < ρ.length := (List.getElem?_eq_some_iff.mp e).1
  have key : ∃ v, σ[i]? = some (some v) ∧ Rl K mg (frZ i Z H O) v x := by
    cases s with
    | no => cases f
    | fz y => cases f; obtain ⟨u, e1, r⟩ := z; exact ⟨u, e1, r.mono hz⟩
    | own xs => cases f; obtain ⟨a, vs, e1, o, m, r⟩ := z; exact ⟨_, e1, .lst (by rw [frZ_at o]; exact m) (r.mono hz)⟩
    | own2 xss => cases f; obtain ⟨a, bs, e1, o, m, r⟩ := z; exact ⟨_, e1, .lst (by rw [frZ_at o]; exact m) (r.fr hz)⟩
    | odK k => cases f; obtain ⟨a, kvs, e1, o, m, q, r⟩ := z; exact ⟨_, e1, .dK (by rw [frZ_at o]; exact m) q (r.mono hz)⟩
    | odT k => cases f; obtain ⟨a, kvs, e1, o, m, q, r⟩ := z; exact ⟨_, e1, .dT (by rw [frZ_at o]; exact m) q (r.mono hz)⟩
    | lck _ => cases f
    | par _ => cases f
    | box _ _ _ => cases f
  obtain ⟨v, ev, rv⟩ := key
  refine ⟨v, ev, rv, ⟨by rw [List.length_set]; exact R.len, frZ_zh R.zh i, R.ch, fun b hb => ?_, fun b j q h => ?_, fun j t ej => ?_⟩, ⟨hz, fun b o h1 h2 => ⟨h1, frO_none h2⟩, fun _ h => h, fun b j q h => .inr ⟨q, (frO_some h).1⟩, fun b hb => ?_⟩⟩
  rotate_left 3
  · cases q : O b with
    | none => refine .inl fun z => hb ?_; unfold frZ; rw [q]; exact z
    | some p => exact .inr (.inr (by simp))
  · obtain ⟨p, hp⟩ := Option.ne_none_iff_exists'.mp hb
    obtain ⟨j, q⟩ := p
    obtain ⟨h1, h2⟩ := frO_some hp
    obtain ⟨h3, h4, h5⟩ := R.oz b (by rw [h1]; simp)
    exact ⟨by rw [frZ_ne fun q' z => h2 (by rw [h1] at z; cases z; rfl)]; exact h3, h4, h5⟩
  · rw [List.length_set]; exact R.ob b j q (frO_some h).1
  · by_cases hj : j = i
    · subst hj
      rw [List.getElem?_set_self hi] at ej
      cases ej
      exact ⟨v, ev, rv⟩
    · rw [List.getElem?_set_ne (Ne.symm hj)] at ej
      exact (R.sl j t ej).keep hz fun b q hb => ⟨rfl, frO_ne hb hj⟩
theorem takeV_ok (R : EnvR K mg Z H O C σ ρ) {v : V} {h : Hd} {x : Val} {ρ' : Env} (r : HdR K mg Z σ v h) (e : takeV h ρ = some (x, ρ')) :
    ∃ Z' O', Ext Z H O Z' H O' ∧ EnvR K mg Z' H O' C σ ρ' ∧ Rl K mg Z' v x := by
  cases h with
  | val y => cases e; exact ⟨Z, O, Ext.refl _ _ _, R, r⟩
  | slot i =>
    have r : σ[i]? = some (some v) := r
    unfold takeV at e
    cases q : ρ[i]? with
    | none => simp only [q] at e; cases e
    | some s =>
      simp only [q] at e
      cases f : frOf s with
      | none => simp only [f] at e; cases e
      | some y =>
        simp only [f] at e
        cases e
        obtain ⟨w, h1, h2, h3, h4⟩ := R.freeze q f
        rw [r] at h1
        cases h1
        exact ⟨_, _, h4, h3, h2⟩
end
def dVH (d : DH) : DV := fun ρ => (d ρ).bind fun p => Out.of (takeV p.1 p.2)
theorem pv_of {X : Cx} {e : Expr} {d : DH} (h : PH X e d) : PV X e (dVH d) := PE.imp h fun σ H Q ⟨Z, O, C, ρ, R, x, ρ', q, k⟩ => by
  obtain ⟨⟨hd, ρ1⟩, e1, e2⟩ := Out.bind_ok q
  refine ⟨Z, O, C, ρ, R, hd, ρ1, e1, fun v H' Z' O' ex R' r => ?_⟩
  obtain ⟨Z2, O2, ex2, R2, r2⟩ := takeV_ok R' r (Out.of_ok e2)
  exact k v H' Z2 O2 (ex.trans ex2) R2 r2
end Ev

/-! Ev: operations on values. -/
namespace Ev
open PySem PySem.Spec PyProof.Rows L2

/-! ### values as data -/
mutual
def Val.py : Val → PyData
  | .non => .none
  | .bl b => .bool b
  | .int i => .int i
  | .str s => .str s
  | .tup xs => .tuple (pys xs)
  | .lst xs => .list (pys xs)
  | .ktup xs => .tuple (pys xs)
  | _ => .dict []
def pys : List Val → List PyData
  | [] => []
  | x :: xs => x.py :: pys xs
end
theorem pys_map : ∀ xs : List Val, pys xs = xs.map Val.py
  | [] => by simp [pys]
  | x :: xs => by simp [pys, pys_map xs]

section
variable {K : PySem.W.Frag} {mg : MG} {Z H : Hp}
mutual
theorem Rl.dp : ∀ {v : V} {x : Val}, Rl K mg Z v x → x.py.plain = true → Dp K Z v x.py
  | _, _, .non, _ => by simp only [Val.py]; exact .non
  | _, _, .bl b, _ => by simp only [Val.py]; exact .bl b
  | _, _, .int i, _ => by simp only [Val.py]; exact .int i
  | _, _, .str s, _ => by simp only [Val.py]; exact .str s
  | _, _, .tup h r, p => by
    simp only [Val.py] at p ⊢
    exact .tup (SqT.of h) (Rls.dp r (by simpa [PyData.plain] using p))
  | _, _, .ktup h r, p => by
    simp only [Val.py] at p ⊢
    exact .tup h (Rls.dp r (by simpa [PyData.plain] using p))
  | _, _, .lst h r, p => by
    simp only [Val.py] at p ⊢
    exact .lst (SqL.of h) (Rls.dp r (by simpa [PyData.plain] using p))
  | _, _, .dK _ _ _, p => by simp [Val.py, PyData.plain] at p
  | _, _, .dT _ _ _, p => by simp [Val.py, PyData.plain] at p
  | _, _, .scr _, p => by simp [Val.py, PyData.plain] at p
  | _, _, .fn _ _, p => by simp [Val.py, PyData.plain] at p
theorem Rls.dp : ∀ {vs : List V} {xs : List Val}, Rls K mg Z vs xs → PyData.plainAll (pys xs) = true → DpAll K Z vs (pys xs)
  | _, _, .nil, _ => by simp only [pys]; exact .nil
  | _, _, .cons r t, p => by
    simp only [pys] at p ⊢
    have p' := Bool.and_eq_true_iff.mp (show (PyData.plain _ && PyData.plainAll _) = true from p)
    exact .cons (Rl.dp r p'.1) (Rls.dp t p'.2)
end
mutual
theorem Dp.mono {H' : Hp} (e : Same Z H') : ∀ {v : V} {d : PyData}, Dp K Z v d → Dp K H' v d
  | _, _, .non => .non
  | _, _, .bl b => .bl b
  | _, _, .int b => .int b
  | _, _, .str b => .str b
  | _, _, .lst h r => .lst (e.seq h) (DpAll.mono e r)
  | _, _, .tup h r => .tup (seqT_mono e h) (DpAll.mono e r)
theorem DpAll.mono {H' : Hp} (e : Same Z H') : ∀ {v : List V} {d : List PyData}, DpAll K Z v d → DpAll K H' v d
  | _, _, .nil => .nil
  | _, _, .cons h t => .cons (Dp.mono e h) (DpAll.mono e t)
end
theorem BorR.dp (zh : Same Z H) {v : V} {x : Val} (b : BorR K mg Z H v x) (p : x.py.plain = true) : Dp K H v x.py := by
  cases b with
  | fz r => exact Dp.mono zh (r.dp p)
  | lst h r =>
    simp only [Val.py] at p ⊢
    exact .lst (SqL.of h) (DpAll.mono zh (r.dp (by simpa [PyData.plain] using p)))
  | dK _ _ _ => simp [Val.py, PyData.plain] at p
  | dT _ _ _ => simp [Val.py, PyData.plain] at p
/-! what a borrowed value is -/
theorem bor_non {v : V} (b : BorR K mg Z H v .non) : v = .non := by cases b with | fz r => cases r; rfl
theorem bor_bl {v : V} {k : Bool} (b : BorR K mg Z H v (.bl k)) : v = .bl k := by cases b with | fz r => cases r; rfl
theorem bor_int {v : V} {k : Int} (b : BorR K mg Z H v (.int k)) : v = .int k := by cases b with | fz r => cases r; rfl
theorem bor_str {v : V} {k : Str} (b : BorR K mg Z H v (.str k)) : v = .str k := by cases b with | fz r => cases r; rfl
theorem bor_tup {v : V} {xs : List Val} (b : BorR K mg Z H v (.tup xs)) : ∃ a vs, v = .ref a ∧ Z a = some (.tup vs) ∧ Rls K mg Z vs xs := by cases b with | fz r => cases r with | tup h r => exact ⟨_, _, rfl, h, r⟩
theorem bor_ktup {v : V} {xs : List Val} (b : BorR K mg Z H v (.ktup xs)) : ∃ a vs, v = .ref a ∧ SqT K Z a vs ∧ Rls K mg Z vs xs := by cases b with | fz r => cases r with | ktup h r => exact ⟨_, _, rfl, h, r⟩
theorem bor_lst (zh : Same Z H) {v : V} {xs : List Val} (b : BorR K mg Z H v (.lst xs)) : ∃ a vs, v = .ref a ∧ H a = some (.lst vs) ∧ Rls K mg Z vs xs := by
  cases b with
  | fz r => cases r with | lst h r => exact ⟨_, _, rfl, zh _ _ h, r⟩
  | lst h r => exact ⟨_, _, rfl, h, r⟩
theorem bor_scr {v : V} {xs : List Int} (b : BorR K mg Z H v (.scr xs)) : ∃ a, v = .ref a ∧ SqL K Z a (xs.map V.int) := by cases b with | fz r => cases r with | scr h => exact ⟨_, rfl, h⟩
theorem bor_dK (zh : Same Z H) {v : V} {kxs : List (Key × Val)} (b : BorR K mg Z H v (.dK kxs)) : ∃ a kvs, v = .ref a ∧ H a = some (.dK kvs) ∧ kvs.map (·.1) = kxs.map (·.1) ∧ Rls K mg Z (kvs.map (·.2)) (kxs.map (·.2)) := by
  cases b with
  | fz r => cases r with | dK h k r => exact ⟨_, _, rfl, zh _ _ h, k, r⟩
  | dK h k r => exact ⟨_, _, rfl, h, k, r⟩
theorem bor_dT (zh : Same Z H) {v : V} {kxs : List (List Key × Val)} (b : BorR K mg Z H v (.dT kxs)) : ∃ a kvs, v = .ref a ∧ H a = some (.dT kvs) ∧ kvs.map (·.1) = kxs.map (·.1) ∧ Rls K mg Z (kvs.map (·.2)) (kxs.map (·.2)) := by
  cases b with
  | fz r => cases r with | dT h k r => exact ⟨_, _, rfl, zh _ _ h, k, r⟩
  | dT h k r => exact ⟨_, _, rfl, h, k, r⟩
end

/-! ### a pure operation's answer: frozen, beside new things -/
def PQ (K : PySem.W.Frag) (mg : MG) (Z H : Hp) (z : Val) (Q : VK) : Prop := ∀ u Z' H', Grow Z H Z' H' → Rl K mg Z' u z → Q u H'
section
variable {K : PySem.W.Frag} {mg : MG} {Z H : Hp} {Q : VK}
theorem PQ.here {u : V} {z : Val} (zh : Same Z H) (q : PQ K mg Z H z Q) (r : Rl K mg Z u z) : Q u H := q u Z H (Grow.refl zh) r
theorem PQ.newL {vs : List V} {xs : List Val} {p : Addr} (zh : Same Z H) (q : PQ K mg Z H (.lst xs) Q) (hp : H p = none) (r : Rls K mg Z vs xs) : Q (.ref p) (upd H p (.lst vs)) :=
  let g := Grow.newZ (o := .lst vs) zh hp
  q _ _ _ g (.lst upd_same (r.mono g.z))
theorem PQ.newT {vs : List V} {xs : List Val} {p : Addr} (zh : Same Z H) (q : PQ K mg Z H (.tup xs) Q) (hp : H p = none) (r : Rls K mg Z vs xs) : Q (.ref p) (upd H p (.tup vs)) :=
  let g := Grow.newZ (o := .tup vs) zh hp
  q _ _ _ g (.tup upd_same (r.mono g.z))
end

/-- a two-place operation by values -/
def r2 (K : PySem.W.Frag) (mg : MG) (g : Val → Val → Option Val) : R2 := fun v w H Q => ∃ Z x y z, Same Z H ∧ BorR K mg Z H v x ∧ BorR K mg Z H w y ∧ g x y = some z ∧ PQ K mg Z H z Q
def d2 (g : Val → Val → Option Val) (da db : DH) : DV := fun ρ => (da ρ).bind fun p => (db p.2).bind fun q =>
  Out.of ((deref q.2 p.1).bind fun x => (deref q.2 q.1).bind fun y => (g x y).map fun z => (z, q.2))
theorem bind2 {ρ : Env} {h1 h2 : Hd} {g : Val → Val → Option Val} {z : Val} {ρ' : Env} (e : (deref ρ h1).bind (fun x => (deref ρ h2).bind fun y => (g x y).map fun z => (z, ρ)) = some (z, ρ')) :
    ∃ x y, deref ρ h1 = some x ∧ deref ρ h2 = some y ∧ g x y = some z ∧ ρ' = ρ := by
  obtain ⟨x, e1, e⟩ := Option.bind_eq_some_iff.mp e
  obtain ⟨y, e2, e⟩ := Option.bind_eq_some_iff.mp e
  obtain ⟨w, e3, e⟩ := Option.map_eq_some_iff.mp e
  cases e
  exact ⟨x, y, e1, e2, e3, rfl⟩
/-- two operands, then an operation -/
theorem run2 {K : PySem.W.Frag} {mg : MG} {da db : DH} {g : Val → Val → Option Val} {σ : L2.St} {H : Hp} {Q : VK} (h : TV K mg (d2 g da db) σ H Q) : TH K mg da σ H fun v H1 => TH K mg db σ H1 fun w H2 => r2 K mg g v w H2 Q := by
  obtain ⟨Z, O, C, ρ, R, x, ρ', q, k⟩ := h
  obtain ⟨⟨h1, ρ1⟩, e1, q⟩ := Out.bind_ok q
  obtain ⟨⟨h2, ρ2⟩, e2, q⟩ := Out.bind_ok q
  obtain ⟨y1, y2, f1, f2, f3, f4⟩ := bind2 (Out.of_ok q)
  subst f4
  refine ⟨Z, O, C, ρ, R, h1, ρ1, e1, fun v H1 Z1 O1 ex1 R1 r1 => ⟨Z1, O1, C, ρ1, R1, h2, ρ', e2, fun w H2 Z2 O2 ex2 R2 r2 => ?_⟩⟩
  exact ⟨Z2, y1, y2, x, R2.zh, deref_bor R2 (r1.mono ex2.z) f1, deref_bor R2 r2 f2, f3, fun u Z3 H3 gr r => k u H3 Z3 O2 ((ex1.trans ex2).trans gr.ext) (R2.grow gr) r⟩
section
variable {X : Cx} {a b : Expr} {da db : DH} {pos : Pos} {g : Val → Val → Option Val}
theorem pv_op {op : Operator} (ho : OpR X (binaryOp op) (r2 X.K X.mg g)) (ha : PH X a da) (hb : PH X b db) : PV X (.BinOp a op b pos) (d2 g da db) := PE.imp (pe_op ho ha hb) fun _ _ _ => run2
theorem pv_cmp {op : CmpOp} (ho : OpR X (compareOp op) (r2 X.K X.mg g)) (ha : PH X a da) (hb : PH X b db) (hm : behindInMarks op b = false := by first | exact nomark _ | rfl) : PV X (.Compare a [op] [b] pos) (d2 g da db) := PE.imp (pe_cmpR ho ha hb hm) fun _ _ _ => run2
theorem pv_ix (ho : IxR X (r2 X.K X.mg g)) (ha : PH X a da) (hb : PH X b db) (hs : PlainIx b := by intro _ _; rfl) : PV X (.Subscript a b pos) (d2 g da db) := PE.imp (pe_ix ho ha hb hs) fun _ _ _ => run2
end

/-! ### arithmetic -/
def addV : Val → Val → Option Val
  | .int i, .int j => some (.int (i + j))
  | .str s, .str t => if s.length + t.length ≤ sizeLine then some (.str (s ++ t)) else none
  | .tup xs, .tup ys => if xs.length + ys.length ≤ sizeLine then some (.tup (xs ++ ys)) else none
  | .lst xs, .lst ys => if xs.length + ys.length ≤ sizeLine then some (.lst (xs ++ ys)) else none
  | _, _ => none
def subV : Val → Val → Option Val
  | .int i, .int j => some (.int (i - j))
  | _, _ => none
def mulOk (i j : Int) : Bool := (decide (-(2 ^ 64) < i) && decide (i < 2 ^ 64)) || (decide (-(2 ^ 64) < j) && decide (j < 2 ^ 64))
def mulV : Val → Val → Option Val
  | .int i, .int j => if mulOk i j then some (.int (i * j)) else none
  | .lst xs, .int k => if -(2 ^ 63) ≤ k ∧ k < 2 ^ 63 ∧ xs.length * k.toNat ≤ sizeLine then some (.lst (List.replicate k.toNat xs).flatten) else none
  | .tup xs, .int k => if xs ≠ [] ∧ 2 ≤ k ∧ k ≤ 1000 ∧ xs.length ≤ 1000 then some (.tup (List.replicate k.toNat xs).flatten) else none
  | _, _ => none
def divV : Val → Val → Option Val
  | .int i, .int j => if 0 < j ∧ j.natAbs.log2 < 9000 then some (.int (i / j)) else none
  | _, _ => none
def modV : Val → Val → Option Val
  | .int i, .int j => if 0 < j then some (.int (i % j)) else none
  | _, _ => none
def powV : Val → Val → Option Val
  | .int i, .int j => if 0 ≤ j ∧ j ≤ 1000000 ∧ i.natAbs < 2 ^ 64 then some (.int (i ^ j.toNat)) else none
  | _, _ => none
theorem Rls.rep {K : PySem.W.Frag} {mg : MG} {Z : Hp} {vs : List V} {xs : List Val} (h : Rls K mg Z vs xs) : ∀ k : Nat, Rls K mg Z (List.replicate k vs).flatten (List.replicate k xs).flatten
  | 0 => .nil
  | k + 1 => by
    rw [List.replicate_succ, List.replicate_succ, List.flatten_cons, List.flatten_cons]
    exact h.append (h.rep k)
section
variable {X : Cx}
theorem o_add : OpR X (binaryOp .Add) (r2 X.K X.mg addV) := OpR.imp (op_add.or (op_add_str.or (op_catA.or op_cat))) fun v w H Q ⟨Z, x, y, z, zh, b1, b2, e, q⟩ => by
  unfold addV at e
  split at e
  · cases e
    cases bor_int b1
    cases bor_int b2
    exact .inl ⟨_, _, rfl, rfl, q.here zh (.int _)⟩
  · split at e
    · rename_i hl
      cases e
      cases bor_str b1
      cases bor_str b2
      exact .inr (.inl ⟨_, _, rfl, rfl, hl, q.here zh (.str _)⟩)
    · cases e
  · split at e
    · rename_i hl
      cases e
      obtain ⟨a, vs, rfl, h1, r1⟩ := bor_tup b1
      obtain ⟨b, ws, rfl, h2, r2⟩ := bor_tup b2
      refine .inr (.inr (.inl ⟨a, b, vs, ws, rfl, rfl, SqT.of (zh _ _ h1), SqT.of (zh _ _ h2), by rw [r1.length, r2.length]; exact hl, fun e => ?_, fun _ e => ?_, fun _ _ p hp => q.newT zh hp (r1.append r2)⟩))
      · subst e
        cases r1
        exact q.here zh (.tup h2 r2)
      · subst e
        cases r2
        rw [List.append_nil] at q
        exact q.here zh (.tup h1 r1)
    · cases e
  · split at e
    · rename_i hl
      cases e
      obtain ⟨a, vs, rfl, h1, r1⟩ := bor_lst zh b1
      obtain ⟨b, ws, rfl, h2, r2⟩ := bor_lst zh b2
      exact .inr (.inr (.inr ⟨a, b, vs, ws, rfl, rfl, h1, h2, by rw [r1.length, r2.length]; exact hl, fun p hp => q.newL zh hp (r1.append r2)⟩))
    · cases e
  · cases e
theorem o_sub : OpR X (binaryOp .Sub) (r2 X.K X.mg subV) := OpR.imp op_sub fun v w H Q ⟨Z, x, y, z, zh, b1, b2, e, q⟩ => by
  unfold subV at e
  split at e
  · cases e
    cases bor_int b1
    cases bor_int b2
    exact ⟨_, _, rfl, rfl, q.here zh (.int _)⟩
  · cases e
theorem o_mul : OpR X (binaryOp .Mult) (r2 X.K X.mg mulV) := OpR.imp (op_mul.or (op_rep.or op_repT)) fun v w H Q ⟨Z, x, y, z, zh, b1, b2, e, q⟩ => by
  unfold mulV at e
  split at e
  · split at e
    · rename_i hm
      cases e
      cases bor_int b1
      cases bor_int b2
      refine .inl ⟨_, _, rfl, rfl, ?_, q.here zh (.int _)⟩
      unfold mulOk at hm
      simpa [CMul] using hm
    · cases e
  · split at e
    · rename_i hk
      cases e
      obtain ⟨a, vs, rfl, h1, r1⟩ := bor_lst zh b1
      cases bor_int b2
      exact .inr (.inl ⟨a, _, vs, rfl, rfl, h1, hk.1, hk.2.1, by rw [r1.length]; exact hk.2.2, fun p hp => q.newL zh hp (r1.rep _)⟩)
    · cases e
  · split at e
    · rename_i hk
      cases e
      obtain ⟨a, vs, rfl, h1, r1⟩ := bor_tup b1
      cases bor_int b2
      refine .inr (.inr ⟨a, _, vs, rfl, rfl, SqT.of (zh _ _ h1), fun z => hk.1 ?_, hk.2.1, hk.2.2.1, by rw [r1.length]; exact hk.2.2.2, fun p hp => q.newT zh hp (r1.rep _)⟩)
      subst z
      cases r1
      rfl
    · cases e
  · cases e
theorem o_div : OpR X (binaryOp .FloorDiv) (r2 X.K X.mg divV) := OpR.imp op_fdivW fun v w H Q ⟨Z, x, y, z, zh, b1, b2, e, q⟩ => by
  unfold divV at e
  split at e
  · split at e
    · rename_i hk
      cases e
      cases bor_int b1
      cases bor_int b2
      exact ⟨_, _, rfl, rfl, hk, q.here zh (.int _)⟩
    · cases e
  · cases e
theorem o_mod : OpR X (binaryOp .Mod) (r2 X.K X.mg modV) := OpR.imp op_mod fun v w H Q ⟨Z, x, y, z, zh, b1, b2, e, q⟩ => by
  unfold modV at e
  split at e
  · split at e
    · rename_i hk
      cases e
      cases bor_int b1
      cases bor_int b2
      exact ⟨_, _, rfl, rfl, hk, q.here zh (.int _)⟩
    · cases e
  · cases e
theorem o_pow : OpR X (binaryOp .Pow) (r2 X.K X.mg powV) := OpR.imp op_pow fun v w H Q ⟨Z, x, y, z, zh, b1, b2, e, q⟩ => by
  unfold powV at e
  split at e
  · split at e
    · rename_i hk
      cases e
      cases bor_int b1
      cases bor_int b2
      exact ⟨_, _, rfl, rfl, hk, q.here zh (.int _)⟩
    · cases e
  · cases e
end

/-! ### comparisons -/
def small2 (x y : PyData) : Bool := decide (min x.depth y.depth ≤ 64)
def eqB (x y : Val) : Option Bool := if x.py.plain && y.py.plain && small2 x.py y.py then some (PyData.eqv x.py y.py) else none
def eqV (x y : Val) : Option Val := (eqB x y).map .bl
def neV (x y : Val) : Option Val := (eqB x y).map fun b => .bl (!b)
def notNone : PyData → Bool
  | .none => false
  | _ => true
def cmpOk (x y : PyData) : Bool := PySem.W.alike x y && notNone x && small2 x y && x.plain && y.plain
def ltB (x y : Val) : Option Bool := if cmpOk x.py y.py then some (PySem.W.dataLt x.py y.py) else none
def ltV (x y : Val) : Option Val := (ltB x y).map .bl
def gtV (x y : Val) : Option Val := if cmpOk x.py y.py then some (.bl (PySem.W.dataLt y.py x.py)) else none
def leV (x y : Val) : Option Val := if cmpOk x.py y.py then some (.bl (!PySem.W.dataLt y.py x.py)) else none
def geV (x y : Val) : Option Val := (ltB x y).map fun b => .bl (!b)
def keyOf : Val → Option Key
  | .int i => some (.inl i)
  | .str s => some (.inr s)
  | _ => none
def keysOf : List Val → Option (List Key)
  | [] => some []
  | x :: xs => match keyOf x, keysOf xs with
    | some k, some ks => some (k :: ks)
    | _, _ => none
def inB (x : Val) : Val → Option Bool
  | .lst ys => if x.py.plain && PyData.plainAll (pys ys) && decide (min (PyData.depthAll (pys ys)) x.py.depth ≤ 64) then some ((pys ys).any fun y => PyData.eqv y x.py) else none
  | .tup ys => if x.py.plain && PyData.plainAll (pys ys) && decide (min (PyData.depthAll (pys ys)) x.py.depth ≤ 64) then some ((pys ys).any fun y => PyData.eqv y x.py) else none
  | .ktup ys => if x.py.plain && PyData.plainAll (pys ys) && decide (min (PyData.depthAll (pys ys)) x.py.depth ≤ 64) then some ((pys ys).any fun y => PyData.eqv y x.py) else none
  | .dK kxs => (keyOf x).map fun k => kxs.any fun p => decide (p.1 = k)
  | .dT kxs => match x with
    | .tup xs => (keysOf xs).map fun k => kxs.any fun p => decide (p.1 = k)
    | _ => none
  | .str t => match x with
    | .str s => some (!(Builtin.Str.occurrences t s 0 t.length 1).isEmpty)
    | _ => none
  | _ => none
def inV (x y : Val) : Option Val := (inB x y).map .bl
def ninV (x y : Val) : Option Val := (inB x y).map fun b => .bl (!b)

/-- an answer that is a truth value, by a rule over the machine's heap -/
theorem op_raw {X : Cx} {f : Value → Value → Sem Value} {g : Val → Val → Option Val}
    (h : ∀ (pins : List (Addr × Obj)) (s : Shared) (σ : L2.St) (Z H : Hp) (v w : V) (x y z : Val) (u1 u2 : Value) (Q : VK), Inv X pins σ H s → RelV v u1 → RelV w u2 → Same Z H → BorR X.K X.mg Z H v x → BorR X.K X.mg Z H w y → g x y = some z →
      PQ X.K X.mg Z H z Q → wpAny (model X.prog X.w) X.A (f u1 u2) (EP X pins σ Q) X.xe s) : OpR X f (r2 X.K X.mg g) :=
  fun pins s σ H v w u1 u2 Q I r1 r2 ⟨Z, x, y, z, zh, b1, b2, e, q⟩ => h pins s σ Z H v w x y z u1 u2 Q I r1 r2 zh b1 b2 e q
theorem PQ.bl {X : Cx} {pins : List (Addr × Obj)} {σ : L2.St} {Z H : Hp} {s : Shared} {b : Bool} {Q : VK} (I : Inv X pins σ H s) (zh : Same Z H) (q : PQ X.K X.mg Z H (.bl b) Q) : EP X pins σ Q (.bool b) s := ⟨.bl b, H, I, rfl, q.here zh (.bl b)⟩
theorem small2_room {x y : PyData} {A : Around} {k : Nat} (hr : Room k A) (h : small2 x y = true) : A.units + min x.depth y.depth < cLine := by
  have h1 : min x.depth y.depth ≤ 64 := of_decide_eq_true h
  have h2 := hr.un
  omega
theorem reads_of {X : Cx} {pins : List (Addr × Obj)} {σ : L2.St} {Z H : Hp} {s : Shared} {v : V} {x : Val} {u : Value} (I : Inv X pins σ H s) (zh : Same Z H) (b : BorR X.K X.mg Z H v x) (p : x.py.plain = true) (r : RelV v u) : ∃ as, Reads s.heap u x.py as :=
  Dp.reads I x.py v u (b.dp zh p) r
section
variable {X : Cx} {k : Nat}
theorem o_eq (hr : Room k X.A) : OpR X (compareOp .Eq) (r2 X.K X.mg eqV) := op_raw fun pins s σ Z H v w x y z u1 u2 Q I r1 r2 zh b1 b2 e q => by
  obtain ⟨b, e1, rfl⟩ := Option.map_eq_some_iff.mp e
  unfold eqB at e1
  split at e1
  · rename_i hc
    cases e1
    simp only [Bool.and_eq_true] at hc
    obtain ⟨as, ra⟩ := reads_of I zh b1 hc.1.1 r1
    obtain ⟨bs, rb⟩ := reads_of I zh b2 hc.1.2 r2
    exact PySem.SeqAt.eq_plain ra rb hc.1.1 hc.1.2 (small2_room hr hc.2) (q.bl I zh)
  · cases e1
theorem o_ne (hr : Room k X.A) : OpR X (compareOp .NotEq) (r2 X.K X.mg neV) := op_raw fun pins s σ Z H v w x y z u1 u2 Q I r1 r2 zh b1 b2 e q => by
  obtain ⟨b, e1, rfl⟩ := Option.map_eq_some_iff.mp e
  unfold eqB at e1
  split at e1
  · rename_i hc
    cases e1
    simp only [Bool.and_eq_true] at hc
    obtain ⟨as, ra⟩ := reads_of I zh b1 hc.1.1 r1
    obtain ⟨bs, rb⟩ := reads_of I zh b2 hc.1.2 r2
    exact PySem.SeqAt.ne_plain ra rb hc.1.1 hc.1.2 (small2_room hr hc.2) (q.bl I zh)
  · cases e1
theorem cmpOk_out {x y : PyData} (h : cmpOk x y = true) : PySem.W.alike x y = true ∧ x ≠ .none ∧ small2 x y = true ∧ x.plain = true ∧ y.plain = true := by
  unfold cmpOk at h
  simp only [Bool.and_eq_true] at h
  exact ⟨h.1.1.1.1, fun z => (by rw [z] at h; exact absurd h.1.1.1.2 (by simp [notNone])), h.1.1.2, h.1.2, h.2⟩
theorem o_lt (hr : Room k X.A) : OpR X (compareOp .Lt) (r2 X.K X.mg ltV) := op_raw fun pins s σ Z H v w x y z u1 u2 Q I r1 r2 zh b1 b2 e q => by
  obtain ⟨b, e1, rfl⟩ := Option.map_eq_some_iff.mp e
  unfold ltB at e1
  split at e1
  · rename_i hc
    cases e1
    obtain ⟨c1, c2, c3, c4, c5⟩ := cmpOk_out hc
    obtain ⟨as, ra⟩ := reads_of I zh b1 c4 r1
    obtain ⟨bs, rb⟩ := reads_of I zh b2 c5 r2
    exact PySem.W.lt_data ra rb c1 c2 (small2_room hr c3) (q.bl I zh)
  · cases e1
theorem o_ge (hr : Room k X.A) : OpR X (compareOp .GtE) (r2 X.K X.mg geV) := op_raw fun pins s σ Z H v w x y z u1 u2 Q I r1 r2 zh b1 b2 e q => by
  obtain ⟨b, e1, rfl⟩ := Option.map_eq_some_iff.mp e
  unfold ltB at e1
  split at e1
  · rename_i hc
    cases e1
    obtain ⟨c1, c2, c3, c4, c5⟩ := cmpOk_out hc
    obtain ⟨as, ra⟩ := reads_of I zh b1 c4 r1
    obtain ⟨bs, rb⟩ := reads_of I zh b2 c5 r2
    exact PySem.W.ge_data ra rb c1 c2 (small2_room hr c3) (q.bl I zh)
  · cases e1
theorem o_gt (hr : Room k X.A) : OpR X (compareOp .Gt) (r2 X.K X.mg gtV) := op_raw fun pins s σ Z H v w x y z u1 u2 Q I r1 r2 zh b1 b2 e q => by
  unfold gtV at e
  split at e
  · rename_i hc
    cases e
    obtain ⟨c1, c2, c3, c4, c5⟩ := cmpOk_out hc
    obtain ⟨as, ra⟩ := reads_of I zh b1 c4 r1
    obtain ⟨bs, rb⟩ := reads_of I zh b2 c5 r2
    exact PySem.W.gt_data ra rb c1 c2 (small2_room hr c3) (q.bl I zh)
  · cases e
theorem o_le (hr : Room k X.A) : OpR X (compareOp .LtE) (r2 X.K X.mg leV) := op_raw fun pins s σ Z H v w x y z u1 u2 Q I r1 r2 zh b1 b2 e q => by
  unfold leV at e
  split at e
  · rename_i hc
    cases e
    obtain ⟨c1, c2, c3, c4, c5⟩ := cmpOk_out hc
    obtain ⟨as, ra⟩ := reads_of I zh b1 c4 r1
    obtain ⟨bs, rb⟩ := reads_of I zh b2 c5 r2
    exact PySem.W.le_data ra rb c1 c2 (small2_room hr c3) (q.bl I zh)
  · cases e
end
end Ev

/-! Ev: containers: in, subscripts, slices, dicts. -/
namespace Ev
open PySem PySem.Spec PyProof.Rows L2

/-! ### dicts -/
section
variable {κ : Type} [DecidableEq κ]
def dget (kxs : List (κ × Val)) (k : κ) : Option Val := (kxs.find? fun kv => decide (kv.1 = k)).map (·.2)
def dput (kxs : List (κ × Val)) (k : κ) (x : Val) : List (κ × Val) := if kxs.any (fun kv => decide (kv.1 = k)) then kxs.map (fun kv => if kv.1 = k then (kv.1, x) else kv) else kxs ++ [(k, x)]
theorem putK_def (kvs : List (κ × V)) (k : κ) (v : V) : putK kvs k v = if kvs.any (fun kv => decide (kv.1 = k)) then kvs.map (fun kv => if kv.1 = k then (kv.1, v) else kv) else kvs ++ [(k, v)] := rfl
variable {K : PySem.W.Frag} {mg : MG} {Z : Hp}
theorem dr_any (k : κ) : ∀ {kvs : List (κ × V)} {kxs : List (κ × Val)}, kvs.map (·.1) = kxs.map (·.1) → (kvs.any fun kv => decide (kv.1 = k)) = kxs.any fun kv => decide (kv.1 = k)
  | [], [], _ => rfl
  | [], _ :: _, h => by cases h
  | _ :: _, [], h => by cases h
  | p :: r, q :: s, h => by
    simp only [List.map_cons, List.cons.injEq] at h
    rw [List.any_cons, List.any_cons, h.1, dr_any k h.2]
theorem dr_get (k : κ) : ∀ {kvs : List (κ × V)} {kxs : List (κ × Val)}, kvs.map (·.1) = kxs.map (·.1) → Rls K mg Z (kvs.map (·.2)) (kxs.map (·.2)) →
    (dget kxs k = none ∧ valV kvs k = none) ∨ ∃ v x, dget kxs k = some x ∧ valV kvs k = some v ∧ Rl K mg Z v x
  | [], [], _, _ => .inl ⟨rfl, rfl⟩
  | [], _ :: _, h, _ => by cases h
  | _ :: _, [], h, _ => by cases h
  | p :: r, q :: s, h, t => by
    simp only [List.map_cons, List.cons.injEq] at h
    rw [List.map_cons, List.map_cons] at t
    cases t with
    | cons t1 t2 =>
      by_cases e : p.1 = k
      · have e' : q.1 = k := h.1 ▸ e
        exact .inr ⟨p.2, q.2, by simp [dget, List.find?_cons, e'], valV_pos e, t1⟩
      · have e' : ¬ q.1 = k := h.1 ▸ e
        have f : dget (q :: s) k = dget s k := by simp [dget, List.find?_cons, e']
        rw [f, valV_neg e]
        exact dr_get k h.2 t2
theorem dr_put (k : κ) {v : V} {x : Val} (r : Rl K mg Z v x) {kvs : List (κ × V)} {kxs : List (κ × Val)} (h : kvs.map (·.1) = kxs.map (·.1)) (t : Rls K mg Z (kvs.map (·.2)) (kxs.map (·.2))) :
    (putK kvs k v).map (·.1) = (dput kxs k x).map (·.1) ∧ Rls K mg Z ((putK kvs k v).map (·.2)) ((dput kxs k x).map (·.2)) := by
  rw [putK_def]
  unfold dput
  rw [dr_any k h]
  split
  · have go : ∀ {kvs : List (κ × V)} {kxs : List (κ × Val)}, kvs.map (·.1) = kxs.map (·.1) → Rls K mg Z (kvs.map (·.2)) (kxs.map (·.2)) →
        (kvs.map (fun kv => if kv.1 = k then (kv.1, v) else kv)).map (·.1) = (kxs.map (fun kv => if kv.1 = k then (kv.1, x) else kv)).map (·.1) ∧ Rls K mg Z ((kvs.map (fun kv => if kv.1 = k then (kv.1, v) else kv)).map (·.2)) ((kxs.map (fun kv => if kv.1 = k then (kv.1, x) else kv)).map (·.2)) := by
      intro kvs
      induction kvs with
      | nil => intro kxs h t; cases kxs with
        | nil => exact ⟨rfl, .nil⟩
        | cons _ _ => cases h
      | cons p rr ih => intro kxs h t; cases kxs with
        | nil => cases h
        | cons q s =>
          simp only [List.map_cons, List.cons.injEq] at h
          rw [List.map_cons, List.map_cons] at t
          cases t with
          | cons t1 t2 =>
            obtain ⟨i1, i2⟩ := ih h.2 t2
            simp only [List.map_cons, List.cons.injEq]
            by_cases e : p.1 = k
            · have e' : q.1 = k := h.1 ▸ e
              rw [if_pos e, if_pos e']
              exact ⟨⟨h.1, i1⟩, .cons r i2⟩
            · have e' : ¬ q.1 = k := h.1 ▸ e
              rw [if_neg e, if_neg e']
              exact ⟨⟨h.1, i1⟩, .cons t1 i2⟩
    exact go h t
  · rw [List.map_append, List.map_append, List.map_append, List.map_append, h]
    exact ⟨rfl, t.append (.one r)⟩
theorem dr_len {kvs : List (κ × V)} {kxs : List (κ × Val)} (h : kvs.map (·.1) = kxs.map (·.1)) : kvs.length = kxs.length := by
  have := congrArg List.length h
  simpa using this
end
theorem keyOf_rl {K : PySem.W.Frag} {mg : MG} {Z H : Hp} {v : V} {x : Val} {k : Key} (b : BorR K mg Z H v x) (e : keyOf x = some k) : v = kV k := by
  cases x <;> simp only [keyOf] at e <;> cases e
  · exact bor_int b
  · exact bor_str b
theorem keysOf_rl {K : PySem.W.Frag} {mg : MG} {Z : Hp} : ∀ {vs : List V} {xs : List Val} {ks : List Key}, Rls K mg Z vs xs → keysOf xs = some ks → vs = ks.map kV
  | _, _, ks, .nil, e => by cases e; rfl
  | _, _, ks, .cons (x := x) (xs := xs) r t, e => by
    unfold keysOf at e
    cases e1 : keyOf x with
    | none => rw [e1] at e; cases e
    | some k =>
      cases e2 : keysOf xs with
      | none => rw [e1, e2] at e; cases e
      | some ks' =>
        rw [e1, e2] at e
        cases e
        have h1 := keyOf_rl (BorR.fz (H := Z) r) e1
        rw [h1, keysOf_rl t e2]
        rfl
def dkGet (x : Val) : Val → Option (Option Val)
  | .dK kxs => (keyOf x).map fun k => dget kxs k
  | .dT kxs => match x with
    | .tup xs => (keysOf xs).map fun k => dget kxs k
    | _ => none
  | _ => none
/-- what a borrowed dict gives -/
theorem dkGet_ok {K : PySem.W.Frag} {mg : MG} {Z H : Hp} {v w : V} {x y : Val} {o : Option Val} (zh : Same Z H) (b1 : BorR K mg Z H v x) (b2 : BorR K mg Z H w y) (e : dkGet x y = some o) :
    ∃ a r, w = .ref a ∧ DGet H a v r ∧ ((o = none ∧ r = none) ∨ ∃ u z, o = some z ∧ r = some u ∧ Rl K mg Z u z) := by
  cases y with
  | dK kxs =>
    obtain ⟨k, e1, rfl⟩ := Option.map_eq_some_iff.mp e
    obtain ⟨a, kvs, rfl, h, hk, hr⟩ := bor_dK zh b2
    refine ⟨a, valV kvs k, rfl, ?_, ?_⟩
    · rw [keyOf_rl b1 e1]
      exact DGet.k h
    · rcases dr_get k hk hr with ⟨h1, h2⟩ | ⟨u, z, h1, h2, h3⟩
      · exact .inl ⟨h1, h2⟩
      · exact .inr ⟨u, z, h1, h2, h3⟩
  | dT kxs =>
    cases x with
    | tup xs =>
      obtain ⟨k, e1, rfl⟩ := Option.map_eq_some_iff.mp (show (keysOf xs).map _ = some o from e)
      obtain ⟨a, kvs, rfl, h, hk, hr⟩ := bor_dT zh b2
      obtain ⟨b, vs, rfl, hb, rb⟩ := bor_tup b1
      refine ⟨a, _, rfl, DGet.t h (k := k) ?_, ?_⟩
      · rw [← keysOf_rl rb e1]
        exact zh _ _ hb
      · rcases dr_get k hk hr with ⟨h1, h2⟩ | ⟨u, z, h1, h2, h3⟩
        · exact .inl ⟨h1, h2⟩
        · exact .inr ⟨u, z, h1, h2, h3⟩
    | _ => cases e
  | _ => cases e
theorem any_isSome {κ : Type} [DecidableEq κ] (k : κ) : ∀ kxs : List (κ × Val), (kxs.any fun p => decide (p.1 = k)) = (dget kxs k).isSome
  | [] => rfl
  | p :: r => by
    have := any_isSome k r
    by_cases e : p.1 = k
    · simp [dget, List.find?_cons, e]
    · rw [List.any_cons, this]
      simp [dget, List.find?_cons, e]

/-! ### in -/
theorem units_room {A : Around} {k : Nat} (hr : Room k A) : A.units + 1 < cLine := by have := hr.un; omega
theorem in_room {A : Around} {k n : Nat} (hr : Room k A) (h : n ≤ 64) : A.units + 1 + n < cLine := by have := hr.un; omega
theorem inB_dict {x y : Val} {b : Bool} (e : inB x y = some b) (h : (∃ k, y = .dK k) ∨ ∃ k, y = .dT k) : ∃ o, dkGet x y = some o ∧ b = o.isSome := by
  rcases h with ⟨kxs, rfl⟩ | ⟨kxs, rfl⟩
  · obtain ⟨k, e1, rfl⟩ := Option.map_eq_some_iff.mp (show (keyOf x).map _ = some b from e)
    exact ⟨dget kxs k, by simp [dkGet, e1], any_isSome k kxs⟩
  · cases x with
    | tup xs =>
      obtain ⟨k, e1, rfl⟩ := Option.map_eq_some_iff.mp (show (keysOf xs).map _ = some b from e)
      exact ⟨dget kxs k, by simp [dkGet, e1], any_isSome k kxs⟩
    | _ => cases e
section
variable {X : Cx} {k : Nat}
theorem o_in (hr : Room k X.A) : OpR X (compareOp .In) (r2 X.K X.mg inV) := op_raw fun pins s σ Z H v w x y z u1 u2 Q I r1 r2 zh b1 b2 e q => by
  obtain ⟨b, e1, rfl⟩ := Option.map_eq_some_iff.mp e
  have hd : ((∃ k, y = .dK k) ∨ ∃ k, y = .dT k) → wpAny (model X.prog X.w) X.A (compareOp .In u1 u2) (EP X pins σ Q) X.xe s := fun h => by
    obtain ⟨o, e2, rfl⟩ := inB_dict e1 h
    obtain ⟨a, r, rfl, hg, ho⟩ := dkGet_ok zh b1 b2 e2
    cases (show u2 = Value.ref a from r2)
    refine d_in (units_room hr) I hg r1 fun s' I' => ?_
    have : r.isSome = o.isSome := by rcases ho with ⟨h1, h2⟩ | ⟨u, z, h1, h2, _⟩ <;> rw [h1, h2] <;> rfl
    rw [this]
    exact q.bl I' zh
  have hl : ∀ ys, y.py = .list (pys ys) → (x.py.plain && PyData.plainAll (pys ys) && decide (min (PyData.depthAll (pys ys)) x.py.depth ≤ 64)) = true → b = (pys ys).any (fun y => PyData.eqv y x.py) → wpAny (model X.prog X.w) X.A (compareOp .In u1 u2) (EP X pins σ Q) X.xe s := fun ys ey hc eb => by
    subst eb
    simp only [Bool.and_eq_true, decide_eq_true_eq] at hc
    obtain ⟨as, ra⟩ := reads_of I zh b1 hc.1.1 r1
    obtain ⟨bs, rb⟩ := reads_of I zh b2 (by rw [ey]; simpa [PyData.plain] using hc.1.2) r2
    rw [ey] at rb
    exact PySem.SeqAt.in_list_data rb ra hc.1.2 hc.1.1 (in_room hr hc.2) (q.bl I zh)
  have ht : ∀ ys, y.py = .tuple (pys ys) → (x.py.plain && PyData.plainAll (pys ys) && decide (min (PyData.depthAll (pys ys)) x.py.depth ≤ 64)) = true → b = (pys ys).any (fun y => PyData.eqv y x.py) → wpAny (model X.prog X.w) X.A (compareOp .In u1 u2) (EP X pins σ Q) X.xe s := fun ys ey hc eb => by
    subst eb
    simp only [Bool.and_eq_true, decide_eq_true_eq] at hc
    obtain ⟨as, ra⟩ := reads_of I zh b1 hc.1.1 r1
    obtain ⟨bs, rb⟩ := reads_of I zh b2 (by rw [ey]; simpa [PyData.plain] using hc.1.2) r2
    rw [ey] at rb
    exact PySem.SeqAt.in_tuple_data rb ra hc.1.2 hc.1.1 (in_room hr hc.2) (q.bl I zh)
  cases y with
  | dK kxs => exact hd (.inl ⟨_, rfl⟩)
  | dT kxs => exact hd (.inr ⟨_, rfl⟩)
  | lst ys =>
    simp only [inB] at e1
    split at e1
    · rename_i hc; exact hl ys (by simp [Val.py]) hc (Option.some.inj e1).symm
    · cases e1
  | tup ys =>
    simp only [inB] at e1
    split at e1
    · rename_i hc; exact ht ys (by simp [Val.py]) hc (Option.some.inj e1).symm
    · cases e1
  | ktup ys =>
    simp only [inB] at e1
    split at e1
    · rename_i hc; exact ht ys (by simp [Val.py]) hc (Option.some.inj e1).symm
    · cases e1
  | str t =>
    cases x with
    | str s' =>
      cases e1
      cases bor_str b1
      cases bor_str b2
      exact op_in_str pins s σ H _ _ u1 u2 Q I r1 r2 ⟨_, _, rfl, rfl, q.here zh (.bl _)⟩
    | _ => cases e1
  | _ => cases e1
theorem o_nin (hr : Room k X.A) : OpR X (compareOp .NotIn) (r2 X.K X.mg ninV) := op_raw fun pins s σ Z H v w x y z u1 u2 Q I r1 r2 zh b1 b2 e q => by
  obtain ⟨b, e1, rfl⟩ := Option.map_eq_some_iff.mp e
  have hd : ((∃ k, y = .dK k) ∨ ∃ k, y = .dT k) → wpAny (model X.prog X.w) X.A (compareOp .NotIn u1 u2) (EP X pins σ Q) X.xe s := fun h => by
    obtain ⟨o, e2, rfl⟩ := inB_dict e1 h
    obtain ⟨a, r, rfl, hg, ho⟩ := dkGet_ok zh b1 b2 e2
    cases (show u2 = Value.ref a from r2)
    refine d_notIn (units_room hr) I hg r1 fun s' I' => ?_
    have : r.isSome = o.isSome := by rcases ho with ⟨h1, h2⟩ | ⟨u, z, h1, h2, _⟩ <;> rw [h1, h2] <;> rfl
    rw [this]
    exact q.bl I' zh
  have hl : ∀ ys, y.py = .list (pys ys) → (x.py.plain && PyData.plainAll (pys ys) && decide (min (PyData.depthAll (pys ys)) x.py.depth ≤ 64)) = true → b = (pys ys).any (fun y => PyData.eqv y x.py) → wpAny (model X.prog X.w) X.A (compareOp .NotIn u1 u2) (EP X pins σ Q) X.xe s := fun ys ey hc eb => by
    subst eb
    simp only [Bool.and_eq_true, decide_eq_true_eq] at hc
    obtain ⟨as, ra⟩ := reads_of I zh b1 hc.1.1 r1
    obtain ⟨bs, rb⟩ := reads_of I zh b2 (by rw [ey]; simpa [PyData.plain] using hc.1.2) r2
    rw [ey] at rb
    exact PySem.SeqAt.notIn_list_data rb ra hc.1.2 hc.1.1 (in_room hr hc.2) (q.bl I zh)
  have ht : ∀ ys, y.py = .tuple (pys ys) → (x.py.plain && PyData.plainAll (pys ys) && decide (min (PyData.depthAll (pys ys)) x.py.depth ≤ 64)) = true → b = (pys ys).any (fun y => PyData.eqv y x.py) → wpAny (model X.prog X.w) X.A (compareOp .NotIn u1 u2) (EP X pins σ Q) X.xe s := fun ys ey hc eb => by
    subst eb
    simp only [Bool.and_eq_true, decide_eq_true_eq] at hc
    obtain ⟨as, ra⟩ := reads_of I zh b1 hc.1.1 r1
    obtain ⟨bs, rb⟩ := reads_of I zh b2 (by rw [ey]; simpa [PyData.plain] using hc.1.2) r2
    rw [ey] at rb
    exact PySem.SeqAt.notIn_tuple_data rb ra hc.1.2 hc.1.1 (in_room hr hc.2) (q.bl I zh)
  cases y with
  | dK kxs => exact hd (.inl ⟨_, rfl⟩)
  | dT kxs => exact hd (.inr ⟨_, rfl⟩)
  | lst ys =>
    simp only [inB] at e1
    split at e1
    · rename_i hc; exact hl ys (by simp [Val.py]) hc (Option.some.inj e1).symm
    · cases e1
  | tup ys =>
    simp only [inB] at e1
    split at e1
    · rename_i hc; exact ht ys (by simp [Val.py]) hc (Option.some.inj e1).symm
    · cases e1
  | ktup ys =>
    simp only [inB] at e1
    split at e1
    · rename_i hc; exact ht ys (by simp [Val.py]) hc (Option.some.inj e1).symm
    · cases e1
  | str t =>
    cases x with
    | str s' =>
      cases e1
      cases bor_str b1
      cases bor_str b2
      exact op_notin_str pins s σ H _ _ u1 u2 Q I r1 r2 ⟨_, _, rfl, rfl, q.here zh (.bl _)⟩
    | _ => cases e1
  | _ => cases e1

/-! ### subscripts -/
def ixV : Val → Val → Option Val
  | .lst xs, .int i => atI xs i
  | .tup xs, .int i => atI xs i
  | .ktup xs, .int i => atI xs i
  | .scr xs, .int i => (atI xs i).map .int
  | .str z, .int i => if z.length ≤ sizeLine then (atI z.cps.toList i).map fun c => .str ⟨#[c]⟩ else none
  | _, _ => none
def ixD (x y : Val) : Option Val := match dkGet y x with
  | some (some z) => some z
  | _ => none
theorem Rls.atI {K : PySem.W.Frag} {mg : MG} {Z : Hp} {vs : List V} {xs : List Val} {i : Int} {x : Val} (r : Rls K mg Z vs xs) (e : atI xs i = some x) : ∃ v, atI vs i = some v ∧ Rl K mg Z v x := by
  unfold L2.atI at e ⊢
  rw [r.length]
  obtain ⟨j, e1, e2⟩ := Option.bind_eq_some_iff.mp e
  obtain ⟨v, h1, h2⟩ := r.get e2
  exact ⟨v, by rw [e1]; exact h1, h2⟩
theorem i_ix : IxR X (r2 X.K X.mg ixV) := IxR.imp ix_seq fun v w H Q ⟨Z, x, y, z, zh, b1, b2, e, q⟩ => by
  unfold ixV at e
  split at e
  · obtain ⟨a, vs, rfl, h1, r1⟩ := bor_lst zh b1
    cases bor_int b2
    obtain ⟨u, e1, r⟩ := r1.atI e
    exact .inl ⟨a, vs, _, u, rfl, rfl, SqL.of h1, e1, q.here zh r⟩
  · obtain ⟨a, vs, rfl, h1, r1⟩ := bor_tup b1
    cases bor_int b2
    obtain ⟨u, e1, r⟩ := r1.atI e
    exact .inr (.inl ⟨a, vs, _, u, rfl, rfl, SqT.of (zh _ _ h1), e1, q.here zh r⟩)
  · obtain ⟨a, vs, rfl, h1, r1⟩ := bor_ktup b1
    cases bor_int b2
    obtain ⟨u, e1, r⟩ := r1.atI e
    exact .inr (.inl ⟨a, vs, _, u, rfl, rfl, seqT_mono zh h1, e1, q.here zh r⟩)
  · obtain ⟨a, rfl, h1⟩ := bor_scr b1
    cases bor_int b2
    obtain ⟨n, e1, rfl⟩ := Option.map_eq_some_iff.mp e
    refine .inl ⟨a, _, _, .int n, rfl, rfl, zh.seq h1, ?_, q.here zh (.int n)⟩
    unfold atI at e1 ⊢
    rw [List.length_map]
    obtain ⟨j, e2, e3⟩ := Option.bind_eq_some_iff.mp e1
    rw [e2]
    show (List.map V.int _)[j]? = _
    rw [List.getElem?_map, e3]
    rfl
  · split at e
    · rename_i hl
      cases bor_str b1
      cases bor_int b2
      obtain ⟨c, e1, rfl⟩ := Option.map_eq_some_iff.mp e
      exact .inr (.inr ⟨_, _, c, rfl, rfl, hl, e1, q.here zh (.str _)⟩)
    · cases e
  · cases e
end

/-- d[k] -/
theorem pv_ixD {X : Cx} {k : Nat} {a b : Expr} {da db : DH} {pos : Pos} (hr : Room k X.A) (ha : PH X a da) (hb : PH X b db) (hs : NoSl b := by intro _ _; rfl) : PV X (.Subscript a b pos) (d2 ixD da db) := PE.imp (pe_dget (units_room hr) ha hb hs) fun σ H Q h => by
  have h' := run2 h
  refine tmono2 h' fun v w H2 ⟨Z, x, y, z, zh, b1, b2, e, q⟩ => ?_
  unfold ixD at e
  split at e
  · rename_i z' e1
    cases e
    obtain ⟨c, r, rfl, hg, ho⟩ := dkGet_ok zh b2 b1 e1
    rcases ho with ⟨h1, _⟩ | ⟨u, z2, h1, h2, h3⟩
    · cases h1
    · cases h1
      subst h2
      exact ⟨c, u, rfl, hg, q.here zh h3⟩
  · cases e
where
  tmono2 {X : Cx} {da db : DH} {σ : L2.St} {H : Hp} {R R' : V → V → Hp → Prop} (h : TH X.K X.mg da σ H fun v H1 => TH X.K X.mg db σ H1 fun w H2 => R v w H2) (i : ∀ v w H2, R v w H2 → R' v w H2) : TH X.K X.mg da σ H fun v H1 => TH X.K X.mg db σ H1 fun w H2 => R' v w H2 := by
    obtain ⟨Z, O, C, ρ, R0, x, ρ', q, k⟩ := h
    refine ⟨Z, O, C, ρ, R0, x, ρ', q, fun v H' Z' O' ex R' r => ?_⟩
    obtain ⟨Z, O, C, ρ, R0, x, ρ', q, k⟩ := k v H' Z' O' ex R' r
    exact ⟨Z, O, C, ρ, R0, x, ρ', q, fun w H' Z' O' ex R' r => i _ _ _ (k w H' Z' O' ex R' r)⟩
end Ev

/-! Ev: slices, displays, arguments, built-in calls, tests. -/
namespace Ev
open PySem PySem.Spec PyProof.Rows L2

/-! ### what an operand list is -/
inductive BorRs (K : PySem.W.Frag) (mg : MG) (Z H : Hp) : List V → List Val → Prop
  | nil : BorRs K mg Z H [] []
  | cons {v : V} {x : Val} {vs : List V} {xs : List Val} : BorR K mg Z H v x → BorRs K mg Z H vs xs → BorRs K mg Z H (v :: vs) (x :: xs)
def derefs (ρ : Env) : List Hd → Option (List Val)
  | [] => some []
  | h :: hs => (deref ρ h).bind fun x => (derefs ρ hs).map fun xs => x :: xs
theorem derefs_bor {K : PySem.W.Frag} {mg : MG} {Z H : Hp} {O : Lab} {C : Lk} {σ : L2.St} {ρ : Env} (R : EnvR K mg Z H O C σ ρ) : ∀ {vs : List V} {hs : List Hd} {xs : List Val}, HdRs K mg Z σ vs hs → derefs ρ hs = some xs → BorRs K mg Z H vs xs
  | _, _, _, .nil, e => by cases e; exact .nil
  | _, _, _, .cons r t, e => by
    obtain ⟨x, e1, e⟩ := Option.bind_eq_some_iff.mp e
    obtain ⟨xs, e2, rfl⟩ := Option.map_eq_some_iff.mp e
    exact .cons (deref_bor R r e1) (derefs_bor R t e2)
def takes (ρ : Env) : List Hd → Option (List Val × Env)
  | [] => some ([], ρ)
  | h :: hs => (takeV h ρ).bind fun p => (takes p.2 hs).map fun q => (p.1 :: q.1, q.2)
theorem takes_ok {K : PySem.W.Frag} {mg : MG} {H : Hp} {C : Lk} {σ : L2.St} : ∀ {Z : Hp} {O : Lab} {ρ : Env} {vs : List V} {hs : List Hd} {xs : List Val} {ρ' : Env}, EnvR K mg Z H O C σ ρ → HdRs K mg Z σ vs hs → takes ρ hs = some (xs, ρ') →
    ∃ Z' O', Ext Z H O Z' H O' ∧ EnvR K mg Z' H O' C σ ρ' ∧ Rls K mg Z' vs xs
  | Z, O, _, _, _, _, _, R, .nil, e => by cases e; exact ⟨Z, O, Ext.refl _ _ _, R, .nil⟩
  | Z, O, _, _, _, _, _, R, .cons r t, e => by
    obtain ⟨⟨x, ρ1⟩, e1, e⟩ := Option.bind_eq_some_iff.mp e
    obtain ⟨⟨xs, ρ2⟩, e2, e⟩ := Option.map_eq_some_iff.mp e
    cases e
    obtain ⟨Z1, O1, x1, R1, r1⟩ := takeV_ok R r e1
    obtain ⟨Z2, O2, x2, R2, r2⟩ := takes_ok R1 (t.mono x1.z) e2
    exact ⟨Z2, O2, x1.trans x2, R2, .cons (r1.mono x2.z) r2⟩

/-! ### arguments -/
def aNil : DA := fun ρ => .ok ([], ρ)
def aCons (d : DH) (ds : DA) : DA := fun ρ => (d ρ).bind fun p => (ds p.2).bind fun q => .ok (p.1 :: q.1, q.2)
section
variable {X : Cx}
theorem as_nil : PAs X [] aNil := PA.imp pa_nil fun σ H Q ⟨Z, O, C, ρ, R, hs, ρ', q, k⟩ => by
  cases q
  exact k [] H Z O (Ext.refl _ _ _) R .nil
theorem as_cons {e : Expr} {es : List Expr} {d : DH} {ds : DA} (ha : PH X e d) (hr : PAs X es ds) (hs : starEach (e :: es) X.env = (false, eval e X.env) :: starEach es X.env := by rfl) : PAs X (e :: es) (aCons d ds) :=
  PA.imp (pa_cons ha hr hs) fun σ H Q ⟨Z, O, C, ρ, R, hs, ρ', q, k⟩ => by
    obtain ⟨⟨h1, ρ1⟩, e1, q⟩ := Out.bind_ok q
    obtain ⟨⟨h2, ρ2⟩, e2, q⟩ := Out.bind_ok q
    cases q
    refine ⟨Z, O, C, ρ, R, h1, ρ1, e1, fun v H1 Z1 O1 x1 R1 r1 => ⟨Z1, O1, C, ρ1, R1, h2, ρ2, e2, fun vs H2 Z2 O2 x2 R2 r2 => ?_⟩⟩
    exact k (v :: vs) H2 Z2 O2 (x1.trans x2) R2 (.cons (r1.mono x2.z) r2)

/-! ### built-in calls -/
def rN (K : PySem.W.Frag) (mg : MG) (g : List Val → Option Val) : List V → Hp → VK → Prop := fun vs H Q => ∃ Z xs z, Same Z H ∧ BorRs K mg Z H vs xs ∧ g xs = some z ∧ PQ K mg Z H z Q
def dN (g : List Val → Option Val) (d : DA) : DV := fun ρ => (d ρ).bind fun p => Out.of ((derefs p.2 p.1).bind fun xs => (g xs).map fun z => (z, p.2))
theorem runN {K : PySem.W.Frag} {mg : MG} {d : DA} {g : List Val → Option Val} {σ : L2.St} {H : Hp} {Q : VK} (h : TV K mg (dN g d) σ H Q) : TAs K mg d σ H fun vs H1 => rN K mg g vs H1 Q := by
  obtain ⟨Z, O, C, ρ, R, x, ρ', q, k⟩ := h
  obtain ⟨⟨hs, ρ1⟩, e1, q⟩ := Out.bind_ok q
  obtain ⟨xs, e2, q⟩ := Option.bind_eq_some_iff.mp (Out.of_ok q)
  obtain ⟨z, e3, q⟩ := Option.map_eq_some_iff.mp q
  cases q
  exact ⟨Z, O, C, ρ, R, hs, ρ1, e1, fun vs H1 Z1 O1 x1 R1 r1 => ⟨Z1, xs, _, R1.zh, derefs_bor R1 r1 e2, e3, fun u Z3 H3 gr r => k u H3 Z3 O1 (x1.trans gr.ext) (R1.grow gr) r⟩⟩
variable {x : Str} {p pos : Pos} {e : Expr} {es : List Expr} {d : DA} {id T : String} {g : List Val → Option Val}
theorem pv_callB (hc : CallR X (.builtin id) (rN X.K X.mg g)) (hg : Gl X x) (hm : X.mg x = none) (hv : bootBuiltins x = some (.builtin id)) (ha : PAs X (e :: es) d) (hn : x ≠ "__name__" := by decide) (hdb : (x == ("__debug__" : Str)) = false := by decide)
    (he : starEach (e :: es) X.env = (false, eval e X.env) :: starEach es X.env := by rfl) (hpl : (backTo pos (starEach es X.env)).any (·.1) = false := by rfl) : PV X (.Call (.Name x p) (e :: es) [] pos) (dN g d) :=
  PE.imp (pe_callB hc hg hm hv ha hn hdb he hpl) fun _ _ _ => runN
theorem pv_callTy (hc : CallR X (.type T) (rN X.K X.mg g)) (hg : Gl X x) (hm : X.mg x = none) (hv : bootBuiltins x = some (.type T)) (ha : PAs X (e :: es) d) (hn : x ≠ "__name__" := by decide) (hdb : (x == ("__debug__" : Str)) = false := by decide)
    (he : starEach (e :: es) X.env = (false, eval e X.env) :: starEach es X.env := by rfl) (hpl : (backTo pos (starEach es X.env)).any (·.1) = false := by rfl) : PV X (.Call (.Name x p) (e :: es) [] pos) (dN g d) :=
  PE.imp (pe_callTy hc hg hm hv ha hn hdb he hpl) fun _ _ _ => runN
end

/-! ### slices -/
def cutL {α : Type} (xs : List α) (lo hi : Option Int) : List α := (xs.drop (HT.sIx xs.length 0 lo)).take (HT.sIx xs.length xs.length hi - HT.sIx xs.length 0 lo)
def slV (x : Val) (lo hi : Option Int) : Option Val := match x with
  | .lst xs => some (.lst (cutL xs lo hi))
  | .tup xs => some (.tup (cutL xs lo hi))
  | .scr ns => some (.lst ((cutL ns lo hi).map .int))
  | .str z => if z.length ≤ sizeLine then some (.str (cutS z lo hi)) else none
  | _ => none
abbrev DP := Env → Out (Option Int × Env)
def pNone : DP := fun ρ => .ok (none, ρ)
def pSome (d : DV) : DP := fun ρ => (d ρ).bind fun p => match p.1 with
  | .int i => .ok (some i, p.2)
  | _ => .bad
def TPo (K : PySem.W.Frag) (mg : MG) (d : DP) : TO := fun σ H Q => ∃ Z O C ρ, EnvR K mg Z H O C σ ρ ∧ ∃ o ρ', d ρ = .ok (o, ρ') ∧
  ∀ H' Z' O', Ext Z H O Z' H' O' → EnvR K mg Z' H' O' C σ ρ' → Q o H'
abbrev POo (X : Cx) (e : Option Expr) (d : DP) : Prop := PO X e (TPo X.K X.mg d)
theorem PO.imp {X : Cx} {e : Option Expr} {t t' : TO} (h : PO X e t) (i : ∀ σ H Q, t' σ H Q → t σ H Q) : PO X e t' := ⟨fun pins s σ H Q I q => h.run pins s σ H Q I (i σ H Q q)⟩
section
variable {X : Cx}
theorem pp_none : POo X none pNone := PO.imp po_none fun σ H Q ⟨Z, O, C, ρ, R, o, ρ', q, k⟩ => by cases q; exact k H Z O (Ext.refl _ _ _) R
theorem pp_some {e : Expr} {d : DV} (h : PV X e d) : POo X (some e) (pSome d) := PO.imp (po_some h) fun σ H Q ⟨Z, O, C, ρ, R, o, ρ', q, k⟩ => by
  obtain ⟨⟨x, ρ1⟩, e1, q⟩ := Out.bind_ok q
  refine ⟨Z, O, C, ρ, R, x, ρ1, e1, fun v H1 Z1 O1 x1 R1 r1 => ?_⟩
  cases x with
  | int i =>
    cases q
    cases r1
    exact ⟨i, rfl, k H1 Z1 O1 x1 R1⟩
  | _ => cases q
def dSl (da : DH) (dl dh : DP) : DV := fun ρ => (da ρ).bind fun p => (dl p.2).bind fun l => (dh l.2).bind fun h => Out.of ((deref h.2 p.1).bind fun x => (slV x l.1 h.1).map fun z => (z, h.2))
def rSl (K : PySem.W.Frag) (mg : MG) : V → Option Int → Option Int → Hp → VK → Prop := fun v lo hi H Q => ∃ Z x z, Same Z H ∧ BorR K mg Z H v x ∧ slV x lo hi = some z ∧ PQ K mg Z H z Q
theorem sIx_whole {n : Nat} {lo hi : Option Int} {α : Type} {xs : List α} (hn : xs.length = n) (h : HT.sIx n 0 lo = 0 ∧ HT.sIx n n hi = n) : cutL xs lo hi = xs := by
  subst hn
  unfold cutL
  rw [h.1, h.2]
  simp
theorem s_sl : SlR X (rSl X.K X.mg) := SlR.imp (sl_list.or (sl_tupA.or sl_str)) fun v lo hi H Q ⟨Z, x, z, zh, b, e, q⟩ => by
  cases x with
  | lst xs =>
    cases e
    obtain ⟨a, vs, rfl, h1, r1⟩ := bor_lst zh b
    refine .inl ⟨a, vs, rfl, SqL.of h1, fun p hp => q.newL zh hp ?_⟩
    unfold cutV cutL
    rw [r1.length]
    exact (r1.drop _).take _
  | scr ns =>
    cases e
    obtain ⟨a, rfl, h1⟩ := bor_scr b
    refine .inl ⟨a, _, rfl, zh.seq h1, fun p hp => q.newL zh hp ?_⟩
    have : cutV (ns.map V.int) lo hi = (cutL ns lo hi).map V.int := by unfold cutV cutL; rw [List.length_map, ← List.map_drop, ← List.map_take]
    rw [this]
    exact Rls.ints _
  | tup xs =>
    cases e
    obtain ⟨a, vs, rfl, h1, r1⟩ := bor_tup b
    refine .inr (.inl ⟨a, vs, rfl, SqT.of (zh _ _ h1), fun hw => ?_, fun hw p hp => q.newT zh hp ?_⟩)
    · rw [sIx_whole r1.length.symm hw] at q
      exact q.here zh (.tup h1 r1)
    · unfold cutV cutL
      rw [r1.length]
      exact (r1.drop _).take _
  | str z' =>
    simp only [slV] at e
    split at e
    · rename_i hl
      cases e
      cases bor_str b
      exact .inr (.inr ⟨_, rfl, hl, q.here zh (.str _)⟩)
    · cases e
  | _ => cases e
theorem pv_slice {e : Expr} {lo hi : Option Expr} {da : DH} {dl dh : DP} {p2 pos : Pos} (he : PH X e da) (hl : POo X lo dl) (hu : POo X hi dh) : PV X (.Subscript e (.Slice lo hi none p2) pos) (dSl da dl dh) :=
  PE.imp (pe_slice s_sl he hl hu) fun σ H Q ⟨Z, O, C, ρ, R, x, ρ', q, k⟩ => by
    obtain ⟨⟨h1, ρ1⟩, e1, q⟩ := Out.bind_ok q
    obtain ⟨⟨l, ρ2⟩, e2, q⟩ := Out.bind_ok q
    obtain ⟨⟨u, ρ3⟩, e3, q⟩ := Out.bind_ok q
    obtain ⟨y, e4, q⟩ := Option.bind_eq_some_iff.mp (Out.of_ok q)
    obtain ⟨z, e5, q⟩ := Option.map_eq_some_iff.mp q
    cases q
    refine ⟨Z, O, C, ρ, R, h1, ρ1, e1, fun v H1 Z1 O1 x1 R1 r1 => ⟨Z1, O1, C, ρ1, R1, l, ρ2, e2, fun H2 Z2 O2 x2 R2 => ⟨Z2, O2, C, ρ2, R2, u, ρ3, e3, fun H3 Z3 O3 x3 R3 => ?_⟩⟩⟩
    exact ⟨Z3, y, _, R3.zh, deref_bor R3 (r1.mono (x2.z.trans x3.z)) e4, e5, fun w Z4 H4 gr r => k w H4 Z4 O3 ((x1.trans (x2.trans x3)).trans gr.ext) (R3.grow gr) r⟩
end

/-! ### displays -/
def dTup (d : DA) : DV := fun ρ => (d ρ).bind fun p => Out.of ((takes p.2 p.1).bind fun q => if q.1.length ≤ sizeLine then some (.tup q.1, q.2) else none)
section
variable {X : Cx}
theorem pv_tup {es : List Expr} {d : DA} {pos : Pos} {k1} (h : PAs X es d) : PV X (.Tuple es k1 pos) (dTup d) := PE.imp (pe_tup h) fun σ H Q ⟨Z, O, C, ρ, R, x, ρ', q, k⟩ => by
  obtain ⟨⟨hs, ρ1⟩, e1, q⟩ := Out.bind_ok q
  obtain ⟨⟨xs, ρ2⟩, e2, q⟩ := Option.bind_eq_some_iff.mp (Out.of_ok q)
  refine ⟨Z, O, C, ρ, R, hs, ρ1, e1, fun vs H1 Z1 O1 x1 R1 r1 => ?_⟩
  split at q
  · rename_i hl
    cases q
    obtain ⟨Z2, O2, x2, R2, r2⟩ := takes_ok R1 r1 e2
    refine ⟨by rw [r2.length]; exact hl, fun p hp => ?_⟩
    let gr := Grow.newZ (o := .tup vs) R2.zh hp
    exact k _ _ _ O2 ((x1.trans x2).trans gr.ext) (R2.grow gr) (.tup upd_same (r2.mono gr.z))
  · cases q
end

/-! ### owned results -/
/-- v is a new thing, nobody else's -/
def OwR (K : PySem.W.Frag) (mg : MG) (Z H : Hp) (O : Lab) (C : Lk) (H0 : Hp) (v : V) : Sl → Prop
  | .fz x => Rl K mg Z v x
  | .own xs => ∃ a vs, v = .ref a ∧ O a = none ∧ Z a = none ∧ C a = none ∧ H0 a = none ∧ H a = some (.lst vs) ∧ Rls K mg Z vs xs
  | .odK kxs => ∃ a kvs, v = .ref a ∧ O a = none ∧ Z a = none ∧ C a = none ∧ H0 a = none ∧ H a = some (.dK kvs) ∧ kvs.map (·.1) = kxs.map (·.1) ∧ Rls K mg Z (kvs.map (·.2)) (kxs.map (·.2))
  | .odT kxs => ∃ a kvs, v = .ref a ∧ O a = none ∧ Z a = none ∧ C a = none ∧ H0 a = none ∧ H a = some (.dT kvs) ∧ kvs.map (·.1) = kxs.map (·.1) ∧ Rls K mg Z (kvs.map (·.2)) (kxs.map (·.2))
  | .own2 xss => ∃ a bs, v = .ref a ∧ (∀ b ∈ a :: bs, O b = none ∧ Z b = none ∧ C b = none ∧ H0 b = none) ∧ (a :: bs).Nodup ∧ H a = some (.lst (bs.map V.ref)) ∧ Paired (fun b xs => ∃ ws, H b = some (.lst ws) ∧ Rls K mg Z ws xs) bs xss
  | .box cells d s => ∃ a c, v = .ref a ∧ a ≠ c ∧ (∀ b, b = a ∨ b = c → O b = none ∧ Z b = none ∧ C b = none ∧ H0 b = none) ∧ H a = some (.lst [.ref c, .int d, .int s]) ∧ H c = some (.lst (cells.map V.int))
  | _ => False
def TOw (K : PySem.W.Frag) (mg : MG) (d : DO) : TE := fun σ H Q => ∃ Z O C ρ, EnvR K mg Z H O C σ ρ ∧ ∃ s ρ', d ρ = .ok (s, ρ') ∧
  ∀ v H' Z' O', Ext Z H O Z' H' O' → EnvR K mg Z' H' O' C σ ρ' → OwR K mg Z' H' O' C H v s → Q v H'
abbrev POw (X : Cx) (e : Expr) (d : DO) : Prop := PE X e (TOw X.K X.mg d)
def dOV (d : DV) : DO := fun ρ => (d ρ).bind fun p => .ok (.fz p.1, p.2)
theorem pow_of {X : Cx} {e : Expr} {d : DV} (h : PV X e d) : POw X e (dOV d) := PE.imp h fun σ H Q ⟨Z, O, C, ρ, R, s, ρ', q, k⟩ => by
  obtain ⟨⟨x, ρ1⟩, e1, q⟩ := Out.bind_ok q
  cases q
  exact ⟨Z, O, C, ρ, R, x, ρ1, e1, fun v H' Z' O' ex R' r => k v H' Z' O' ex R' r⟩
/-- as a value -/
def dVO (d : DO) : DV := fun ρ => (d ρ).bind fun p => Out.of ((frOf p.1).map fun x => (x, p.2))
theorem EnvR.freezeAll {K : PySem.W.Frag} {mg : MG} {Z H : Hp} {O : Lab} {C : Lk} {σ : L2.St} {ρ : Env} {Z0 H0 : Hp} {O0 : Lab} (x : Ext Z0 H0 O0 Z H O) (R : EnvR K mg Z H O C σ ρ) (A : Addr → Bool) (h : ∀ b, A b = true → O b = none ∧ Z b = none ∧ H0 b = none) :
    let Z' : Hp := fun b => if A b = true then H b else Z b
    Same Z Z' ∧ EnvR K mg Z' H O C σ ρ ∧ Ext Z0 H0 O0 Z' H O := by
  have hz : Same Z (fun b => if A b = true then H b else Z b) := fun b o e => by
    show (if A b = true then H b else Z b) = some o
    split
    · rename_i hb
      rw [(h b hb).2.1] at e; cases e
    · exact e
  refine ⟨hz, ⟨R.len, fun b o e => ?_, R.ch, fun b hb => ?_, R.ob, fun i s e => (R.sl i s e).keep hz fun b q hb => ⟨rfl, hb⟩⟩, ⟨x.z.trans hz, x.h, x.t, x.o, fun b hb => ?_⟩⟩
  · have e : (if A b = true then H b else Z b) = some o := e
    split at e
    · exact e
    · exact R.zh b o e
  · obtain ⟨h1, h2, h3⟩ := R.oz b hb
    refine ⟨?_, h2, h3⟩
    show (if A b = true then H b else Z b) = none
    rw [if_neg]
    · exact h1
    · intro z
      exact hb (h b z).1
  · have hb : (if A b = true then H b else Z b) ≠ none := hb
    split at hb
    · rename_i ha; exact .inr (.inl (h b ha).2.2)
    · exact x.zn b hb
theorem OwR.freeze {K : PySem.W.Frag} {mg : MG} {Z H : Hp} {O : Lab} {C : Lk} {H0 : Hp} {σ : L2.St} {ρ : Env} {v : V} {s : Sl} {x : Val} {Z0 : Hp} {O0 : Lab} (ex : Ext Z0 H0 O0 Z H O) (R : EnvR K mg Z H O C σ ρ) (r : OwR K mg Z H O C H0 v s) (f : frOf s = some x) :
    ∃ Z', Ext Z0 H0 O0 Z' H O ∧ EnvR K mg Z' H O C σ ρ ∧ Rl K mg Z' v x := by
  cases s with
  | no => cases f
  | fz y => cases f; exact ⟨Z, ex, R, r⟩
  | own xs =>
    cases f
    obtain ⟨a, vs, rfl, h1, h2, h3, h4, h5, h6⟩ := r
    obtain ⟨hz, R', ex⟩ := EnvR.freezeAll ex R (fun b => decide (b = a)) fun b hb => by cases of_decide_eq_true hb; exact ⟨h1, h2, h4⟩
    exact ⟨_, ex, R', .lst (by simpa using h5) (h6.mono hz)⟩
  | odK k =>
    cases f
    obtain ⟨a, vs, rfl, h1, h2, h3, h4, h5, h6, h7⟩ := r
    obtain ⟨hz, R', ex⟩ := EnvR.freezeAll ex R (fun b => decide (b = a)) fun b hb => by cases of_decide_eq_true hb; exact ⟨h1, h2, h4⟩
    exact ⟨_, ex, R', .dK (by simpa using h5) h6 (h7.mono hz)⟩
  | odT k =>
    cases f
    obtain ⟨a, vs, rfl, h1, h2, h3, h4, h5, h6, h7⟩ := r
    obtain ⟨hz, R', ex⟩ := EnvR.freezeAll ex R (fun b => decide (b = a)) fun b hb => by cases of_decide_eq_true hb; exact ⟨h1, h2, h4⟩
    exact ⟨_, ex, R', .dT (by simpa using h5) h6 (h7.mono hz)⟩
  | own2 xss =>
    cases f
    obtain ⟨a, bs, rfl, h1, h2, h3, h4⟩ := r
    obtain ⟨hz, R', ex⟩ := EnvR.freezeAll ex R (fun b => decide (b ∈ a :: bs)) fun b hb => by
      obtain ⟨k1, k2, k3, k4⟩ := h1 b (of_decide_eq_true hb)
      exact ⟨k1, k2, k4⟩
    refine ⟨_, ex, R', .lst (vs := bs.map V.ref) (by simpa using h3) ?_⟩
    have go : ∀ {bs' : List Addr} {xss : List (List Val)}, (∀ b ∈ bs', b ∈ a :: bs) → Paired (fun b xs => ∃ ws, H b = some (.lst ws) ∧ Rls K mg Z ws xs) bs' xss → Rls K mg (fun b => if decide (b ∈ a :: bs) = true then H b else Z b) (bs'.map V.ref) (xss.map Val.lst) := by
      intro bs' xss hm hp
      induction hp with
      | nil => exact .nil
      | cons q t ih =>
        obtain ⟨ws, q1, q2⟩ := q
        refine .cons (.lst (vs := ws) ?_ (q2.mono hz)) (ih fun b hb => hm b (List.mem_cons_of_mem _ hb))
        rw [if_pos (decide_eq_true (hm _ List.mem_cons_self))]
        exact q1
    exact go (fun b hb => List.mem_cons_of_mem _ hb) h4
  | lck _ => cases f
  | par _ => cases f
  | box _ _ _ => cases f
theorem pv_own {X : Cx} {e : Expr} {d : DO} (h : POw X e d) : PV X e (dVO d) := PE.imp h fun σ H Q ⟨Z, O, C, ρ, R, x, ρ', q, k⟩ => by
  obtain ⟨⟨s, ρ1⟩, e1, q⟩ := Out.bind_ok q
  obtain ⟨y, e2, q⟩ := Option.map_eq_some_iff.mp (Out.of_ok q)
  cases q
  refine ⟨Z, O, C, ρ, R, s, ρ1, e1, fun v H' Z' O' ex R' r => ?_⟩
  obtain ⟨Z2, x2, R2, r2⟩ := OwR.freeze ex R' r e2
  exact k v H' Z2 O' x2 R2 r2
/-- a list display, as a new list -/
def dLst (d : DA) : DO := fun ρ => (d ρ).bind fun p => Out.of ((takes p.2 p.1).bind fun q => if q.1.length ≤ sizeLine then some (.own q.1, q.2) else none)
theorem EnvR.fresh {K : PySem.W.Frag} {mg : MG} {Z H : Hp} {O : Lab} {C : Lk} {σ : L2.St} {ρ : Env} (R : EnvR K mg Z H O C σ ρ) {p : Addr} (hp : H p = none) : O p = none ∧ Z p = none ∧ C p = none := by
  refine ⟨?_, R.zh.free hp, R.ch.free hp⟩
  cases e : O p with
  | none => rfl
  | some q => exact absurd hp (R.oz p (by rw [e]; simp)).2.2
theorem Ext.fresh {Z H : Hp} {O : Lab} {Z' H' : Hp} {O' : Lab} (x : Ext Z H O Z' H' O') {p : Addr} (hp : H' p = none) : H p = none := by
  cases e : H p with
  | none => rfl
  | some o => exact absurd hp (x.t p (by rw [e]; simp))
theorem pow_lst {X : Cx} {es : List Expr} {d : DA} {pos : Pos} (h : PAs X es d) : POw X (.List es pos) (dLst d) := PE.imp (pe_lst h) fun σ H Q ⟨Z, O, C, ρ, R, x, ρ', q, k⟩ => by
  obtain ⟨⟨hs, ρ1⟩, e1, q⟩ := Out.bind_ok q
  obtain ⟨⟨xs, ρ2⟩, e2, q⟩ := Option.bind_eq_some_iff.mp (Out.of_ok q)
  refine ⟨Z, O, C, ρ, R, hs, ρ1, e1, fun vs H1 Z1 O1 x1 R1 r1 => ?_⟩
  split at q
  · rename_i hl
    cases q
    obtain ⟨Z2, O2, x2, R2, r2⟩ := takes_ok R1 r1 e2
    refine ⟨by rw [r2.length]; exact hl, fun p hp => ?_⟩
    let gr := Grow.newH (o := .lst vs) R2.zh hp
    obtain ⟨f1, f2, f3⟩ := R2.fresh hp
    exact k _ _ _ O2 ((x1.trans x2).trans gr.ext) (R2.grow gr) ⟨p, vs, rfl, f1, f2, f3, x1.fresh hp, upd_same, r2⟩
  · cases q
end Ev

/-! Ev: tests, and, or, not, chains, conditional expressions, one-place operations, built-in functions. -/
namespace Ev
open PySem PySem.Spec PyProof.Rows L2

/-! ### truth -/
def truth : Val → Option Bool
  | .non => some false
  | .bl b => some b
  | .int i => some (i != 0)
  | .str s => if s.length ≤ sizeLine then some ((s.length : Int) != 0) else none
  | .tup xs => some (!xs.isEmpty)
  | .ktup xs => some (!xs.isEmpty)
  | .lst xs => some (!xs.isEmpty)
  | .scr xs => some (!xs.isEmpty)
  | .dK xs => some (!xs.isEmpty)
  | _ => none
theorem Rls.isEmpty {K : PySem.W.Frag} {mg : MG} {Z : Hp} {vs : List V} {xs : List Val} (r : Rls K mg Z vs xs) : vs.isEmpty = xs.isEmpty := by cases r <;> rfl
theorem truth_ok {K : PySem.W.Frag} {mg : MG} {Z H : Hp} {v : V} {x : Val} {b : Bool} (zh : Same Z H) (r : BorR K mg Z H v x) (e : truth x = some b) : TruV K v H b := by
  cases x with
  | non => cases e; cases bor_non r; rfl
  | bl k => cases e; cases bor_bl r; rfl
  | int k => cases e; cases bor_int r; rfl
  | str k =>
    simp only [truth] at e
    split at e
    · rename_i h; cases e; cases bor_str r; exact ⟨h, rfl⟩
    · cases e
  | tup xs =>
    cases e
    obtain ⟨a, vs, rfl, h1, r1⟩ := bor_tup r
    exact .inr (.inl ⟨vs, SqT.of (zh _ _ h1), by rw [r1.isEmpty]⟩)
  | ktup xs =>
    cases e
    obtain ⟨a, vs, rfl, h1, r1⟩ := bor_ktup r
    exact .inr (.inl ⟨vs, seqT_mono zh h1, by rw [r1.isEmpty]⟩)
  | lst xs =>
    cases e
    obtain ⟨a, vs, rfl, h1, r1⟩ := bor_lst zh r
    exact .inl ⟨vs, SqL.of h1, by rw [r1.isEmpty]⟩
  | scr xs =>
    cases e
    obtain ⟨a, rfl, h1⟩ := bor_scr r
    refine .inl ⟨_, zh.seq h1, ?_⟩
    cases xs <;> rfl
  | dK xs =>
    cases e
    obtain ⟨a, kvs, rfl, h1, r1, _⟩ := bor_dK zh r
    refine .inr (.inr ⟨kvs, h1, ?_⟩)
    cases xs <;> cases kvs <;> first | rfl | cases r1
  | _ => cases e
/-- an operand as a test -/
def tOf (d : DH) : DT := fun ρ => (d ρ).bind fun p => Out.of ((deref p.2 p.1).bind fun x => (truth x).map fun b => (b, p.2))
section
variable {X : Cx}
theorem pt_of {e : Expr} {d : DH} (h : PH X e d) (he : ∀ whole, isTrue e X.env whole = (do let v ← whole; standAt e.pos; holding [v] (truthy v)) := by intro _; rfl) : PTt X e (tOf d) :=
  PT.imp (pt_truth h he) fun σ H Q ⟨Z, O, C, ρ, R, b, ρ', q, k⟩ => by
    obtain ⟨⟨h1, ρ1⟩, e1, q⟩ := Out.bind_ok q
    obtain ⟨y, e4, q⟩ := Option.bind_eq_some_iff.mp (Out.of_ok q)
    obtain ⟨z, e5, q⟩ := Option.map_eq_some_iff.mp q
    cases q
    exact ⟨Z, O, C, ρ, R, h1, ρ1, e1, fun v H1 Z1 O1 x1 R1 r1 => ⟨_, truth_ok R1.zh (deref_bor R1 r1 e4) e5, k H1 Z1 O1 x1 R1⟩⟩
/-- a value that is a bool, as a test -/
def tBl (d : DV) : DT := fun ρ => (d ρ).bind fun p => match p.1 with
  | .bl b => .ok (b, p.2)
  | _ => .bad
theorem pt_cmp' {a b : Expr} {da db : DH} {pos : Pos} {g : Val → Val → Option Val} {op : CmpOp} (ho : OpR X (compareOp op) (r2 X.K X.mg g)) (ha : PH X a da) (hb : PH X b db) (hm : behindInMarks op b = false := by first | exact nomark _ | rfl) :
    PTt X (.Compare a [op] [b] pos) (tBl (d2 g da db)) := PT.imp (pt_cmpR ho ha hb hm) fun σ H Q ⟨Z, O, C, ρ, R, b, ρ', q, k⟩ => by
  obtain ⟨⟨y, ρ1⟩, e1, q⟩ := Out.bind_ok q
  cases y with
  | bl c =>
    cases q
    exact run2 ⟨Z, O, C, ρ, R, .bl b, ρ1, e1, fun v H' Z' O' x R' r => by cases r; exact ⟨b, rfl, k H' Z' O' x R'⟩⟩
  | _ => cases q
/-! a op b op c -/
def dChain (g g' : Val → Val → Option Val) (da db dc : DH) : DV := fun ρ => (da ρ).bind fun p => (db p.2).bind fun q =>
  match (deref q.2 p.1).bind fun x => (deref q.2 q.1).bind fun y => g x y with
  | some (.bl true) => (dc q.2).bind fun r => Out.of ((deref r.2 q.1).bind fun y => (deref r.2 r.1).bind fun w => (g' y w).map fun z => (z, r.2))
  | some (.bl false) => .ok (.bl false, q.2)
  | _ => .bad
theorem runChain {K : PySem.W.Frag} {mg : MG} {da db dc : DH} {g g' : Val → Val → Option Val} {σ : L2.St} {H : Hp} {Q : VK} (h : TV K mg (dChain g g' da db dc) σ H Q) :
    tChain (r2 K mg g) (r2 K mg g') (TH K mg da) (TH K mg db) (TH K mg dc) σ H Q := by
  obtain ⟨Z, O, C, ρ, R, x, ρ', q, k⟩ := h
  obtain ⟨⟨h1, ρ1⟩, e1, q⟩ := Out.bind_ok q
  obtain ⟨⟨h2, ρ2⟩, e2, q⟩ := Out.bind_ok q
  refine ⟨Z, O, C, ρ, R, h1, ρ1, e1, fun v H1 Z1 O1 x1 R1 r1 => ⟨Z1, O1, C, ρ1, R1, h2, ρ2, e2, fun w H2 Z2 O2 x2 R2 r2 => ?_⟩⟩
  cases e3 : ((deref ρ2 h1).bind fun x => (deref ρ2 h2).bind fun y => g x y) with
  | none => simp only [e3] at q; cases q
  | some y =>
    simp only [e3] at q
    obtain ⟨y1, f1, f⟩ := Option.bind_eq_some_iff.mp e3
    obtain ⟨y2, f2, f3⟩ := Option.bind_eq_some_iff.mp f
    refine ⟨Z2, y1, y2, y, R2.zh, deref_bor R2 (r1.mono x2.z) f1, deref_bor R2 r2 f2, f3, fun u Z3 H3 gr r => ?_⟩
    cases y with
    | bl c =>
      cases r
      refine ⟨c, rfl, ?_⟩
      cases c with
      | false =>
        cases q
        rw [if_neg Bool.false_ne_true]
        exact k _ _ _ _ ((x1.trans x2).trans gr.ext) (R2.grow gr) (.bl false)
      | true =>
        rw [if_pos rfl]
        obtain ⟨⟨h3, ρ3⟩, e4, q⟩ := Out.bind_ok q
        obtain ⟨y3, f4, q⟩ := Option.bind_eq_some_iff.mp (Out.of_ok q)
        obtain ⟨y4, f5, q⟩ := Option.bind_eq_some_iff.mp q
        obtain ⟨z, f6, q⟩ := Option.map_eq_some_iff.mp q
        cases q
        refine ⟨Z3, O2, C, ρ2, R2.grow gr, h3, ρ3, e4, fun w' H4 Z4 O4 x4 R4 r4 => ?_⟩
        exact ⟨Z4, y3, y4, x, R4.zh, deref_bor R4 (r2.mono (gr.z.trans x4.z)) f4, deref_bor R4 r4 f5, f6, fun u5 Z5 H5 gr5 r5 => k _ _ _ _ ((((x1.trans x2).trans gr.ext).trans x4).trans gr5.ext) (R4.grow gr5) r5⟩
    | _ => cases q
theorem pv_chain {a b c : Expr} {da db dc : DH} {pos : Pos} {g g' : Val → Val → Option Val} {op op' : CmpOp} (ho : OpR X (compareOp op) (r2 X.K X.mg g)) (ho' : OpR X (compareOp op') (r2 X.K X.mg g')) (ha : PH X a da) (hb : PH X b db) (hc : PH X c dc)
    (hm : lastMarks [op, op'] [b, c] = false := by with_unfolding_all rfl) : PV X (.Compare a [op, op'] [b, c] pos) (dChain g g' da db dc) := PE.imp (pe_chain ho ho' ha hb hc hm) fun _ _ _ => runChain
theorem pt_chain' {a b c : Expr} {da db dc : DH} {pos : Pos} {g g' : Val → Val → Option Val} {op op' : CmpOp} (ho : OpR X (compareOp op) (r2 X.K X.mg g)) (ho' : OpR X (compareOp op') (r2 X.K X.mg g')) (ha : PH X a da) (hb : PH X b db) (hc : PH X c dc)
    (hm : lastMarks [op, op'] [b, c] = false := by with_unfolding_all rfl) : PTt X (.Compare a [op, op'] [b, c] pos) (tBl (dChain g g' da db dc)) := PT.imp (pt_chain ho ho' ha hb hc hm) fun σ H Q ⟨Z, O, C, ρ, R, b, ρ', q, k⟩ => by
  obtain ⟨⟨y, ρ1⟩, e1, q⟩ := Out.bind_ok q
  cases y with
  | bl c =>
    cases q
    exact runChain ⟨Z, O, C, ρ, R, .bl b, ρ1, e1, fun v H' Z' O' x R' r => by cases r; exact ⟨b, rfl, k H' Z' O' x R'⟩⟩
  | _ => cases q
/-! and, or, not as tests -/
def tAndD (a b : DT) : DT := fun ρ => (a ρ).bind fun p => if p.1 = true then b p.2 else .ok (false, p.2)
def tOrD (a b : DT) : DT := fun ρ => (a ρ).bind fun p => if p.1 = true then .ok (true, p.2) else b p.2
def tNotD (a : DT) : DT := fun ρ => (a ρ).bind fun p => .ok (!p.1, p.2)
theorem pw_and1' {a : Expr} {d : DT} {pos : Pos} (ha : PTt X a d) : PWt X (.BoolOp .And [a] pos) d := pw_and1 ha
theorem pw_or1' {a : Expr} {d : DT} {pos : Pos} (ha : PTt X a d) : PWt X (.BoolOp .Or [a] pos) d := pw_or1 ha
theorem pw_and' {a b : Expr} {rest : List Expr} {da db : DT} {pos : Pos} (ha : PTt X a da) (hb : PWt X (.BoolOp .And (b :: rest) pos) db) : PWt X (.BoolOp .And (a :: b :: rest) pos) (tAndD da db) :=
  PW.imp (pw_and ha hb) fun σ H Q ⟨Z, O, C, ρ, R, b, ρ', q, k⟩ => by
    obtain ⟨⟨c, ρ1⟩, e1, q⟩ := Out.bind_ok q
    refine ⟨Z, O, C, ρ, R, c, ρ1, e1, fun H1 Z1 O1 x1 R1 => ?_⟩
    cases c with
    | true => exact ⟨Z1, O1, C, ρ1, R1, b, ρ', q, fun H2 Z2 O2 x2 R2 => k H2 Z2 O2 (x1.trans x2) R2⟩
    | false => cases q; exact k H1 Z1 O1 x1 R1
theorem pw_or' {a b : Expr} {rest : List Expr} {da db : DT} {pos : Pos} (ha : PTt X a da) (hb : PWt X (.BoolOp .Or (b :: rest) pos) db) : PWt X (.BoolOp .Or (a :: b :: rest) pos) (tOrD da db) :=
  PW.imp (pw_or ha hb) fun σ H Q ⟨Z, O, C, ρ, R, b, ρ', q, k⟩ => by
    obtain ⟨⟨c, ρ1⟩, e1, q⟩ := Out.bind_ok q
    refine ⟨Z, O, C, ρ, R, c, ρ1, e1, fun H1 Z1 O1 x1 R1 => ?_⟩
    cases c with
    | false => exact ⟨Z1, O1, C, ρ1, R1, b, ρ', q, fun H2 Z2 O2 x2 R2 => k H2 Z2 O2 (x1.trans x2) R2⟩
    | true => cases q; exact k H1 Z1 O1 x1 R1
theorem pt_w {e : Expr} {d : DT} (h : PWt X e d) : PTt X e d := h.pt
theorem pt_not' {a : Expr} {d : DT} {pos : Pos} (ha : PTt X a d) : PTt X (.UnaryOp .Not a pos) (tNotD d) := PT.imp (pt_not ha) fun σ H Q ⟨Z, O, C, ρ, R, b, ρ', q, k⟩ => by
  obtain ⟨⟨c, ρ1⟩, e1, q⟩ := Out.bind_ok q
  cases q
  exact ⟨Z, O, C, ρ, R, c, ρ1, e1, k⟩
/-! .. as values -/
def vAnd (a b : DV) : DV := fun ρ => (a ρ).bind fun p => match truth p.1 with
  | some true => b p.2
  | some false => .ok p
  | none => .bad
def vOr (a b : DV) : DV := fun ρ => (a ρ).bind fun p => match truth p.1 with
  | some true => .ok p
  | some false => b p.2
  | none => .bad
def vNot (a : DH) : DV := fun ρ => (a ρ).bind fun p => Out.of ((deref p.2 p.1).bind fun x => (truth x).map fun b => (.bl (!b), p.2))
theorem pv_one {a : Expr} {op} {d : DV} {pos : Pos} (h : PV X a d) : PV X (.BoolOp op [a] pos) d := pe_one h
theorem pv_and {a b : Expr} {rest : List Expr} {da db : DV} {pos : Pos} (ha : PV X a da) (hb : PV X (.BoolOp .And (b :: rest) pos) db) : PV X (.BoolOp .And (a :: b :: rest) pos) (vAnd da db) :=
  PE.imp (pe_andT ha hb) fun σ H Q ⟨Z, O, C, ρ, R, z, ρ', q, k⟩ => by
    obtain ⟨⟨y, ρ1⟩, e1, q⟩ := Out.bind_ok q
    refine ⟨Z, O, C, ρ, R, y, ρ1, e1, fun v H1 Z1 O1 x1 R1 r1 => ?_⟩
    cases e : truth y with
    | none => simp only [e] at q; cases q
    | some c =>
      simp only [e] at q
      refine ⟨c, truth_ok R1.zh (.fz r1) e, ?_⟩
      cases c with
      | true => exact ⟨Z1, O1, C, ρ1, R1, z, ρ', q, fun w H2 Z2 O2 x2 R2 r2 => k w H2 Z2 O2 (x1.trans x2) R2 r2⟩
      | false => cases q; exact k v H1 Z1 O1 x1 R1 r1
theorem pv_or {a b : Expr} {rest : List Expr} {da db : DV} {pos : Pos} (ha : PV X a da) (hb : PV X (.BoolOp .Or (b :: rest) pos) db) : PV X (.BoolOp .Or (a :: b :: rest) pos) (vOr da db) :=
  PE.imp (pe_orT ha hb) fun σ H Q ⟨Z, O, C, ρ, R, z, ρ', q, k⟩ => by
    obtain ⟨⟨y, ρ1⟩, e1, q⟩ := Out.bind_ok q
    refine ⟨Z, O, C, ρ, R, y, ρ1, e1, fun v H1 Z1 O1 x1 R1 r1 => ?_⟩
    cases e : truth y with
    | none => simp only [e] at q; cases q
    | some c =>
      simp only [e] at q
      refine ⟨c, truth_ok R1.zh (.fz r1) e, ?_⟩
      cases c with
      | false => exact ⟨Z1, O1, C, ρ1, R1, z, ρ', q, fun w H2 Z2 O2 x2 R2 r2 => k w H2 Z2 O2 (x1.trans x2) R2 r2⟩
      | true => cases q; exact k v H1 Z1 O1 x1 R1 r1
theorem pv_not {a : Expr} {d : DH} {pos : Pos} (ha : PH X a d) : PV X (.UnaryOp .Not a pos) (vNot d) := PE.imp (pe_notT ha) fun σ H Q ⟨Z, O, C, ρ, R, b, ρ', q, k⟩ => by
  obtain ⟨⟨h1, ρ1⟩, e1, q⟩ := Out.bind_ok q
  obtain ⟨y, e4, q⟩ := Option.bind_eq_some_iff.mp (Out.of_ok q)
  obtain ⟨z, e5, q⟩ := Option.map_eq_some_iff.mp q
  cases q
  exact ⟨Z, O, C, ρ, R, h1, ρ1, e1, fun v H1 Z1 O1 x1 R1 r1 => ⟨z, truth_ok R1.zh (deref_bor R1 r1 e4) e5, k (.bl (!z)) H1 Z1 O1 x1 R1 (.bl _)⟩⟩
/-! a if t else b -/
def dIf (t : DT) (a b : DV) : DV := fun ρ => (t ρ).bind fun p => if p.1 = true then a p.2 else b p.2
theorem pv_if {c a b : Expr} {t : DT} {da db : DV} {pos : Pos} (hc : PTt X c t) (ha : PV X a da) (hb : PV X b db) : PV X (.IfExp c a b pos) (dIf t da db) :=
  PE.imp (pe_ifExp hc ha hb) fun σ H Q ⟨Z, O, C, ρ, R, z, ρ', q, k⟩ => by
    obtain ⟨⟨c, ρ1⟩, e1, q⟩ := Out.bind_ok q
    refine ⟨Z, O, C, ρ, R, c, ρ1, e1, fun H1 Z1 O1 x1 R1 => ?_⟩
    cases c with
    | true => exact ⟨Z1, O1, C, ρ1, R1, z, ρ', q, fun w H2 Z2 O2 x2 R2 r2 => k w H2 Z2 O2 (x1.trans x2) R2 r2⟩
    | false => exact ⟨Z1, O1, C, ρ1, R1, z, ρ', q, fun w H2 Z2 O2 x2 R2 r2 => k w H2 Z2 O2 (x1.trans x2) R2 r2⟩
/-! -a -/
def dNeg (a : DV) : DV := fun ρ => (a ρ).bind fun p => match p.1 with
  | .int i => .ok (.int (-i), p.2)
  | _ => .bad
theorem pv_neg {a : Expr} {d : DV} {pos : Pos} (ha : PV X a d) : PV X (.UnaryOp .USub a pos) (dNeg d) := PE.imp (pe_un un_neg ha) fun σ H Q ⟨Z, O, C, ρ, R, z, ρ', q, k⟩ => by
  obtain ⟨⟨y, ρ1⟩, e1, q⟩ := Out.bind_ok q
  refine ⟨Z, O, C, ρ, R, y, ρ1, e1, fun v H1 Z1 O1 x1 R1 r1 => ?_⟩
  cases y with
  | int i => cases q; cases r1; exact ⟨i, rfl, k _ H1 Z1 O1 x1 R1 (.int _)⟩
  | _ => cases q
/-! is None, is True -/
def isNone : Val → Bool
  | .non => true
  | _ => false
theorem Rl.isNone {K : PySem.W.Frag} {mg : MG} {Z : Hp} {v : V} {x : Val} (r : Rl K mg Z v x) : decide (v = .non) = Ev.isNone x := by cases r <;> rfl
def dIsN (d : DV) : DV := fun ρ => (d ρ).bind fun p => .ok (.bl (isNone p.1), p.2)
def dNotN (d : DV) : DV := fun ρ => (d ρ).bind fun p => .ok (.bl (!isNone p.1), p.2)
theorem runIsN {K : PySem.W.Frag} {mg : MG} {d : DV} {σ : L2.St} {H : Hp} {Q : VK} (h : TV K mg (dIsN d) σ H Q) : tIsN (TV K mg d) σ H Q := by
  obtain ⟨Z, O, C, ρ, R, z, ρ', q, k⟩ := h
  obtain ⟨⟨y, ρ1⟩, e1, q⟩ := Out.bind_ok q
  cases q
  refine ⟨Z, O, C, ρ, R, y, ρ1, e1, fun v H1 Z1 O1 x1 R1 r1 => ?_⟩
  show Q (V.bl (decide (v = V.non))) H1
  rw [r1.isNone]
  exact k _ H1 Z1 O1 x1 R1 (.bl _)
theorem runNotN {K : PySem.W.Frag} {mg : MG} {d : DV} {σ : L2.St} {H : Hp} {Q : VK} (h : TV K mg (dNotN d) σ H Q) : tNotN (TV K mg d) σ H Q := by
  obtain ⟨Z, O, C, ρ, R, z, ρ', q, k⟩ := h
  obtain ⟨⟨y, ρ1⟩, e1, q⟩ := Out.bind_ok q
  cases q
  refine ⟨Z, O, C, ρ, R, y, ρ1, e1, fun v H1 Z1 O1 x1 R1 r1 => ?_⟩
  show Q (V.bl (!decide (v = V.non))) H1
  rw [r1.isNone]
  exact k _ H1 Z1 O1 x1 R1 (.bl _)
theorem pv_isN {a : Expr} {d : DV} {pos pos' : Pos} {j} (ha : PV X a d) : PV X (.Compare a [.Is] [.Constant .none j pos'] pos) (dIsN d) := PE.imp (pe_cmp (pc_isN ha)) fun _ _ _ => runIsN
theorem pv_notN {a : Expr} {d : DV} {pos pos' : Pos} {j} (ha : PV X a d) : PV X (.Compare a [.IsNot] [.Constant .none j pos'] pos) (dNotN d) := PE.imp (pe_cmp (pc_notN ha)) fun _ _ _ => runNotN
theorem pt_isN {a : Expr} {d : DV} {pos pos' : Pos} {j} (ha : PV X a d) : PTt X (.Compare a [.Is] [.Constant .none j pos'] pos) (tBl (dIsN d)) := PT.imp (pt_cmp (pc_isN ha)) fun σ H Q ⟨Z, O, C, ρ, R, b, ρ', q, k⟩ => by
  obtain ⟨⟨y, ρ1⟩, e1, q⟩ := Out.bind_ok q
  cases y with
  | bl c => cases q; exact runIsN ⟨Z, O, C, ρ, R, .bl b, ρ1, e1, fun v H' Z' O' x R' r => by cases r; exact ⟨b, rfl, k H' Z' O' x R'⟩⟩
  | _ => cases q
theorem pt_notN {a : Expr} {d : DV} {pos pos' : Pos} {j} (ha : PV X a d) : PTt X (.Compare a [.IsNot] [.Constant .none j pos'] pos) (tBl (dNotN d)) := PT.imp (pt_cmp (pc_notN ha)) fun σ H Q ⟨Z, O, C, ρ, R, b, ρ', q, k⟩ => by
  obtain ⟨⟨y, ρ1⟩, e1, q⟩ := Out.bind_ok q
  cases y with
  | bl c => cases q; exact runNotN ⟨Z, O, C, ρ, R, .bl b, ρ1, e1, fun v H' Z' O' x R' r => by cases r; exact ⟨b, rfl, k H' Z' O' x R'⟩⟩
  | _ => cases q
def isBV : Val → Val → Option Val
  | .bl a, .bl b => some (.bl (decide (a = b)))
  | _, _ => none
def isntBV : Val → Val → Option Val
  | .bl a, .bl b => some (.bl (!decide (a = b)))
  | _, _ => none
theorem o_isB : OpR X (compareOp .Is) (r2 X.K X.mg isBV) := OpR.imp op_isBl fun v w H Q ⟨Z, x, y, z, zh, b1, b2, e, q⟩ => by
  unfold isBV at e
  split at e
  · cases e; cases bor_bl b1; cases bor_bl b2; exact ⟨_, _, rfl, rfl, q.here zh (.bl _)⟩
  · cases e
theorem o_isntB : OpR X (compareOp .IsNot) (r2 X.K X.mg isntBV) := OpR.imp op_notBl fun v w H Q ⟨Z, x, y, z, zh, b1, b2, e, q⟩ => by
  unfold isntBV at e
  split at e
  · cases e; cases bor_bl b1; cases bor_bl b2; exact ⟨_, _, rfl, rfl, q.here zh (.bl _)⟩
  · cases e
end
end Ev

/-! Ev: built-in functions by values. -/
namespace Ev
open PySem PySem.Spec PyProof.Rows L2

theorem rN1 {K : PySem.W.Frag} {mg : MG} {g : Val → Option Val} {vs : List V} {H : Hp} {Q : VK} (h : rN K mg (fun xs => match xs with | [x] => g x | _ => none) vs H Q) :
    ∃ Z v x z, vs = [v] ∧ Same Z H ∧ BorR K mg Z H v x ∧ g x = some z ∧ PQ K mg Z H z Q := by
  obtain ⟨Z, xs, z, zh, b, e, q⟩ := h
  cases b with
  | nil => cases e
  | cons b1 b2 =>
    cases b2 with
    | nil => exact ⟨Z, _, _, z, rfl, zh, b1, e, q⟩
    | cons _ _ => cases e
theorem rN2 {K : PySem.W.Frag} {mg : MG} {g : Val → Val → Option Val} {vs : List V} {H : Hp} {Q : VK} (h : rN K mg (fun xs => match xs with | [x, y] => g x y | _ => none) vs H Q) :
    ∃ Z v w x y z, vs = [v, w] ∧ Same Z H ∧ BorR K mg Z H v x ∧ BorR K mg Z H w y ∧ g x y = some z ∧ PQ K mg Z H z Q := by
  obtain ⟨Z, xs, z, zh, b, e, q⟩ := h
  cases b with
  | nil => cases e
  | cons b1 b2 =>
    cases b2 with
    | nil => cases e
    | cons b2 b3 =>
      cases b3 with
      | nil => exact ⟨Z, _, _, _, _, z, rfl, zh, b1, b2, e, q⟩
      | cons _ _ => cases e
def g1 (g : Val → Option Val) : List Val → Option Val := fun xs => match xs with | [x] => g x | _ => none
def g2 (g : Val → Val → Option Val) : List Val → Option Val := fun xs => match xs with | [x, y] => g x y | _ => none

/-! ### len -/
def lenV : Val → Option Val
  | .str s => if s.length ≤ sizeLine then some (.int s.length) else none
  | .lst xs => some (.int xs.length)
  | .tup xs => some (.int xs.length)
  | .ktup xs => some (.int xs.length)
  | .scr xs => some (.int xs.length)
  | .dK xs => some (.int xs.length)
  | _ => none
section
variable {X : Cx}
theorem call_lenK : CallR X (.builtin "len") (fun xs H Q => ∃ p kvs, xs = [.ref p] ∧ H p = some (.dK kvs) ∧ Q (.int kvs.length) H) := by
  intro pins s σ H xs us Q I r h
  obtain ⟨p, kvs, rfl, hk, q⟩ := h
  obtain ⟨u, rfl, rx⟩ := vals1 r
  cases rx
  exact d_len I (.inl hk) fun t s' I' => ⟨.int kvs.length, H, I', ⟨_, rfl⟩, q⟩
theorem c_len : CallR X (.builtin "len") (rN X.K X.mg (g1 lenV)) := CallR.imp (call_len.or call_lenK) fun vs H Q h => by
  obtain ⟨Z, v, x, z, rfl, zh, b, e, q⟩ := rN1 h
  cases x with
  | str s =>
    simp only [lenV] at e
    split at e
    · rename_i hl; cases e; cases bor_str b; exact .inl ⟨_, _, rfl, ⟨hl, rfl⟩, q.here zh (.int _)⟩
    · cases e
  | lst xs =>
    cases e
    obtain ⟨a, vs, rfl, h1, r1⟩ := bor_lst zh b
    exact .inl ⟨_, _, rfl, .inl ⟨vs, SqL.of h1, r1.length.symm⟩, q.here zh (.int _)⟩
  | tup xs =>
    cases e
    obtain ⟨a, vs, rfl, h1, r1⟩ := bor_tup b
    exact .inl ⟨_, _, rfl, .inr ⟨vs, SqT.of (zh _ _ h1), r1.length.symm⟩, q.here zh (.int _)⟩
  | ktup xs =>
    cases e
    obtain ⟨a, vs, rfl, h1, r1⟩ := bor_ktup b
    exact .inl ⟨_, _, rfl, .inr ⟨vs, seqT_mono zh h1, r1.length.symm⟩, q.here zh (.int _)⟩
  | scr xs =>
    cases e
    obtain ⟨a, rfl, h1⟩ := bor_scr b
    exact .inl ⟨_, _, rfl, .inl ⟨_, zh.seq h1, by rw [List.length_map]⟩, q.here zh (.int _)⟩
  | dK xs =>
    cases e
    obtain ⟨a, kvs, rfl, h1, hk, r1⟩ := bor_dK zh b
    refine .inr ⟨_, kvs, rfl, h1, ?_⟩
    rw [dr_len hk]
    exact q.here zh (.int _)
  | _ => cases e
/-! ### tuple, list -/
def tupV : Val → Option Val
  | .lst xs => some (.tup xs)
  | .tup xs => some (.tup xs)
  | _ => none
theorem c_tuple : CallR X (.type "tuple") (rN X.K X.mg (g1 tupV)) := CallR.imp call_tuple_of fun vs H Q h => by
  obtain ⟨Z, v, x, z, rfl, zh, b, e, q⟩ := rN1 h
  cases x with
  | lst xs =>
    cases e
    obtain ⟨a, vs, rfl, h1, r1⟩ := bor_lst zh b
    exact ⟨a, vs, rfl, .inl ⟨SqL.of h1, fun l hl => q.newT zh hl r1⟩⟩
  | tup xs =>
    cases e
    obtain ⟨a, vs, rfl, h1, r1⟩ := bor_tup b
    exact ⟨a, vs, rfl, .inr ⟨SqT.of (zh _ _ h1), q.here zh (.tup h1 r1)⟩⟩
  | _ => cases e
end
/-! an owned answer: a new list -/
def QO (K : PySem.W.Frag) (mg : MG) (Z H : Hp) (xs : List Val) (Q : VK) : Prop := ∀ p vs, H p = none → Rls K mg Z vs xs → Q (.ref p) (upd H p (.lst vs))
def rNo (K : PySem.W.Frag) (mg : MG) (g : List Val → Option (List Val)) : List V → Hp → VK → Prop := fun vs H Q => ∃ Z xs ys, Same Z H ∧ BorRs K mg Z H vs xs ∧ g xs = some ys ∧ QO K mg Z H ys Q
def dNo (g : List Val → Option (List Val)) (d : DA) : DO := fun ρ => (d ρ).bind fun p => Out.of ((derefs p.2 p.1).bind fun xs => (g xs).map fun ys => (.own ys, p.2))
/-- an answer that is a new list, as an owned result -/
theorem own_new {K : PySem.W.Frag} {mg : MG} {Z H Z1 H1 : Hp} {O O1 : Lab} {C : Lk} {σ : L2.St} {ρ' : Env} {ys : List Val} {Q : VK} (x1 : Ext Z H O Z1 H1 O1) (R1 : EnvR K mg Z1 H1 O1 C σ ρ')
    (k : ∀ v H' Z' O', Ext Z H O Z' H' O' → EnvR K mg Z' H' O' C σ ρ' → OwR K mg Z' H' O' C H v (.own ys) → Q v H') : QO K mg Z1 H1 ys Q := fun p vs hp r => by
  let gr := Grow.newH (o := .lst vs) R1.zh hp
  obtain ⟨f1, f2, f3⟩ := R1.fresh hp
  exact k _ _ _ O1 (x1.trans gr.ext) (R1.grow gr) ⟨p, vs, rfl, f1, f2, f3, x1.fresh hp, upd_same, r⟩
theorem runNo {K : PySem.W.Frag} {mg : MG} {d : DA} {g : List Val → Option (List Val)} {σ : L2.St} {H : Hp} {Q : VK} (h : TOw K mg (dNo g d) σ H Q) : TAs K mg d σ H fun vs H1 => rNo K mg g vs H1 Q := by
  obtain ⟨Z, O, C, ρ, R, x, ρ', q, k⟩ := h
  obtain ⟨⟨hs, ρ1⟩, e1, q⟩ := Out.bind_ok q
  obtain ⟨xs, e2, q⟩ := Option.bind_eq_some_iff.mp (Out.of_ok q)
  obtain ⟨ys, e3, q⟩ := Option.map_eq_some_iff.mp q
  cases q
  exact ⟨Z, O, C, ρ, R, hs, ρ1, e1, fun vs H1 Z1 O1 x1 R1 r1 => ⟨Z1, xs, ys, R1.zh, derefs_bor R1 r1 e2, e3, own_new x1 R1 k⟩⟩
section
variable {X : Cx} {x : Str} {p pos : Pos} {e : Expr} {es : List Expr} {d : DA} {idn T : String} {g : List Val → Option (List Val)}
theorem pow_callB (hc : CallR X (.builtin idn) (rNo X.K X.mg g)) (hg : Gl X x) (hm : X.mg x = none) (hv : bootBuiltins x = some (.builtin idn)) (ha : PAs X (e :: es) d) (hn : x ≠ "__name__" := by decide) (hdb : (x == ("__debug__" : Str)) = false := by decide)
    (he : starEach (e :: es) X.env = (false, eval e X.env) :: starEach es X.env := by rfl) (hpl : (backTo pos (starEach es X.env)).any (·.1) = false := by rfl) : POw X (.Call (.Name x p) (e :: es) [] pos) (dNo g d) :=
  PE.imp (pe_callB hc hg hm hv ha hn hdb he hpl) fun _ _ _ => runNo
theorem pow_callTy (hc : CallR X (.type T) (rNo X.K X.mg g)) (hg : Gl X x) (hm : X.mg x = none) (hv : bootBuiltins x = some (.type T)) (ha : PAs X (e :: es) d) (hn : x ≠ "__name__" := by decide) (hdb : (x == ("__debug__" : Str)) = false := by decide)
    (he : starEach (e :: es) X.env = (false, eval e X.env) :: starEach es X.env := by rfl) (hpl : (backTo pos (starEach es X.env)).any (·.1) = false := by rfl) : POw X (.Call (.Name x p) (e :: es) [] pos) (dNo g d) :=
  PE.imp (pe_callTy hc hg hm hv ha hn hdb he hpl) fun _ _ _ => runNo
theorem rNo1 {K : PySem.W.Frag} {mg : MG} {g : Val → Option (List Val)} {vs : List V} {H : Hp} {Q : VK} (h : rNo K mg (fun xs => match xs with | [x] => g x | _ => none) vs H Q) :
    ∃ Z v x z, vs = [v] ∧ Same Z H ∧ BorR K mg Z H v x ∧ g x = some z ∧ QO K mg Z H z Q := by
  obtain ⟨Z, xs, z, zh, b, e, q⟩ := h
  cases b with
  | nil => cases e
  | cons b1 b2 =>
    cases b2 with
    | nil => exact ⟨Z, _, _, z, rfl, zh, b1, e, q⟩
    | cons _ _ => cases e
def go1 (g : Val → Option (List Val)) : List Val → Option (List Val) := fun xs => match xs with | [x] => g x | _ => none
def itemsV : Val → Option (List Val)
  | .lst xs => some xs
  | .tup xs => some xs
  | .scr ns => some (ns.map .int)
  | _ => none
theorem c_list : CallR X (.type "list") (rNo X.K X.mg (go1 itemsV)) := CallR.imp call_list_of fun vs H Q h => by
  obtain ⟨Z, v, x, z, rfl, zh, b, e, q⟩ := rNo1 h
  cases x with
  | lst xs =>
    cases e
    obtain ⟨a, vs, rfl, h1, r1⟩ := bor_lst zh b
    exact ⟨a, vs, rfl, .inl (SqL.of h1), fun l hl => q l vs hl r1⟩
  | tup xs =>
    cases e
    obtain ⟨a, vs, rfl, h1, r1⟩ := bor_tup b
    exact ⟨a, vs, rfl, .inr (SqT.of (zh _ _ h1)), fun l hl => q l vs hl r1⟩
  | scr ns =>
    cases e
    obtain ⟨a, rfl, h1⟩ := bor_scr b
    exact ⟨a, _, rfl, .inl (zh.seq h1), fun l hl => q l _ hl (Rls.ints ns)⟩
  | _ => cases e
/-! ### list(range(..)) -/
abbrev DR := Env → Out ((Int × Int) × Env)
def TR (K : PySem.W.Frag) (mg : MG) (d : DR) : L2.St → Hp → (Int → Int → Hp → Prop) → Prop := fun σ H Q => ∃ Z O C ρ, EnvR K mg Z H O C σ ρ ∧ ∃ r ρ', d ρ = .ok (r, ρ') ∧
  ∀ H' Z' O', Ext Z H O Z' H' O' → EnvR K mg Z' H' O' C σ ρ' → Q r.1 r.2 H'
def PRv (X : Cx) (e : Expr) (d : DR) : Prop := PRg X e (TR X.K X.mg d)
def dR1 (d : DV) : DR := fun ρ => (d ρ).bind fun p => match p.1 with
  | .int n => .ok ((0, n), p.2)
  | _ => .bad
def dR2 (a b : DV) : DR := fun ρ => (a ρ).bind fun p => (b p.2).bind fun q => match p.1, q.1 with
  | .int i, .int j => .ok ((i, j), q.2)
  | _, _ => .bad
theorem pr_1 {a : Expr} {d : DV} {p pos : Pos} (hg : Gl X "range") (hm : X.mg "range" = none) (ha : PV X a d) (na : starEach [a] X.env = (false, eval a X.env) :: starEach [] X.env := by rfl) : PRv X (.Call (.Name "range" p) [a] [] pos) (dR1 d) :=
  fun pins s σ H Q I h => prg_1 (p := p) (pos := pos) hg hm ha na pins s σ H Q I (by
    obtain ⟨Z, O, C, ρ, R, r, ρ', q, k⟩ := h
    obtain ⟨⟨y, ρ1⟩, e1, q⟩ := Out.bind_ok q
    refine ⟨Z, O, C, ρ, R, y, ρ1, e1, fun v H1 Z1 O1 x1 R1 r1 => ?_⟩
    cases y with
    | int n => cases q; cases r1; exact ⟨n, rfl, k H1 Z1 O1 x1 R1⟩
    | _ => cases q)
theorem pr_2 {a b : Expr} {da db : DV} {p pos : Pos} (hg : Gl X "range") (hm : X.mg "range" = none) (ha : PV X a da) (hb : PV X b db) (na : starEach [a, b] X.env = (false, eval a X.env) :: starEach [b] X.env := by rfl)
    (nb : starEach [b] X.env = (false, eval b X.env) :: starEach [] X.env := by rfl) (hp : (backTo pos (starEach [b] X.env)).any (·.1) = false := by rfl) : PRv X (.Call (.Name "range" p) [a, b] [] pos) (dR2 da db) :=
  fun pins s σ H Q I h => prg_2 (p := p) (pos := pos) hg hm ha hb na nb hp pins s σ H Q I (by
    obtain ⟨Z, O, C, ρ, R, r, ρ', q, k⟩ := h
    obtain ⟨⟨y1, ρ1⟩, e1, q⟩ := Out.bind_ok q
    obtain ⟨⟨y2, ρ2⟩, e2, q⟩ := Out.bind_ok q
    refine ⟨Z, O, C, ρ, R, y1, ρ1, e1, fun v H1 Z1 O1 x1 R1 r1 => ⟨Z1, O1, C, ρ1, R1, y2, ρ2, e2, fun w H2 Z2 O2 x2 R2 r2 => ?_⟩⟩
    cases y1 with
    | int i =>
      cases y2 with
      | int j => cases q; cases r1; cases r2; exact ⟨i, j, rfl, rfl, k H2 Z2 O2 (x1.trans x2) R2⟩
      | _ => cases q
    | _ => cases q)
def rangeI (a b : Int) : List Int := (List.range (b - a).toNat).map fun i => a + (i : Nat)
def rgOk (a b : Int) : Bool := decide (-(2 ^ 62) ≤ a ∧ a < 2 ^ 62 ∧ -(2 ^ 62) ≤ b ∧ b < 2 ^ 62 ∧ (b - a).toNat ≤ 2 ^ 24)
def dLR (d : DR) : DO := fun ρ => (d ρ).bind fun p => if rgOk p.1.1 p.1.2 then .ok (.own ((rangeI p.1.1 p.1.2).map .int), p.2) else .bad
theorem rgV_ints (a b : Int) : rgV a b = (rangeI a b).map V.int := by unfold rgV rangeI; rw [List.map_map]; rfl
theorem pow_listRg {e : Expr} {d : DR} {p pos : Pos} (hc : X.calm = true) (hg : Gl X "list") (hm : X.mg "list" = none) (he : PRv X e d) (na : starEach [e] X.env = (false, eval e X.env) :: starEach [] X.env := by rfl) : POw X (.Call (.Name "list" p) [e] [] pos) (dLR d) :=
  PE.imp (pe_listRg hc hg hm he na) fun σ H Q ⟨Z, O, C, ρ, R, x, ρ', q, k⟩ => by
    obtain ⟨⟨⟨a, b⟩, ρ1⟩, e1, q⟩ := Out.bind_ok q
    refine ⟨Z, O, C, ρ, R, (a, b), ρ1, e1, fun H1 Z1 O1 x1 R1 => ?_⟩
    split at q
    · rename_i hr
      cases q
      refine ⟨by simpa [rgOk, RgOk] using hr, fun p hp => ?_⟩
      rw [rgV_ints]
      exact own_new x1 R1 k p _ hp (Rls.ints _)
    · cases q
/-! ### all, any, sum, min, max, abs, int, str -/
def boolsOf : List Val → Option (List Bool)
  | [] => some []
  | .bl b :: xs => (boolsOf xs).map (b :: ·)
  | _ => none
def intsOf : List Val → Option (List Int)
  | [] => some []
  | .int b :: xs => (intsOf xs).map (b :: ·)
  | _ => none
theorem boolsOf_eq : ∀ {xs : List Val} {bs : List Bool}, boolsOf xs = some bs → xs = bs.map .bl
  | [], bs, h => by cases h; rfl
  | x :: xs, bs, h => by
    cases x <;> try (cases h)
    obtain ⟨r, e, rfl⟩ := Option.map_eq_some_iff.mp h
    rw [boolsOf_eq e]
    rfl
theorem intsOf_eq : ∀ {xs : List Val} {bs : List Int}, intsOf xs = some bs → xs = bs.map .int
  | [], bs, h => by cases h; rfl
  | x :: xs, bs, h => by
    cases x <;> try (cases h)
    obtain ⟨r, e, rfl⟩ := Option.map_eq_some_iff.mp h
    rw [intsOf_eq e]
    rfl
theorem boolsOf_map : ∀ bs : List Bool, boolsOf (bs.map .bl) = some bs
  | [] => rfl
  | b :: bs => by simp [boolsOf, boolsOf_map bs]
theorem intsOf_map : ∀ bs : List Int, intsOf (bs.map .int) = some bs
  | [] => rfl
  | b :: bs => by simp [intsOf, intsOf_map bs]
theorem Rls.of_bools {K : PySem.W.Frag} {mg : MG} {Z : Hp} : ∀ {vs : List V} {bs : List Bool}, Rls K mg Z vs (bs.map Val.bl) → vs = bs.map V.bl
  | _, [], h => by cases h; rfl
  | _, n :: ns, h => by
    cases h with
    | cons r t => cases r; rw [Rls.of_bools t]; rfl
def allV : Val → Option Val
  | .lst xs => (boolsOf xs).map fun bs => .bl (bs.all id)
  | _ => none
def anyV : Val → Option Val
  | .lst xs => (boolsOf xs).map fun bs => .bl (bs.any id)
  | _ => none
def sumV : Val → Option Val
  | .lst xs => (intsOf xs).map fun ns => .int ns.sum
  | _ => none
theorem c_all (hc : X.calm = true) : CallR X (.builtin "all") (rN X.K X.mg (g1 allV)) := CallR.imp (cr_all hc) fun vs H Q h => by
  obtain ⟨Z, v, x, z, rfl, zh, b, e, q⟩ := rN1 h
  cases x with
  | lst xs =>
    obtain ⟨bs, e1, rfl⟩ := Option.map_eq_some_iff.mp e
    obtain ⟨a, vs, rfl, h1, r1⟩ := bor_lst zh b
    rw [boolsOf_eq e1] at r1
    rw [r1.of_bools] at h1
    exact ⟨a, bs, rfl, SqL.of h1, q.here zh (.bl _)⟩
  | _ => cases e
theorem c_any (hc : X.calm = true) : CallR X (.builtin "any") (rN X.K X.mg (g1 anyV)) := CallR.imp (cr_any hc) fun vs H Q h => by
  obtain ⟨Z, v, x, z, rfl, zh, b, e, q⟩ := rN1 h
  cases x with
  | lst xs =>
    obtain ⟨bs, e1, rfl⟩ := Option.map_eq_some_iff.mp e
    obtain ⟨a, vs, rfl, h1, r1⟩ := bor_lst zh b
    rw [boolsOf_eq e1] at r1
    rw [r1.of_bools] at h1
    exact ⟨a, bs, rfl, SqL.of h1, q.here zh (.bl _)⟩
  | _ => cases e
theorem c_sum (hc : X.calm = true) : CallR X (.builtin "sum") (rN X.K X.mg (g1 sumV)) := CallR.imp (cr_sum hc) fun vs H Q h => by
  obtain ⟨Z, v, x, z, rfl, zh, b, e, q⟩ := rN1 h
  cases x with
  | lst xs =>
    obtain ⟨bs, e1, rfl⟩ := Option.map_eq_some_iff.mp e
    obtain ⟨a, vs, rfl, h1, r1⟩ := bor_lst zh b
    rw [intsOf_eq e1] at r1
    rw [r1.of_ints] at h1
    exact ⟨a, bs, rfl, SqL.of h1, q.here zh (.int _)⟩
  | _ => cases e
def max2V : Val → Val → Option Val
  | .int i, .int j => some (.int (if j > i then j else i))
  | _, _ => none
def min2V : Val → Val → Option Val
  | .int i, .int j => some (.int (if j < i then j else i))
  | _, _ => none
theorem c_max2 (hc : X.calm = true) : CallR X (.builtin "max") (rN X.K X.mg (g2 max2V)) := CallR.imp (call_max2 hc) fun vs H Q h => by
  obtain ⟨Z, v, w, x, y, z, rfl, zh, b1, b2, e, q⟩ := rN2 h
  unfold max2V at e
  split at e
  · cases e; cases bor_int b1; cases bor_int b2; exact ⟨_, _, rfl, q.here zh (.int _)⟩
  · cases e
theorem c_min2 (hc : X.calm = true) : CallR X (.builtin "min") (rN X.K X.mg (g2 min2V)) := CallR.imp (call_min2 hc) fun vs H Q h => by
  obtain ⟨Z, v, w, x, y, z, rfl, zh, b1, b2, e, q⟩ := rN2 h
  unfold min2V at e
  split at e
  · cases e; cases bor_int b1; cases bor_int b2; exact ⟨_, _, rfl, q.here zh (.int _)⟩
  · cases e
def maxLV : Val → Option Val
  | .lst xs => (intsOf xs).bind fun ns => match ns with
    | [] => none
    | n :: r => some (.int (r.foldl max n))
  | _ => none
def minLV : Val → Option Val
  | .lst xs => (intsOf xs).bind fun ns => match ns with
    | [] => none
    | n :: r => some (.int (r.foldl min n))
  | _ => none
theorem foldl_max (r : List Int) : ∀ (n m : Int), m ∈ n :: r → (∀ y, y ∈ n :: r → y ≤ m) → r.foldl max n = m := by
  induction r with
  | nil => intro n m h1 h2; exact (List.mem_singleton.mp h1).symm
  | cons x r ih =>
    intro n m h1 h2
    rw [List.foldl_cons]
    refine ih _ _ ?_ fun y hy => ?_
    · rcases List.mem_cons.mp h1 with e | h1
      · subst e
        have := h2 x (by simp)
        rw [Int.max_eq_left this]
        exact List.mem_cons_self
      · rcases List.mem_cons.mp h1 with e | h1
        · subst e
          have := h2 n (by simp)
          rw [Int.max_eq_right this]
          exact List.mem_cons_self
        · exact List.mem_cons_of_mem _ h1
    · rcases List.mem_cons.mp hy with e | hy
      · subst e
        have a := h2 x (by simp)
        have b := h2 n (by simp)
        omega
      · exact h2 y (by simp [hy])
theorem foldl_min (r : List Int) : ∀ (n m : Int), m ∈ n :: r → (∀ y, y ∈ n :: r → m ≤ y) → r.foldl min n = m := by
  induction r with
  | nil => intro n m h1 h2; exact (List.mem_singleton.mp h1).symm
  | cons x r ih =>
    intro n m h1 h2
    rw [List.foldl_cons]
    refine ih _ _ ?_ fun y hy => ?_
    · rcases List.mem_cons.mp h1 with e | h1
      · subst e
        have := h2 x (by simp)
        rw [Int.min_eq_left this]
        exact List.mem_cons_self
      · rcases List.mem_cons.mp h1 with e | h1
        · subst e
          have := h2 n (by simp)
          rw [Int.min_eq_right this]
          exact List.mem_cons_self
        · exact List.mem_cons_of_mem _ h1
    · rcases List.mem_cons.mp hy with e | hy
      · subst e
        have a := h2 x (by simp)
        have b := h2 n (by simp)
        omega
      · exact h2 y (by simp [hy])
theorem c_maxL (hc : X.calm = true) : CallR X (.builtin "max") (rN X.K X.mg (g1 maxLV)) := CallR.imp (cr_max hc) fun vs H Q h => by
  obtain ⟨Z, v, x, z, rfl, zh, b, e, q⟩ := rN1 h
  cases x with
  | lst xs =>
    obtain ⟨ns, e1, e⟩ := Option.bind_eq_some_iff.mp e
    obtain ⟨a, vs, rfl, h1, r1⟩ := bor_lst zh b
    rw [intsOf_eq e1] at r1
    rw [r1.of_ints] at h1
    cases ns with
    | nil => cases e
    | cons n r =>
      cases e
      exact ⟨a, _, rfl, SqL.of h1, Nat.succ_pos _, fun m i1 i2 => by rw [← foldl_max r n m i1 i2]; exact q.here zh (.int _)⟩
  | _ => cases e
theorem c_minL (hc : X.calm = true) : CallR X (.builtin "min") (rN X.K X.mg (g1 minLV)) := CallR.imp (cr_min hc) fun vs H Q h => by
  obtain ⟨Z, v, x, z, rfl, zh, b, e, q⟩ := rN1 h
  cases x with
  | lst xs =>
    obtain ⟨ns, e1, e⟩ := Option.bind_eq_some_iff.mp e
    obtain ⟨a, vs, rfl, h1, r1⟩ := bor_lst zh b
    rw [intsOf_eq e1] at r1
    rw [r1.of_ints] at h1
    cases ns with
    | nil => cases e
    | cons n r =>
      cases e
      exact ⟨a, _, rfl, SqL.of h1, Nat.succ_pos _, fun m i1 i2 => by rw [← foldl_min r n m i1 i2]; exact q.here zh (.int _)⟩
  | _ => cases e
def absV : Val → Option Val
  | .int i => some (.int (if i < 0 then -i else i))
  | _ => none
theorem c_abs : CallR X (.builtin "abs") (rN X.K X.mg (g1 absV)) := CallR.imp call_abs fun vs H Q h => by
  obtain ⟨Z, v, x, z, rfl, zh, b, e, q⟩ := rN1 h
  cases x with
  | int i => cases e; cases bor_int b; exact ⟨_, rfl, q.here zh (.int _)⟩
  | _ => cases e
def intV : Val → Option Val
  | .int i => some (.int i)
  | .bl b => some (.int (if b then 1 else 0))
  | _ => none
theorem c_int : CallR X (.type "int") (rN X.K X.mg (g1 intV)) := CallR.imp call_int1 fun vs H Q h => by
  obtain ⟨Z, v, x, z, rfl, zh, b, e, q⟩ := rN1 h
  cases x with
  | int i => cases e; cases bor_int b; exact .inl ⟨_, rfl, q.here zh (.int _)⟩
  | bl i => cases e; cases bor_bl b; exact .inr ⟨_, rfl, q.here zh (.int _)⟩
  | _ => cases e
def strV : Val → Option Val
  | .int i => if i.natAbs.log2 < 1920 then some (.str (toString i)) else none
  | _ => none
theorem c_str : CallR X (.type "str") (rN X.K X.mg (g1 strV)) := CallR.imp call_str_int fun vs H Q h => by
  obtain ⟨Z, v, x, z, rfl, zh, b, e, q⟩ := rN1 h
  cases x with
  | int i =>
    simp only [strV] at e
    split at e
    · rename_i hl; cases e; cases bor_int b; exact ⟨_, rfl, hl, q.here zh (.str _)⟩
    · cases e
  | _ => cases e
/-! ### isinstance -/
def tyName : Val → Option String
  | .non => some "NoneType"
  | .bl _ => some "bool"
  | .int _ => some "int"
  | .str _ => some "str"
  | .tup _ => some "tuple"
  | .lst _ => some "list"
  | .dK _ => some "dict"
  | .dT _ => some "dict"
  | _ => none
def isiB (t T : String) : Bool := t == T || (t == "bool" && T == "int")
def isiV (T : String) (x : Val) : Option Val := (tyName x).map fun t => .bl (isiB t T)
def stdTy (T : String) : Bool := T == "int" || T == "bool" || T == "str" || T == "tuple" || T == "list"
theorem kit_std {t T : String} (ht : t = "NoneType" ∨ t = "bool" ∨ t = "int" ∨ t = "str" ∨ t = "tuple" ∨ t = "list" ∨ t = "dict") (hT : T = "int" ∨ T = "bool" ∨ T = "str" ∨ T = "tuple" ∨ T = "list") : kitB t T = some (isiB t T) := by
  rcases ht with rfl | rfl | rfl | rfl | rfl | rfl | rfl <;> rcases hT with rfl | rfl | rfl | rfl | rfl <;> decide +kernel
theorem tyX_of {K : PySem.W.Frag} {mg : MG} {Z H : Hp} {v : V} {x : Val} {t : String} (zh : Same Z H) (b : BorR K mg Z H v x) (e : tyName x = some t) : TyX K H v (.type t) := by
  cases x with
  | non => cases e; cases bor_non b; exact .base .non
  | bl _ => cases e; cases bor_bl b; exact .base (.bl _)
  | int _ => cases e; cases bor_int b; exact .base (.int _)
  | str _ => cases e; cases bor_str b; exact .base (.str _)
  | tup _ => cases e; obtain ⟨a, vs, rfl, h1, _⟩ := bor_tup b; exact .base (.tup (zh _ _ h1))
  | lst _ => cases e; obtain ⟨a, vs, rfl, h1, _⟩ := bor_lst zh b; exact .base (.lst h1)
  | dK _ => cases e; obtain ⟨a, vs, rfl, h1, _⟩ := bor_dK zh b; exact .base (.dK h1)
  | dT _ => cases e; obtain ⟨a, vs, rfl, h1, _⟩ := bor_dT zh b; exact .base (.dT h1)
  | _ => cases e
def dIsi (T : String) (d : DH) : DV := fun ρ => (d ρ).bind fun p => Out.of ((deref p.2 p.1).bind fun x => (isiV T x).map fun z => (z, p.2))
theorem pv_isi {e : Expr} {d : DH} {T : String} {TT' : Str} {p p2 pos : Pos} (he : PH X e d) (hg : Gl X "isinstance") (hm : X.mg "isinstance" = none) (hgT : Gl X TT') (hmT : X.mg TT' = none) (hvT : bootBuiltins TT' = some (.type T)) (hT : T = "int" ∨ T = "bool" ∨ T = "str" ∨ T = "tuple" ∨ T = "list")
    (hnT : TT' ≠ "__name__" := by decide) (hdT : (TT' == ("__debug__" : Str)) = false := by decide) (hs : starEach [e, .Name TT' p2] X.env = (false, eval e X.env) :: starEach [.Name TT' p2] X.env := by rfl)
    (hpl : (backTo pos (starEach [.Name TT' p2] X.env)).any (·.1) = false := by rfl) :
    PV X (.Call (.Name "isinstance" p) [e, .Name TT' p2] [] pos) (dIsi T d) :=
  PE.imp (pe_callB call_isi hg hm (by decide +kernel) (pa_cons he (pa_cons (pe_bltn (v := .ty T) hgT hmT hvT rfl hnT hdT) pa_nil (by rfl)) hs) (by decide) (by decide) hs hpl) fun σ H Q ⟨Z, O, C, ρ, R, z, ρ', q, k⟩ => by
    obtain ⟨⟨h1, ρ1⟩, e1, q⟩ := Out.bind_ok q
    obtain ⟨y, e4, q⟩ := Option.bind_eq_some_iff.mp (Out.of_ok q)
    obtain ⟨w, e5, q⟩ := Option.map_eq_some_iff.mp q
    cases q
    obtain ⟨t, e6, rfl⟩ := Option.map_eq_some_iff.mp e5
    refine ⟨Z, O, C, ρ, R, h1, ρ1, e1, fun v H1 Z1 O1 x1 R1 r1 => ⟨v, .ty T, _, _, _, rfl, .ty T, tyX_of R1.zh (deref_bor R1 r1 e4) e6, kit_ty (kit_std ?_ hT), k _ H1 Z1 O1 x1 R1 (.bl _)⟩⟩
    cases y <;> cases e6 <;> simp
end
end Ev

/-! Ev: stores, calls of the program's own defs. -/
namespace Ev
open PySem PySem.Spec PyProof.Rows L2
section
variable {K : PySem.W.Frag} {mg : MG} {Z H : Hp} {O : Lab} {C : Lk} {σ : L2.St} {ρ : Env}

def mapLab (O : Lab) (g : Nat → Option Nat) : Lab := fun b => match O b with
  | some (i, q) => match g i with
    | some j => some (j, q)
    | none => none
  | none => none
theorem mapLab_some {O : Lab} {g : Nat → Option Nat} {b : Addr} {j q : Nat} (h : mapLab O g b = some (j, q)) : ∃ i, O b = some (i, q) ∧ g i = some j := by
  unfold mapLab at h
  cases e : O b with
  | none => rw [e] at h; cases h
  | some p =>
    obtain ⟨i, q'⟩ := p
    rw [e] at h
    cases e2 : g i with
    | none => simp only [e2] at h; cases h
    | some j' => simp only [e2] at h; cases h; exact ⟨i, rfl, e2⟩
theorem mapLab_of {O : Lab} {g : Nat → Option Nat} {b : Addr} {i j q : Nat} (h : O b = some (i, q)) (e : g i = some j) : mapLab O g b = some (j, q) := by
  unfold mapLab
  rw [h]
  simp only [e]
theorem mapLab_none {O : Lab} {g : Nat → Option Nat} {b : Addr} (h : O b = none) : mapLab O g b = none := by
  unfold mapLab
  rw [h]
def notLck : Sl → Bool
  | .lck _ => false
  | .par _ => false
  | _ => true
theorem Own2.rename {i j : Nat} {O' : Lab} : ∀ {k : Nat} {bs : List Addr} {xss : List (List Val)}, Own2 K mg Z H O i k bs xss → (∀ b q, O b = some (i, q) → O' b = some (j, q)) → Own2 K mg Z H O' j k bs xss
  | _, _, _, .nil, _ => .nil
  | _, _, _, .cons h1 h2 h3 h4, hh => .cons (hh _ _ h1) h2 h3 (h4.rename hh)
/-- how a slot's word may change from one table to another -/
inductive Conv (v : Option (Option V)) (C' : Lk) (j : Nat) : Sl → Sl → Prop
  | same {s : Sl} : notLck s = true → Conv v C' j s s
  | own {xs : List Val} : Conv v C' j (.par xs) (.own xs)
  | par {xs : List Val} : (∀ a, v = some (some (.ref a)) → C'.fx j = some a) → Conv v C' j (.own xs) (.par xs)
  | pp {xs : List Val} : (∀ a, v = some (some (.ref a)) → C'.fx j = some a) → Conv v C' j (.par xs) (.par xs)
theorem SlotR.rename {i j : Nat} {O' : Lab} {C' : Lk} {v : Option (Option V)} {s s2 : Sl} (h : SlotR K mg Z H O C i v s) (nl : Conv v C' j s s2) (hh : ∀ b q, O b = some (i, q) → O' b = some (j, q)) : SlotR K mg Z H O' C' j v s2 := by
  cases nl with
  | own => obtain ⟨a, vs, e, o, m, r, _⟩ := h; exact ⟨a, vs, e, hh _ _ o, m, r⟩
  | par c => obtain ⟨a, vs, e, o, m, r⟩ := h; exact ⟨a, vs, e, hh _ _ o, m, r, c a e⟩
  | pp c => obtain ⟨a, vs, e, o, m, r, _⟩ := h; exact ⟨a, vs, e, hh _ _ o, m, r, c a e⟩
  | same nl =>
    cases s with
    | no => trivial
    | fz x => exact h
    | own xs => obtain ⟨a, vs, e, o, m, r⟩ := h; exact ⟨a, vs, e, hh _ _ o, m, r⟩
    | own2 xss => obtain ⟨a, bs, e, o, m, r⟩ := h; exact ⟨a, bs, e, hh _ _ o, m, r.rename hh⟩
    | odK kxs => obtain ⟨a, kvs, e, o, m, k, r⟩ := h; exact ⟨a, kvs, e, hh _ _ o, m, k, r⟩
    | odT kxs => obtain ⟨a, kvs, e, o, m, k, r⟩ := h; exact ⟨a, kvs, e, hh _ _ o, m, k, r⟩
    | lck xs => cases nl
    | par xs => cases nl
    | box cells d s => obtain ⟨a, c, e, o1, o2, m1, m2⟩ := h; exact ⟨a, c, e, hh _ _ o1, hh _ _ o2, m1, m2⟩
/-- the same state under another order of slots -/
theorem EnvR.reindex (R : EnvR K mg Z H O C σ ρ) {C' : Lk} (ch : Same C' H) (co : ∀ b, O b ≠ none → C' b = none) {σ2 : L2.St} {ρ2 : Env} (hl : ρ2.length = σ2.length) (g : Nat → Option Nat) (gl : ∀ i j, g i = some j → j < ρ2.length)
    (gi : ∀ i i' j, g i = some j → g i' = some j → i = i')
    (hs : ∀ j s, ρ2[j]? = some s → SlotR K mg Z H (fun _ => none) C' j σ2[j]? s ∨ ∃ i s0, g i = some j ∧ ρ[i]? = some s0 ∧ σ2[j]? = σ[i]? ∧ Conv σ[i]? C' j s0 s) : EnvR K mg Z H (mapLab O g) C' σ2 ρ2 where
  len := hl
  zh := R.zh
  ch := ch
  oz := fun b hb => by
    have hb' : O b ≠ none := fun z => hb (mapLab_none z)
    exact ⟨(R.oz b hb').1, co b hb', (R.oz b hb').2.2⟩
  ob := fun b j q h => by
    obtain ⟨i, _, e⟩ := mapLab_some h
    exact gl i j e
  sl := fun j s e => by
    rcases hs j s e with h | ⟨i, s0, h1, h2, h3, h4⟩
    · cases s with
      | no => trivial
      | fz x => exact h
      | own xs => obtain ⟨a, vs, e, o, _⟩ := h; cases o
      | own2 xss => obtain ⟨a, vs, e, o, _⟩ := h; cases o
      | odK xs => obtain ⟨a, vs, e, o, _⟩ := h; cases o
      | odT xs => obtain ⟨a, vs, e, o, _⟩ := h; cases o
      | lck xs => exact h
      | par xs => obtain ⟨a, vs, e, o, _⟩ := h; cases o
      | box _ _ _ => obtain ⟨a, vs, e, o, _⟩ := h; cases o
    · rw [h3]
      exact (R.sl i s0 h2).rename h4 fun b q hb => mapLab_of hb h1

/-! ### a store -/
def inList (b : Addr) : List Addr → Nat → Option Nat
  | [], _ => none
  | x :: xs, k => if b = x then some k else inList b xs (k + 1)
theorem inList_mem {b : Addr} : ∀ {xs : List Addr} {k j : Nat}, inList b xs k = some j → b ∈ xs
  | x :: xs, k, j, h => by
    unfold inList at h
    split at h
    · rename_i e; rw [e]; exact List.mem_cons_self
    · exact List.mem_cons_of_mem _ (inList_mem h)
theorem inList_not {b : Addr} : ∀ {xs : List Addr} {k : Nat}, b ∉ xs → inList b xs k = none
  | [], _, _ => rfl
  | x :: xs, k, h => by
    unfold inList
    rw [if_neg fun e => h (by rw [e]; exact List.mem_cons_self), inList_not fun z => h (List.mem_cons_of_mem _ z)]
/-- the things of a new value -/
def things : Sl → V → Hp → List Addr
  | .own _, .ref a, _ => [a]
  | .odK _, .ref a, _ => [a]
  | .odT _, .ref a, _ => [a]
  | .own2 _, .ref a, H => a :: (match H a with
    | some (.lst vs) => vs.filterMap fun v => match v with
      | .ref b => some b
      | _ => none
    | _ => [])
  | .box _ _ _, .ref a, H => a :: (match H a with
    | some (.lst (.ref c :: _)) => [c]
    | _ => [])
  | _, _, _ => []
def placeO (i : Nat) (as : List Addr) (O : Lab) : Lab := fun b => match inList b as 0 with
  | some k => some (i, k)
  | none => match O b with
    | some (j, q) => if j = i then none else some (j, q)
    | none => none
theorem placeO_out {i : Nat} {as : List Addr} {O : Lab} {b : Addr} {j q : Nat} (hb : b ∉ as) (h : O b = some (j, q)) (hj : j ≠ i) : placeO i as O b = some (j, q) := by
  unfold placeO
  rw [inList_not hb, h]
  simp [hj]
theorem placeO_some {i : Nat} {as : List Addr} {O : Lab} {b : Addr} {j q : Nat} (h : placeO i as O b = some (j, q)) : (b ∈ as ∧ j = i) ∨ (O b = some (j, q) ∧ j ≠ i) := by
  unfold placeO at h
  cases e : inList b as 0 with
  | some k => rw [e] at h; cases h; exact .inl ⟨inList_mem e, rfl⟩
  | none =>
    rw [e] at h
    cases e2 : O b with
    | none => rw [e2] at h; cases h
    | some p =>
      obtain ⟨j', q'⟩ := p
      rw [e2] at h
      by_cases hj : j' = i
      · simp [hj] at h
      · simp [hj] at h
        obtain ⟨h1, h2⟩ := h
        subst h1 h2
        exact .inr ⟨rfl, hj⟩
theorem placeO_none {i : Nat} {as : List Addr} {O : Lab} {b : Addr} (hb : b ∉ as) (h : O b = none) : placeO i as O b = none := by
  unfold placeO
  rw [inList_not hb, h]
theorem Paired.memL {α β : Type} {F : α → β → Prop} : ∀ {xs : List α} {ys : List β}, Paired F xs ys → xs.length = ys.length
  | _, _, .nil => rfl
  | _, _, .cons _ t => by rw [List.length_cons, List.length_cons, Paired.memL t]
theorem own2_place {i : Nat} {a : Addr} {O' : Lab} : ∀ {bs : List Addr} {xss : List (List Val)} {k : Nat}, bs.Nodup → Paired (fun b xs => ∃ ws, H b = some (.lst ws) ∧ Rls K mg Z ws xs) bs xss → (∀ (j : Nat) b, bs[j]? = some b → O' b = some (i, k + j + 1)) → Own2 K mg Z H O' i k bs xss
  | _, _, _, _, .nil, _ => .nil
  | _, _, k, nd, .cons h t, hh => by
    obtain ⟨ws, h1, h2⟩ := h
    refine .cons (hh 0 _ rfl) h1 h2 (own2_place (a := a) (List.nodup_cons.mp nd).2 t fun j b hb => ?_)
    have := hh (j + 1) b (by simpa using hb)
    rw [this]
    congr 2
    omega
theorem inList_at : ∀ {xs : List Addr} {k j : Nat} {b : Addr}, xs.Nodup → xs[j]? = some b → inList b xs k = some (k + j)
  | x :: xs, k, 0, b, _, h => by
    simp at h
    subst h
    unfold inList
    simp
  | x :: xs, k, j + 1, b, nd, h => by
    have h' : xs[j]? = some b := by simpa using h
    unfold inList
    rw [if_neg, inList_at (List.nodup_cons.mp nd).2 h']
    · congr 1; omega
    · intro e
      subst e
      exact (List.nodup_cons.mp nd).1 (List.mem_of_getElem? h')
theorem refs_back : ∀ bs : List Addr, ((bs.map V.ref).filterMap fun v => match v with | .ref b => some b | _ => none) = bs
  | [] => rfl
  | b :: bs => by simp [refs_back bs]
/-- a new value comes to a slot -/
theorem EnvR.place {H0 : Hp} (R : EnvR K mg Z H O C σ ρ) {i : Nat} {v : V} {s : Sl} (hi : i < ρ.length) (r : OwR K mg Z H O C H0 v s) :
    EnvR K mg Z H (placeO i (things s v H) O) C (σ.set i (some v)) (ρ.set i s) ∧ (∀ b ∈ things s v H, H0 b = none ∧ O b = none) := by
  have hiσ : i < σ.length := by rw [← R.len]; exact hi
  -- what the things are
  have new : (∀ b ∈ things s v H, O b = none ∧ Z b = none ∧ C b = none ∧ H0 b = none ∧ H b ≠ none) ∧ (things s v H).Nodup ∧
      (∀ O' : Lab, (∀ (j : Nat) b, (things s v H)[j]? = some b → O' b = some (i, j)) → SlotR K mg Z H O' C i (some (some v)) s) := by
    cases s with
    | no => exact r.elim
    | fz x => exact ⟨fun b hb => by simp [things] at hb, List.nodup_nil, fun _ _ => ⟨v, rfl, r⟩⟩
    | own xs =>
      obtain ⟨a, vs, rfl, h1, h2, h3, h4, h5, h6⟩ := r
      refine ⟨fun b hb => ?_, by simp [things], fun O' hO => ⟨a, vs, rfl, hO 0 a rfl, h5, h6⟩⟩
      have e : b = a := by simpa [things] using hb
      subst e
      exact ⟨h1, h2, h3, h4, by rw [h5]; simp⟩
    | odK xs =>
      obtain ⟨a, vs, rfl, h1, h2, h3, h4, h5, h6, h7⟩ := r
      refine ⟨fun b hb => ?_, by simp [things], fun O' hO => ⟨a, vs, rfl, hO 0 a rfl, h5, h6, h7⟩⟩
      have e : b = a := by simpa [things] using hb
      subst e
      exact ⟨h1, h2, h3, h4, by rw [h5]; simp⟩
    | odT xs =>
      obtain ⟨a, vs, rfl, h1, h2, h3, h4, h5, h6, h7⟩ := r
      refine ⟨fun b hb => ?_, by simp [things], fun O' hO => ⟨a, vs, rfl, hO 0 a rfl, h5, h6, h7⟩⟩
      have e : b = a := by simpa [things] using hb
      subst e
      exact ⟨h1, h2, h3, h4, by rw [h5]; simp⟩
    | own2 xss =>
      obtain ⟨a, bs, rfl, h1, h2, h3, h4⟩ := r
      have et : things (.own2 xss) (.ref a) H = a :: bs := by simp only [things, h3]; rw [refs_back]
      rw [et]
      refine ⟨fun b hb => ?_, h2, fun O' hO => ⟨a, bs, rfl, hO 0 a rfl, h3, own2_place (a := a) (List.nodup_cons.mp h2).2 h4 fun j b hb => by rw [hO (j + 1) b (by simpa using hb)]; simp⟩⟩
      obtain ⟨k1, k2, k3, k4⟩ := h1 b hb
      refine ⟨k1, k2, k3, k4, ?_⟩
      rcases List.mem_cons.mp hb with e | hb
      · subst e; rw [h3]; simp
      · have go : ∀ {bs : List Addr} {xss : List (List Val)}, Paired (fun b xs => ∃ ws, H b = some (.lst ws) ∧ Rls K mg Z ws xs) bs xss → b ∈ bs → H b ≠ none := by
          intro bs xss hp
          induction hp with
          | nil => intro hb; cases hb
          | cons q t ih =>
            intro hb
            rcases List.mem_cons.mp hb with e | hb
            · subst e; obtain ⟨ws, q1, _⟩ := q; rw [q1]; simp
            · exact ih hb
        exact go h4 hb
    | lck _ => exact r.elim
    | par _ => exact r.elim
    | box cells d s =>
      obtain ⟨a, c, rfl, ne, h1, h2, h3⟩ := r
      have et : things (.box cells d s) (.ref a) H = [a, c] := by simp only [things, h2]
      rw [et]
      refine ⟨fun b hb => ?_, by simp [ne], fun O' hO => ⟨a, c, rfl, hO 0 a rfl, hO 1 c rfl, h2, h3⟩⟩
      have hb' : b = a ∨ b = c := by simpa using hb
      obtain ⟨k1, k2, k3, k4⟩ := h1 b hb'
      refine ⟨k1, k2, k3, k4, ?_⟩
      rcases hb' with e | e
      · subst e; rw [h2]; simp
      · subst e; rw [h3]; simp
  obtain ⟨n1, n2, n3⟩ := new
  refine ⟨⟨by rw [List.length_set, List.length_set]; exact R.len, R.zh, R.ch, fun b hb => ?_, fun b j q h => ?_, fun j t ej => ?_⟩, fun b hb => ⟨(n1 b hb).2.2.2.1, (n1 b hb).1⟩⟩
  · obtain ⟨⟨j, q⟩, hp⟩ := Option.ne_none_iff_exists'.mp hb
    rcases placeO_some hp with ⟨h1, _⟩ | ⟨h1, _⟩
    · obtain ⟨k1, k2, k3, k4, k5⟩ := n1 b h1
      exact ⟨k2, k3, k5⟩
    · exact R.oz b (by rw [h1]; simp)
  · rw [List.length_set]
    rcases placeO_some h with ⟨_, e⟩ | ⟨h1, _⟩
    · rw [e]; exact hi
    · exact R.ob b j q h1
  · by_cases hj : j = i
    · subst hj
      rw [List.getElem?_set_self hi] at ej
      cases ej
      rw [List.getElem?_set_self hiσ]
      refine n3 _ fun k b hb => ?_
      unfold placeO
      rw [inList_at n2 hb]
      simp
    · rw [List.getElem?_set_ne (Ne.symm hj)] at ej
      rw [List.getElem?_set_ne (Ne.symm hj)]
      refine (R.sl j t ej).keep (Same.refl Z) fun b q hb => ⟨rfl, placeO_out (fun z => ?_) hb hj⟩
      rw [(n1 b z).1] at hb
      cases hb
theorem Ext.place {Z0 H0 : Hp} {O0 : Lab} (x : Ext Z0 H0 O0 Z H O) {i : Nat} {as : List Addr} (h : ∀ b ∈ as, H0 b = none ∧ O b = none) : Ext Z0 H0 O0 Z H (placeO i as O) where
  z := x.z
  h := fun b o h1 h2 => by
    obtain ⟨h3, h4⟩ := x.h b o h1 h2
    exact ⟨h3, placeO_none (fun z => by rw [(h b z).1] at h1; cases h1) h4⟩
  t := x.t
  o := fun b j q hq => by
    rcases placeO_some hq with ⟨h1, _⟩ | ⟨h1, _⟩
    · exact .inl (h b h1).1
    · exact x.o b j q h1
  zn := x.zn
end
end Ev

/-! Ev: the program's own defs: what one is worth, its call, its body. -/
namespace Ev
open PySem PySem.Spec PyProof.Rows L2

/-- a def's worth: its level, its parameters, the one that it changes (if any), what it does: from the slots of its parameters, the answer and what has become of that one -/
structure FnE where
  lv : Nat
  np : Nat
  rf : Option Nat
  sem : List Sl → Out (Sl × Sl)

/-- within a call: nothing is locked; the parameters' addresses are held -/
def parL (vs : List V) : Lk := ⟨fun _ => none, fun j => match vs[j]? with
  | some (.ref a) => some a
  | _ => none, fun _ => none, fun _ _ h => nomatch h⟩
def outEnv (n : Nat) (rf : Option Nat) (s r : Sl) : Env := (match rf with
  | none => List.replicate n .no
  | some k => (List.replicate n .no).set k s) ++ [r]
theorem outEnv_length (n : Nat) (rf : Option Nat) (s r : Sl) : (outEnv n rf s r).length = n + 1 := by
  unfold outEnv
  cases rf <;> simp
def spF (K : PySem.W.Frag) (mg : MG) (e : FnE) : Sp := fun vs H Q _ => vs.length = e.np ∧ ∃ Z O args, EnvR K mg Z H O (parL vs) (vs.map some) args ∧ ∃ r s, e.sem args = .ok (r, s) ∧
  ∀ v H' Z' O', Ext Z H O Z' H' O' → EnvR K mg Z' H' O' (parL vs) (vs.map some ++ [some v]) (outEnv e.np e.rf s r) → Q v H'

/-- a def that stands at the module's name x -/
structure Cal (P : Program) (w : World) (K : PySem.W.Frag) (mg : MG) (base : Heap) (CX : CXT) (x : Str) (e : FnE) : Prop where
  ex : ∃ f fd ps, FnOk P w K mg base CX e.lv f fd ps (spF K mg e) ∧ mg x = some (.ref f) ∧ PySem.W.keepIn K (.ref f) = true ∧ Binds K fd ps []
abbrev CalX (X : Cx) (CX : CXT) (x : Str) (e : FnE) : Prop := Cal X.prog X.w X.K X.mg X.base CX x e

theorem Rls.slots {K : PySem.W.Frag} {mg : MG} {Z H : Hp} {O : Lab} {C : Lk} : ∀ {vs : List V} {xs : List Val}, Rls K mg Z vs xs → ∀ (j : Nat) (s : Sl), (xs.map Sl.fz)[j]? = some s → SlotR K mg Z H O C j (vs.map some)[j]? s
  | _, _, .nil, j, s, h => by simp at h
  | _, _, .cons r t, 0, s, h => by
    simp at h
    subst h
    exact ⟨_, rfl, r⟩
  | _, _, .cons r t, j + 1, s, h => by
    have q := Rls.slots (H := H) (O := O) (C := C) t j s (by simpa using h)
    rw [List.map_cons, List.getElem?_cons_succ]
    cases s with
    | no => trivial
    | fz x => exact q
    | _ => simp at h

def notNo : Sl → Bool
  | .no => false
  | .par _ => false
  | .lck _ => false
  | _ => true
def callD0 (e : FnE) (d : DA) : DO := fun ρ => (d ρ).bind fun p => match takes p.2 p.1 with
  | some q => if q.1.length = e.np then (e.sem (q.1.map .fz)).bind fun r => if notNo r.1 = true then .ok (r.1, q.2) else .bad else .bad
  | none => .bad
section
variable {K : PySem.W.Frag} {mg : MG} {Z H : Hp} {O : Lab} {C : Lk} {σ : L2.St} {ρ : Env}
/-- the answer of a call, to the caller: what it hands back is a new thing -/
theorem result_own {Ck : Lk} {n : Nat} {Z' H' H0 : Hp} {O' : Lab} {vs : List V} {v : V} {ρ2 : Env} {r : Sl} {O2 : Lab} (R : EnvR K mg Z' H' O' Ck (vs.map some ++ [some v]) ρ2) (hr : ρ2[n]? = some r) (nn : notNo r = true) (hn : vs.length = n)
    (hO : ∀ b q, O' b = some (n, q) → O2 b = none ∧ C b = none ∧ H0 b = none) : OwR K mg Z' H' O2 C H0 v r := by
  have h := R.sl n r hr
  have ev : (vs.map some ++ [some v])[n]? = some (some v) := by rw [List.getElem?_append_right (by simp [hn])]; simp [hn]
  rw [ev] at h
  cases r with
  | no => cases nn
  | par _ => cases nn
  | fz x => obtain ⟨u, e, q⟩ := h; cases e; exact q
  | own xs =>
    obtain ⟨a, ws, e, o, m, q⟩ := h
    cases e
    obtain ⟨k1, k2, k3⟩ := hO a 0 o
    exact ⟨a, ws, rfl, k1, (R.oz a (by rw [o]; simp)).1, k2, k3, m, q⟩
  | odK xs =>
    obtain ⟨a, ws, e, o, m, q⟩ := h
    cases e
    obtain ⟨k1, k2, k3⟩ := hO a 0 o
    exact ⟨a, ws, rfl, k1, (R.oz a (by rw [o]; simp)).1, k2, k3, m, q⟩
  | odT xs =>
    obtain ⟨a, ws, e, o, m, q⟩ := h
    cases e
    obtain ⟨k1, k2, k3⟩ := hO a 0 o
    exact ⟨a, ws, rfl, k1, (R.oz a (by rw [o]; simp)).1, k2, k3, m, q⟩
  | lck xs => cases nn
  | own2 xss =>
    obtain ⟨a, bs, e, o, m, q⟩ := h
    cases e
    have lab : ∀ {k : Nat} {bs : List Addr} {xss : List (List Val)}, Own2 K mg Z' H' O' n k bs xss → (∀ b ∈ bs, ∃ j, k ≤ j ∧ O' b = some (n, j + 1)) ∧ bs.Nodup ∧ Paired (fun b xs => ∃ ws, H' b = some (.lst ws) ∧ Rls K mg Z' ws xs) bs xss := by
      intro k bs xss h
      induction h with
      | nil => exact ⟨fun b hb => (by cases hb), List.nodup_nil, .nil⟩
      | @cons k b ws xs bs xss h1 h2 h3 _ ih =>
        obtain ⟨i1, i2, i3⟩ := ih
        refine ⟨fun c hc => ?_, List.nodup_cons.mpr ⟨fun hb => ?_, i2⟩, .cons ⟨ws, h2, h3⟩ i3⟩
        · rcases List.mem_cons.mp hc with e | hc
          · subst e; exact ⟨k, Nat.le_refl _, h1⟩
          · obtain ⟨j, h5, h6⟩ := i1 c hc
            exact ⟨j, by omega, h6⟩
        · obtain ⟨j, h5, h6⟩ := i1 _ hb
          rw [h1] at h6
          cases h6
          omega
    obtain ⟨l1, l2, l3⟩ := lab q
    refine ⟨a, bs, rfl, fun b hb => ?_, List.nodup_cons.mpr ⟨fun hb => ?_, l2⟩, m, l3⟩
    · have : ∃ j, O' b = some (n, j) := by
        rcases List.mem_cons.mp hb with e | hb
        · subst e; exact ⟨0, o⟩
        · obtain ⟨j, _, e⟩ := l1 b hb
          exact ⟨_, e⟩
      obtain ⟨j, e⟩ := this
      obtain ⟨k1, k2, k3⟩ := hO b j e
      exact ⟨k1, (R.oz b (by rw [e]; simp)).1, k2, k3⟩
    · obtain ⟨j, _, e⟩ := l1 a hb
      rw [o] at e
      cases e
  | box cells d s =>
    obtain ⟨a, c, e, o1, o2, m1, m2⟩ := h
    cases e
    refine ⟨a, c, rfl, fun z => ?_, fun b hb => ?_, m1, m2⟩
    · subst z; rw [o1] at o2; cases o2
    · have : ∃ j, O' b = some (n, j) := by
        rcases hb with e | e
        · subst e; exact ⟨0, o1⟩
        · subst e; exact ⟨1, o2⟩
      obtain ⟨j, e⟩ := this
      obtain ⟨k1, k2, k3⟩ := hO b j e
      exact ⟨k1, (R.oz b (by rw [e]; simp)).1, k2, k3⟩
theorem OwR.older {Z' H' H0 : Hp} {O' : Lab} {v : V} {r : Sl} {Z0 H00 : Hp} {O0 : Lab} {Z1 : Hp} {O1 : Lab} (h : OwR K mg Z' H' O' C H0 v r) (x : Ext Z0 H00 O0 Z1 H0 O1) : OwR K mg Z' H' O' C H00 v r := by
  cases r with
  | no => exact h
  | fz x => exact h
  | own xs => obtain ⟨a, ws, e, k1, k2, k3, k4, m⟩ := h; exact ⟨a, ws, e, k1, k2, k3, x.fresh k4, m⟩
  | odK xs => obtain ⟨a, ws, e, k1, k2, k3, k4, m⟩ := h; exact ⟨a, ws, e, k1, k2, k3, x.fresh k4, m⟩
  | odT xs => obtain ⟨a, ws, e, k1, k2, k3, k4, m⟩ := h; exact ⟨a, ws, e, k1, k2, k3, x.fresh k4, m⟩
  | own2 xs =>
    obtain ⟨a, ws, e, k1, m⟩ := h
    exact ⟨a, ws, e, fun b hb => ⟨(k1 b hb).1, (k1 b hb).2.1, (k1 b hb).2.2.1, x.fresh (k1 b hb).2.2.2⟩, m⟩
  | lck xs => exact h
  | par xs => exact h
  | box _ _ _ =>
    obtain ⟨a, ws, e, ne, k1, m⟩ := h
    exact ⟨a, ws, e, ne, fun b hb => ⟨(k1 b hb).1, (k1 b hb).2.1, (k1 b hb).2.2.1, x.fresh (k1 b hb).2.2.2⟩, m⟩
theorem outEnv_last (n : Nat) (rf : Option Nat) (s r : Sl) : (outEnv n rf s r)[n]? = some r := by
  unfold outEnv
  cases rf <;> simp
end
theorem mapLab_id (O : Lab) : mapLab O (fun i => some i) = O := by
  funext b
  unfold mapLab
  cases O b with
  | none => rfl
  | some p => rfl
section
variable {K : PySem.W.Frag} {mg : MG} {Z H Z' H' : Hp} {O Oc O' : Lab} {C : Lk} {σ : L2.St} {ρ : Env}
def backO (m : Option (Nat × Nat)) (O O' : Lab) : Lab := fun b => match m with
  | none => O b
  | some (k, i) => match O' b with
    | some (k', q) => if k' = k then some (i, q) else (match O b with
      | some (j, q) => if j = i then none else some (j, q)
      | none => none)
    | none => match O b with
      | some (j, q) => if j = i then none else some (j, q)
      | none => none
def backEnv (m : Option (Nat × Nat)) (ρ : Env) (s : Sl) : Env := match m with
  | some (_, i) => ρ.set i s
  | none => ρ
theorem backEnv_length (m : Option (Nat × Nat)) (ρ : Env) (s : Sl) : (backEnv m ρ s).length = ρ.length := by
  cases m with
  | none => rfl
  | some p => simp [backEnv]
theorem backO_none (O O' : Lab) : backO none O O' = O := by funext b; rfl
theorem backO_some (k i : Nat) (O O' : Lab) (b : Addr) (j q : Nat) : backO (some (k, i)) O O' b = some (j, q) ↔ (j = i ∧ O' b = some (k, q)) ∨ (j ≠ i ∧ O b = some (j, q) ∧ ∀ q', O' b ≠ some (k, q')) := by
  unfold backO
  cases e : O' b with
  | none =>
    cases e2 : O b with
    | none => simp
    | some p =>
      obtain ⟨j', q'⟩ := p
      by_cases hj : j' = i
      · subst hj; simp; rintro h1 h2; exact absurd h2.symm h1
      · simp [hj]; rintro rfl rfl; exact hj
  | some p =>
    obtain ⟨k', q'⟩ := p
    by_cases hk : k' = k
    · subst hk
      simp
      rintro _; exact ⟨Eq.symm, Eq.symm⟩
    · cases e2 : O b with
      | none => simp [hk]
      | some p =>
        obtain ⟨j', q2⟩ := p
        by_cases hj : j' = i
        · subst hj; simp [hk]; rintro h1 h2; exact absurd h2.symm h1
        · simp [hk, hj]; rintro rfl rfl; exact hj
/-- behind a call, the caller: c tells its slot for a changed parameter -/
theorem EnvR.back (R : EnvR K mg Z H O C σ ρ) (x : Ext Z H Oc Z' H' O') (zh : Same Z' H') (m : Option (Nat × Nat))
    (oc : ∀ b k q, Oc b = some (k, q) ↔ ∃ i, m = some (k, i) ∧ O b = some (i, q))
    (oz' : ∀ b k q, O' b = some (k, q) → ∀ i, m = some (k, i) → Z' b = none ∧ H' b ≠ none)
    (s0 s : Sl) (Ck : Lk) (hi : ∀ k i, m = some (k, i) → i < ρ.length)
    (hs : ∀ k i, m = some (k, i) → SlotR K mg Z' H' O' Ck k σ[i]? s0 ∧ Conv σ[i]? C i s0 s) :
    ∃ O2, (∀ b j q, O2 b = some (j, q) → H b = none ∧ (∃ k, m = some (k, j) ∧ O' b = some (k, q)) ∨ ∃ q', O b = some (j, q')) ∧ Ext Z H O Z' H' O2 ∧
      EnvR K mg Z' H' O2 C σ (backEnv m ρ s) := by
  obtain ⟨O2, hO2⟩ : ∃ O2, O2 = backO m O O' := ⟨_, rfl⟩
  have o2none : m = none → O2 = O := fun h => by rw [hO2, h, backO_none]
  have o2some : ∀ {k i : Nat}, m = some (k, i) → ∀ b j q, O2 b = some (j, q) ↔ (j = i ∧ O' b = some (k, q)) ∨ (j ≠ i ∧ O b = some (j, q) ∧ ∀ q', O' b ≠ some (k, q')) := by
    intro k i h b j q
    rw [hO2, h]
    exact backO_some k i O O' b j q
  have ocnone : ∀ b, O b = none → Oc b = none := fun b h => by
    cases e : Oc b with
    | none => rfl
    | some p =>
      obtain ⟨k, q⟩ := p
      obtain ⟨i, _, h2⟩ := (oc b k q).mp e
      rw [h] at h2; cases h2
  -- others of the caller's own stand
  have other : ∀ {b j q}, O b = some (j, q) → (∀ k, m ≠ some (k, j)) → H' b = H b ∧ O' b = none := fun {b j q} h hm => by
    have hc : Oc b = none := by
      cases e : Oc b with
      | none => rfl
      | some p =>
        obtain ⟨k, q'⟩ := p
        obtain ⟨i, h1, h2⟩ := (oc b k q').mp e
        rw [h] at h2
        cases h2
        exact absurd h1 (hm k)
    obtain ⟨_, _, h3⟩ := R.oz b (by rw [h]; simp)
    obtain ⟨o, ho⟩ := Option.ne_none_iff_exists'.mp h3
    obtain ⟨h4, h5⟩ := x.h b o ho hc
    exact ⟨by rw [h4, ho], h5⟩
  have keyO : ∀ b j q, O2 b = some (j, q) → H b = none ∧ (∃ k, m = some (k, j) ∧ O' b = some (k, q)) ∨ ∃ q', O b = some (j, q') := fun b j q h => by
    cases hm : m with
    | none => rw [o2none hm] at h; exact .inr ⟨q, h⟩
    | some p =>
      obtain ⟨k, i⟩ := p
      rcases (o2some hm b j q).mp h with ⟨rfl, h1⟩ | ⟨_, h1, _⟩
      · rcases x.o b k q h1 with h2 | ⟨q', h2⟩
        · exact .inl ⟨h2, k, rfl, h1⟩
        · obtain ⟨i', h3, h4⟩ := (oc b k q').mp h2
          rw [hm] at h3
          cases h3
          exact .inr ⟨q', h4⟩
      · exact .inr ⟨q, h1⟩
  refine ⟨O2, keyO, ⟨x.z, fun b o h1 h2 => ?_, x.t, fun b j q h => (keyO b j q h).elim (fun z => .inl z.1) .inr, fun b h => ?_⟩, ?_⟩
  · obtain ⟨h3, h4⟩ := x.h b o h1 (ocnone b h2)
    refine ⟨h3, ?_⟩
    cases e : O2 b with
    | none => rfl
    | some p =>
      obtain ⟨j, q⟩ := p
      rcases keyO b j q e with ⟨h5, _⟩ | ⟨q', h5⟩
      · rw [h1] at h5; cases h5
      · rw [h2] at h5; cases h5
  · rcases x.zn b h with h1 | h1 | h1
    · exact .inl h1
    · exact .inr (.inl h1)
    · exact .inr (.inr fun z => h1 (ocnone b z))
  · have hlen := backEnv_length m ρ s
    have cz : ∀ b, C b ≠ none → ∀ j q, O2 b ≠ some (j, q) := fun b hb j q h => by
      rcases keyO b j q h with ⟨h1, _⟩ | ⟨q', h1⟩
      · exact hb (R.ch.free h1)
      · exact hb (R.oz b (by rw [h1]; simp)).2.1
    refine ⟨by rw [hlen]; exact R.len, zh, fun b o h => ?_, fun b hb => ?_, fun b j q h => ?_, fun j t ej => ?_⟩
    · have h1 := R.ch b o h
      have h2 : O b = none := by
        cases e : O b with
        | none => rfl
        | some p => have := (R.oz b (by rw [e]; simp)).2.1; rw [h] at this; cases this
      exact (x.h b o h1 (ocnone b h2)).1
    · obtain ⟨⟨j, q⟩, hp⟩ := Option.ne_none_iff_exists'.mp hb
      refine ⟨?_, ?_, ?_⟩
      · cases hm : m with
        | none =>
          rw [o2none hm] at hp
          obtain ⟨h1, h2, h3⟩ := R.oz b (by rw [hp]; simp)
          cases e : Z' b with
          | none => rfl
          | some o =>
            rcases x.zn b (by rw [e]; simp) with h4 | h4 | h4
            · exact absurd h1 h4
            · exact absurd h4 h3
            · obtain ⟨⟨k, q'⟩, hp'⟩ := Option.ne_none_iff_exists'.mp h4
              obtain ⟨i, h5, _⟩ := (oc b k q').mp hp'
              rw [hm] at h5; cases h5
        | some p =>
          obtain ⟨k, i⟩ := p
          rcases (o2some hm b j q).mp hp with ⟨rfl, h1⟩ | ⟨hj, h1, _⟩
          · exact (oz' b k q h1 _ hm).1
          · obtain ⟨h2, _, h3⟩ := R.oz b (by rw [h1]; simp)
            cases e : Z' b with
            | none => rfl
            | some o =>
              rcases x.zn b (by rw [e]; simp) with h4 | h4 | h4
              · exact absurd h2 h4
              · exact absurd h4 h3
              · obtain ⟨⟨k', q'⟩, hp'⟩ := Option.ne_none_iff_exists'.mp h4
                obtain ⟨i', h5, h6⟩ := (oc b k' q').mp hp'
                rw [hm] at h5
                cases h5
                rw [h1] at h6
                cases h6
                exact absurd rfl hj
      · cases e : C b with
        | none => rfl
        | some o => exact absurd hp (cz b (by rw [e]; simp) j q)
      · rcases keyO b j q hp with ⟨_, k, h1, h2⟩ | ⟨q', h1⟩
        · exact (oz' b k q h2 j h1).2
        · exact x.t b (R.oz b (by rw [h1]; simp)).2.2
    · rw [hlen]
      rcases keyO b j q h with ⟨_, k, h1, h2⟩ | ⟨q', h1⟩
      · exact hi k j h1
      · exact R.ob b j q' h1
    · cases hm : m with
      | none =>
        rw [hm] at ej
        have ej : ρ[j]? = some t := ej
        rw [o2none hm]
        exact (R.sl j t ej).keep x.z fun b q hb => ⟨(other hb fun k z => by rw [hm] at z; cases z).1, hb⟩
      | some p =>
        obtain ⟨k, i⟩ := p
        rw [hm] at ej
        have ej : (ρ.set i s)[j]? = some t := ej
        have hi' := hi k i hm
        by_cases hj : j = i
        · subst hj
          rw [List.getElem?_set_self hi'] at ej
          cases ej
          obtain ⟨h1, nl⟩ := hs k j hm
          exact h1.rename nl fun b q hb => (o2some hm b j q).mpr (.inl ⟨rfl, hb⟩)
        · rw [List.getElem?_set_ne (Ne.symm hj)] at ej
          refine (R.sl j t ej).keep x.z fun b q hb => ?_
          obtain ⟨h1, h2⟩ := other hb fun k' z => by rw [hm] at z; cases z; exact hj rfl
          exact ⟨h1, (o2some hm b j q).mpr (.inr ⟨hj, hb, fun q' z => by rw [h2] at z; cases z⟩)⟩
end

theorem mapLab_iff {O : Lab} {k i : Nat} (b : Addr) (k' q : Nat) : mapLab O (fun j => if j = i then some k else none) b = some (k', q) ↔ ∃ j, some (k, i) = some (k', j) ∧ O b = some (j, q) := by
  constructor
  · intro h
    obtain ⟨j, h1, h2⟩ := mapLab_some h
    by_cases hj : j = i
    · subst hj
      simp at h2
      subst h2
      exact ⟨j, rfl, h1⟩
    · simp [hj] at h2
  · rintro ⟨j, h1, h2⟩
    cases h1
    exact mapLab_of h2 (by simp)
section
variable {X : Cx} {CX : CXT} {e : FnE}
/-- f(..): nothing of the caller's is changed -/
theorem pow_call0 {k : Nat} {x : Str} {a : Expr} {es : List Expr} {d : DA} {p pos : Pos} (F : CalX X CX x e) (hrf : e.rf = none) (hr : Room k X.A) (hk : e.lv ≤ k) (hx : Passes CX X E0) (hg : Gl X x) (ha : PAs X (a :: es) d)
    (hdb : (x == ("__debug__" : Str)) = false := by decide) (he : starEach (a :: es) X.env = (false, eval a X.env) :: starEach es X.env := by rfl) (hpl : (backTo pos (starEach es X.env)).any (·.1) = false := by rfl) :
    POw X (.Call (.Name x p) (a :: es) [] pos) (callD0 e d) := by
  obtain ⟨f, fd, ps, G, hm, hkp, hb⟩ := F.ex
  refine PE.imp (pe_call G (hr.mono hk) hg hm hkp hb .nil hx ha hdb he hpl) fun σ H Q ⟨Z, O, C, ρ, R, s, ρ', q, kk⟩ => ?_
  obtain ⟨⟨hs, ρ1⟩, e1, q⟩ := Out.bind_ok q
  cases e2 : takes ρ1 hs with
  | none => simp only [e2] at q; cases q
  | some t =>
    obtain ⟨xs, ρ2⟩ := t
    simp only [e2] at q
    split at q
    · rename_i hlen
      obtain ⟨⟨r, s'⟩, e3, q⟩ := Out.bind_ok q
      split at q
      rotate_left
      · cases q
      rename_i hno
      cases q
      refine ⟨Z, O, C, ρ, R, hs, ρ1, e1, fun vs H1 Z1 O1 x1 R1 r1 => ?_⟩
      obtain ⟨Z2, O2, x2, R2, r2⟩ := takes_ok R1 r1 e2
      rw [List.append_nil]
      refine ⟨by rw [r2.length]; exact hlen, Z2, fun _ => none, xs.map .fz, ⟨?_, R2.zh, fun b o h => (by cases h), fun b h => absurd rfl h, fun b i q h => (by cases h), fun j s h => Rls.slots r2 j s h⟩, r, s', e3, fun v H3 Z3 O3 x3 R3 => ?_⟩
      · rw [List.length_map, List.length_map, r2.length]
      · have same : Same H1 H3 := fun b o h => (x3.h b o h rfl).1
        obtain ⟨O4, k1, x4, R4⟩ := R2.back x3 R3.zh none (fun b k q => ⟨fun h => (by cases h), fun ⟨_, h, _⟩ => (by cases h)⟩) (fun _ _ _ _ _ h => (by cases h)) .no .no (parL vs) (fun _ _ h => (by cases h)) (fun _ _ h => (by cases h))
        have hn : vs.length = e.np := by rw [r2.length]; exact hlen
        have hO : ∀ b q, O3 b = some (e.np, q) → O4 b = none ∧ C b = none ∧ H1 b = none := fun b q hb => by
          have hH : H1 b = none := by
            rcases x3.o b e.np q hb with h | ⟨_, h⟩
            · exact h
            · cases h
          refine ⟨?_, R2.ch.free hH, hH⟩
          cases e5 : O4 b with
          | none => rfl
          | some p =>
            obtain ⟨j, q'⟩ := p
            rcases k1 b j q' e5 with ⟨_, _, h, _⟩ | ⟨q'', h⟩
            · cases h
            · exact absurd hH (R2.oz b (by rw [h]; simp)).2.2
        have h5 := result_own (O2 := O4) (C := C) (H0 := H1) R3 (outEnv_last _ _ _ _) hno hn hO
        have xx := (x1.trans x2).trans x4
        exact kk v H3 Z3 O4 xx R4 (OwR.older h5 x1)
    · cases q
def callD1 (e : FnE) (k : Nat) (d : DA) : DO := fun ρ => (d ρ).bind fun p => match p.1[k]? with
  | some (.slot i) => match takes p.2 (p.1.set k (.val .non)) with
    | some q => match q.2[i]? with
      | some (.own ys) => if q.1.length = e.np then (e.sem ((q.1.map .fz).set k (.par ys))).bind fun r => match r.2 with
        | .par zs => if notNo r.1 = true then .ok (r.1, q.2.set i (.own zs)) else .bad
        | _ => .bad
        else .bad
      | some (.par ys) => if q.1.length = e.np then (e.sem ((q.1.map .fz).set k (.par ys))).bind fun r => match r.2 with
        | .par zs => if notNo r.1 = true then .ok (r.1, q.2.set i (.par zs)) else .bad
        | _ => .bad
        else .bad
      | _ => .bad
    | none => .bad
  | _ => .bad
theorem HdRs.get {K : PySem.W.Frag} {mg : MG} {Z : Hp} {σ : L2.St} : ∀ {vs : List V} {hs : List Hd} {k : Nat} {h : Hd}, HdRs K mg Z σ vs hs → hs[k]? = some h → ∃ v, vs[k]? = some v ∧ HdR K mg Z σ v h
  | _, _, _, _, .nil, e => by simp at e
  | _, _, 0, _, .cons r t, e => by simp at e; subst e; exact ⟨_, rfl, r⟩
  | _, _, k + 1, h, .cons r t, e => by
    obtain ⟨v, h1, h2⟩ := HdRs.get (k := k) (h := h) t (by simpa using e)
    exact ⟨v, by simpa using h1, h2⟩
theorem HdRs.setNon {K : PySem.W.Frag} {mg : MG} {Z : Hp} {σ : L2.St} : ∀ {vs : List V} {hs : List Hd} (k : Nat), HdRs K mg Z σ vs hs → HdRs K mg Z σ (vs.set k .non) (hs.set k (.val .non))
  | _, _, _, .nil => .nil
  | _, _, 0, .cons r t => .cons (show Rl K mg Z V.non Val.non from .non) t
  | _, _, k + 1, .cons r t => .cons r (HdRs.setNon k t)
/-- what call1 needs, of the slot's kind -/
theorem call1_core {K : PySem.W.Frag} {mg : MG} {Z H : Hp} {O : Lab} {C : Lk} {σ : L2.St} {ρ : Env} {vs : List V} {xs : List Val} {k i : Nat} {ys zs : List Val} {s0 sR r : Sl} {n : Nat} {Q : VK}
    (R : EnvR K mg Z H O C σ ρ) (r2 : Rls K mg Z (vs.set k .non) xs) (hlen : xs.length = n) (hk : k < n) (hv : ∃ v, vs[k]? = some v ∧ σ[i]? = some (some v)) (hi : ρ[i]? = some s0)
    (h0 : (s0 = .own ys ∧ sR = .own zs) ∨ (s0 = .par ys ∧ sR = .par zs)) (nn : notNo r = true) :
    (∃ O', EnvR K mg Z H O' (parL vs) (vs.map some) ((xs.map .fz).set k (.par ys)) ∧
      ((∀ v H' Z' O2, Ext Z H O' Z' H' O2 → EnvR K mg Z' H' O2 (parL vs) (vs.map some ++ [some v]) (outEnv n (some k) (.par zs) r) →
        ∃ O4, Ext Z H O Z' H' O4 ∧ EnvR K mg Z' H' O4 C σ (ρ.set i sR) ∧ OwR K mg Z' H' O4 C H v r))) := by
  obtain ⟨vk, e1, e2⟩ := hv
  have hvl : vs.length = n := by have := r2.length; rw [List.length_set] at this; rw [this]; exact hlen
  have hiR := (List.getElem?_eq_some_iff.mp hi).1
  have oc := fun b k' q => mapLab_iff (O := O) (k := k) (i := i) b k' q
  refine ⟨mapLab O (fun j => if j = i then some k else none), ?_, ?_⟩
  · refine R.reindex (fun b o h => (by cases h)) (fun b _ => rfl) (by simp [hvl, hlen]) _ (fun j j' h => ?_) (fun j j' j2 h h' => ?_) fun j s e => ?_
    · by_cases hj : j = i
      · simp [hj] at h; subst h; simp [hlen]; exact hk
      · simp [hj] at h
    · by_cases hj : j = i
      · by_cases hj' : j' = i
        · rw [hj, hj']
        · simp [hj'] at h'
      · simp [hj] at h
    · by_cases hj : j = k
      · subst hj
        right
        rw [List.getElem?_set_self (by simp [hlen]; exact hk)] at e
        cases e
        refine ⟨i, s0, by simp, hi, by rw [List.getElem?_map, e1, e2]; rfl, ?_⟩
        have fx : ∀ a, σ[i]? = some (some (.ref a)) → (parL vs).fx j = some a := fun a h => by
          rw [e2] at h
          cases h
          show (match vs[j]? with | some (.ref a) => some a | _ => none) = some a
          rw [e1]
        rcases h0 with ⟨rfl, _⟩ | ⟨rfl, _⟩
        · exact .par fx
        · exact .pp fx
      · left
        rw [List.getElem?_set_ne (Ne.symm hj)] at e
        have q := Rls.slots (H := H) (O := fun _ => none) (C := parL vs) r2 j s e
        have : ((vs.set k V.non).map some)[j]? = (vs.map some)[j]? := by rw [List.getElem?_map, List.getElem?_map, List.getElem?_set_ne (Ne.symm hj)]
        rw [this] at q
        exact q
  · intro v H' Z' O2 x3 R3
    have hk' : (outEnv n (some k) (Sl.par zs) r)[k]? = some (.par zs) := by
      unfold outEnv
      simp only
      rw [List.getElem?_append_left (by simp [hk]), List.getElem?_set_self (by simp [hk])]
    have slk := R3.sl k _ hk'
    have ek : (vs.map some ++ [some v])[k]? = some (some vk) := by
      rw [List.getElem?_append_left (by simp [hvl, hk]), List.getElem?_map, e1]; rfl
    rw [ek] at slk
    obtain ⟨O4, k1, x4, R4⟩ := R.back x3 R3.zh (some (k, i)) oc (fun b k' q h i' e => by
        obtain ⟨h1, _, h3⟩ := R3.oz b (by rw [h]; simp)
        exact ⟨h1, h3⟩) (.par zs) sR (parL vs) (fun k' i' e => by cases e; exact hiR) fun k' i' e => by
      cases e
      rw [e2]
      refine ⟨slk, ?_⟩
      rcases h0 with ⟨_, rfl⟩ | ⟨h, rfl⟩
      · exact .own
      · refine .pp fun a ha => ?_
        have := R.sl i s0 hi
        rw [h, e2] at this
        obtain ⟨a', _, e', _, _, _, fx⟩ := this
        cases ha
        cases e'
        exact fx
    refine ⟨O4, x4, R4, result_own (O2 := O4) (C := C) (H0 := H) R3 (outEnv_last _ _ _ _) nn hvl fun b q hb => ?_⟩
    have hH : H b = none := by
      rcases x3.o b n q hb with h | ⟨q', h⟩
      · exact h
      · obtain ⟨j, h1, _⟩ := (oc b n q').mp h
        cases h1
        omega
    refine ⟨?_, R.ch.free hH, hH⟩
    cases e5 : O4 b with
    | none => rfl
    | some p =>
      obtain ⟨j, q'⟩ := p
      rcases k1 b j q' e5 with ⟨_, k', h1, h2⟩ | ⟨q'', h⟩
      · cases h1
        rw [hb] at h2
        cases h2
        omega
      · exact absurd hH (R.oz b (by rw [h]; simp)).2.2
theorem pow_call1 {k kr : Nat} {x : Str} {a : Expr} {es : List Expr} {d : DA} {p pos : Pos} (F : CalX X CX x e) (hrf : e.rf = some kr) (hkr : kr < e.np) (hr : Room k X.A) (hk : e.lv ≤ k) (hx : Passes CX X E0) (hg : Gl X x) (ha : PAs X (a :: es) d)
    (hdb : (x == ("__debug__" : Str)) = false := by decide) (he : starEach (a :: es) X.env = (false, eval a X.env) :: starEach es X.env := by rfl) (hpl : (backTo pos (starEach es X.env)).any (·.1) = false := by rfl) :
    POw X (.Call (.Name x p) (a :: es) [] pos) (callD1 e kr d) := by
  obtain ⟨f, fd, ps, G, hm, hkp, hb⟩ := F.ex
  refine PE.imp (pe_call G (hr.mono hk) hg hm hkp hb .nil hx ha hdb he hpl) fun σ H Q ⟨Z, O, C, ρ, R, s, ρ', q, kk⟩ => ?_
  obtain ⟨⟨hs, ρ1⟩, e1, q⟩ := Out.bind_ok q
  have main : ∀ (i : Nat) (xs : List Val) (ρ2 : Env) (ys zs : List Val) (s0 sR : Sl) (r : Sl), hs[kr]? = some (.slot i) → takes ρ1 (hs.set kr (.val .non)) = some (xs, ρ2) → ρ2[i]? = some s0 → xs.length = e.np → e.sem ((xs.map .fz).set kr (.par ys)) = .ok (r, .par zs) →
      ((s0 = .own ys ∧ sR = .own zs) ∨ (s0 = .par ys ∧ sR = .par zs)) → notNo r = true → s = r → ρ' = ρ2.set i sR → tCall (spF X.K X.mg e) [] E0 (TAs X.K X.mg d) σ H Q := by
    intro i xs ρ2 ys zs s0 sR r h1 h2 h3 hlen h4 h5 h6 h7 h8
    subst h7 h8
    refine ⟨Z, O, C, ρ, R, hs, ρ1, e1, fun vs H1 Z1 O1 x1 R1 r1 => ?_⟩
    obtain ⟨Z2, O2, x2, R2, r2⟩ := takes_ok R1 (r1.setNon kr) h2
    obtain ⟨v, hv1, hv2⟩ := r1.get h1
    obtain ⟨O3, R3, back⟩ := call1_core (n := e.np) (Q := Q) R2 r2 hlen hkr ⟨v, hv1, hv2⟩ h3 h5 h6
    rw [List.append_nil]
    refine ⟨?_, Z2, O3, _, R3, _, _, h4, fun v H4 Z4 O4 x4 R4 => ?_⟩
    · have := r2.length; rw [List.length_set] at this; rw [this]; exact hlen
    · rw [hrf] at R4
      obtain ⟨O5, x5, R5, ow⟩ := back v H4 Z4 O4 x4 R4
      exact kk v H4 Z4 O5 ((x1.trans x2).trans x5) R5 (OwR.older ow x1)
  cases h1 : hs[kr]? with
  | none => simp only [h1] at q; cases q
  | some h =>
    cases h with
    | val _ => simp only [h1] at q; cases q
    | slot i =>
      simp only [h1] at q
      cases h2 : takes ρ1 (hs.set kr (.val .non)) with
      | none => simp only [h2] at q; cases q
      | some t =>
        obtain ⟨xs, ρ2⟩ := t
        simp only [h2] at q
        cases h3 : ρ2[i]? with
        | none => simp only [h3] at q; cases q
        | some s0 =>
          simp only [h3] at q
          cases s0 with
          | own ys =>
            simp only at q
            split at q
            · rename_i hlen
              obtain ⟨⟨r, s'⟩, e3, q⟩ := Out.bind_ok q
              cases s' with
              | par zs =>
                simp only at q
                split at q
                · rename_i hno
                  cases q
                  exact main i xs ρ2 ys zs _ _ _ h1 h2 h3 hlen e3 (.inl ⟨rfl, rfl⟩) hno rfl rfl
                · cases q
              | _ => cases q
            · cases q
          | par ys =>
            simp only at q
            split at q
            · rename_i hlen
              obtain ⟨⟨r, s'⟩, e3, q⟩ := Out.bind_ok q
              cases s' with
              | par zs =>
                simp only at q
                split at q
                · rename_i hno
                  cases q
                  exact main i xs ρ2 ys zs _ _ _ h1 h2 h3 hlen e3 (.inr ⟨rfl, rfl⟩) hno rfl rfl
                · cases q
              | _ => cases q
            · cases q
          | _ => cases q
end
end Ev

/-! Ev: statements, a def's promise. -/
namespace Ev
open PySem PySem.Spec PyProof.Rows L2

inductive Fl where
  | nx (ρ : Env)
  | bk (ρ : Env)
  | ct (ρ : Env)
  | rt (s : Sl) (ρ : Env)
  | bad
abbrev DS := Env → Fl
def FlR (K : PySem.W.Frag) (mg : MG) (Z H : Hp) (O : Lab) (C : Lk) (D : Ends) : Fl → Prop
  | .nx ρ' => ∀ σ' H' Z' O', Ext Z H O Z' H' O' → EnvR K mg Z' H' O' C σ' ρ' → D.nx σ' H'
  | .bk ρ' => ∀ σ' H' Z' O', Ext Z H O Z' H' O' → EnvR K mg Z' H' O' C σ' ρ' → D.bk σ' H'
  | .ct ρ' => ∀ σ' H' Z' O', Ext Z H O Z' H' O' → EnvR K mg Z' H' O' C σ' ρ' → D.ct σ' H'
  | .rt s ρ' => ∀ v σ' H' Z' O', Ext Z H O Z' H' O' → EnvR K mg Z' H' O' C (σ' ++ [some v]) (ρ' ++ [s]) → D.rt v H'
  | .bad => False
def TSt (K : PySem.W.Frag) (mg : MG) (d : DS) : TS := fun D σ H => ∃ Z O C ρ, EnvR K mg Z H O C σ ρ ∧ FlR K mg Z H O C D (d ρ)
abbrev PSt (X : Cx) (st : Stmt) (d : DS) : Prop := PS X st (TSt X.K X.mg d)
abbrev PSSt (X : Cx) (st : List Stmt) (d : DS) : Prop := PSs X st (TSt X.K X.mg d)
section
variable {K : PySem.W.Frag} {mg : MG} {Z H Z1 H1 : Hp} {O O1 : Lab} {C : Lk} {σ : L2.St} {ρ : Env} {D : Ends}
theorem FlR.ext {f : Fl} (h : FlR K mg Z H O C D f) (x : Ext Z H O Z1 H1 O1) : FlR K mg Z1 H1 O1 C D f := by
  cases f with
  | nx ρ' => exact fun σ' H' Z' O' e => h σ' H' Z' O' (x.trans e)
  | bk ρ' => exact fun σ' H' Z' O' e => h σ' H' Z' O' (x.trans e)
  | ct ρ' => exact fun σ' H' Z' O' e => h σ' H' Z' O' (x.trans e)
  | rt s ρ' => exact fun v σ' H' Z' O' e => h v σ' H' Z' O' (x.trans e)
  | bad => exact h
/-- another end, by the flow's kinds -/
theorem FlR.ends {D' : Ends} {f : Fl} (h : FlR K mg Z H O C D f) (h1 : ∀ ρ', f = .nx ρ' → FlR K mg Z H O C D' (.nx ρ')) (h2 : ∀ ρ', f = .bk ρ' → FlR K mg Z H O C D' (.bk ρ')) (h3 : ∀ ρ', f = .ct ρ' → FlR K mg Z H O C D' (.ct ρ')) (h4 : ∀ s ρ', f = .rt s ρ' → FlR K mg Z H O C D' (.rt s ρ')) : FlR K mg Z H O C D' f := by
  cases f with
  | nx ρ' => exact h1 ρ' rfl
  | bk ρ' => exact h2 ρ' rfl
  | ct ρ' => exact h3 ρ' rfl
  | rt s ρ' => exact h4 s ρ' rfl
  | bad => exact h
end
def sSkip : DS := .nx
def sBreak : DS := .bk
def sCont : DS := .ct
def sSeq (a b : DS) : DS := fun ρ => match a ρ with
  | .nx ρ' => b ρ'
  | f => f
def sIf (c : DT) (a b : DS) : DS := fun ρ => match c ρ with
  | .ok (true, ρ') => a ρ'
  | .ok (false, ρ') => b ρ'
  | _ => .bad
def sDrop (d : DO) : DS := fun ρ => match d ρ with
  | .ok (_, ρ') => .nx ρ'
  | _ => .bad
def sRet (d : DO) : DS := fun ρ => match d ρ with
  | .ok (s, ρ') => .rt s ρ'
  | _ => .bad
def asg (i : Nat) (s : Sl) (ρ : Env) : Fl := if i < ρ.length then .nx (ρ.set i s) else .bad
def sSet (i : Nat) (d : DO) : DS := fun ρ => match d ρ with
  | .ok (s, ρ') => asg i s ρ'
  | _ => .bad

section
variable {K : PySem.W.Frag} {mg : MG} {Z H : Hp} {O : Lab} {C : Lk} {σ : L2.St} {ρ : Env}
/-- one more slot -/
theorem EnvR.more (R : EnvR K mg Z H O C σ ρ) : EnvR K mg Z H O C (σ ++ [none]) (ρ ++ [.no]) where
  len := by simp [R.len]
  zh := R.zh
  ch := R.ch
  oz := R.oz
  ob := fun b i q h => by have := R.ob b i q h; simp; omega
  sl := fun i s e => by
    by_cases hi : i < ρ.length
    · rw [List.getElem?_append_left hi] at e
      rw [List.getElem?_append_left (by rw [← R.len]; exact hi)]
      exact R.sl i s e
    · by_cases h2 : i = ρ.length
      · subst h2
        simp at e
        subst e
        trivial
      · rw [List.getElem?_eq_none (by simp; omega)] at e
        cases e
theorem EnvR.mores (R : EnvR K mg Z H O C σ ρ) : ∀ n : Nat, EnvR K mg Z H O C (σ ++ List.replicate n none) (ρ ++ List.replicate n .no)
  | 0 => by simpa using R
  | n + 1 => by
    have := (R.mores n).more
    rw [List.append_assoc, List.append_assoc, ← List.replicate_succ', ← List.replicate_succ'] at this
    exact this
/-- an answer, behind the slots -/
theorem EnvR.push (R : EnvR K mg Z H O C σ ρ) {H0 : Hp} {v : V} {s : Sl} (r : OwR K mg Z H O C H0 v s) :
    EnvR K mg Z H (placeO ρ.length (things s v H) O) C (σ ++ [some v]) (ρ ++ [s]) ∧ (∀ b ∈ things s v H, H0 b = none ∧ O b = none) := by
  obtain ⟨h1, h2⟩ := R.more.place (i := ρ.length) (by simp) r
  refine ⟨?_, h2⟩
  rw [List.set_append_right _ _ (by rw [R.len]; exact Nat.le_refl _), List.set_append_right _ _ (Nat.le_refl _)] at h1
  simpa [R.len] using h1
end

section
variable {X : Cx}
theorem pst_nil : PSSt X [] sSkip := PSs.imp pss_nil fun D σ H ⟨Z, O, C, ρ, R, h⟩ => h σ H Z O (Ext.refl _ _ _) R
theorem runSeq {K : PySem.W.Frag} {mg : MG} {a b : DS} {D : Ends} {σ : L2.St} {H : Hp} (h : TSt K mg (sSeq a b) D σ H) : TSt K mg a { D with nx := TSt K mg b D } σ H := by
  obtain ⟨Z, O, C, ρ, R, h⟩ := h
  refine ⟨Z, O, C, ρ, R, ?_⟩
  unfold sSeq at h
  cases e : a ρ with
  | nx ρ' =>
    rw [e] at h
    exact fun σ' H' Z' O' x R' => ⟨Z', O', C, ρ', R', h.ext x⟩
  | bk ρ' => rw [e] at h; exact h
  | ct ρ' => rw [e] at h; exact h
  | rt s ρ' => rw [e] at h; exact h
  | bad => rw [e] at h; exact h.elim
theorem pst_cons {st : Stmt} {rest : List Stmt} {a b : DS} (h1 : PSt X st a) (h2 : PSSt X rest b) : PSSt X (st :: rest) (sSeq a b) := PSs.imp (pss_cons h1 h2) fun _ _ _ => runSeq
theorem pst_one {st : Stmt} {a : DS} (h1 : PSt X st a) : PSSt X [st] a := pss_one h1
theorem st_pass {pos : Pos} : PSt X (.Pass pos) sSkip := PS.imp ps_pass fun D σ H ⟨Z, O, C, ρ, R, h⟩ => h σ H Z O (Ext.refl _ _ _) R
theorem st_break {pos : Pos} : PSt X (.Break pos) sBreak := PS.imp ps_break fun D σ H ⟨Z, O, C, ρ, R, h⟩ => h σ H Z O (Ext.refl _ _ _) R
theorem st_cont {pos : Pos} : PSt X (.Continue pos) sCont := PS.imp ps_continue fun D σ H ⟨Z, O, C, ρ, R, h⟩ => h σ H Z O (Ext.refl _ _ _) R
theorem st_doc {x j pos pos'} : PSt X (.Expr (.Constant (.str x) j pos) pos') sSkip := PS.imp ps_doc fun D σ H ⟨Z, O, C, ρ, R, h⟩ => h σ H Z O (Ext.refl _ _ _) R
theorem runIf {K : PySem.W.Frag} {mg : MG} {c : DT} {a b : DS} {D : Ends} {σ : L2.St} {H : Hp} (h : TSt K mg (sIf c a b) D σ H) : tIfS (TTt K mg c) (TSt K mg a) (TSt K mg b) D σ H := by
  obtain ⟨Z, O, C, ρ, R, h⟩ := h
  unfold sIf at h
  cases e : c ρ with
  | ok p =>
    obtain ⟨k, ρ'⟩ := p
    rw [e] at h
    refine ⟨Z, O, C, ρ, R, k, ρ', e, fun H' Z' O' x R' => ?_⟩
    cases k with
    | true => exact ⟨Z', O', C, ρ', R', h.ext x⟩
    | false => exact ⟨Z', O', C, ρ', R', h.ext x⟩
  | exc _ => rw [e] at h; exact h.elim
  | bad => rw [e] at h; exact h.elim
theorem st_if {c : Expr} {a b : List Stmt} {dc : DT} {da db : DS} {pos : Pos} (hc : PTt X c dc) (ha : PSSt X a da) (hb : PSSt X b db) : PSt X (.If c a b pos) (sIf dc da db) := PS.imp (ps_if hc ha hb) fun _ _ _ => runIf
theorem st_expr {e : Expr} {d : DO} {pos : Pos} (he : POw X e d) (hs : swapsWith e none pos.line X.env = pure false := by rfl) : PSt X (.Expr e pos) (sDrop d) := PS.imp (ps_expr he hs) fun D σ H ⟨Z, O, C, ρ, R, h⟩ => by
  unfold sDrop at h
  cases e : d ρ with
  | ok p => rw [e] at h; exact ⟨Z, O, C, ρ, R, p.1, p.2, e, fun v H' Z' O' x R' _ => h σ H' Z' O' x R'⟩
  | exc _ => rw [e] at h; exact h.elim
  | bad => rw [e] at h; exact h.elim
theorem st_ret {e : Expr} {d : DO} {pos : Pos} (he : POw X e d) : PSt X (.Return (some e) pos) (sRet d) := PS.imp (ps_ret he) fun D σ H ⟨Z, O, C, ρ, R, h⟩ => by
  unfold sRet at h
  cases e : d ρ with
  | ok p =>
    rw [e] at h
    refine ⟨Z, O, C, ρ, R, p.1, p.2, e, fun v H' Z' O' x R' r => ?_⟩
    obtain ⟨R2, n2⟩ := R'.push r
    exact h v σ H' Z' _ (x.place n2) R2
  | exc _ => rw [e] at h; exact h.elim
  | bad => rw [e] at h; exact h.elim
theorem st_retN {pos : Pos} : PSt X (.Return none pos) (sRet (dOV (dC .non))) := PS.imp ps_retN fun D σ H ⟨Z, O, C, ρ, R, h⟩ => by
  obtain ⟨R2, n2⟩ := R.push (H0 := H) (v := .non) (s := .fz .non) (show Rl X.K X.mg Z V.non Val.non from .non)
  exact h .non σ H Z _ ((Ext.refl _ _ _).place n2) R2
theorem st_set {i : Nat} {x : Str} {e : Expr} {d : DO} {pos' pos : Pos} (hN : X.N.Nodup) (hi : X.N[i]? = some x) (hx : Loc X.env.scope x) (he : POw X e d) (hs : swapsWith e (some (.Name x pos')) pos.line X.env = pure false := by rfl) (hf : X.fn x = true ∨ X.env.scope.names.lookup x = some .local := by first | exact .inl rfl | exact .inr rfl | assumption) :
    PSt X (.Assign [.Name x pos'] e pos) (sSet i d) := PS.imp (ps_set hN hi hx he hs hf) fun D σ H ⟨Z, O, C, ρ, R, h⟩ => by
  unfold sSet at h
  cases e : d ρ with
  | ok p =>
    rw [e] at h
    unfold asg at h
    refine ⟨Z, O, C, ρ, R, p.1, p.2, e, fun v H' Z' O' x R' r => ?_⟩
    simp only at h
    split at h
    · rename_i hl
      obtain ⟨R2, n2⟩ := R'.place hl r
      exact h _ H' Z' _ (x.place n2) R2
    · exact h.elim
  | exc _ => rw [e] at h; exact h.elim
  | bad => rw [e] at h; exact h.elim
end

/-! ### targets -/
abbrev DG := Val → Env → Option Env
abbrev DGs := List Val → Env → Option Env
def off (ws : List Nat) (σ σ' : L2.St) : Prop := σ'.length = σ.length ∧ ∀ j, j ∉ ws → σ'[j]? = σ[j]?
theorem off.refl {ws : List Nat} (σ : L2.St) : off ws σ σ := ⟨rfl, fun _ _ => rfl⟩
theorem off.trans {ws ws' : List Nat} {σ σ1 σ2 : L2.St} (a : off ws σ σ1) (b : off ws' σ1 σ2) : off (ws ++ ws') σ σ2 :=
  ⟨b.1.trans a.1, fun j hj => (b.2 j fun h => hj (List.mem_append_right _ h)).trans (a.2 j fun h => hj (List.mem_append_left _ h))⟩
def TGt (K : PySem.W.Frag) (mg : MG) (g : DG) (ws : List Nat) : TG := fun v σ H Q => ∃ Z O C ρ, EnvR K mg Z H O C σ ρ ∧ ∃ x ρ', Rl K mg Z v x ∧ g x ρ = some ρ' ∧
  ∀ σ' O', Ext Z H O Z H O' → off ws σ σ' → EnvR K mg Z H O' C σ' ρ' → Q σ' H
def TGts (K : PySem.W.Frag) (mg : MG) (g : DGs) (ws : List Nat) : TGs := fun vs σ H Q => ∃ Z O C ρ, EnvR K mg Z H O C σ ρ ∧ ∃ xs ρ', Rls K mg Z vs xs ∧ g xs ρ = some ρ' ∧
  ∀ σ' O', Ext Z H O Z H O' → off ws σ σ' → EnvR K mg Z H O' C σ' ρ' → Q σ' H
theorem PG.imp {X : Cx} {e : Expr} {t t' : TG} (h : PG X e t) (i : ∀ v σ H Q, t' v σ H Q → t v σ H Q) : PG X e t' := ⟨fun pins s σ H v u Q I r q => h.run pins s σ H v u Q I r (i v σ H Q q)⟩
theorem PGs.imp {X : Cx} {e : List Expr} {t t' : TGs} (h : PGs X e t) (i : ∀ v σ H Q, t' v σ H Q → t v σ H Q) : PGs X e t' := ⟨fun pins s σ H v u Q I r q => h.run pins s σ H v u Q I r (i v σ H Q q)⟩
abbrev PGt (X : Cx) (tg : Expr) (g : DG) (ws : List Nat) : Prop := PG X tg (TGt X.K X.mg g ws)
abbrev PGts (X : Cx) (tgs : List Expr) (g : DGs) (ws : List Nat) : Prop := PGs X tgs (TGts X.K X.mg g ws)
def gNm (i : Nat) : DG := fun x ρ => if i < ρ.length then some (ρ.set i (.fz x)) else none
def gN : DGs := fun xs ρ => match xs with
  | [] => some ρ
  | _ => none
def gC (g : DG) (gs : DGs) : DGs := fun xs ρ => match xs with
  | x :: xs => (g x ρ).bind fun ρ' => gs xs ρ'
  | [] => none
def tupOf : Val → Option (List Val)
  | .tup xs => some xs
  | .ktup xs => some xs
  | _ => none
def gTp (n : Nat) (gs : DGs) : DG := fun x ρ => (tupOf x).bind fun xs => if xs.length = n then gs xs ρ else none
section
variable {X : Cx}
theorem gt_name {i : Nat} {x : Str} {pos : Pos} (hN : X.N.Nodup) (hi : X.N[i]? = some x) (hx : Loc X.env.scope x) (hf : X.fn x = true ∨ X.env.scope.names.lookup x = some .local := by first | exact .inl rfl | exact .inr rfl | assumption) : PGt X (.Name x pos) (gNm i) [i] :=
  PG.imp (pg_name hN hi hx hf) fun v σ H Q ⟨Z, O, C, ρ, R, y, ρ', r, e, k⟩ => by
    unfold gNm at e
    split at e
    · rename_i hl
      cases e
      obtain ⟨R2, n2⟩ := R.place (H0 := H) (s := .fz y) (v := v) hl r
      exact k _ _ ((Ext.refl _ _ _).place n2) ⟨by rw [List.length_set], fun j hj => by rw [List.getElem?_set_ne fun z => hj (by simp [z])]⟩ R2
    · cases e
theorem gt_nil : PGts X [] gN [] := PGs.imp pgs_nil fun vs σ H Q ⟨Z, O, C, ρ, R, xs, ρ', r, e, k⟩ => by
  cases r with
  | nil => cases e; exact ⟨rfl, k σ O (Ext.refl _ _ _) (off.refl σ) R⟩
  | cons _ _ => cases e
theorem gt_cons {e : Expr} {es : List Expr} {g : DG} {gs : DGs} {ws ws' : List Nat} (h1 : PGt X e g ws) (h2 : PGts X es gs ws')
    (hs : (assignEach (e :: es) X.env).map (·.2) = assign e X.env :: (assignEach es X.env).map (·.2) := by rfl) : PGts X (e :: es) (gC g gs) (ws ++ ws') := PGs.imp (pgs_cons h1 h2 hs) fun vs σ H Q ⟨Z, O, C, ρ, R, xs, ρ', r, e, k⟩ => by
  cases r with
  | nil => cases e
  | cons r rr =>
    obtain ⟨ρ1, e1, e⟩ := Option.bind_eq_some_iff.mp e
    exact ⟨_, _, rfl, Z, O, C, ρ, R, _, ρ1, r, e1, fun σ1 O1 x1 f1 R1 => ⟨Z, O1, C, ρ1, R1, _, ρ', rr, e, fun σ2 O2 x2 f2 R2 => k σ2 O2 (x1.trans x2) (f1.trans f2) R2⟩⟩
theorem gt_tup {es : List Expr} {k : Nat} {gs : DGs} {n : Nat} {ws : List Nat} {pos : Pos} (hc : X.calm = true) (h : PGts X es gs ws)
    (hn : (assignEach es X.env).length = n := by rfl) (hst : (assignEach es X.env).findIdx? (·.1) = none := by rfl) : PGt X (.Tuple es k pos) (gTp n gs) ws := PG.imp (pg_tup hc h hn hst) fun v σ H Q ⟨Z, O, C, ρ, R, x, ρ', r, e, k⟩ => by
  obtain ⟨xs, e1, e2⟩ := Option.bind_eq_some_iff.mp e
  clear e
  split at e2
  · rename_i hl
    cases r with
    | tup m r => cases e1; exact ⟨_, _, rfl, SqT.of (R.zh _ _ m), by rw [r.length]; exact hl, Z, O, C, ρ, R, _, ρ', r, e2, k⟩
    | ktup m r => cases e1; exact ⟨_, _, rfl, seqT_mono R.zh m, by rw [r.length]; exact hl, Z, O, C, ρ, R, _, ρ', r, e2, k⟩
    | _ => cases e1
  · cases e2
def sAsg (d : DV) (g : DG) : DS := fun ρ => match d ρ with
  | .ok (x, ρ') => match g x ρ' with
    | some ρ2 => .nx ρ2
    | none => .bad
  | _ => .bad
theorem st_asg {tg e : Expr} {d : DV} {g : DG} {ws : List Nat} {pos : Pos} (he : PV X e d) (hg : PGt X tg g ws) (hs : swapsWithSole [tg] e pos.line X.env = pure false := by rfl) (hw : swappedStores [tg] e X.env = pure none := by rfl)
    (h1 : (assignEach [tg] X.env).map (·.2) = [assign tg X.env] := by rfl) : PSt X (.Assign [tg] e pos) (sAsg d g) := PS.imp (ps_asg he hg hs hw h1) fun D σ H ⟨Z, O, C, ρ, R, h⟩ => by
  unfold sAsg at h
  cases e : d ρ with
  | ok p =>
    obtain ⟨x, ρ'⟩ := p
    rw [e] at h
    simp only at h
    cases e2 : g x ρ' with
    | none => rw [e2] at h; exact h.elim
    | some ρ2 =>
      rw [e2] at h
      exact ⟨Z, O, C, ρ, R, x, ρ', e, fun v H' Z' O' ex R' r => ⟨Z', O', C, ρ', R', x, ρ2, r, e2, fun σ' O2 x2 _ R2 => h σ' H' Z' O2 (ex.trans x2) R2⟩⟩
  | exc _ => rw [e] at h; exact h.elim
  | bad => rw [e] at h; exact h.elim
/-- a, b = x, y -/
def sPar (i j : Nat) (d : DA) : DS := fun ρ => match d ρ with
  | .ok (hs, ρ1) => match takes ρ1 hs with
    | some ([x, y], ρ2) => if i < ρ2.length ∧ j < ρ2.length then .nx ((ρ2.set i (.fz x)).set j (.fz y)) else .bad
    | _ => .bad
  | _ => .bad
theorem st_par {i j : Nat} {x y : Str} {a b : Expr} {d : DA} {px py pt pos : Pos} {kt k2 pt2} (hc : X.calm = true) (hN : X.N.Nodup) (hi : X.N[i]? = some x) (hj : X.N[j]? = some y) (hij : i ≠ j)
    (hx : X.env.scope.names.lookup x = some .local) (hy : X.env.scope.names.lookup y = some .local) (ha : PAs X [a, b] d)
    (hw : swappedStores [.Tuple [.Name x px, .Name y py] kt pt] (.Tuple [a, b] k2 pt2) X.env = pure (some [x, y]))
    (hs : swapsWithSole [.Tuple [.Name x px, .Name y py] kt pt] (.Tuple [a, b] k2 pt2) pos.line X.env = pure false := by rfl) :
    PSt X (.Assign [.Tuple [.Name x px, .Name y py] kt pt] (.Tuple [a, b] k2 pt2) pos) (sPar i j d) := PS.imp (ps_par hc hN hi hj hij hx hy ha hw hs) fun D σ H ⟨Z, O, C, ρ, R, h⟩ => by
  unfold sPar at h
  cases e : d ρ with
  | ok p =>
    obtain ⟨hs, ρ1⟩ := p
    rw [e] at h
    simp only at h
    refine ⟨Z, O, C, ρ, R, hs, ρ1, e, fun vs H1 Z1 O1 x1 R1 r1 => ?_⟩
    cases e2 : takes ρ1 hs with
    | none => rw [e2] at h; exact h.elim
    | some t =>
      obtain ⟨xs, ρ2⟩ := t
      rw [e2] at h
      obtain ⟨Z2, O2, x2, R2, r2⟩ := takes_ok R1 r1 e2
      cases r2 with
      | nil => exact h.elim
      | cons ra r2 =>
        cases r2 with
        | nil => exact h.elim
        | cons rb r2 =>
          cases r2 with
          | cons _ _ => exact h.elim
          | nil =>
            simp only at h
            split at h
            · rename_i hl
              obtain ⟨R3, n3⟩ := R2.place (H0 := H1) (s := .fz _) hl.1 ra
              obtain ⟨R4, n4⟩ := R3.place (H0 := H1) (s := .fz _) (i := j) (by rw [List.length_set]; exact hl.2) rb
              exact ⟨_, _, rfl, h _ H1 Z2 _ ((x1.trans x2).trans (((Ext.refl _ _ _).place n3).place n4)) R4⟩
            · exact h.elim
  | exc _ => rw [e] at h; exact h.elim
  | bad => rw [e] at h; exact h.elim
end

/-! ### a def's promise -/
def parOf (np : Nat) (rf : Option Nat) (ρ : Env) : Option Sl := if ρ.length < np then none else match rf with
  | none => some .no
  | some k => match ρ[k]? with
    | some (.par xs) => if k < np then some (.par xs) else none
    | _ => none
def flRes (np : Nat) (rf : Option Nat) : Fl → Out (Sl × Sl)
  | .rt s ρ => match parOf np rf ρ with
    | some t => if notNo s then .ok (s, t) else .bad
    | none => .bad
  | .nx ρ => match parOf np rf ρ with
    | some t => .ok (.fz .non, t)
    | none => .bad
  | _ => .bad
/-- n: all its slots -/
def fnE (lv np n : Nat) (rf : Option Nat) (d : DS) : FnE := ⟨lv, np, rf, fun args => flRes np rf (d (args ++ List.replicate (n - np) .no))⟩
theorem start_eq (N : List Str) (vs : List V) : start N vs = vs.map some ++ List.replicate (N.length - vs.length) none := by
  first | rfl | (unfold start; simp)

theorem getElem?_snoc {α : Type} (xs : List α) (x : α) : (xs ++ [x])[xs.length]? = some x := by simp
/-- the end of a body, as the caller sees it -/
theorem body_end {K : PySem.W.Frag} {mg : MG} {Z H : Hp} {O : Lab} {vs : List V} {v : V} {σ' : L2.St} {ρ' : Env} {s t : Sl} {np : Nat} {rf : Option Nat} (R : EnvR K mg Z H O (parL vs) (σ' ++ [some v]) (ρ' ++ [s])) (hp : parOf np rf ρ' = some t) (nn : notNo s = true) (hvs : vs.length = np) :
    ∃ O2, EnvR K mg Z H O2 (parL vs) (vs.map some ++ [some v]) (outEnv np rf t s) ∧ (∀ b, O b = none → O2 b = none) ∧ np ≤ ρ'.length ∧ (∀ b i q, O2 b = some (i, q) → (∃ q', O b = some (ρ'.length, q') ∧ i = np) ∨ (rf = some i ∧ O b = some (i, q))) := by
  have hl : ρ'.length = σ'.length := by have := R.len; simp at this; exact this
  let g : Nat → Option Nat := fun i => if i = ρ'.length then some np else if rf = some i ∧ i < ρ'.length then some i else none
  have hpl : np ≤ ρ'.length := by
    unfold parOf at hp
    split at hp
    · cases hp
    · omega
  have par : ∀ k, rf = some k → ∃ xs, ρ'[k]? = some (.par xs) ∧ t = .par xs ∧ k < np := fun k hk => by
    subst hk
    unfold parOf at hp
    rw [if_neg (Nat.not_lt.mpr hpl)] at hp
    simp only at hp
    cases e : ρ'[k]? with
    | none => rw [e] at hp; cases hp
    | some s0 =>
      rw [e] at hp
      cases s0 with
      | par xs =>
        simp only at hp
        split at hp
        · rename_i hk
          cases hp
          exact ⟨xs, rfl, rfl, hk⟩
        · cases hp
      | _ => cases hp
  have hnl : notLck s = true := by cases s <;> first | rfl | cases nn
  refine ⟨mapLab O g, R.reindex (C' := parL vs) (fun b o h => (by cases h)) (fun b _ => rfl) (by rw [outEnv_length]; simp [hvs]) g (fun i j h => ?_) (fun i i' j h h' => ?_) fun j s2 e => ?_, fun b h => mapLab_none h, hpl, fun b i q h => ?_⟩
  · rw [outEnv_length]
    show j < np + 1
    simp only [g] at h
    split at h
    · cases h; omega
    · split at h
      · rename_i h2
        cases h
        obtain ⟨_, _, _, h3⟩ := par i h2.1
        omega
      · cases h
  · simp only [g] at h h'
    split at h
    · rename_i h1
      split at h'
      · rename_i h2; rw [h1, h2]
      · split at h'
        · rename_i h3
          obtain ⟨_, _, _, h4⟩ := par i' h3.1
          cases h
          cases h'
          omega
        · cases h'
    · split at h
      · rename_i h1
        split at h'
        · rename_i h3
          obtain ⟨_, _, _, h4⟩ := par i h1.1
          cases h
          cases h'
          omega
        · split at h'
          · rename_i h3
            have := h1.1
            rw [h3.1] at this
            cases this
            rfl
          · cases h'
      · cases h
  · by_cases hj : j = np
    · subst hj
      rw [outEnv_last] at e
      cases e
      right
      refine ⟨ρ'.length, s, by simp [g], getElem?_snoc _ _, ?_, .same hnl⟩
      rw [hl, getElem?_snoc]
      have := getElem?_snoc (vs.map some) (some v)
      rw [List.length_map, hvs] at this
      exact this
    · by_cases hk : rf = some j
      · obtain ⟨xs, h1, h2, h3⟩ := par j hk
        have hjl := (List.getElem?_eq_some_iff.mp h1).1
        have e2 : s2 = .par xs := by
          rw [hk] at e
          unfold outEnv at e
          simp only at e
          rw [List.getElem?_append_left (by simp [h3]), List.getElem?_set_self (by simp [h3])] at e
          rw [← h2]; exact (Option.some.inj e).symm
        subst e2
        have sl := R.sl j (.par xs) (by rw [List.getElem?_append_left hjl]; exact h1)
        obtain ⟨a, ws, ea, _, _, _, fx⟩ := sl
        have hv : (vs.map some)[j]? = some (some (.ref a)) := by
          have fx : (match vs[j]? with | some (.ref a) => some a | _ => none) = some a := fx
          rw [List.getElem?_map]
          cases e3 : vs[j]? with
          | none => rw [e3] at fx; cases fx
          | some w =>
            rw [e3] at fx
            cases w with
            | ref a' => cases fx; rfl
            | _ => cases fx
        right
        refine ⟨j, .par xs, ?_, by rw [List.getElem?_append_left hjl]; exact h1, ?_, .pp fun a' h => ?_⟩
        · simp only [g]
          rw [if_neg (by omega), if_pos ⟨hk, hjl⟩]
        · rw [ea, List.getElem?_append_left (by simp [hvs, h3]), hv]
        · rw [ea] at h; cases h; exact fx
      · left
        have e2 : s2 = .no := by
          have hlt : j < np := by
            have := (List.getElem?_eq_some_iff.mp e).1
            rw [outEnv_length] at this
            omega
          unfold outEnv at e
          cases hrf : rf with
          | none => rw [hrf] at e; simp only at e; rw [List.getElem?_append_left (by simp [hlt])] at e; simp [hlt] at e; exact e.symm
          | some k =>
            rw [hrf] at e
            simp only at e
            have hne : k ≠ j := fun z => hk (by rw [hrf, z])
            rw [List.getElem?_append_left (by simp [hlt]), List.getElem?_set_ne hne] at e
            simp [hlt] at e
            exact e.symm
        subst e2
        trivial
  · obtain ⟨i', h1, h2⟩ := mapLab_some h
    simp only [g] at h2
    split at h2
    · rename_i h3
      cases h2
      subst h3
      exact .inl ⟨q, h1, rfl⟩
    · split at h2
      · rename_i h3
        cases h2
        exact .inr ⟨h3.1, h1⟩
      · cases h2

theorem body_ext {Z H Z0 H0 : Hp} {O O0 O2 : Lab} {np n : Nat} {rf : Option Nat} (x : Ext Z0 H0 O0 Z H O) (h0 : ∀ b i q, O0 b = some (i, q) → i < np) (h1 : ∀ b, O b = none → O2 b = none) (hn : np ≤ n)
    (h2 : ∀ b i q, O2 b = some (i, q) → (∃ q', O b = some (n, q') ∧ i = np) ∨ (rf = some i ∧ O b = some (i, q))) : Ext Z0 H0 O0 Z H O2 where
  z := x.z
  h := fun b o e1 e2 => let ⟨a, c⟩ := x.h b o e1 e2; ⟨a, h1 b c⟩
  t := x.t
  o := fun b i q e => by
    rcases h2 b i q e with ⟨q', e1, e2⟩ | ⟨_, e1⟩
    · rcases x.o b n q' e1 with h | ⟨q2, h⟩
      · exact .inl h
      · have := h0 b n q2 h; omega
    · exact x.o b i q e1
  zn := x.zn
/-- a def of the text: its body's worth is its own -/
theorem fn_ok {P : Program} {w : World} {K : PySem.W.Frag} {mg : MG} {base : Heap} {x x0 qual : Str} {st : Stmt} {f : Addr} {fd : FuncData} {N ps : List Str} {k np n : Nat} {rf : Option Nat} {D : DS}
    (F : Fun K x0 qual st f fd) (S : FnScope N ps (defScope st)) (hnp : ps.length = np) (hn : N.length = n) (hm : mg x = some (.ref f)) (hb : Binds K fd ps [])
    (body : ∀ (cdv : Value) (A : Around) (outer : List PySem.Env) (s : Shared) (H : Hp) (E : XK), Room k (A.deeper (envOfC qual (defScope st) s.heap.objs.size f cdv)) →
      PSSt (cxOf CX0 P w K mg base N qual (defScope st) f cdv A outer s H E).nox (defBody st) D) : Cal P w K mg base CX0 x (fnE (k + 1) np n rf D) := by
  refine ⟨f, fd, ps, ?_, hm, F.kp, hb⟩
  refine F.ok S (fun vs H Q E h => by rw [h.1, hnp]; rfl) fun cdv A outer s H vs Q E hr h => ⟨_, body cdv A outer s H E hr, ?_⟩
  obtain ⟨hvs, Z, O, args, R, r, t, e, kk⟩ := h
  have hvs : vs.length = np := hvs
  have hargs : args.length = np := by have := R.len; rw [List.length_map] at this; omega
  have R0 := R.mores (n - np)
  have fin : ∀ v σ' H' Z' O' ρ' s', parOf np rf ρ' = some t → notNo s' = true → s' = r → Ext Z H O Z' H' O' → EnvR K mg Z' H' O' (parL vs) (σ' ++ [some v]) (ρ' ++ [s']) → Q v H' := fun v σ' H' Z' O' ρ' s' hp nn es x R' => by
    subst es
    obtain ⟨O2, R2, n1, n2, n3⟩ := body_end R' hp nn hvs
    exact kk v H' Z' O2 (body_ext x (fun b i q h => by have := R.ob b i q h; omega) n1 n2 n3) R2
  refine ⟨Z, O, parL vs, args ++ List.replicate (n - np) .no, ?_, ?_⟩
  · rw [start_eq, hn, hvs]; exact R0
  · have e : flRes np rf (D (args ++ List.replicate (n - np) .no)) = .ok (r, t) := e
    generalize D (args ++ List.replicate (n - np) .no) = fl at e ⊢
    cases fl with
    | rt s' ρ' =>
      unfold flRes at e
      simp only at e
      cases hp : parOf np rf ρ' with
      | none => rw [hp] at e; cases e
      | some t' =>
        rw [hp] at e
        simp only at e
        split at e
        · rename_i nn
          cases e
          exact fun v σ' H' Z' O' x R' => fin v σ' H' Z' O' ρ' _ hp nn rfl x R'
        · cases e
    | nx ρ' =>
      unfold flRes at e
      simp only at e
      cases hp : parOf np rf ρ' with
      | none => rw [hp] at e; cases e
      | some t' =>
        rw [hp] at e
        cases e
        refine fun σ' H' Z' O' x R' => ?_
        obtain ⟨R2, n2⟩ := R'.push (H0 := H) (v := .non) (s := .fz .non) (show Rl K mg Z' V.non Val.non from .non)
        exact fin .non σ' H' Z' _ ρ' _ hp rfl rfl (x.place n2) R2
    | bk _ => cases e
    | ct _ => cases e
    | bad => cases e

theorem body_run {K : PySem.W.Frag} {mg : MG} {N : List Str} {ps : List Str} {np n : Nat} {lv : Nat} {rf : Option Nat} {D : DS} {vs : List V} {H : Hp} {Q : VK} {E : XK} (hnp : ps.length = np) (hn : N.length = n) (h : spF K mg (fnE lv np n rf D) vs H Q E) :
    TSt K mg D { nx := fun _ H' => Q .non H', rt := Q } (start N vs) H := by
  obtain ⟨hvs, Z, O, args, R, r, t, e, kk⟩ := h
  have hvs : vs.length = np := hvs
  have hargs : args.length = np := by have := R.len; rw [List.length_map] at this; omega
  have R0 := R.mores (n - np)
  have fin : ∀ v σ' H' Z' O' ρ' s', parOf np rf ρ' = some t → notNo s' = true → s' = r → Ext Z H O Z' H' O' → EnvR K mg Z' H' O' (parL vs) (σ' ++ [some v]) (ρ' ++ [s']) → Q v H' := fun v σ' H' Z' O' ρ' s' hp nn es x R' => by
    subst es
    obtain ⟨O2, R2, n1, n2, n3⟩ := body_end R' hp nn hvs
    exact kk v H' Z' O2 (body_ext x (fun b i q h => by have := R.ob b i q h; omega) n1 n2 n3) R2
  refine ⟨Z, O, parL vs, args ++ List.replicate (n - np) .no, ?_, ?_⟩
  · rw [start_eq, hn, hvs]; exact R0
  · have e : flRes np rf (D (args ++ List.replicate (n - np) .no)) = .ok (r, t) := e
    generalize D (args ++ List.replicate (n - np) .no) = fl at e ⊢
    cases fl with
    | rt s' ρ' =>
      unfold flRes at e
      simp only at e
      cases hp : parOf np rf ρ' with
      | none => rw [hp] at e; cases e
      | some t' =>
        rw [hp] at e
        simp only at e
        split at e
        · rename_i nn
          cases e
          exact fun v σ' H' Z' O' x R' => fin v σ' H' Z' O' ρ' _ hp nn rfl x R'
        · cases e
    | nx ρ' =>
      unfold flRes at e
      simp only at e
      cases hp : parOf np rf ρ' with
      | none => rw [hp] at e; cases e
      | some t' =>
        rw [hp] at e
        cases e
        refine fun σ' H' Z' O' x R' => ?_
        obtain ⟨R2, n2⟩ := R'.push (H0 := H) (v := .non) (s := .fz .non) (show Rl K mg Z' V.non Val.non from .non)
        exact fin .non σ' H' Z' _ ρ' _ hp rfl rfl (x.place n2) R2
    | bk _ => cases e
    | ct _ => cases e
    | bad => cases e
/-- the same of a def as a head tells it -/
theorem fn_okD {P : Program} {w : World} {K : PySem.W.Frag} {mg : MG} {base : Heap} {x x0 qual : Str} {params : Arguments} {sts : List Stmt} {scope : Scope} {f : Addr} {fd : FuncData} {N ps : List Str} {k np n : Nat} {rf : Option Nat} {D : DS}
    (F : FunD K x0 qual params sts scope [] [] f fd) (S : FnScope N ps scope) (hnp : ps.length = np) (hn : N.length = n) (hm : mg x = some (.ref f))
    (hb : ∀ (kV doc pm : Value) (an : Option Addr) (cdv ct : Value) (us : List Value), us.length = ps.length → bindArgs (PySem.W.fnOf x0 qual params sts scope .none kV doc pm an cdv ct) ⟨us, []⟩ = pure (ps.zip us))
    (body : ∀ (cdv : Value) (A : Around) (outer : List PySem.Env) (s : Shared) (H : Hp) (E : XK), Room k (A.deeper (envOfC qual scope s.heap.objs.size f cdv)) →
      PSSt (cxOf CX0 P w K mg base N qual scope f cdv A outer s H E).nox sts D) : Cal P w K mg base CX0 x (fnE (k + 1) np n rf D) := by
  refine ⟨f, fd, ps, ?_, hm, F.kp, F.bindsN hb⟩
  exact F.ok S (fun vs H Q E h => by rw [h.1, hnp]; rfl) fun cdv A outer s H vs Q E hr h => ⟨_, PSs.nox (body cdv A outer s H E hr), body_run hnp hn h⟩
/-- the law's own def -/
theorem fn_okW {P : Program} {w : World} {K : PySem.W.Frag} {mg : MG} {base : Heap} {x0 qual : Str} {params : Arguments} {sts : List Stmt} {scope : Scope} {f : Addr} {fd : FuncData} {N ps : List Str} {k np n : Nat} {rf : Option Nat} {D : DS}
    (F : FunD K x0 qual params sts scope [] [] f fd) (S : FnScope N ps scope) (hnp : ps.length = np) (hn : N.length = n)
    (body : ∀ (cdv : Value) (A : Around) (outer : List PySem.Env) (s : Shared) (H : Hp) (E : XK), Room k (A.deeper (envOfC qual scope s.heap.objs.size f cdv)) →
      PSSt (cxOf CX0 P w K mg base N qual scope f cdv A outer s H E).nox sts D) : FnOk P w K mg base CX0 (k + 1) f fd ps (spF K mg (fnE (k + 1) np n rf D)) :=
  F.ok S (fun vs H Q E h => by rw [h.1, hnp]; rfl) fun cdv A outer s H vs Q E hr h => ⟨_, PSs.nox (body cdv A outer s H E hr), body_run hnp hn h⟩
theorem sp_script {K : PySem.W.Frag} {mg : MG} {e : FnE} {H : Hp} {a : Addr} {ns : List Int} {E : XK} (hnp : e.np = 1) (hrf : e.rf = none) (hS : SqL K H a (ns.map V.int)) (h : e.sem [.fz (.scr ns)] = .ok (.fz (.bl true), .no)) :
    spF K mg e [.ref a] H (fun v _ => v = .bl true) E := by
  refine ⟨by rw [hnp]; rfl, H, fun _ => none, [.fz (.scr ns)], ⟨rfl, Same.refl H, fun b o h => (by cases h), fun b h => absurd rfl h, fun b i q h => (by cases h), fun i s e => ?_⟩, .fz (.bl true), .no, h, fun v H' Z' O' _ R => ?_⟩
  · cases i with
    | zero => cases e; exact ⟨.ref a, rfl, .scr hS⟩
    | succ i => simp at e
  · have := R.sl 1 (.fz (.bl true)) (by rw [hnp, hrf]; rfl)
    obtain ⟨u, e1, r⟩ := this
    cases e1
    cases r
    rfl
theorem cal_bad {P : Program} {w : World} {K : PySem.W.Frag} {mg : MG} {base : Heap} {x x0 qual : Str} {params : Arguments} {sts : List Stmt} {scope : Scope} {f : Addr} {fd : FuncData} {ps : List Str} {k np : Nat} {rf : Option Nat}
    (F : FunD K x0 qual params sts scope [] [] f fd) (hnp : ps.length = np) (hm : mg x = some (.ref f))
    (hb : ∀ (kV doc pm : Value) (an : Option Addr) (cdv ct : Value) (us : List Value), us.length = ps.length → bindArgs (PySem.W.fnOf x0 qual params sts scope .none kV doc pm an cdv ct) ⟨us, []⟩ = pure (ps.zip us)) : Cal P w K mg base CX0 x ⟨k, np, rf, fun _ => .bad⟩ := by
  refine ⟨f, fd, ps, ⟨fun vs H Q E h => by rw [h.1, hnp], fun A outer s H args us vs Q E hr he hb hv h => ?_⟩, hm, F.kp, F.bindsN hb⟩
  obtain ⟨_, _, _, _, _, _, _, e, _⟩ := h
  cases e
end Ev
namespace Ev
theorem fnE_sem (lv np n : Nat) (rf : Option Nat) (d : DS) (args : List Sl) : (fnE lv np n rf d).sem args = flRes np rf (d (args ++ List.replicate (n - np) .no)) := rfl
end Ev

/-! Ev: loops, list comprehensions. -/
namespace Ev
open PySem PySem.Spec PyProof.Rows L2

/-- J goes through xs, over what stands at Z and what is locked -/
structure Walk (K : PySem.W.Frag) (mg : MG) (J : It) (Z : Hp) (C : Lk) (xs : List Val) : Prop where
  go : ∀ i Zc H, Same Z Zc → Same Zc H → Same C H → i < xs.length → J.go i H
  yld : ∀ i Zc H v H', Same Z Zc → Same Zc H → Same C H → i < xs.length → J.yld i H v H' → ∃ Zc' y, Grow Zc H Zc' H' ∧ xs[i]? = some y ∧ Rl K mg Zc' v y
  stop : ∀ i Zc H, Same Z Zc → Same Zc H → Same C H → xs.length ≤ i → J.stop i H
abbrev DI := Env → Out (List Val × Env)
def TIt (K : PySem.W.Frag) (mg : MG) (d : DI) : TI := fun σ H R => ∃ Z O C ρ, EnvR K mg Z H O C σ ρ ∧ ∃ xs ρ', d ρ = .ok (xs, ρ') ∧
  ∀ J H' Z' O', Ext Z H O Z' H' O' → EnvR K mg Z' H' O' C σ ρ' → Walk K mg J Z' C xs → R J H'
abbrev PIt (X : Cx) (tg iter : Expr) (d : DI) : Prop := PI X tg iter (TIt X.K X.mg d)
theorem PI.imp {X : Cx} {tg e : Expr} {t t' : TI} (h : PI X tg e t) (i : ∀ σ H Q, t' σ H Q → t σ H Q) : PI X tg e t' := ⟨fun pins s σ H Q I q => h.run pins s σ H Q I (i σ H Q q)⟩
theorem PI.or {X : Cx} {tg e : Expr} {t t' : TI} (h : PI X tg e t) (h' : PI X tg e t') : PI X tg e (fun σ H R => t σ H R ∨ t' σ H R) := ⟨fun pins s σ H Q I q => q.elim (h.run pins s σ H Q I) (h'.run pins s σ H Q I)⟩


theorem Rls.getI {K : PySem.W.Frag} {mg : MG} {Z : Hp} {vs : List V} {xs : List Val} {i : Nat} {v : V} (r : Rls K mg Z vs xs) (h : vs[i]? = some v) : ∃ x, xs[i]? = some x ∧ Rl K mg Z v x := r.get' h
theorem walk_l {K : PySem.W.Frag} {mg : MG} {Z : Hp} {C : Lk} {a : Addr} {vs : List V} {xs : List Val} (r : Rls K mg Z vs xs) (h : ∀ Zc H, Same Z Zc → Same Zc H → Same C H → SqL K H a vs) : Walk K mg (Itl K a) Z C xs where
  go := fun i Zc H z zh c hi => by
    have hi' : i < vs.length := by rw [r.length]; exact hi
    exact ⟨vs, vs[i], h Zc H z zh c, by simp [hi']⟩
  yld := fun i Zc H v H' z zh c hi y => by
    obtain ⟨rfl, y⟩ := y
    obtain ⟨x, h1, h2⟩ := r.get' (y vs (h Zc _ z zh c))
    exact ⟨Zc, x, Grow.refl zh, h1, h2.mono z⟩
  stop := fun i Zc H z zh c hi => ⟨vs, h Zc H z zh c, by rw [r.length]; exact hi⟩
theorem walk_t {K : PySem.W.Frag} {mg : MG} {Z : Hp} {C : Lk} {a : Addr} {vs : List V} {xs : List Val} (r : Rls K mg Z vs xs) (h : ∀ Zc H, Same Z Zc → Same Zc H → Same C H → SqT K H a vs) : Walk K mg (Itt K a) Z C xs where
  go := fun i Zc H z zh c hi => by
    have hi' : i < vs.length := by rw [r.length]; exact hi
    exact ⟨vs, vs[i], h Zc H z zh c, by simp [hi']⟩
  yld := fun i Zc H v H' z zh c hi y => by
    obtain ⟨rfl, y⟩ := y
    obtain ⟨x, h1, h2⟩ := r.get' (y vs (h Zc _ z zh c))
    exact ⟨Zc, x, Grow.refl zh, h1, h2.mono z⟩
  stop := fun i Zc H z zh c hi => ⟨vs, h Zc H z zh c, by rw [r.length]; exact hi⟩
theorem walk_r {K : PySem.W.Frag} {mg : MG} {Z : Hp} {C : Lk} {lo : Int} {n : Nat} : Walk K mg (Itr lo n) Z C ((List.range n).map fun i => .int (lo + (i : Nat))) where
  go := fun i Zc H z zh c hi => by simpa [Itr] using hi
  yld := fun i Zc H v H' z zh c hi y => by
    obtain ⟨rfl, rfl⟩ := y
    have hi : i < n := by simpa using hi
    exact ⟨Zc, .int (lo + i), Grow.refl zh, by simp [hi], .int _⟩
  stop := fun i Zc H z zh c hi => by simpa [Itr] using hi
def chars (z : Str) : List Val := z.cps.toList.map fun c => .str ⟨#[c]⟩
theorem walk_s {K : PySem.W.Frag} {mg : MG} {Z : Hp} {C : Lk} {x : Str} : Walk K mg (Its x) Z C (chars x) where
  go := fun i Zc H z zh c hi => by simpa [Its, chars] using hi
  yld := fun i Zc H v H' z zh c hi y => by
    obtain ⟨rfl, k, h, rfl⟩ := y
    refine ⟨Zc, .str ⟨#[k]⟩, Grow.refl zh, ?_, .str _⟩
    unfold chars
    rw [List.getElem?_map, Array.getElem?_toList, h]
    rfl
  stop := fun i Zc H z zh c hi => by simpa [Its, chars] using hi

/-- what a for goes through -/
def goesV : Val → Option (List Val)
  | .lst xs => some xs
  | .tup xs => some xs
  | .ktup xs => some xs
  | .scr ns => some (ns.map .int)
  | .str z => some (chars z)
  | _ => none
def dIt (d : DV) : DI := fun ρ => (d ρ).bind fun p => Out.of ((goesV p.1).map fun xs => (xs, p.2))
section
variable {X : Cx} {tg : Expr}
theorem it_val {e : Expr} {d : DV} (h : PV X e d) : PIt X tg e (dIt d) := PI.imp (Ev.PI.or (pi_list h) (Ev.PI.or (pi_tup h) (pi_str h))) fun σ H R ⟨Z, O, C, ρ, R0, xs, ρ', q, k⟩ => by
  obtain ⟨⟨x, ρ1⟩, e1, q⟩ := Out.bind_ok q
  obtain ⟨ys, e2, q⟩ := Option.map_eq_some_iff.mp (Out.of_ok q)
  cases q
  cases x with
  | lst zs =>
    cases e2
    refine .inl ⟨Z, O, C, ρ, R0, _, ρ1, e1, fun v H' Z' O' x R' r => ?_⟩
    cases r with
    | lst m r => exact ⟨_, rfl, ⟨_, SqL.of (R'.zh _ _ m)⟩, k _ H' Z' O' x R' (walk_l r fun Zc H z zh _ => SqL.of (zh _ _ (z _ _ m)))⟩
  | scr ns =>
    cases e2
    refine .inl ⟨Z, O, C, ρ, R0, _, ρ1, e1, fun v H' Z' O' x R' r => ?_⟩
    cases r with
    | scr m => exact ⟨_, rfl, ⟨_, R'.zh.seq m⟩, k _ H' Z' O' x R' (walk_l (Rls.ints ns) fun Zc H z zh _ => zh.seq (z.seq m))⟩
  | tup zs =>
    cases e2
    refine .inr (.inl ⟨Z, O, C, ρ, R0, _, ρ1, e1, fun v H' Z' O' x R' r => ?_⟩)
    cases r with
    | tup m r => exact ⟨_, rfl, ⟨_, SqT.of (R'.zh _ _ m)⟩, k _ H' Z' O' x R' (walk_t r fun Zc H z zh _ => SqT.of (zh _ _ (z _ _ m)))⟩
  | ktup zs =>
    cases e2
    refine .inr (.inl ⟨Z, O, C, ρ, R0, _, ρ1, e1, fun v H' Z' O' x R' r => ?_⟩)
    cases r with
    | ktup m r => exact ⟨_, rfl, ⟨_, seqT_mono R'.zh m⟩, k _ H' Z' O' x R' (walk_t r fun Zc H z zh _ => seqT_mono zh (seqT_mono z m))⟩
  | str z =>
    cases e2
    refine .inr (.inr ⟨Z, O, C, ρ, R0, _, ρ1, e1, fun v H' Z' O' x R' r => ?_⟩)
    cases r
    exact ⟨z, rfl, k _ H' Z' O' x R' walk_s⟩
  | _ => cases e2
def rOk (i : Int) : Bool := decide (-(2 ^ 62) ≤ i ∧ i < 2 ^ 62)
/-- range(..) in a for -/
def dRg (d : DR) : DI := fun ρ => (d ρ).bind fun p => if rOk p.1.1 && rOk p.1.2 then .ok ((rangeI p.1.1 p.1.2).map .int, p.2) else .bad
theorem it_r1 {a : Expr} {d : DV} {p pos : Pos} (hg : Gl X "range") (hm : X.mg "range" = none) (ha : PV X a d) (hs : starEach [a] X.env = [(false, eval a X.env)] := by rfl) : PIt X tg (.Call (.Name "range" p) [a] [] pos) (dRg (dR1 d)) :=
  PI.imp (pi_range1 hg hm (pa_cons ha pa_nil hs) hs) fun σ H R ⟨Z, O, C, ρ, R0, xs, ρ', q, k⟩ => by
    obtain ⟨⟨rg, ρ1⟩, e1, q⟩ := Out.bind_ok q
    obtain ⟨⟨x, ρ2⟩, e2, e1⟩ := Out.bind_ok e1
    split at q
    · rename_i hk
      cases q
      refine ⟨Z, O, C, ρ, R0, x, ρ2, e2, fun v H' Z' O' ex R' r => ?_⟩
      cases x with
      | int n =>
        cases e1
        cases r
        have hk : (rOk 0 && rOk n) = true := hk
        simp only [rOk, Bool.and_eq_true, decide_eq_true_eq] at hk
        have w := walk_r (K := X.K) (mg := X.mg) (Z := Z') (C := C) (lo := 0) (n := n.toNat)
        refine ⟨n, rfl, hk.2.1, hk.2.2, k _ H' Z' O' ex R' ?_⟩
        have : (rangeI 0 n).map Val.int = (List.range n.toNat).map fun i => .int ((0 : Int) + (i : Nat)) := by unfold rangeI; rw [List.map_map]; simp
        rw [this]
        exact w
      | _ => cases e1
    · cases q
theorem it_r2 {a b : Expr} {da db : DV} {p pos : Pos} (hg : Gl X "range") (hm : X.mg "range" = none) (ha : PV X a da) (hb : PV X b db) (hs : starEach [a, b] X.env = [(false, eval a X.env), (false, eval b X.env)] := by rfl) (hs2 : starEach [b] X.env = [(false, eval b X.env)] := by rfl) :
    PIt X tg (.Call (.Name "range" p) [a, b] [] pos) (dRg (dR2 da db)) :=
  PI.imp (pi_range2 hg hm (pa_cons ha (pa_cons hb pa_nil hs2) (by rw [hs, hs2])) hs hs2) fun σ H R ⟨Z, O, C, ρ, R0, xs, ρ', q, k⟩ => by
    obtain ⟨⟨rg, ρ1⟩, e1, q⟩ := Out.bind_ok q
    obtain ⟨⟨x, ρ2⟩, e2, e1⟩ := Out.bind_ok e1
    obtain ⟨⟨y, ρ3⟩, e3, e1⟩ := Out.bind_ok e1
    split at q
    · rename_i hk
      cases q
      refine ⟨Z, O, C, ρ, R0, x, ρ2, e2, fun v H1 Z1 O1 ex1 R1 r1 => ⟨Z1, O1, C, ρ2, R1, y, ρ3, e3, fun u H' Z' O' ex2 R' r2 => ?_⟩⟩
      cases x with
      | int m =>
        cases y with
        | int n =>
          cases e1
          cases r1
          cases r2
          have hk : (rOk m && rOk n) = true := hk
          simp only [rOk, Bool.and_eq_true, decide_eq_true_eq] at hk
          have w := walk_r (K := X.K) (mg := X.mg) (Z := Z') (C := C) (lo := m) (n := (n - m).toNat)
          refine ⟨m, n, rfl, ⟨hk.1.1, hk.1.2, hk.2.1, hk.2.2⟩, k _ H' Z' O' (ex1.trans ex2) R' ?_⟩
          have : (rangeI m n).map Val.int = (List.range (n - m).toNat).map fun i => .int (m + (i : Nat)) := by unfold rangeI; rw [List.map_map]; rfl
          rw [this]
          exact w
        | _ => cases e1
      | _ => cases e1
    · cases q
end

/-! ### for -/
def forL (g : DG) (b : DS) : List Val → Env → Fl
  | [], ρ => .nx ρ
  | x :: xs, ρ => match g x ρ with
    | some ρ1 => match b ρ1 with
      | .nx ρ2 => forL g b xs ρ2
      | .ct ρ2 => forL g b xs ρ2
      | .bk ρ2 => .nx ρ2
      | .rt s ρ2 => .rt s ρ2
      | .bad => .bad
    | none => .bad
def sFor (it : DI) (g : DG) (b : DS) : DS := fun ρ => match it ρ with
  | .ok (xs, ρ') => forL g b xs ρ'
  | _ => .bad
section
variable {K : PySem.W.Frag} {mg : MG} {Z H : Hp} {O : Lab} {C : Lk} {σ : L2.St} {ρ : Env} {D : Ends} {g : DG} {b : DS} {ws : List Nat} {xs : List Val}
theorem for_run {J : It} (R : EnvR K mg Z H O C σ ρ) (w : Walk K mg J Z C xs) (h : FlR K mg Z H O C D (forL g b xs ρ)) :
    ∃ W : Nat → Nat → L2.St → Hp → Prop, (∃ m, W 0 m σ H) ∧ ∀ i m σ H, W i m σ H →
      (J.stop i H ∧ D.nx σ H) ∨ (J.go i H ∧ ∃ N : L2.St → Hp → Prop, (∀ σ' H', N σ' H' → ∃ m', m' < m ∧ W (i + 1) m' σ' H') ∧ ∀ x H', J.yld i H x H' → TGt K mg g ws x σ H' fun σ2 H2 => TSt K mg b { D with nx := N, ct := N, bk := D.nx } σ2 H2) := by
  refine ⟨fun i m σ1 H1 => m = xs.length - i ∧ i ≤ xs.length ∧ ∃ Z1 O1 ρ1, Ext Z H O Z1 H1 O1 ∧ EnvR K mg Z1 H1 O1 C σ1 ρ1 ∧ FlR K mg Z1 H1 O1 C D (forL g b (xs.drop i) ρ1), ⟨_, rfl, Nat.zero_le _, Z, O, ρ, Ext.refl _ _ _, R, by simpa using h⟩, ?_⟩
  rintro i m σ1 H1 ⟨rfl, hi, Z1, O1, ρ1, x1, R1, f1⟩
  by_cases hlt : i < xs.length
  · refine .inr ⟨w.go i Z1 H1 x1.z R1.zh R1.ch hlt, fun σ' H' => ∃ Z2 O2 ρ2, Ext Z H O Z2 H' O2 ∧ EnvR K mg Z2 H' O2 C σ' ρ2 ∧ FlR K mg Z2 H' O2 C D (forL g b (xs.drop (i + 1)) ρ2), fun σ' H' hN => ⟨_, by omega, rfl, hlt, hN⟩, fun v H' y => ?_⟩
    obtain ⟨Zc, z, gr, hz, rz⟩ := w.yld i Z1 H1 v H' x1.z R1.zh R1.ch hlt y
    have ed : xs.drop i = z :: xs.drop (i + 1) := by
      rw [List.drop_eq_getElem_cons hlt]
      have : xs[i] = z := by rw [List.getElem?_eq_getElem hlt] at hz; exact Option.some.inj hz
      rw [this]
    rw [ed] at f1
    unfold forL at f1
    cases eg : g z ρ1 with
    | none => rw [eg] at f1; exact f1.elim
    | some ρ2 =>
      rw [eg] at f1
      simp only at f1
      refine ⟨Zc, O1, C, ρ1, R1.grow gr, z, ρ2, rz, eg, fun σ2 O2 x2 _ R2 => ⟨Zc, O2, C, ρ2, R2, ?_⟩⟩
      have xx : Ext Z1 H1 O1 Zc H' O2 := gr.ext.trans x2
      have x3 : Ext Z H O Zc H' O2 := x1.trans xx
      cases eb : b ρ2 with
      | nx ρ3 => rw [eb] at f1; exact fun σ' H2 Z2 O3 y2 R3 => ⟨Z2, O3, ρ3, x3.trans y2, R3, f1.ext (xx.trans y2)⟩
      | ct ρ3 => rw [eb] at f1; exact fun σ' H2 Z2 O3 y2 R3 => ⟨Z2, O3, ρ3, x3.trans y2, R3, f1.ext (xx.trans y2)⟩
      | bk ρ3 => rw [eb] at f1; exact fun σ' H2 Z2 O3 y2 R3 => f1 σ' H2 Z2 O3 (xx.trans y2) R3
      | rt s ρ3 => rw [eb] at f1; exact fun u σ' H2 Z2 O3 y2 R3 => f1 u σ' H2 Z2 O3 (xx.trans y2) R3
      | bad => rw [eb] at f1; exact f1.elim
  · have e : i = xs.length := by omega
    subst e
    rw [List.drop_length] at f1
    exact .inl ⟨w.stop _ Z1 H1 x1.z R1.zh R1.ch (Nat.le_refl _), f1 σ1 H1 Z1 O1 (Ext.refl _ _ _) R1⟩
end
section
variable {X : Cx}
theorem st_for {tg iter : Expr} {body : List Stmt} {it : DI} {g : DG} {b : DS} {ws : List Nat} {pos : Pos} (hp : PassesOwn (model X.prog X.w) X.A X.env X.xe) (hc : X.calm = true) (hi : PIt X tg iter it) (hg : PGt X tg g ws) (hb : PSSt X body b)
    (hs : ∀ x, foldedSetIterable iter X.env x = pure x := by intro _; rfl) : PSt X (.For tg iter body [] pos) (sFor it g b) := PS.imp (ps_for hp hc hi hg hb hs) fun D σ H ⟨Z, O, C, ρ, R, h⟩ => by
  unfold sFor at h
  cases e : it ρ with
  | ok p =>
    obtain ⟨xs, ρ'⟩ := p
    rw [e] at h
    exact ⟨Z, O, C, ρ, R, xs, ρ', e, fun J H' Z' O' x R' w => for_run R' w (h.ext x)⟩
  | exc _ => rw [e] at h; exact h.elim
  | bad => rw [e] at h; exact h.elim
end

/-! ### while -/
def whileN (c : DT) (b : DS) : Nat → DS
  | 0, _ => .bad
  | n + 1, ρ => match c ρ with
    | .ok (true, ρ1) => match b ρ1 with
      | .nx ρ2 => whileN c b n ρ2
      | .ct ρ2 => whileN c b n ρ2
      | .bk ρ2 => .nx ρ2
      | .rt s ρ2 => .rt s ρ2
      | .bad => .bad
    | .ok (false, ρ1) => .nx ρ1
    | _ => .bad
open Classical in
noncomputable def sWhile (c : DT) (b : DS) : DS := fun ρ => if h : ∃ n, whileN c b n ρ ≠ .bad then whileN c b h.choose ρ else .bad
theorem whileN_mono {c : DT} {b : DS} : ∀ {n m : Nat} {ρ : Env}, whileN c b n ρ ≠ .bad → n ≤ m → whileN c b m ρ = whileN c b n ρ
  | 0, _, _, h, _ => absurd rfl h
  | n + 1, 0, _, _, h => by omega
  | n + 1, m + 1, ρ, h, hm => by
    unfold whileN at h ⊢
    cases e : c ρ with
    | ok p =>
      obtain ⟨k, ρ1⟩ := p
      rw [e] at h
      cases k with
      | true =>
        simp only at h ⊢
        cases e2 : b ρ1 with
        | nx ρ2 => rw [e2] at h; exact whileN_mono h (by omega)
        | ct ρ2 => rw [e2] at h; exact whileN_mono h (by omega)
        | bk _ => rfl
        | rt _ _ => rfl
        | bad => rfl
      | false => rfl
    | exc _ => rfl
    | bad => rfl
theorem sWhile_eq {c : DT} {b : DS} {n : Nat} {ρ : Env} {f : Fl} (h : whileN c b n ρ = f) (hf : f ≠ .bad) : sWhile c b ρ = f := by
  have ex : ∃ n, whileN c b n ρ ≠ .bad := ⟨n, by rw [h]; exact hf⟩
  unfold sWhile
  rw [dif_pos ex]
  have h1 := ex.choose_spec
  rcases Nat.le_total n ex.choose with q | q
  · rw [whileN_mono (by rw [h]; exact hf) q, h]
  · rw [← h]; exact (whileN_mono h1 q).symm
section
variable {X : Cx}
theorem st_while {c : Expr} {body : List Stmt} {dc : DT} {b : DS} {pos : Pos} (hp : PassesOwn (model X.prog X.w) X.A X.env X.xe) (hc : PTt X c dc) (hb : PSSt X body b) : PSt X (.While c body [] pos) (sWhile dc b) := PS.imp (ps_while hp hc hb) fun D σ H ⟨Z, O, C, ρ, R, h⟩ => by
  unfold sWhile at h
  split at h
  · rename_i hex
    refine ⟨fun n σ1 H1 => ∃ Z1 O1 ρ1, Ext Z H O Z1 H1 O1 ∧ EnvR X.K X.mg Z1 H1 O1 C σ1 ρ1 ∧ FlR X.K X.mg Z1 H1 O1 C D (whileN dc b n ρ1), ⟨hex.choose, Z, O, ρ, Ext.refl _ _ _, R, h⟩, ?_⟩
    rintro n σ1 H1 ⟨Z1, O1, ρ1, x1, R1, f1⟩
    cases n with
    | zero => exact f1.elim
    | succ n =>
      unfold whileN at f1
      cases e : dc ρ1 with
      | ok p =>
        obtain ⟨k, ρ2⟩ := p
        rw [e] at f1
        refine ⟨Z1, O1, C, ρ1, R1, k, ρ2, e, fun H2 Z2 O2 x2 R2 => ?_⟩
        cases k with
        | true =>
          simp only at f1
          rw [if_pos rfl]
          refine ⟨fun σ' H' => ∃ Z3 O3 ρ3, Ext Z H O Z3 H' O3 ∧ EnvR X.K X.mg Z3 H' O3 C σ' ρ3 ∧ FlR X.K X.mg Z3 H' O3 C D (whileN dc b n ρ3), fun σ' H' hN => ⟨n, Nat.lt_succ_self _, hN⟩, Z2, O2, C, ρ2, R2, ?_⟩
          cases eb : b ρ2 with
          | nx ρ3 => rw [eb] at f1; exact fun σ' H3 Z3 O3 y2 R3 => ⟨Z3, O3, ρ3, (x1.trans x2).trans y2, R3, f1.ext (x2.trans y2)⟩
          | ct ρ3 => rw [eb] at f1; exact fun σ' H3 Z3 O3 y2 R3 => ⟨Z3, O3, ρ3, (x1.trans x2).trans y2, R3, f1.ext (x2.trans y2)⟩
          | bk ρ3 => rw [eb] at f1; exact fun σ' H3 Z3 O3 y2 R3 => f1 σ' H3 Z3 O3 (x2.trans y2) R3
          | rt s ρ3 => rw [eb] at f1; exact fun u σ' H3 Z3 O3 y2 R3 => f1 u σ' H3 Z3 O3 (x2.trans y2) R3
          | bad => rw [eb] at f1; exact f1.elim
        | false =>
          rw [if_neg (by decide)]
          exact f1 σ1 H2 Z2 O2 x2 R2
      | exc _ => rw [e] at f1; exact f1.elim
      | bad => rw [e] at f1; exact f1.elim
  · exact h.elim
end
end Ev

/-! Ev: list comprehensions. -/
namespace Ev
open PySem PySem.Spec PyProof.Rows L2

def wipeE (ρ : Env) : List Nat → Env
  | [] => ρ
  | v :: vs => (wipeE ρ vs).set v .no
theorem wipeE_length (ρ : Env) : ∀ vs : List Nat, (wipeE ρ vs).length = ρ.length
  | [] => rfl
  | v :: vs => by unfold wipeE; rw [List.length_set, wipeE_length ρ vs]
theorem wipeE_get {ρ : Env} {i : Nat} {s : Sl} : ∀ {vs : List Nat}, (wipeE ρ vs)[i]? = some s → (i ∈ vs ∧ s = .no) ∨ (i ∉ vs ∧ ρ[i]? = some s)
  | [], h => .inr ⟨by simp, h⟩
  | v :: vs, h => by
    unfold wipeE at h
    by_cases hi : v = i
    · subst hi
      by_cases hv : v < (wipeE ρ vs).length
      · rw [List.getElem?_set_self hv] at h; cases h; exact .inl ⟨List.mem_cons_self, rfl⟩
      · rw [List.getElem?_eq_none (by simpa using hv)] at h; cases h
    · rw [List.getElem?_set_ne hi] at h
      rcases wipeE_get h with ⟨h1, h2⟩ | ⟨h1, h2⟩
      · exact .inl ⟨List.mem_cons_of_mem _ h1, h2⟩
      · exact .inr ⟨fun m => (List.mem_cons.mp m).elim (fun e => hi e.symm) h1, h2⟩
theorem wipe_get {σ : L2.St} {i : Nat} : ∀ {vs : List Nat}, i ∈ vs → i < σ.length → (wipe σ vs)[i]? = some none
  | v :: vs, h, hl => by
    unfold wipe
    by_cases hi : v = i
    · subst hi
      rw [List.getElem?_set_self (by rw [wipe_length]; exact hl)]
    · rw [List.getElem?_set_ne hi]
      exact wipe_get ((List.mem_cons.mp h).elim (fun e => absurd e.symm hi) id) hl
theorem wipe_eq {σ σ' : L2.St} {vs ws : List Nat} (h : off ws σ σ') (hw : ∀ i ∈ ws, i ∈ vs) : wipe σ' vs = wipe σ vs := by
  refine List.ext_getElem? fun i => ?_
  by_cases hi : i ∈ vs
  · by_cases hl : i < σ.length
    · rw [wipe_get hi hl, wipe_get hi (by rw [h.1]; exact hl)]
    · rw [List.getElem?_eq_none (by rw [wipe_length, h.1]; omega), List.getElem?_eq_none (by rw [wipe_length]; omega)]
  · rw [wipe_out hi, wipe_out hi]
    exact h.2 i fun z => hi (hw i z)
theorem wipe_twice (σ : L2.St) (vs : List Nat) : wipe (wipe σ vs) vs = wipe σ vs := by
  refine List.ext_getElem? fun i => ?_
  by_cases hi : i ∈ vs
  · by_cases hl : i < σ.length
    · rw [wipe_get hi hl, wipe_get hi (by rw [wipe_length]; exact hl)]
    · rw [List.getElem?_eq_none (by rw [wipe_length, wipe_length]; omega), List.getElem?_eq_none (by rw [wipe_length]; omega)]
  · rw [wipe_out hi]
section
variable {K : PySem.W.Frag} {mg : MG} {Z H Z1 H1 : Hp} {O O1 : Lab} {C : Lk} {σ : L2.St} {ρ : Env}
theorem EnvR.wipe (R : EnvR K mg Z H O C σ ρ) (vs : List Nat) : EnvR K mg Z H O C (L2.wipe σ vs) (wipeE ρ vs) where
  len := by rw [wipeE_length, wipe_length]; exact R.len
  zh := R.zh
  ch := R.ch
  oz := R.oz
  ob := fun b i q h => by rw [wipeE_length]; exact R.ob b i q h
  sl := fun i s e => by
    rcases wipeE_get e with ⟨_, rfl⟩ | ⟨h1, h2⟩
    · trivial
    · rw [wipe_out h1]; exact R.sl i s h2
def keepFz : Option Sl → Sl
  | some (.fz x) => .fz x
  | _ => .no
def rest (ρ1 : Env) : List Nat → Env → Env
  | [], ρ2 => ρ2
  | v :: vs, ρ2 => (rest ρ1 vs ρ2).set v (keepFz ρ1[v]?)
theorem rest_length (ρ1 : Env) : ∀ (vs : List Nat) (ρ2 : Env), (rest ρ1 vs ρ2).length = ρ2.length
  | [], _ => rfl
  | v :: vs, ρ2 => by unfold rest; rw [List.length_set, rest_length ρ1 vs ρ2]
theorem rest_get {ρ1 ρ2 : Env} {i : Nat} {s : Sl} : ∀ {vs : List Nat}, (rest ρ1 vs ρ2)[i]? = some s → (i ∈ vs ∧ s = keepFz ρ1[i]?) ∨ (i ∉ vs ∧ ρ2[i]? = some s)
  | [], h => .inr ⟨by simp, h⟩
  | v :: vs, h => by
    unfold rest at h
    by_cases hi : v = i
    · subst hi
      by_cases hv : v < (rest ρ1 vs ρ2).length
      · rw [List.getElem?_set_self hv] at h; cases h; exact .inl ⟨List.mem_cons_self, rfl⟩
      · rw [List.getElem?_eq_none (by simpa using hv)] at h; cases h
    · rw [List.getElem?_set_ne hi] at h
      rcases rest_get h with ⟨h1, h2⟩ | ⟨h1, h2⟩
      · exact .inl ⟨List.mem_cons_of_mem _ h1, h2⟩
      · exact .inr ⟨fun m => (List.mem_cons.mp m).elim (fun e => hi e.symm) h1, h2⟩
/-- the block is left -/
theorem EnvR.unwipe {ρ2 : Env} {vs : List Nat} (R1 : EnvR K mg Z1 H1 O1 C σ ρ) (z : Same Z1 Z) (R2 : EnvR K mg Z H O C (L2.wipe σ vs) ρ2) : EnvR K mg Z H O C σ (rest ρ vs ρ2) where
  len := by rw [rest_length, R2.len, wipe_length]
  zh := R2.zh
  ch := R2.ch
  oz := R2.oz
  ob := fun b i q h => by rw [rest_length]; exact R2.ob b i q h
  sl := fun i s e => by
    rcases rest_get e with ⟨_, rfl⟩ | ⟨h1, h2⟩
    · cases q : ρ[i]? with
      | none => trivial
      | some s =>
        have := R1.sl i s q
        cases s with
        | fz x => obtain ⟨u, e1, r⟩ := this; exact ⟨u, e1, r.mono z⟩
        | _ => trivial
    · have := R2.sl i s h2
      rw [wipe_out h1] at this
      exact this
/-- a thing of nobody's is changed -/
theorem same_updF {H : Hp} {Zx : Hp} {p : Addr} {o : HO} (zh : Same Zx H) (hz : Zx p = none) : Same Zx (upd H p o) := fun b x e => by
  rw [upd_ne fun h => by rw [h, hz] at e; cases e]
  exact zh b x e
theorem EnvR.free {p : Addr} {o : HO} (R : EnvR K mg Z H O C σ ρ) (ho : O p = none) (hz : Z p = none) (hc : C p = none) : EnvR K mg Z (upd H p o) O C σ ρ where
  len := R.len
  zh := same_updF R.zh hz
  ch := same_updF R.ch hc
  oz := fun b hb => by
    obtain ⟨h1, h2, h3⟩ := R.oz b hb
    refine ⟨h1, h2, ?_⟩
    rw [upd_ne fun e => by rw [e, ho] at hb; exact hb rfl]
    exact h3
  ob := R.ob
  sl := fun i s e => (R.sl i s e).keep (Same.refl Z) fun b q hb => ⟨upd_ne (fun z => by rw [z, ho] at hb; cases hb), hb⟩
theorem Ext.free {p : Addr} {o : HO} (x : Ext Z1 H1 O1 Z H O) (h1 : H1 p = none) : Ext Z1 H1 O1 Z (upd H p o) O where
  z := x.z
  h := fun b u e1 e2 => by
    rw [upd_ne fun z => by rw [z, h1] at e1; cases e1]
    exact x.h b u e1 e2
  t := fun b e => by
    by_cases hb : b = p
    · rw [hb, upd_same]; simp
    · rw [upd_ne hb]; exact x.t b e
  o := x.o
  zn := x.zn
/-- a thing of nobody's, that stands -/
theorem Ext.nobody {p : Addr} {u : HO} (x : Ext Z1 H1 O1 Z H O) (h : H1 p = some u) (ho : O1 p = none) (hz : Z1 p = none) (hc : C p = none) (R : EnvR K mg Z H O C σ ρ) : H p = some u ∧ O p = none ∧ Z p = none := by
  obtain ⟨h2, h3⟩ := x.h p u h ho
  refine ⟨h2, h3, ?_⟩
  cases e : Z p with
  | none => rfl
  | some w =>
    rcases x.zn p (by rw [e]; simp) with h4 | h4 | h4
    · exact absurd hz h4
    · rw [h] at h4; cases h4
    · exact absurd ho h4
end

def tYesD : DT := fun ρ => .ok (true, ρ)
abbrev PTts (X : Cx) (ifs : List Expr) (d : DT) : Prop := PTs X ifs (TTt X.K X.mg d)
theorem PTs.imp {X : Cx} {e : List Expr} {t t' : TT} (h : PTs X e t) (i : ∀ σ H Q, t' σ H Q → t σ H Q) : PTs X e t' := ⟨fun pins s σ H Q I q => h.run pins s σ H Q I (i σ H Q q)⟩
theorem ts_nil {X : Cx} : PTts X [] tYesD := PTs.imp pts_nil fun σ H Q ⟨Z, O, C, ρ, R, b, ρ', q, k⟩ => by cases q; exact k H Z O (Ext.refl _ _ _) R
theorem ts_one {X : Cx} {c : Expr} {d : DT} (h : PTt X c d) : PTts X [c] d := pts_one h

def lcL (g : DG) (t : DT) (e : DV) (vs : List Nat) : List Val → Env → Option (List Val × Env)
  | [], ρ => some ([], ρ)
  | x :: xs, ρ => match g x ρ with
    | some ρ1 => match t ρ1 with
      | .ok (true, ρ2) => match e ρ2 with
        | .ok (y, ρ3) => (lcL g t e vs xs (wipeE ρ3 vs)).map fun p => (y :: p.1, p.2)
        | _ => none
      | .ok (false, ρ2) => lcL g t e vs xs (wipeE ρ2 vs)
      | _ => none
    | none => none
def dLc (it : DI) (g : DG) (t : DT) (e : DV) (vs : List Nat) : DO := fun ρ => match it ρ with
  | .ok (xs, ρ1) => if xs.length ≤ sizeLine then match lcL g t e vs xs (wipeE ρ1 vs) with
    | some (ys, ρ2) => .ok (.own ys, rest ρ1 vs ρ2)
    | none => .bad
    else .bad
  | _ => .bad
theorem lc_run {K : PySem.W.Frag} {mg : MG} {it : DI} {g : DG} {t : DT} {e : DV} {vs ws : List Nat} (hw : ∀ i ∈ ws, i ∈ vs) {σ : L2.St} {H : Hp} {Q : VK} (h : TOw K mg (dLc it g t e vs) σ H Q) :
    tLc (TIt K mg it) (TGt K mg g ws) (TTt K mg t) (TV K mg e) vs σ H Q := by
  obtain ⟨Z, O, C, ρ, R, s, ρ', q, k⟩ := h
  unfold dLc at q
  cases ei : it ρ with
  | exc _ => rw [ei] at q; cases q
  | bad => rw [ei] at q; cases q
  | ok p =>
    obtain ⟨xs, ρ1⟩ := p
    rw [ei] at q
    simp only at q
    split at q
    case isFalse => cases q
    rename_i hz
    cases el : lcL g t e vs xs (wipeE ρ1 vs) with
    | none => rw [el] at q; cases q
    | some p2 =>
      obtain ⟨ys, ρ2⟩ := p2
      rw [el] at q
      cases q
      refine ⟨Z, O, C, ρ, R, xs, ρ1, ei, fun J H1 Z1 O1 x1 R1 w => fun D hD => ?_⟩
      obtain ⟨f1, f2, f3⟩ := R1.fresh hD
      refine ⟨fun i m H2 => m = xs.length - i ∧ i ≤ xs.length ∧ ∃ Z2 O2 ρa ac acc yr, Ext Z1 H1 O1 Z2 H2 O2 ∧ EnvR K mg Z2 H2 O2 C (wipe σ vs) ρa ∧ H2 D = some (.lst ac) ∧ Rls K mg Z2 ac acc ∧ O2 D = none ∧ Z2 D = none ∧ acc.length ≤ i ∧ lcL g t e vs (xs.drop i) ρa = some (yr, ρ2) ∧ ys = acc ++ yr, ⟨_, rfl, Nat.zero_le _, Z1, O1, wipeE ρ1 vs, [], [], ys, (Ext.refl Z1 H1 O1).free hD, (R1.wipe vs).free f1 f2 f3, upd_same, .nil, f1, f2, Nat.zero_le _, by simpa using el, rfl⟩, ?_⟩
      rintro i m H2 ⟨rfl, hi, Z2, O2, ρa, ac, acc, yr, x2, R2, hd, ra, o2, z2, al, el2, ey⟩
      by_cases hlt : i < xs.length
      · refine .inr ⟨w.go i Z2 H2 x2.z R2.zh R2.ch hlt, _, fun H' hN => ⟨_, Nat.sub_lt_sub_left hlt (Nat.lt_succ_self i), rfl, hlt, hN⟩, fun v H3 y => ?_⟩
        obtain ⟨Z3, z, gr, hz2, rz⟩ := w.yld i Z2 H2 v H3 x2.z R2.zh R2.ch hlt y
        have ed : xs.drop i = z :: xs.drop (i + 1) := by
          rw [List.drop_eq_getElem_cons hlt]
          have : xs[i] = z := by rw [List.getElem?_eq_getElem hlt] at hz2; exact Option.some.inj hz2
          rw [this]
        rw [ed] at el2
        unfold lcL at el2
        cases eg : g z ρa with
        | none => rw [eg] at el2; cases el2
        | some ρb =>
          rw [eg] at el2
          simp only at el2
          have R3 := R2.grow gr
          refine ⟨Z3, O2, C, ρa, R3, z, ρb, rz, eg, fun σ4 O4 x4 hoff R4 => ?_⟩
          have hwp : wipe σ4 vs = wipe σ vs := by rw [wipe_eq hoff hw, wipe_twice]
          refine ⟨hwp, ?_⟩
          have x14 : Ext Z1 H1 O1 Z3 H3 O4 := (x2.trans gr.ext).trans x4
          have x24 : Ext Z2 H2 O2 Z3 H3 O4 := gr.ext.trans x4
          cases et : t ρb with
          | exc _ => rw [et] at el2; cases el2
          | bad => rw [et] at el2; cases el2
          | ok p3 =>
            obtain ⟨b, ρc⟩ := p3
            rw [et] at el2
            refine ⟨Z3, O4, C, ρb, R4, b, ρc, et, fun H5 Z5 O5 x5 R5 => ?_⟩
            cases b with
            | false =>
              simp only at el2
              rw [if_neg (by decide)]
              obtain ⟨n1, n2, n3⟩ := (x24.trans x5).nobody hd o2 z2 f3 R5
              have R6 := R5.wipe vs
              rw [hwp] at R6
              exact ⟨Z5, O5, _, ac, acc, yr, x14.trans x5, R6, n1, ra.mono (x24.z.trans x5.z), n2, n3, by omega, el2, ey⟩
            | true =>
              simp only at el2
              rw [if_pos rfl]
              cases ee : e ρc with
              | exc _ => rw [ee] at el2; cases el2
              | bad => rw [ee] at el2; cases el2
              | ok p4 =>
                obtain ⟨yv, ρd⟩ := p4
                rw [ee] at el2
                obtain ⟨⟨yr', ρf⟩, el3, e3⟩ := Option.map_eq_some_iff.mp el2
                cases e3
                refine ⟨Z5, O5, C, ρc, R5, yv, ρd, ee, fun u H6 Z6 O6 x6 R6 r6 => ?_⟩
                obtain ⟨n1, n2, n3⟩ := ((x24.trans x5).trans x6).nobody hd o2 z2 f3 R6
                have R7 := (R6.wipe vs).free (o := .lst (ac ++ [u])) n2 n3 f3
                rw [hwp] at R7
                exact ⟨ac, n1, by rw [ra.length]; omega, Z6, O6, _, ac ++ [u], acc ++ [yv], yr', ((x14.trans x5).trans x6).free hD, R7, upd_same, (ra.mono ((x24.z.trans x5.z).trans x6.z)).append (.one r6), n2, n3, by simp; omega, el3, by rw [ey]; simp⟩
      · have e1 : i = xs.length := by omega
        subst e1
        rw [List.drop_length] at el2
        cases el2
        refine .inl ⟨w.stop _ Z2 H2 x2.z R2.zh R2.ch (Nat.le_refl _), ?_⟩
        have R3 := EnvR.unwipe R1 x2.z R2
        subst ey
        rw [List.append_nil] at k
        exact k (.ref D) H2 Z2 O2 (x1.trans x2) R3 ⟨D, ac, rfl, o2, z2, f3, x1.fresh hD, hd, ra⟩

theorem runSet {K : PySem.W.Frag} {mg : MG} {i : Nat} {d : DO} {D : Ends} {σ : L2.St} {H : Hp} (h : TSt K mg (sSet i d) D σ H) : TOw K mg d σ H fun v H1 => gName i v σ H1 D.nx := by
  obtain ⟨Z, O, C, ρ, R, h⟩ := h
  unfold sSet at h
  cases e : d ρ with
  | ok p =>
    rw [e] at h
    unfold asg at h
    refine ⟨Z, O, C, ρ, R, p.1, p.2, e, fun v H' Z' O' x R' r => ?_⟩
    simp only at h
    split at h
    · rename_i hl
      obtain ⟨R2, n2⟩ := R'.place hl r
      exact h _ H' Z' _ (x.place n2) R2
    · exact h.elim
  | exc _ => rw [e] at h; exact h.elim
  | bad => rw [e] at h; exact h.elim
section
variable {X : Cx} {elt tg iter : Expr} {ifs : List Expr} {scope : Scope} {own : List (Str × Nat)} {pos : Pos} {it : DI} {g : DG} {t : DT} {e : DV} {ws : List Nat}
theorem pow_lc (hc : X.calm = true) (hN : X.N.Nodup) (hi : PIt X tg iter it) (ok : BlkOk X.N X.env.scope scope own)
    (hg : ∀ (s : Shared) (H : Hp) (C : Addr) (cl : List (Str × Addr)) (fp : List Addr), PGt (X.blk s H scope (compEnvC scope cl C X.env) fp) tg g ws) (ht : ∀ (s : Shared) (H : Hp) (C : Addr) (cl : List (Str × Addr)) (fp : List Addr), PTts (X.blk s H scope (compEnvC scope cl C X.env) fp) ifs t)
    (he : ∀ (s : Shared) (H : Hp) (C : Addr) (cl : List (Str × Addr)) (fp : List Addr), PV (X.blk s H scope (compEnvC scope cl C X.env) fp) elt e) (hw : ∀ i ∈ ws, i ∈ own.map (·.2)) (hs : ∀ x, foldedSetIterable iter X.env x = pure x := by intro _; rfl) :
    POw X (.ListComp elt [⟨tg, iter, ifs, 0⟩] scope pos) (dLc it g t e (own.map (·.2))) := PE.imp (pe_lc hc hN hi ok hg ht he hs) fun _ _ _ => lc_run hw
theorem st_setLc {i : Nat} {y : Str} {py spos : Pos} (hc : X.calm = true) (hN : X.N.Nodup) (hy : X.N[i]? = some y) (hyl : X.env.scope.names.lookup y = some .local)
    (hsw : swapsWith (.ListComp elt [⟨tg, iter, ifs, 0⟩] scope pos) (some (.Name y py)) spos.line X.env = pure true) (hi : PIt X tg iter it) (ok : BlkOk X.N X.env.scope scope own)
    (hg : ∀ (s : Shared) (H : Hp) (C : Addr) (cl : List (Str × Addr)) (fp : List Addr), PGt (X.blk s H scope (compEnvC scope cl C X.env) fp) tg g ws) (ht : ∀ (s : Shared) (H : Hp) (C : Addr) (cl : List (Str × Addr)) (fp : List Addr), PTts (X.blk s H scope (compEnvC scope cl C X.env) fp) ifs t)
    (he : ∀ (s : Shared) (H : Hp) (C : Addr) (cl : List (Str × Addr)) (fp : List Addr), PV (X.blk s H scope (compEnvC scope cl C X.env) fp) elt e) (hw : ∀ i ∈ ws, i ∈ own.map (·.2)) (hs : ∀ x, foldedSetIterable iter X.env x = pure x := by intro _; rfl) :
    PSt X (.Assign [.Name y py] (.ListComp elt [⟨tg, iter, ifs, 0⟩] scope pos) spos) (sSet i (dLc it g t e (own.map (·.2)))) := PS.imp (ps_setLc hc hN hy hyl hsw hi ok hg ht he hs) fun D σ H h => lc_run hw (runSet h)
end

/-! ### two clauses -/
/-- the second clause's turns, for one item of the first -/
def lcL2 (it1 : DI) (g1 : DG) (t1 : DT) (e : DV) (vs1 : List Nat) (ρ : Env) : Option (List Val × Env) := match it1 ρ with
  | .ok (xs, ρ1) => if xs.length ≤ sizeLine then (lcL g1 t1 e vs1 xs (wipeE ρ1 vs1)).map fun p => (p.1, rest ρ1 vs1 p.2) else none
  | _ => none
def lcO (g : DG) (t : DT) (f : Env → Option (List Val × Env)) (vs : List Nat) : List Val → Env → Option (List Val × Env)
  | [], ρ => some ([], ρ)
  | x :: xs, ρ => match g x ρ with
    | some ρ1 => match t ρ1 with
      | .ok (true, ρ2) => match f ρ2 with
        | some (ys, ρ3) => (lcO g t f vs xs (wipeE ρ3 vs)).map fun p => (ys ++ p.1, p.2)
        | none => none
      | .ok (false, ρ2) => lcO g t f vs xs (wipeE ρ2 vs)
      | _ => none
    | none => none
def dLc2 (it : DI) (g : DG) (t : DT) (it1 : DI) (g1 : DG) (t1 : DT) (e : DV) (vs vs1 : List Nat) : DO := fun ρ => match it ρ with
  | .ok (xs, ρ1) => match lcO g t (lcL2 it1 g1 t1 e vs1) vs xs (wipeE ρ1 vs) with
    | some (ys, ρ2) => if ys.length ≤ sizeLine then .ok (.own ys, rest ρ1 vs ρ2) else .bad
    | none => .bad
  | _ => .bad

/-- where the new list is, and what it holds -/
structure Acc (K : PySem.W.Frag) (mg : MG) (Z H : Hp) (O : Lab) (D : Addr) (acc : List Val) : Prop where
  ex : ∃ ac, H D = some (.lst ac) ∧ Rls K mg Z ac acc
  o : O D = none
  z : Z D = none
theorem Acc.step {K : PySem.W.Frag} {mg : MG} {Z H Z1 H1 : Hp} {O O1 : Lab} {C : Lk} {σ : L2.St} {ρ : Env} {D : Addr} {acc : List Val} (a : Acc K mg Z H O D acc) (x : Ext Z H O Z1 H1 O1) (hc : C D = none) (R : EnvR K mg Z1 H1 O1 C σ ρ) : Acc K mg Z1 H1 O1 D acc := by
  obtain ⟨ac, h1, h2⟩ := a.ex
  obtain ⟨n1, n2, n3⟩ := x.nobody h1 a.o a.z hc R
  exact ⟨⟨ac, n1, h2.mono x.z⟩, n2, n3⟩
theorem lc_inner {K : PySem.W.Frag} {mg : MG} {it : DI} {g : DG} {t : DT} {e : DV} {vs ws : List Nat} (hw : ∀ i ∈ ws, i ∈ vs) {σ : L2.St} {Z0 H0 Z H : Hp} {O0 O : Lab} {C : Lk} {ρ ρ3 : Env} {D : Addr} {acc ys : List Val} {Nx : Hp → Prop}
    (R : EnvR K mg Z H O C σ ρ) (x0 : Ext Z0 H0 O0 Z H O) (h0 : H0 D = none) (hc : C D = none) (A : Acc K mg Z H O D acc) (hl : lcL2 it g t e vs ρ = some (ys, ρ3)) (hz : (acc ++ ys).length ≤ sizeLine)
    (hN : ∀ Z' H' O', Ext Z0 H0 O0 Z' H' O' → EnvR K mg Z' H' O' C σ ρ3 → Acc K mg Z' H' O' D (acc ++ ys) → Nx H') :
    TIt K mg it σ H fun J1 H4 => ∃ W1 : Nat → Nat → Hp → Prop, (∃ m, W1 0 m H4) ∧ ∀ j k H, W1 j k H →
      (J1.stop j H ∧ Nx H) ∨ (J1.go j H ∧ ∃ Nx1 : Hp → Prop, (∀ H', Nx1 H' → ∃ k', k' < k ∧ W1 (j + 1) k' H') ∧ ∀ x H', J1.yld j H x H' → TGt K mg g ws x (wipe σ vs) H' fun σ3 H5 => wipe σ3 vs = wipe σ vs ∧ TTt K mg t σ3 H5 fun b H6 =>
        if b = true then TV K mg e σ3 H6 fun y H7 => ∃ acc, H7 D = some (.lst acc) ∧ acc.length < sizeLine ∧ Nx1 (upd H7 D (.lst (acc ++ [y]))) else Nx1 H6) := by
  unfold lcL2 at hl
  cases ei : it ρ with
  | exc _ => rw [ei] at hl; cases hl
  | bad => rw [ei] at hl; cases hl
  | ok p =>
    obtain ⟨xs, ρ1⟩ := p
    rw [ei] at hl
    simp only at hl
    split at hl
    case isFalse => cases hl
    obtain ⟨⟨ys', ρ2⟩, el, e0⟩ := Option.map_eq_some_iff.mp hl
    cases e0
    refine ⟨Z, O, C, ρ, R, xs, ρ1, ei, fun J H1 Z1 O1 x1 R1 w => ?_⟩
    have A1 := A.step x1 hc R1
    refine ⟨fun i m H2 => m = xs.length - i ∧ i ≤ xs.length ∧ ∃ Z2 O2 ρa ac yr, Ext Z0 H0 O0 Z2 H2 O2 ∧ Same Z1 Z2 ∧ EnvR K mg Z2 H2 O2 C (wipe σ vs) ρa ∧ Acc K mg Z2 H2 O2 D ac ∧ lcL g t e vs (xs.drop i) ρa = some (yr, ρ2) ∧ acc ++ ys' = ac ++ yr, ⟨_, rfl, Nat.zero_le _, Z1, O1, wipeE ρ1 vs, acc, ys', x0.trans x1, Same.refl _, R1.wipe vs, A1, by simpa using el, rfl⟩, ?_⟩
    rintro i m H2 ⟨rfl, hi, Z2, O2, ρa, ac, yr, x2, z12, R2, A2, el2, ey⟩
    by_cases hlt : i < xs.length
    · refine .inr ⟨w.go i Z2 H2 z12 R2.zh R2.ch hlt, _, fun H' hN => ⟨_, Nat.sub_lt_sub_left hlt (Nat.lt_succ_self i), rfl, hlt, hN⟩, fun v H3 y => ?_⟩
      obtain ⟨Z3, z, gr, hz2, rz⟩ := w.yld i Z2 H2 v H3 z12 R2.zh R2.ch hlt y
      have ed : xs.drop i = z :: xs.drop (i + 1) := by
        rw [List.drop_eq_getElem_cons hlt]
        have : xs[i] = z := by rw [List.getElem?_eq_getElem hlt] at hz2; exact Option.some.inj hz2
        rw [this]
      rw [ed] at el2
      unfold lcL at el2
      cases eg : g z ρa with
      | none => rw [eg] at el2; cases el2
      | some ρb =>
        rw [eg] at el2
        simp only at el2
        have R3 := R2.grow gr
        refine ⟨Z3, O2, C, ρa, R3, z, ρb, rz, eg, fun σ4 O4 x4 hoff R4 => ?_⟩
        have hwp : wipe σ4 vs = wipe σ vs := by rw [wipe_eq hoff hw, wipe_twice]
        refine ⟨hwp, ?_⟩
        have x24 : Ext Z2 H2 O2 Z3 H3 O4 := gr.ext.trans x4
        cases et : t ρb with
        | exc _ => rw [et] at el2; cases el2
        | bad => rw [et] at el2; cases el2
        | ok p3 =>
          obtain ⟨b, ρc⟩ := p3
          rw [et] at el2
          refine ⟨Z3, O4, C, ρb, R4, b, ρc, et, fun H5 Z5 O5 x5 R5 => ?_⟩
          cases b with
          | false =>
            simp only at el2
            rw [if_neg (by decide)]
            have R6 := R5.wipe vs
            rw [hwp] at R6
            exact ⟨Z5, O5, _, ac, yr, x2.trans (x24.trans x5), z12.trans (x24.trans x5).z, R6, A2.step (x24.trans x5) hc R5, el2, ey⟩
          | true =>
            simp only at el2
            rw [if_pos rfl]
            cases ee : e ρc with
            | exc _ => rw [ee] at el2; cases el2
            | bad => rw [ee] at el2; cases el2
            | ok p4 =>
              obtain ⟨yv, ρd⟩ := p4
              rw [ee] at el2
              obtain ⟨⟨yr', ρf⟩, el3, e3⟩ := Option.map_eq_some_iff.mp el2
              cases e3
              refine ⟨Z5, O5, C, ρc, R5, yv, ρd, ee, fun u H6 Z6 O6 x6 R6 r6 => ?_⟩
              have x26 := (x24.trans x5).trans x6
              obtain ⟨⟨aw, n1, ra⟩, n2, n3⟩ := A2.step x26 hc R6
              have R7 := (R6.wipe vs).free (o := .lst (aw ++ [u])) n2 n3 hc
              rw [hwp] at R7
              refine ⟨aw, n1, ?_, Z6, O6, _, ac ++ [yv], yr', (x2.trans x26).free h0, z12.trans x26.z, R7, ⟨⟨_, upd_same, ra.append (.one r6)⟩, n2, n3⟩, el3, by rw [ey]; simp⟩
              rw [ra.length]
              rw [ey] at hz
              simp at hz
              omega
    · have e1 : i = xs.length := by omega
      subst e1
      rw [List.drop_length] at el2
      cases el2
      refine .inl ⟨w.stop _ Z2 H2 z12 R2.zh R2.ch (Nat.le_refl _), hN Z2 H2 O2 x2 (EnvR.unwipe R1 z12 R2) ?_⟩
      rw [ey, List.append_nil]
      exact A2
theorem lc2_run {K : PySem.W.Frag} {mg : MG} {it it1 : DI} {g g1 : DG} {t t1 : DT} {e : DV} {vs vs1 ws ws1 : List Nat} (hw : ∀ i ∈ ws, i ∈ vs) (hw1 : ∀ i ∈ ws1, i ∈ vs1) {σ : L2.St} {H : Hp} {Q : VK} (h : TOw K mg (dLc2 it g t it1 g1 t1 e vs vs1) σ H Q) :
    tLc2 (TIt K mg it) (TGt K mg g ws) (TTt K mg t) (TIt K mg it1) (TGt K mg g1 ws1) (TTt K mg t1) (TV K mg e) vs vs1 σ H Q := by
  obtain ⟨Z, O, C, ρ, R, s, ρ', q, k⟩ := h
  unfold dLc2 at q
  cases ei : it ρ with
  | exc _ => rw [ei] at q; cases q
  | bad => rw [ei] at q; cases q
  | ok p =>
    obtain ⟨xs, ρ1⟩ := p
    rw [ei] at q
    simp only at q
    cases el : lcO g t (lcL2 it1 g1 t1 e vs1) vs xs (wipeE ρ1 vs) with
    | none => rw [el] at q; cases q
    | some p2 =>
      obtain ⟨ys, ρ2⟩ := p2
      rw [el] at q
      simp only at q
      split at q
      case isFalse => cases q
      rename_i hz
      cases q
      refine ⟨Z, O, C, ρ, R, xs, ρ1, ei, fun J H1 Z1 O1 x1 R1 w => fun D hD => ?_⟩
      obtain ⟨f1, f2, f3⟩ := R1.fresh hD
      refine ⟨fun i m H2 => m = xs.length - i ∧ i ≤ xs.length ∧ ∃ Z2 O2 ρa acc yr, Ext Z1 H1 O1 Z2 H2 O2 ∧ EnvR K mg Z2 H2 O2 C (wipe σ vs) ρa ∧ Acc K mg Z2 H2 O2 D acc ∧ lcO g t (lcL2 it1 g1 t1 e vs1) vs (xs.drop i) ρa = some (yr, ρ2) ∧ ys = acc ++ yr, ⟨_, rfl, Nat.zero_le _, Z1, O1, wipeE ρ1 vs, [], ys, (Ext.refl Z1 H1 O1).free hD, (R1.wipe vs).free f1 f2 f3, ⟨⟨[], upd_same, .nil⟩, f1, f2⟩, by simpa using el, rfl⟩, ?_⟩
      rintro i m H2 ⟨rfl, hi, Z2, O2, ρa, acc, yr, x2, R2, A2, el2, ey⟩
      by_cases hlt : i < xs.length
      · refine .inr ⟨w.go i Z2 H2 x2.z R2.zh R2.ch hlt, _, fun H' hN => ⟨_, Nat.sub_lt_sub_left hlt (Nat.lt_succ_self i), rfl, hlt, hN⟩, fun v H3 y => ?_⟩
        obtain ⟨Z3, z, gr, hz2, rz⟩ := w.yld i Z2 H2 v H3 x2.z R2.zh R2.ch hlt y
        have ed : xs.drop i = z :: xs.drop (i + 1) := by
          rw [List.drop_eq_getElem_cons hlt]
          have : xs[i] = z := by rw [List.getElem?_eq_getElem hlt] at hz2; exact Option.some.inj hz2
          rw [this]
        rw [ed] at el2
        unfold lcO at el2
        cases eg : g z ρa with
        | none => rw [eg] at el2; cases el2
        | some ρb =>
          rw [eg] at el2
          simp only at el2
          have R3 := R2.grow gr
          refine ⟨Z3, O2, C, ρa, R3, z, ρb, rz, eg, fun σ4 O4 x4 hoff R4 => ?_⟩
          have hwp : wipe σ4 vs = wipe σ vs := by rw [wipe_eq hoff hw, wipe_twice]
          refine ⟨hwp, ?_⟩
          have x24 : Ext Z2 H2 O2 Z3 H3 O4 := gr.ext.trans x4
          cases et : t ρb with
          | exc _ => rw [et] at el2; cases el2
          | bad => rw [et] at el2; cases el2
          | ok p3 =>
            obtain ⟨b, ρc⟩ := p3
            rw [et] at el2
            refine ⟨Z3, O4, C, ρb, R4, b, ρc, et, fun H5 Z5 O5 x5 R5 => ?_⟩
            cases b with
            | false =>
              simp only at el2
              rw [if_neg (by decide)]
              have R6 := R5.wipe vs
              rw [hwp] at R6
              exact ⟨Z5, O5, _, acc, yr, x2.trans (x24.trans x5), R6, A2.step (x24.trans x5) f3 R5, el2, ey⟩
            | true =>
              simp only at el2
              rw [if_pos rfl]
              cases ef : lcL2 it1 g1 t1 e vs1 ρc with
              | none => rw [ef] at el2; cases el2
              | some p4 =>
                obtain ⟨yi, ρd⟩ := p4
                rw [ef] at el2
                obtain ⟨⟨yr', ρf⟩, el3, e3⟩ := Option.map_eq_some_iff.mp el2
                cases e3
                refine lc_inner hw1 R5 (x2.trans (x24.trans x5)) hD f3 (A2.step (x24.trans x5) f3 R5) ef ?_ fun Z6 H6 O6 x6 R6 A6 => ?_
                · rw [ey] at hz
                  simp at hz ⊢
                  omega
                · have R7 := R6.wipe vs
                  rw [hwp] at R7
                  exact ⟨Z6, O6, _, acc ++ yi, yr', x6, R7, A6, el3, by rw [ey]; simp⟩
      · have e1 : i = xs.length := by omega
        subst e1
        rw [List.drop_length] at el2
        cases el2
        refine .inl ⟨w.stop _ Z2 H2 x2.z R2.zh R2.ch (Nat.le_refl _), ?_⟩
        have R3 := EnvR.unwipe R1 x2.z R2
        obtain ⟨⟨ac, hd, ra⟩, o2, z2⟩ := A2
        subst ey
        rw [List.append_nil] at k
        exact k (.ref D) H2 Z2 O2 (x1.trans x2) R3 ⟨D, ac, rfl, o2, z2, f3, x1.fresh hD, hd, ra⟩
section
variable {X : Cx} {elt tg iter tg1 iter1 : Expr} {ifs ifs1 : List Expr} {scope : Scope} {own : List (Str × Nat)} {vs1 : List Nat} {pos : Pos} {it it1 : DI} {g g1 : DG} {t t1 : DT} {e : DV} {ws ws1 : List Nat}
theorem pow_lc2 (hc : X.calm = true) (hN : X.N.Nodup) (hi : PIt X tg iter it) (ok : BlkOk X.N X.env.scope scope own) (hv : ∀ i ∈ vs1, i ∈ own.map (·.2))
    (hg : ∀ (s : Shared) (H : Hp) (C : Addr) (cl : List (Str × Addr)) (fp : List Addr), PGt (X.blk s H scope (compEnvC scope cl C X.env) fp) tg g ws) (ht : ∀ (s : Shared) (H : Hp) (C : Addr) (cl : List (Str × Addr)) (fp : List Addr), PTts (X.blk s H scope (compEnvC scope cl C X.env) fp) ifs t)
    (hi1 : ∀ (s : Shared) (H : Hp) (C : Addr) (cl : List (Str × Addr)) (fp : List Addr), PIt (X.blk s H scope (compEnvC scope cl C X.env) fp) tg1 iter1 it1)
    (hg1 : ∀ (s : Shared) (H : Hp) (C : Addr) (cl : List (Str × Addr)) (fp : List Addr), PGt (X.blk s H scope (compEnvC scope cl C X.env) fp) tg1 g1 ws1) (ht1 : ∀ (s : Shared) (H : Hp) (C : Addr) (cl : List (Str × Addr)) (fp : List Addr), PTts (X.blk s H scope (compEnvC scope cl C X.env) fp) ifs1 t1)
    (he : ∀ (s : Shared) (H : Hp) (C : Addr) (cl : List (Str × Addr)) (fp : List Addr), PV (X.blk s H scope (compEnvC scope cl C X.env) fp) elt e) (hw : ∀ i ∈ ws, i ∈ own.map (·.2)) (hw1 : ∀ i ∈ ws1, i ∈ vs1) (hs : ∀ x, foldedSetIterable iter X.env x = pure x := by intro _; rfl) (hs1 : ∀ env x, foldedSetIterable iter1 env x = pure x := by intro _ _; rfl) :
    POw X (.ListComp elt [⟨tg, iter, ifs, 0⟩, ⟨tg1, iter1, ifs1, 0⟩] scope pos) (dLc2 it g t it1 g1 t1 e (own.map (·.2)) vs1) := PE.imp (pe_lc2 hc hN hi ok hv hg ht hi1 hg1 ht1 he hs hs1) fun _ _ _ => lc2_run hw hw1
theorem st_setLc2 {i : Nat} {y : Str} {py spos : Pos} (hc : X.calm = true) (hN : X.N.Nodup) (hy : X.N[i]? = some y) (hyl : X.env.scope.names.lookup y = some .local)
    (hsw : swapsWith (.ListComp elt [⟨tg, iter, ifs, 0⟩, ⟨tg1, iter1, ifs1, 0⟩] scope pos) (some (.Name y py)) spos.line X.env = pure true) (hi : PIt X tg iter it) (ok : BlkOk X.N X.env.scope scope own) (hv : ∀ i ∈ vs1, i ∈ own.map (·.2))
    (hg : ∀ (s : Shared) (H : Hp) (C : Addr) (cl : List (Str × Addr)) (fp : List Addr), PGt (X.blk s H scope (compEnvC scope cl C X.env) fp) tg g ws) (ht : ∀ (s : Shared) (H : Hp) (C : Addr) (cl : List (Str × Addr)) (fp : List Addr), PTts (X.blk s H scope (compEnvC scope cl C X.env) fp) ifs t)
    (hi1 : ∀ (s : Shared) (H : Hp) (C : Addr) (cl : List (Str × Addr)) (fp : List Addr), PIt (X.blk s H scope (compEnvC scope cl C X.env) fp) tg1 iter1 it1)
    (hg1 : ∀ (s : Shared) (H : Hp) (C : Addr) (cl : List (Str × Addr)) (fp : List Addr), PGt (X.blk s H scope (compEnvC scope cl C X.env) fp) tg1 g1 ws1) (ht1 : ∀ (s : Shared) (H : Hp) (C : Addr) (cl : List (Str × Addr)) (fp : List Addr), PTts (X.blk s H scope (compEnvC scope cl C X.env) fp) ifs1 t1)
    (he : ∀ (s : Shared) (H : Hp) (C : Addr) (cl : List (Str × Addr)) (fp : List Addr), PV (X.blk s H scope (compEnvC scope cl C X.env) fp) elt e) (hw : ∀ i ∈ ws, i ∈ own.map (·.2)) (hw1 : ∀ i ∈ ws1, i ∈ vs1) (hs : ∀ x, foldedSetIterable iter X.env x = pure x := by intro _; rfl) (hs1 : ∀ env x, foldedSetIterable iter1 env x = pure x := by intro _ _; rfl) :
    PSt X (.Assign [.Name y py] (.ListComp elt [⟨tg, iter, ifs, 0⟩, ⟨tg1, iter1, ifs1, 0⟩] scope pos) spos) (sSet i (dLc2 it g t it1 g1 t1 e (own.map (·.2)) vs1)) := PS.imp (ps_setLc2 hc hN hy hyl hsw hi ok hv hg ht hi1 hg1 ht1 he hs hs1) fun D σ H h => lc2_run hw hw1 (runSet h)
end
end Ev

/-! Ev: lists that change, methods, sorted. -/
namespace Ev
open PySem PySem.Spec PyProof.Rows L2

theorem list_extend_tupAt (l : Addr) (items : Array Value) (n : Nat) (b : Addr) (items2 : Array Value) (n2 : Nat) (dd : Option Addr) (sl : Array (Option Value)) (hs0 : ¬(!items.isEmpty && Builtin.List.listTooLong (items.size + items2.size)) = true) (hs1 : items.size ≤ sizeLine) (hs2 : items.size + items2.size ≤ sizeLine + 1) :
    Meets (Builtin.«list.extend» ⟨[.ref l, .ref b], []⟩) (fun _ R s => s.heap.get? l = some { cls := .type "list", dict := none, data := .seq items n, slots := #[] } ∧ s.heap.get? b = some { cls := .type "tuple", dict := dd, data := .seq items2 n2, slots := sl } ∧ R (.ok (.ret Value.none)) { s with heap := s.heap.update l (Obj.mapSeq fun x => x ++ items2), toks := s.toks }) :=
  .of_wp fun prog w A R s h => by
    obtain ⟨hp, g, d, tk, os⟩ := s; obtain ⟨hl, hb, h⟩ := h; have f1 := AutoSeq1.idx_int; have f2 := AutoSeq1.sub_tuple_tuple; have f3 := AutoSeq1.sub_list_list; have f4 := AutoSeq1.sub_tuple_list; have f5 := AutoSeq1.sub_list_tuple;
    have hz' : (items ++ items2).size ≤ sizeLine + 1 := by rw [Array.size_append]; exact hs2
    wp_walk using (wpAny_updateSeq hl rfl (hz := hs1) (_hz' := hz')), AutoSeq1.wpAny_loadPart' hl, AutoSeq1.wpAny_loadPart' hb; exact ⟨_, rfl, h⟩
def lstOf : Sl → Option (List Val)
  | .own xs => some xs
  | .par xs => some xs
  | _ => none
def setL : Sl → List Val → Sl
  | .own _, ys => .own ys
  | .par _, ys => .par ys
  | s, _ => s
section
variable {K : PySem.W.Frag} {mg : MG} {Z H : Hp} {O : Lab} {C : Lk} {σ : L2.St} {ρ : Env}
/-- a thing of a slot's is changed -/
theorem EnvR.chg (R : EnvR K mg Z H O C σ ρ) {a : Addr} {i q : Nat} {o : HO} {s : Sl} (ho : O a = some (i, q)) (hs : SlotR K mg Z (upd H a o) O C i σ[i]? s) :
    EnvR K mg Z (upd H a o) O C σ (ρ.set i s) ∧ Ext Z H O Z (upd H a o) O := by
  obtain ⟨h1, h2, h3⟩ := R.oz a (by rw [ho]; simp)
  refine ⟨⟨by rw [List.length_set]; exact R.len, same_updF R.zh h1, same_updF R.ch h2, fun b hb => ?_, fun b j q' h => by rw [List.length_set]; exact R.ob b j q' h, fun j t ej => ?_⟩, ⟨Same.refl Z, fun b u e1 e2 => ⟨?_, e2⟩, fun b e => ?_, fun b j q' h => .inr ⟨q', h⟩, fun b h => .inl h⟩⟩
  · obtain ⟨k1, k2, k3⟩ := R.oz b hb
    refine ⟨k1, k2, ?_⟩
    by_cases e : b = a
    · rw [e, upd_same]; simp
    · rw [upd_ne e]; exact k3
  · by_cases hj : j = i
    · subst hj
      by_cases hl : j < ρ.length
      · rw [List.getElem?_set_self hl] at ej; cases ej; exact hs
      · rw [List.getElem?_eq_none (by simpa using hl)] at ej; cases ej
    · rw [List.getElem?_set_ne (Ne.symm hj)] at ej
      exact (R.sl j t ej).keep (Same.refl Z) fun b q' hb => ⟨upd_ne (fun z => by rw [z, ho] at hb; cases hb; exact hj rfl), hb⟩
  · rw [upd_ne (fun z => by rw [z, ho] at e2; cases e2)]; exact e1
  · by_cases h : b = a
    · rw [h, upd_same]; simp
    · rw [upd_ne h]; exact e
theorem EnvR.lst (R : EnvR K mg Z H O C σ ρ) {i : Nat} {s0 : Sl} {ys : List Val} (e : ρ[i]? = some s0) (hl : lstOf s0 = some ys) :
    ∃ a ws, σ[i]? = some (some (.ref a)) ∧ H a = some (.lst ws) ∧ Rls K mg Z ws ys ∧
      ∀ ws' ys', Rls K mg Z ws' ys' → EnvR K mg Z (upd H a (.lst ws')) O C σ (ρ.set i (setL s0 ys')) ∧ Ext Z H O Z (upd H a (.lst ws')) O := by
  have z := R.sl i s0 e
  cases s0 with
  | own xs =>
    cases hl
    obtain ⟨a, ws, ea, o, m, r⟩ := z
    exact ⟨a, ws, ea, m, r, fun ws' ys' r' => R.chg o ⟨a, ws', ea, o, upd_same, r'⟩⟩
  | par xs =>
    cases hl
    obtain ⟨a, ws, ea, o, m, r, fx⟩ := z
    exact ⟨a, ws, ea, m, r, fun ws' ys' r' => R.chg o ⟨a, ws', ea, o, upd_same, r', fx⟩⟩
  | _ => cases hl
end

/-! ### a method that changes its list -/
def rU (K : PySem.W.Frag) (mg : MG) (g : List Val → List Val → Option (Val × List Val)) : V → List V → Hp → VK → Prop := fun x vs H Q => ∃ Z a ws ys xs z ys', Same Z H ∧ x = .ref a ∧ H a = some (.lst ws) ∧ Rls K mg Z ws ys ∧ Rls K mg Z vs xs ∧ g ys xs = some (z, ys') ∧
  ∀ u ws', Rl K mg Z u z → Rls K mg Z ws' ys' → Q u (upd H a (.lst ws'))
def dU (g : List Val → List Val → Option (Val × List Val)) (i : Nat) (d : DA) : DV := fun ρ => match (ρ[i]?).bind lstOf with
  | some _ => (d ρ).bind fun p => Out.of ((takes p.2 p.1).bind fun q => (q.2[i]?).bind fun s => (lstOf s).bind fun ys => (g ys q.1).map fun r => (r.1, q.2.set i (setL s r.2)))
  | none => .bad
section
variable {X : Cx} {o e : Expr} {es : List Expr} {name : Str} {apos cpos : Pos} {id : String} {g : List Val → List Val → Option (Val × List Val)} {i : Nat} {d : DA}
theorem runU {K : PySem.W.Frag} {mg : MG} {σ : L2.St} {H : Hp} {Q : VK} (h : TV K mg (dU g i d) σ H Q) : tBM K "list" (rU K mg g) (tVar i) (TAs K mg d) σ H Q := by
  obtain ⟨Z, O, C, ρ, R, x, ρ', q, k⟩ := h
  unfold dU at q
  cases e0 : (ρ[i]?).bind lstOf with
  | none => rw [e0] at q; cases q
  | some ys0 =>
    rw [e0] at q
    obtain ⟨s0, e1, e2⟩ := Option.bind_eq_some_iff.mp e0
    obtain ⟨a, ws, ea, m, r, _⟩ := R.lst e1 e2
    obtain ⟨⟨hs, ρ1⟩, e3, q⟩ := Out.bind_ok q
    obtain ⟨⟨xs, ρ2⟩, e4, q⟩ := Option.bind_eq_some_iff.mp (Out.of_ok q)
    obtain ⟨s, e5, q⟩ := Option.bind_eq_some_iff.mp q
    obtain ⟨ys, e6, q⟩ := Option.bind_eq_some_iff.mp q
    obtain ⟨⟨z, ys'⟩, e7, q⟩ := Option.map_eq_some_iff.mp q
    cases q
    refine ⟨.ref a, ea, .inl ⟨rfl, _, SqL.of m⟩, Z, O, C, ρ, R, hs, ρ1, e3, fun vs H1 Z1 O1 x1 R1 r1 => ?_⟩
    obtain ⟨Z2, O2, x2, R2, r2⟩ := takes_ok R1 r1 e4
    obtain ⟨a2, ws2, ea2, m2, rr, nx⟩ := R2.lst e5 e6
    rw [ea] at ea2
    cases ea2
    refine ⟨Z2, a, ws2, ys, xs, z, ys', R2.zh, rfl, m2, rr, r2, e7, fun u ws' ru rw' => ?_⟩
    obtain ⟨R3, x3⟩ := nx ws' ys' rw'
    exact k u _ Z2 O2 ((x1.trans x2).trans x3) R3 ru
theorem pv_bmU (slot : Slot "list" name id) (hty : typeOf (.builtin id) = pure (.type "method_descriptor")) (hm : MtR X id (rU X.K X.mg g)) (ho : PE X o (tVar i)) (ha : PAs X (e :: es) d)
    (hbase : attributeBase o name X.env (eval o X.env) = eval o X.env := by rfl)
    (hfew : ((backTo cpos (starEach (e :: es) X.env)).all (fun x => !x.1) && (backToKw cpos (keywordEach [] X.env)).all (fun x => x.1.isSome)
      && decide ((e :: es).length + ([] : List Keyword).length + (if ([] : List Keyword).isEmpty then 0 else 1) < 30)) = true := by rfl)
    (hline : (apos.endLine == cpos.line) = true := by rfl) (hs : starEach (e :: es) X.env = (false, eval e X.env) :: starEach es X.env := by rfl) (hplain : (backTo cpos (starEach es X.env)).any (·.1) = false := by rfl) :
    PV X (.Call (.Attribute o name apos) (e :: es) [] cpos) (dU g i d) := PE.imp (pe_bm PySem.F.plainAttrs_list slot hty hm ho ha hbase hfew hline hs hplain) fun _ _ _ => runU
theorem pv_bmU0 (slot : Slot "list" name id) (hty : typeOf (.builtin id) = pure (.type "method_descriptor")) (hm : MtR X id (rU X.K X.mg g)) (ho : PE X o (tVar i))
    (hbase : attributeBase o name X.env (eval o X.env) = eval o X.env := by rfl) (hline : (apos.endLine == cpos.line) = true := by rfl) :
    PV X (.Call (.Attribute o name apos) [] [] cpos) (dU g i aNil) := PE.imp (pe_bm0 PySem.F.plainAttrs_list slot hty hm ho hbase hline) fun σ H Q h => by
  obtain ⟨v, e1, e2, Z, O, C, ρ, R, hs, ρ', e3, k⟩ := runU h
  cases e3
  exact ⟨v, e1, e2, k [] H Z O (Ext.refl _ _ _) R .nil⟩
def appV (ys xs : List Val) : Option (Val × List Val) := match xs with
  | [x] => if ys.length < sizeLine then some (.non, ys ++ [x]) else none
  | _ => none
theorem m_append : MtR X "list.append" (rU X.K X.mg appV) := MtR.imp mt_append fun v vs H Q ⟨Z, a, ws, ys, xs, z, ys', zh, e1, m, r, rx, e, q⟩ => by
  cases rx with
  | nil => cases e
  | cons r1 t =>
    cases t with
    | cons _ _ => cases e
    | nil =>
      unfold appV at e
      simp only at e
      split at e
      · rename_i hl
        cases e
        exact ⟨a, ws, _, e1, rfl, m, by rw [r.length]; exact hl, q _ _ .non (r.append (.one r1))⟩
      · cases e
def extV (ys xs : List Val) : Option (Val × List Val) := match xs with
  | [.lst zs] => if ys.length + zs.length ≤ sizeLine then some (.non, ys ++ zs) else none
  | [.tup zs] => if ys.length + zs.length ≤ sizeLine then some (.non, ys ++ zs) else none
  | _ => none
def rExtendT : V → List V → Hp → VK → Prop := fun x vs H Q => ∃ l b xs zs, x = .ref l ∧ vs = [.ref b] ∧ H l = some (.lst xs) ∧ H b = some (.tup zs) ∧ xs.length + zs.length ≤ sizeLine ∧ Q .non (upd H l (.lst (xs ++ zs)))
theorem mt_extendT : MtR X "list.extend" rExtendT := by
  intro pins s σ H x vs v us Q I rx rv h
  obtain ⟨l, b, xs, zs, rfl, rfl, hH, hB, hz, q⟩ := h
  cases rx
  obtain ⟨u, rfl, ru⟩ := rv.one
  cases ru
  obtain ⟨z, its, n, r, hl, e⟩ := I.lstM hH
  obtain ⟨hz2, its2, r2, ⟨cls, dd, data, sl⟩, e2, hc2, n2, hd2⟩ := I.hok b _ hB
  simp only at hc2 hd2
  subst hc2 hd2
  have hl2 := r2.length
  obtain ⟨z, its, n, r, hl, e⟩ := I.lstM hH
  have hsz : its.toArray.size + its2.toArray.size ≤ sizeLine := by rw [List.size_toArray, List.size_toArray]; omega
  have hlong : ¬ (!its.toArray.isEmpty && Builtin.List.listTooLong (its.toArray.size + its2.toArray.size)) = true := by
    rw [notLongL hsz, Bool.and_false]
    exact Bool.false_ne_true
  refine call_meets F.slot_list_extend ⟨_, e, rfl⟩ F.entry_list_extend (F.args_list_extend_2 _ _)
    (list_extend_tupAt l its.toArray n b its2.toArray n2 dd sl hlong (by rw [List.size_toArray]; omega) (by omega)) ⟨e, e2, ?_⟩
  refine ⟨.non, _, I.lset (its' := its ++ its2) hH e (by simp) (r.append r2) ?_, rfl, q⟩
  rw [List.length_append]
  omega
theorem Rls.two {K : PySem.W.Frag} {mg : MG} {Z : Hp} {vs : List V} {x y : Val} (h : Rls K mg Z vs [x, y]) : ∃ u v, vs = [u, v] ∧ Rl K mg Z u x ∧ Rl K mg Z v y := by
  cases h with
  | cons a t =>
    cases t with
    | cons b t => cases t; exact ⟨_, _, rfl, a, b⟩
theorem Rls.only {K : PySem.W.Frag} {mg : MG} {Z : Hp} {vs : List V} {x : Val} (h : Rls K mg Z vs [x]) : ∃ u, vs = [u] ∧ Rl K mg Z u x := by
  cases h with
  | cons a t => cases t; exact ⟨_, rfl, a⟩
theorem m_extend : MtR X "list.extend" (rU X.K X.mg extV) := MtR.imp (MtR.or mt_extend mt_extendT) fun v vs H Q ⟨Z, a, ws, ys, xs, z, ys', zh, e1, m, r, rx, e, q⟩ => by
  unfold extV at e
  split at e
  · split at e
    · rename_i zs hl
      cases e
      obtain ⟨u, rfl, ru⟩ := rx.only
      cases ru with
      | lst mb rb => exact .inl ⟨a, _, ws, _, e1, rfl, m, zh _ _ mb, by rw [r.length, rb.length]; exact hl, q _ _ .non (r.append rb)⟩
    · cases e
  · split at e
    · rename_i zs hl
      cases e
      obtain ⟨u, rfl, ru⟩ := rx.only
      cases ru with
      | tup mb rb => exact .inr ⟨a, _, ws, _, e1, rfl, m, zh _ _ mb, by rw [r.length, rb.length]; exact hl, q _ _ .non (r.append rb)⟩
    · cases e
  · cases e
def popV (ys xs : List Val) : Option (Val × List Val) := match xs with
  | [] => (ys[ys.length - 1]?).map fun y => (y, ys.dropLast)
  | [.int i] => if -(2 ^ 63) ≤ i ∧ i < 2 ^ 63 then (seqIndex? i ys.length).bind fun k => (ys[k]?).map fun y => (y, ys.eraseIdx k) else none
  | _ => none
theorem m_pop : MtR X "list.pop" (rU X.K X.mg popV) := MtR.imp (MtR.or mt_pop mt_popAt) fun v vs H Q ⟨Z, a, ws, ys, xs, z, ys', zh, e1, m, r, rx, e, q⟩ => by
  unfold popV at e
  split at e
  · cases rx
    obtain ⟨y, h1, h2⟩ := Option.map_eq_some_iff.mp e
    cases h2
    obtain ⟨u, h3, h4⟩ := r.get h1
    exact .inl ⟨a, ws, u, e1, rfl, m, by rw [r.length]; exact h3, q _ _ h4 r.dropLast⟩
  · rename_i i
    split at e
    · rename_i hi
      obtain ⟨k, h1, e⟩ := Option.bind_eq_some_iff.mp e
      obtain ⟨y, h2, h3⟩ := Option.map_eq_some_iff.mp e
      cases h3
      obtain ⟨u, rfl, ru⟩ := rx.only
      cases ru
      obtain ⟨w, h3, h4⟩ := r.get h2
      exact .inr ⟨a, ws, i, k, w, e1, rfl, m, hi.1, hi.2, by rw [r.length]; exact h1, h3, q _ _ h4 (r.eraseIdx k)⟩
    · cases e
  · cases e
def insV (ys xs : List Val) : Option (Val × List Val) := match xs with
  | [.int i, y] => if ys.length < sizeLine ∧ 0 ≤ i ∧ i < 2 ^ 63 then some (.non, ys.take i.toNat ++ [y] ++ ys.drop i.toNat) else none
  | _ => none
theorem m_insert : MtR X "list.insert" (rU X.K X.mg insV) := MtR.imp mt_insert fun v vs H Q ⟨Z, a, ws, ys, xs, z, ys', zh, e1, m, r, rx, e, q⟩ => by
  unfold insV at e
  split at e
  · rename_i i y
    split at e
    · rename_i hi
      cases e
      obtain ⟨u, w, rfl, ru, rw'⟩ := rx.two
      cases ru
      exact ⟨a, ws, i, w, e1, rfl, m, by rw [r.length]; exact hi.1, hi.2.1, hi.2.2, q _ _ .non (((r.take _).append (.one rw')).append (r.drop _))⟩
    · cases e
  · cases e
def remV (ys xs : List Val) : Option (Val × List Val) := match xs with
  | [.int k] => (intsOf ys).bind fun ns => if k ∈ ns then some (.non, (ns.erase k).map .int) else none
  | _ => none
end
end Ev

/-! Ev: stores into lists, sorted, loops over a slot. -/
namespace Ev
open PySem PySem.Spec PyProof.Rows L2

/-! ### xs[i] = e -/
def putV (ys : List Val) (i x : Val) : Option (List Val) := match i with
  | .int k => (ixN ys.length k).map fun j => ys.set j x
  | _ => none
def sPut (i : Nat) (di dv : DV) : DS := fun ρ => match dv ρ with
  | .ok (x, ρ1) => match (ρ1[i]?).bind lstOf with
    | some _ => match di ρ1 with
      | .ok (k, ρ2) => match ρ2[i]? with
        | some s => match (lstOf s).bind fun ys => putV ys k x with
          | some ys' => .nx (ρ2.set i (setL s ys'))
          | none => .bad
        | none => .bad
      | _ => .bad
    | none => .bad
  | _ => .bad
theorem PS.or {X : Cx} {st : Stmt} {t t' : TS} (h : PS X st t) (h' : PS X st t') : PS X st (fun D σ H => t D σ H ∨ t' D σ H) := ⟨fun pins s σ H D I q => q.elim (h.run pins s σ H D I) (h'.run pins s σ H D I)⟩
section
variable {X : Cx}
theorem runPut {K : PySem.W.Frag} {mg : MG} {i : Nat} {di dv : DV} {D : Ends} {σ : L2.St} {H : Hp} (h : TSt K mg (sPut i di dv) D σ H) :
    tAsg (TV K mg dv) (gSub (tVar i) (TV K mg di) rSetL) D σ H := by
  obtain ⟨Z, O, C, ρ, R, h⟩ := h
  unfold sPut at h
  cases e1 : dv ρ with
  | exc _ => rw [e1] at h; exact h.elim
  | bad => rw [e1] at h; exact h.elim
  | ok p =>
    obtain ⟨x, ρ1⟩ := p
    rw [e1] at h
    simp only at h
    refine ⟨Z, O, C, ρ, R, x, ρ1, e1, fun v H1 Z1 O1 x1 R1 r1 => ?_⟩
    cases e0 : (ρ1[i]?).bind lstOf with
    | none => rw [e0] at h; exact h.elim
    | some ys0 =>
      rw [e0] at h
      simp only at h
      obtain ⟨s0, e2, e3⟩ := Option.bind_eq_some_iff.mp e0
      obtain ⟨a, ws, ea, m, r, _⟩ := R1.lst e2 e3
      refine ⟨.ref a, ea, ?_⟩
      cases e4 : di ρ1 with
      | exc _ => rw [e4] at h; exact h.elim
      | bad => rw [e4] at h; exact h.elim
      | ok p =>
        obtain ⟨k, ρ2⟩ := p
        rw [e4] at h
        simp only at h
        refine ⟨Z1, O1, C, ρ1, R1, k, ρ2, e4, fun u H2 Z2 O2 x2 R2 r2 => ?_⟩
        cases e5 : ρ2[i]? with
        | none => rw [e5] at h; exact h.elim
        | some s =>
          rw [e5] at h
          simp only at h
          cases e6 : (lstOf s).bind fun ys => putV ys k x with
          | none => rw [e6] at h; exact h.elim
          | some ys' =>
            rw [e6] at h
            obtain ⟨ys, e7, e8⟩ := Option.bind_eq_some_iff.mp e6
            obtain ⟨a2, ws2, ea2, m2, rr, nx⟩ := R2.lst e5 e7
            rw [ea] at ea2
            cases ea2
            unfold putV at e8
            cases k with
            | int k =>
              obtain ⟨j, e9, e10⟩ := Option.map_eq_some_iff.mp e8
              cases r2
              refine ⟨a, ws2, k, j, rfl, rfl, m2, by rw [rr.length]; exact e9, ?_⟩
              obtain ⟨R3, x3⟩ := nx (ws2.set j v) ys' (by rw [← e10]; exact Rls.set (r1.mono x2.z) j rr)
              exact h σ _ Z2 O2 ((x1.trans x2).trans x3) R3
            | _ => cases e8
theorem st_put {i : Nat} {x : Str} {e ix : Expr} {di dv : DV} {p pos pos2 : Pos} (ho : PE X (.Name x p) (tVar i)) (hi : PV X ix di) (he : PV X e dv)
    (ha : ∀ v, assign (.Subscript (.Name x p) ix pos2) X.env v = (do
      let ov ← holding [v] (eval (.Name x p) X.env)
      let iv ← holding [v, ov] (eval ix X.env)
      standAt pos2
      holding [v, ov, iv] (setItem ov iv v)
      release [v, ov, iv] []) := by intro _; rfl)
    (hs : swapsWithSole [.Subscript (.Name x p) ix pos2] e pos.line X.env = pure false := by rfl) (hw : swappedStores [.Subscript (.Name x p) ix pos2] e X.env = pure none := by rfl)
    (h1 : (assignEach [.Subscript (.Name x p) ix pos2] X.env).map (·.2) = [assign (.Subscript (.Name x p) ix pos2) X.env] := by rfl) :
    PSt X (.Assign [.Subscript (.Name x p) ix pos2] e pos) (sPut i di dv) := PS.imp (ps_asg he (pg_sub ho hi set_list ha) hs hw h1) fun _ _ _ => runPut
end

/-! ### sorted -/
def alikeOk (ds : List PyData) : Bool := ds.all fun d => ds.all fun d' => PySem.W.alike d d'
def isTupD : PyData → Bool
  | .tuple (_ :: _) => true
  | _ => false
def isOthD : PyData → Bool
  | .none => false
  | .tuple _ => false
  | _ => true
def sortOk (xs : List Val) : Bool := xs.all (fun x => x.py.plain && decide (x.py.depth ≤ 64)) && alikeOk (xs.map Val.py) && ((xs.map Val.py).all isTupD || (xs.map Val.py).all isOthD) && decide (xs.length ≤ sizeLine)
def sortedL (xs : List Val) : List Val := xs.mergeSort (PySem.W.dataLe false Val.py)
def sortV : Val → Option (List Val)
  | .lst xs => if sortOk xs then some (sortedL xs) else none
  | .scr ns => if sortOk (ns.map .int) then some (sortedL (ns.map .int)) else none
  | _ => none
theorem alikeOk_out {ds : List PyData} (h : alikeOk ds = true) : PySem.W.AllAlike ds := fun d hd d' hd' => List.all_eq_true.mp (List.all_eq_true.mp h d hd) d' hd'
theorem sortable_out {ds : List PyData} (h : (ds.all isTupD || ds.all isOthD) = true) : PySem.W.Sortable ds := by
  rcases Bool.or_eq_true_iff.mp h with h | h
  · refine .inl fun d hd => ?_
    have := List.all_eq_true.mp h d hd
    cases d with
    | tuple xs =>
      cases xs with
      | nil => cases this
      | cons x r => exact ⟨x, r, rfl⟩
    | _ => cases this
  · refine .inr fun d hd => ?_
    have := List.all_eq_true.mp h d hd
    cases d <;> first | (cases this; done) | exact ⟨(by intro h; cases h), (by intro _ h; cases h)⟩
/-- items and what they are -/
theorem each_rls {K : PySem.W.Frag} {mg : MG} {Z : Hp} : ∀ {vs : List V} {xs : List Val} {us : List Value}, Rls K mg Z vs xs → Vals vs us → PySem.W.EachIs (fun u x => ∃ v, RelV v u ∧ Rl K mg Z v x) us xs
  | _, _, _, .nil, .nil => .nil
  | _, _, _, .cons r t, .cons q u => .cons ⟨_, q, r⟩ (each_rls t u)
theorem each_back {K : PySem.W.Frag} {mg : MG} {Z : Hp} : ∀ {us : List Value} {xs : List Val}, PySem.W.EachIs (fun u x => ∃ v, RelV v u ∧ Rl K mg Z v x) us xs → ∃ vs, Rls K mg Z vs xs ∧ Vals vs us
  | _, _, .nil => ⟨[], .nil, .nil⟩
  | _, _, .cons ⟨v, q, r⟩ t => by
    obtain ⟨vs, h1, h2⟩ := each_back t
    exact ⟨v :: vs, .cons r h1, .cons q h2⟩
section
variable {X : Cx}
theorem each_reads {pins : List (Addr × Obj)} {σ : L2.St} {Z H : Hp} {s : Shared} (I : Inv X pins σ H s) (zh : Same Z H) : ∀ {us : List Value} {xs : List Val}, PySem.W.EachIs (fun u x => ∃ v, RelV v u ∧ Rl X.K X.mg Z v x) us xs → (∀ x ∈ xs, x.py.plain = true) →
    PySem.W.EachIs (fun u x => ∃ as, Reads s.heap u (Val.py x) as) us xs
  | _, _, .nil, _ => .nil
  | _, _, .cons ⟨v, q, r⟩ t, h => .cons (reads_of I zh (.fz r) (h _ List.mem_cons_self) q) (each_reads I zh t fun x hx => h x (List.mem_cons_of_mem _ hx))
theorem sorted_core {k : Nat} (hr : Room k X.A) {pins : List (Addr × Obj)} {σ : L2.St} {Z H : Hp} {s : Shared} {a : Addr} {vs : List V} {xs : List Val} {Q : VK} (I : Inv X pins σ H s) (zh : Same Z H) (hl : SqL X.K H a vs) (r : Rls X.K X.mg Z vs xs) (hok : sortOk xs = true) (q : QO X.K X.mg Z H (sortedL xs) Q) :
    wpAny (model X.prog X.w) X.A (call (.builtin "sorted") [.ref a]) (EP X pins σ Q) X.xe s := by
  simp only [sortOk, Bool.and_eq_true, decide_eq_true_eq] at hok
  obtain ⟨⟨⟨h1, h2⟩, h3⟩, h4⟩ := hok
  have hp : ∀ x ∈ xs, x.py.plain = true ∧ x.py.depth ≤ 64 := fun x hx => by
    have := List.all_eq_true.mp h1 x hx
    simpa using this
  obtain ⟨its, rv, pl, hz⟩ := I.list hl
  have e := each_rls r rv
  refine PySem.W.sorted_data (enc := Val.py) (R := fun u x => ∃ v, RelV v u ∧ Rl X.K X.mg Z v x) (bs := xs) pl.isList e (each_reads I zh e fun x hx => (hp x hx).1) (alikeOk_out h2) (sortable_out h3) h4 (fun b hb => ?_) fun out ho eo => ?_
  · have := (hp b hb).2
    have := hr.un
    omega
  · obtain ⟨ws, rw', vo⟩ := each_back eo
    obtain ⟨ep, he'⟩ := PyProof.Rows.sortedAll_at s.heap its out.toArray
    have hlen : ws.length ≤ sizeLine := by rw [rw'.length, List.length_mergeSort]; exact h4
    exact ⟨.ref _, upd H (s.heap.objs.size + 1) (.lst ws), I.laid (t' := s.toks) (fun _ _ => PyProof.Rows.sortedAll_old) (Nat.le_succ _) ⟨hlen, out, ep, vo, he'⟩, rfl, q _ ws (I.hok.fresh (Nat.le_succ _)) rw'⟩
theorem c_sorted {k : Nat} (hr : Room k X.A) : CallR X (.builtin "sorted") (rNo X.K X.mg (go1 sortV)) := by
  intro pins s σ H vs us Q I r h
  obtain ⟨Z, v, x, z, rfl, zh, b, e, q⟩ := rNo1 h
  cases x with
  | lst xs =>
    obtain ⟨a, vs, rfl, h1, r1⟩ := bor_lst zh b
    unfold sortV at e
    simp only at e
    split at e
    · rename_i hok
      cases e
      rw [Vals.ref1 r]
      exact sorted_core hr I zh (SqL.of h1) r1 hok q
    · cases e
  | scr ns =>
    obtain ⟨a, rfl, h1⟩ := bor_scr b
    unfold sortV at e
    simp only at e
    split at e
    · rename_i hok
      cases e
      rw [Vals.ref1 r]
      exact sorted_core hr I zh (zh.seq h1) (Rls.ints ns) hok q
    · cases e
  | _ => cases e
end
end Ev

/-! Ev: loops over a slot's own list, which is locked meanwhile. -/
namespace Ev
open PySem PySem.Spec PyProof.Rows L2
section
variable {K : PySem.W.Frag} {mg : MG} {Z H : Hp} {O : Lab} {C : Lk} {σ : L2.St} {ρ : Env}
def lockC (C : Lk) (i : Nat) (a : Addr) (ws : List V) : Lk := ⟨fun b => if b = a then some (.lst ws) else C b, C.fx, fun j => if j = i then some a else C.lk j, fun j b h => by
  by_cases hb : b = a
  · rw [if_pos hb]; simp
  · rw [if_neg hb]
    by_cases hj : j = i
    · rw [if_pos hj] at h; cases h; exact absurd rfl hb
    · rw [if_neg hj] at h; exact C.wf j b h⟩
def unO (O : Lab) (i : Nat) (a : Addr) : Lab := fun b => if b = a then some (i, 0) else O b
theorem EnvR.lock (R : EnvR K mg Z H O C σ ρ) {i : Nat} {s0 : Sl} {ys : List Val} (e : ρ[i]? = some s0) (hl : lstOf s0 = some ys) :
    ∃ a ws, σ[i]? = some (some (.ref a)) ∧ Rls K mg Z ws ys ∧ EnvR K mg Z H (frO i O) (lockC C i a ws) σ (ρ.set i (.lck ys)) ∧
      ∀ Z' H' O' σ' ρ' ys', Ext Z H (frO i O) Z' H' O' → EnvR K mg Z' H' O' (lockC C i a ws) σ' ρ' → ρ'[i]? = some (.lck ys') →
        Ext Z H O Z' H' (unO O' i a) ∧ EnvR K mg Z' H' (unO O' i a) C σ' (ρ'.set i (setL s0 ys')) := by
  have hi : i < ρ.length := (List.getElem?_eq_some_iff.mp e).1
  obtain ⟨a, ws, ea, o, m, r, fx⟩ : ∃ a ws, σ[i]? = some (some (.ref a)) ∧ O a = some (i, 0) ∧ H a = some (.lst ws) ∧ Rls K mg Z ws ys ∧ ((∃ zs, s0 = .own zs) ∨ (∃ zs, s0 = .par zs) ∧ C.fx i = some a) := by
    have z := R.sl i s0 e
    cases s0 with
    | own xs => cases hl; obtain ⟨a, ws, ea, o, m, r⟩ := z; exact ⟨a, ws, ea, o, m, r, .inl ⟨_, rfl⟩⟩
    | par xs => cases hl; obtain ⟨a, ws, ea, o, m, r, fx⟩ := z; exact ⟨a, ws, ea, o, m, r, .inr ⟨⟨_, rfl⟩, fx⟩⟩
    | _ => cases hl
  obtain ⟨za, ca, _⟩ := R.oz a (by rw [o]; simp)
  refine ⟨a, ws, ea, r, ⟨by rw [List.length_set]; exact R.len, R.zh, fun b x hb => ?_, fun b hb => ?_, fun b j q h => by rw [List.length_set]; exact R.ob b j q (frO_some h).1, fun j t ej => ?_⟩, fun Z' H' O' σ' ρ' ys' x R' e' => ?_⟩
  · have hb : (if b = a then some (HO.lst ws) else C b) = some x := hb
    split at hb
    · rename_i h; rw [h, m]; exact hb
    · exact R.ch b x hb
  · obtain ⟨⟨j, q⟩, hp⟩ := Option.ne_none_iff_exists'.mp hb
    obtain ⟨h1, h2⟩ := frO_some hp
    obtain ⟨k1, k2, k3⟩ := R.oz b (by rw [h1]; simp)
    refine ⟨k1, ?_, k3⟩
    show (if b = a then some (HO.lst ws) else C b) = none
    rw [if_neg (fun z => by rw [z, o] at h1; cases h1; exact h2 rfl)]
    exact k2
  · by_cases hj : j = i
    · subst hj
      rw [List.getElem?_set_self hi] at ej
      cases ej
      exact ⟨a, ws, ea, by show (if a = a then some (HO.lst ws) else C a) = _; rw [if_pos rfl], r, by show (if j = j then some a else C.lk j) = _; rw [if_pos rfl]⟩
    · rw [List.getElem?_set_ne (Ne.symm hj)] at ej
      have h := (R.sl j t ej).keep (Same.refl Z) (O' := frO i O) (H' := H) fun b q hb => ⟨rfl, frO_ne hb hj⟩
      have hfx : (lockC C i a ws).lk j = C.lk j := by show (if j = i then some a else C.lk j) = _; rw [if_neg hj]
      have hhp : ∀ b o', C b = some o' → (lockC C i a ws) b = some o' := fun b o' hb => by
        show (if b = a then some (HO.lst ws) else C b) = _
        rw [if_neg (fun z => by rw [z, ca] at hb; cases hb)]; exact hb
      cases t with
      | par xs => exact h
      | lck xs => obtain ⟨a', vs, e1, m1, r1, f1⟩ := h; exact ⟨a', vs, e1, hhp _ _ m1, r1, by rw [hfx]; exact f1⟩
      | _ => exact h
  · have hi' : i < ρ'.length := (List.getElem?_eq_some_iff.mp e').1
    have z := R'.sl i _ e'
    obtain ⟨a', ws', ea', m', r', f'⟩ := z
    have f' : (if i = i then some a else C.lk i) = some a' := f'
    rw [if_pos rfl] at f'
    cases f'
    have m' : (if a = a then some (HO.lst ws) else C a) = some (.lst ws') := m'
    rw [if_pos rfl] at m'
    cases m'
    have oa' : O' a = none := by
      cases q : O' a with
      | none => rfl
      | some p =>
        have := (R'.oz a (by rw [q]; simp)).2.1
        have this : (if a = a then some (HO.lst ws) else C a) = none := this
        rw [if_pos rfl] at this
        cases this
    have ha' : H' a = some (.lst ws) := R'.ch a _ (by show (if a = a then some (HO.lst ws) else C a) = _; rw [if_pos rfl])
    have za' : Z' a = none := by
      cases q : Z' a with
      | none => rfl
      | some w =>
        rcases x.zn a (by rw [q]; simp) with h | h | h
        · exact absurd za h
        · rw [m] at h; cases h
        · rw [frO_at o] at h; exact absurd rfl h
    have cC : ∀ b u, C b = some u → (lockC C i a ws) b = some u := fun b u h => by
      show (if b = a then some (HO.lst ws) else C b) = _
      rw [if_neg (fun z => by rw [z, ca] at h; cases h)]; exact h
    refine ⟨⟨x.z, fun b u h1 h2 => ?_, x.t, fun b j q h => ?_, fun b h => ?_⟩, ⟨by rw [List.length_set]; exact R'.len, R'.zh, fun b u h => R'.ch b u (cC b u h), fun b hb => ?_, fun b j q h => ?_, fun j t ej => ?_⟩⟩
    · have hb : b ≠ a := fun z => by rw [z, o] at h2; cases h2
      obtain ⟨k1, k2⟩ := x.h b u h1 (frO_none h2)
      exact ⟨k1, by unfold unO; rw [if_neg hb]; exact k2⟩
    · unfold unO at h
      split at h
      · rename_i hb
        cases h
        exact .inr ⟨0, by rw [hb]; exact o⟩
      · rcases x.o b j q h with h | ⟨q', h⟩
        · exact .inl h
        · exact .inr ⟨q', (frO_some h).1⟩
    · rcases x.zn b h with h | h | h
      · exact .inl h
      · exact .inr (.inl h)
      · refine .inr (.inr fun z => h (frO_none z))
    · by_cases h : b = a
      · rw [h]
        exact ⟨za', ca, by rw [ha']; simp⟩
      · have hb' : O' b ≠ none := by unfold unO at hb; rw [if_neg h] at hb; exact hb
        obtain ⟨k1, k2, k3⟩ := R'.oz b hb'
        have k2 : (if b = a then some (HO.lst ws) else C b) = none := k2
        rw [if_neg h] at k2
        exact ⟨k1, k2, k3⟩
    · rw [List.length_set]
      unfold unO at h
      split at h
      · cases h; exact hi'
      · exact R'.ob b j q h
    · by_cases hj : j = i
      · subst hj
        rw [List.getElem?_set_self hi'] at ej
        cases ej
        rcases fx with ⟨zs, rfl⟩ | ⟨⟨zs, rfl⟩, fx⟩
        · exact ⟨a, ws, ea', by unfold unO; rw [if_pos rfl], ha', r'⟩
        · exact ⟨a, ws, ea', by unfold unO; rw [if_pos rfl], ha', r', fx⟩
      · rw [List.getElem?_set_ne (Ne.symm hj)] at ej
        have h := (R'.sl j t ej).keep (Same.refl Z') (O' := unO O' i a) (H' := H') fun b q hb => ⟨rfl, by unfold unO; rw [if_neg (fun z => by rw [z, oa'] at hb; cases hb)]; exact hb⟩
        have hfx : (lockC C i a ws).lk j = C.lk j := by show (if j = i then some a else C.lk j) = _; rw [if_neg hj]
        cases t with
        | par xs => exact h
        | lck xs =>
          obtain ⟨a', vs, e1, m1, r1, f1⟩ := h
          rw [hfx] at f1
          refine ⟨a', vs, e1, ?_, r1, f1⟩
          have m1 : (if a' = a then some (HO.lst ws) else C a') = some (.lst vs) := m1
          split at m1
          · rename_i h; rw [h] at f1; exact absurd ca (C.wf j a f1)
          · exact m1
        | _ => exact h

def unlk (i : Nat) (s0 : Sl) : Fl → Fl
  | .nx ρ => match ρ[i]? with
    | some (.lck ys) => .nx (ρ.set i (setL s0 ys))
    | _ => .bad
  | .bk ρ => match ρ[i]? with
    | some (.lck ys) => .bk (ρ.set i (setL s0 ys))
    | _ => .bad
  | .ct ρ => match ρ[i]? with
    | some (.lck ys) => .ct (ρ.set i (setL s0 ys))
    | _ => .bad
  | .rt s ρ => match ρ[i]? with
    | some (.lck ys) => .rt s (ρ.set i (setL s0 ys))
    | _ => .bad
  | .bad => .bad
theorem unlk_run {D : Ends} {i : Nat} {s0 : Sl} {a : Addr} {ws : List V}
    (un : ∀ Z' H' O' σ' ρ' ys', Ext Z H (frO i O) Z' H' O' → EnvR K mg Z' H' O' (lockC C i a ws) σ' ρ' → ρ'[i]? = some (.lck ys') →
        Ext Z H O Z' H' (unO O' i a) ∧ EnvR K mg Z' H' (unO O' i a) C σ' (ρ'.set i (setL s0 ys'))) {f : Fl} (h : FlR K mg Z H O C D (unlk i s0 f)) : FlR K mg Z H (frO i O) (lockC C i a ws) D f := by
  cases f with
  | nx ρ =>
    unfold unlk at h
    simp only at h
    split at h
    · rename_i ys e
      exact fun σ' H' Z' O' x R' => let ⟨x2, R2⟩ := un Z' H' O' σ' ρ ys x R' e; h σ' H' Z' _ x2 R2
    · exact h.elim
  | bk ρ =>
    unfold unlk at h
    simp only at h
    split at h
    · rename_i ys e
      exact fun σ' H' Z' O' x R' => let ⟨x2, R2⟩ := un Z' H' O' σ' ρ ys x R' e; h σ' H' Z' _ x2 R2
    · exact h.elim
  | ct ρ =>
    unfold unlk at h
    simp only at h
    split at h
    · rename_i ys e
      exact fun σ' H' Z' O' x R' => let ⟨x2, R2⟩ := un Z' H' O' σ' ρ ys x R' e; h σ' H' Z' _ x2 R2
    · exact h.elim
  | rt s ρ =>
    unfold unlk at h
    simp only at h
    split at h
    · rename_i ys e
      refine fun v σ' H' Z' O' x R' => ?_
      have hi := (List.getElem?_eq_some_iff.mp e).1
      obtain ⟨x2, R2⟩ := un Z' H' O' _ _ ys x R' (by rw [List.getElem?_append_left hi]; exact e)
      rw [List.set_append_left _ _ hi] at R2
      exact h v σ' H' Z' _ x2 R2
    · exact h.elim
  | bad => exact h
end
/-- for g in xs: .., xs a name: its own list is locked meanwhile -/
def sForV (i : Nat) (g : DG) (b : DS) : DS := fun ρ => match ρ[i]? with
  | some s => match lstOf s with
    | some xs => unlk i s (forL g b xs (ρ.set i (.lck xs)))
    | none => sFor (dIt (dVH (dVar i))) g b ρ
  | none => .bad
section
variable {X : Cx}
theorem st_forV {tg : Expr} {x : Str} {p : Pos} {body : List Stmt} {i : Nat} {g : DG} {b : DS} {ws : List Nat} {pos : Pos} (hp : PassesOwn (model X.prog X.w) X.A X.env X.xe) (hc : X.calm = true) (h0 : PH X (.Name x p) (dVar i)) (hv : PE X (.Name x p) (tVar i)) (hg : PGt X tg g ws) (hb : PSSt X body b)
    (hs : ∀ y, foldedSetIterable (.Name x p) X.env y = pure y := by intro _; rfl) : PSt X (.For tg (.Name x p) body [] pos) (sForV i g b) := PS.imp (PS.or (st_for hp hc (it_val (pv_of h0)) hg hb hs) (ps_for hp hc (pi_list hv) hg hb hs)) fun D σ H ⟨Z, O, C, ρ, R, h⟩ => by
  unfold sForV at h
  cases e : ρ[i]? with
  | none => rw [e] at h; exact h.elim
  | some s =>
    rw [e] at h
    simp only at h
    cases e2 : lstOf s with
    | none => rw [e2] at h; exact .inl ⟨Z, O, C, ρ, R, h⟩
    | some xs =>
      rw [e2] at h
      simp only at h
      right
      obtain ⟨a, vs, ea, r, R2, un⟩ := R.lock e e2
      have hH : H a = some (.lst vs) := R2.ch a _ (by show (if a = a then some (HO.lst vs) else C a) = _; rw [if_pos rfl])
      refine ⟨.ref a, ea, a, rfl, ⟨vs, SqL.of hH⟩, for_run (xs := xs) R2 (walk_l r fun Zc H' z zh c => SqL.of (c a _ (by show (if a = a then some (HO.lst vs) else C a) = _; rw [if_pos rfl]))) (unlk_run un h)⟩
end
end Ev

/-! Ev: what the operations give, on good data (no bools within, ints, texts, None, tuples, lists). -/
namespace Ev
open PySem PySem.Spec PyProof.Rows L2

theorem mulOk_l {i j : Int} (h : -(2 ^ 64) < i ∧ i < 2 ^ 64) : mulOk i j = true := by unfold mulOk; rw [decide_eq_true h.1, decide_eq_true h.2]; rfl
theorem mulOk_r {i j : Int} (h : -(2 ^ 64) < j ∧ j < 2 ^ 64) : mulOk i j = true := by unfold mulOk; rw [decide_eq_true h.1, decide_eq_true h.2, Bool.and_self, Bool.or_true]
theorem mul_l {i j : Int} (h : -(2 ^ 64) < i ∧ i < 2 ^ 64) : mulV (.int i) (.int j) = some (.int (i * j)) := by show (if mulOk i j = true then _ else _) = _; rw [if_pos (mulOk_l h)]
theorem mul_r {i j : Int} (h : -(2 ^ 64) < j ∧ j < 2 ^ 64) : mulV (.int i) (.int j) = some (.int (i * j)) := by show (if mulOk i j = true then _ else _) = _; rw [if_pos (mulOk_r h)]
theorem div_of {i j : Int} (h : 0 < j) (h2 : j < 2 ^ 200) : divV (.int i) (.int j) = some (.int (i / j)) := by
  unfold divV
  have : j.natAbs.log2 < 9000 := by
    have h3 : j.natAbs < 2 ^ 200 := by omega
    have h4 : j.natAbs ≠ 0 := by omega
    have := (Nat.log2_lt h4).mpr h3
    omega
  simp [h, this]
theorem mod_of {i j : Int} (h : 0 < j) : modV (.int i) (.int j) = some (.int (i % j)) := by
  unfold modV
  simp [h]

/-! ### good data -/
mutual
def gd : Val → Bool
  | .non => true
  | .int _ => true
  | .str _ => true
  | .tup xs => gds xs
  | .lst xs => gds xs
  | _ => false
def gds : List Val → Bool
  | [] => true
  | x :: xs => gd x && gds xs
end
mutual
theorem gd_plain : ∀ {x : Val}, gd x = true → x.py.plain = true
  | .non, _ => by simp [Val.py, PyData.plain]
  | .int _, _ => by simp [Val.py, PyData.plain]
  | .str _, _ => by simp [Val.py, PyData.plain]
  | .tup xs, h => by simp only [Val.py, PyData.plain]; exact gds_plain (by simpa [gd] using h)
  | .lst xs, h => by simp only [Val.py, PyData.plain]; exact gds_plain (by simpa [gd] using h)
  | .bl _, h => by simp [gd] at h
  | .ktup _, h => by simp [gd] at h
  | .dK _, h => by simp [gd] at h
  | .dT _, h => by simp [gd] at h
  | .scr _, h => by simp [gd] at h
  | .fn _, h => by simp [gd] at h
theorem gds_plain : ∀ {xs : List Val}, gds xs = true → PyData.plainAll (pys xs) = true
  | [], _ => by simp [pys, PyData.plainAll]
  | x :: xs, h => by
    simp only [gds, Bool.and_eq_true] at h
    simp only [pys, PyData.plainAll, Bool.and_eq_true]
    exact ⟨gd_plain h.1, gds_plain h.2⟩
end
mutual
theorem gd_eqv : ∀ {x y : Val}, gd x = true → gd y = true → (PyData.eqv x.py y.py = true ↔ x = y)
  | .non, y, _, h => by cases y <;> simp [gd] at h <;> simp [Val.py, PyData.eqv]
  | .int i, y, _, h => by cases y <;> simp [gd] at h <;> simp [Val.py, PyData.eqv]
  | .str s, y, _, h => by cases y <;> simp [gd] at h <;> simp [Val.py, PyData.eqv]
  | .tup xs, y, h1, h => by
    cases y <;> simp [gd] at h <;> simp [Val.py, PyData.eqv]
    exact gds_eqv (by simpa [gd] using h1) h
  | .lst xs, y, h1, h => by
    cases y <;> simp [gd] at h <;> simp [Val.py, PyData.eqv]
    exact gds_eqv (by simpa [gd] using h1) h
  | .bl _, _, h, _ => by simp [gd] at h
  | .ktup _, _, h, _ => by simp [gd] at h
  | .dK _, _, h, _ => by simp [gd] at h
  | .dT _, _, h, _ => by simp [gd] at h
  | .scr _, _, h, _ => by simp [gd] at h
  | .fn _, _, h, _ => by simp [gd] at h
theorem gds_eqv : ∀ {xs ys : List Val}, gds xs = true → gds ys = true → (PyData.eqvAll (pys xs) (pys ys) = true ↔ xs = ys)
  | [], [], _, _ => by simp [pys, PyData.eqvAll]
  | [], y :: ys, _, _ => by simp [pys, PyData.eqvAll]
  | x :: xs, [], _, _ => by simp [pys, PyData.eqvAll]
  | x :: xs, y :: ys, h1, h2 => by
    simp only [gds, Bool.and_eq_true] at h1 h2
    simp only [pys, PyData.eqvAll, Bool.and_eq_true, List.cons.injEq, gd_eqv h1.1 h2.1, gds_eqv h1.2 h2.2]
end
open Classical in
theorem gd_eqb {x y : Val} (h1 : gd x = true) (h2 : gd y = true) : PyData.eqv x.py y.py = decide (x = y) := by
  by_cases e : x = y
  · rw [decide_eq_true e, (gd_eqv h1 h2).mpr e]
  · rw [decide_eq_false e]
    cases q : PyData.eqv x.py y.py with
    | false => rfl
    | true => exact absurd ((gd_eqv h1 h2).mp q) e
/-- the depth of a value -/
def dp (x : Val) : Nat := x.py.depth
open Classical in
theorem eqB_gd {x y : Val} (h1 : gd x = true) (h2 : gd y = true) (hd : dp x ≤ 64 ∨ dp y ≤ 64) : eqB x y = some (decide (x = y)) := by
  unfold eqB small2
  have : min x.py.depth y.py.depth ≤ 64 := by unfold dp at hd; omega
  rw [gd_plain h1, gd_plain h2, decide_eq_true this, gd_eqb h1 h2]
  rfl
theorem dp_int (i : Int) : dp (.int i) = 0 := by simp [dp, Val.py, PyData.depth]
theorem dp_str (i : Str) : dp (.str i) = 0 := by simp [dp, Val.py, PyData.depth]
theorem dp_non : dp .non = 0 := by simp [dp, Val.py, PyData.depth]
theorem dp_bl (b : Bool) : dp (.bl b) = 0 := by simp [dp, Val.py, PyData.depth]
theorem depthAll_le {n : Nat} : ∀ {xs : List Val}, (∀ x ∈ xs, dp x ≤ n) → PyData.depthAll (pys xs) ≤ n
  | [], _ => by simp [pys, PyData.depthAll]
  | x :: xs, h => by
    simp only [pys, PyData.depthAll]
    have a := h x List.mem_cons_self
    have b := depthAll_le fun y hy => h y (List.mem_cons_of_mem _ hy)
    unfold dp at a
    omega
theorem dp_tup {n : Nat} {xs : List Val} (h : ∀ x ∈ xs, dp x ≤ n) : dp (.tup xs) ≤ n + 1 := by
  have := depthAll_le h
  simp only [dp, Val.py, PyData.depth]
  omega
theorem dp_lst {n : Nat} {xs : List Val} (h : ∀ x ∈ xs, dp x ≤ n) : dp (.lst xs) ≤ n + 1 := by
  have := depthAll_le h
  simp only [dp, Val.py, PyData.depth]
  omega
/-! comparisons -/
theorem eq_int (i j : Int) : eqV (.int i) (.int j) = some (.bl (decide (i = j))) := by
  simp [eqV, eqB, small2, Val.py, PyData.plain, PyData.depth, PyData.eqv]
  by_cases h : i = j <;> simp [h]
theorem ne_int (i j : Int) : neV (.int i) (.int j) = some (.bl (!decide (i = j))) := by
  simp [neV, eqB, small2, Val.py, PyData.plain, PyData.depth, PyData.eqv]
  by_cases h : i = j <;> simp [h]
theorem cmp_int (i j : Int) : cmpOk (.int i) (.int j) = true := by simp [cmpOk, PySem.W.alike, notNone, small2, PyData.plain, PyData.depth]
theorem lt_int (i j : Int) : ltV (.int i) (.int j) = some (.bl (decide (i < j))) := by simp [ltV, ltB, Val.py, cmp_int, PySem.W.dataLt_int]
theorem gt_int (i j : Int) : gtV (.int i) (.int j) = some (.bl (decide (j < i))) := by simp [gtV, Val.py, cmp_int, PySem.W.dataLt_int]
theorem le_int (i j : Int) : leV (.int i) (.int j) = some (.bl (decide (i ≤ j))) := by
  simp [leV, Val.py, cmp_int, PySem.W.dataLt_int]
  by_cases h : i ≤ j
  · simp [h]
  · simp [h]; omega
theorem ge_int (i j : Int) : geV (.int i) (.int j) = some (.bl (decide (j ≤ i))) := by
  simp [geV, ltB, Val.py, cmp_int, PySem.W.dataLt_int]
  by_cases h : j ≤ i
  · simp [h]
  · simp [h]; omega
open Classical in
theorem eq_gd {x y : Val} (h1 : gd x = true) (h2 : gd y = true) (hd : dp x ≤ 64 ∨ dp y ≤ 64) : eqV x y = some (.bl (decide (x = y))) := by unfold eqV; rw [eqB_gd h1 h2 hd]; rfl
open Classical in
theorem ne_gd {x y : Val} (h1 : gd x = true) (h2 : gd y = true) (hd : dp x ≤ 64 ∨ dp y ≤ 64) : neV x y = some (.bl (!decide (x = y))) := by unfold neV; rw [eqB_gd h1 h2 hd]; rfl

/-! ### places -/
theorem ixN_nat {n i : Nat} (h : i < n) : ixN n (i : Int) = some i := by
  unfold ixN
  rw [if_pos (by omega), if_pos (by omega)]
  simp
theorem atI_nat {α : Type} {xs : List α} {i : Nat} (h : i < xs.length) : atI xs (i : Int) = xs[i]? := by
  unfold atI
  rw [ixN_nat h]
  rfl
theorem atI_int {α : Type} {xs : List α} {i : Int} (h0 : 0 ≤ i) (h : i < xs.length) : atI xs i = xs[i.toNat]? := by
  obtain ⟨k, rfl⟩ := Int.eq_ofNat_of_zero_le h0
  rw [atI_nat (by omega)]
  rfl

/-! ### loops -/
theorem forL_inv {α : Type} {g : DG} {b : DS} (enc : α → Val) (xs : List α) (I : List α → Env → Prop) : ∀ (pre post : List α) (ρ : Env), xs = pre ++ post → I pre ρ →
    (∀ pre a post ρ, xs = pre ++ a :: post → I pre ρ → ∃ ρ1 ρ2, g (enc a) ρ = some ρ1 ∧ (b ρ1 = .nx ρ2 ∨ b ρ1 = .ct ρ2) ∧ I (pre ++ [a]) ρ2) → ∃ ρ', forL g b (post.map enc) ρ = .nx ρ' ∧ I xs ρ'
  | pre, [], ρ, e, h, _ => ⟨ρ, rfl, by rw [e, List.append_nil]; exact h⟩
  | pre, a :: post, ρ, e, h, st => by
    obtain ⟨ρ1, ρ2, h1, h2, h3⟩ := st pre a post ρ e h
    obtain ⟨ρ', h4, h5⟩ := forL_inv enc xs I (pre ++ [a]) post ρ2 (by rw [e]; simp) h3 st
    refine ⟨ρ', ?_, h5⟩
    rw [List.map_cons]
    unfold forL
    rw [h1]
    rcases h2 with h2 | h2 <;> (simp only [h2]; exact h4)
/-- a for that comes to its end -/
theorem forL_all {α : Type} {g : DG} {b : DS} (enc : α → Val) (xs : List α) (I : List α → Env → Prop) {ρ : Env} (h0 : I [] ρ)
    (st : ∀ pre a post ρ, xs = pre ++ a :: post → I pre ρ → ∃ ρ1 ρ2, g (enc a) ρ = some ρ1 ∧ (b ρ1 = .nx ρ2 ∨ b ρ1 = .ct ρ2) ∧ I (pre ++ [a]) ρ2) : ∃ ρ', forL g b (xs.map enc) ρ = .nx ρ' ∧ I xs ρ' :=
  forL_inv enc xs I [] xs ρ rfl h0 st
/-- a for that may answer -/
theorem forL_ret {α : Type} {g : DG} {b : DS} (enc : α → Val) (xs : List α) (I : List α → Env → Prop) (F : Sl → Env → Prop) : ∀ (pre post : List α) (ρ : Env), xs = pre ++ post → I pre ρ →
    (∀ pre a post ρ, xs = pre ++ a :: post → I pre ρ → ∃ ρ1, g (enc a) ρ = some ρ1 ∧ ((∃ ρ2, (b ρ1 = .nx ρ2 ∨ b ρ1 = .ct ρ2) ∧ I (pre ++ [a]) ρ2) ∨ ∃ s ρ2, b ρ1 = .rt s ρ2 ∧ F s ρ2)) →
    (∃ ρ', forL g b (post.map enc) ρ = .nx ρ' ∧ I xs ρ') ∨ ∃ s ρ', forL g b (post.map enc) ρ = .rt s ρ' ∧ F s ρ'
  | pre, [], ρ, e, h, _ => .inl ⟨ρ, rfl, by rw [e, List.append_nil]; exact h⟩
  | pre, a :: post, ρ, e, h, st => by
    obtain ⟨ρ1, h1, h2⟩ := st pre a post ρ e h
    rw [List.map_cons]
    unfold forL
    rw [h1]
    rcases h2 with ⟨ρ2, h2, h3⟩ | ⟨s, ρ2, h2, h3⟩
    · have := forL_ret enc xs I F (pre ++ [a]) post ρ2 (by rw [e]; simp) h3 st
      rcases h2 with h2 | h2 <;> (simp only [h2]; exact this)
    · simp only [h2]
      exact .inr ⟨s, ρ2, rfl, h3⟩
/-- a comprehension's turns, each of which leaves the environment's word true: the items that come are told by F -/
theorem lcL_inv {α : Type} {g : DG} {t : DT} {e : DV} {vs : List Nat} (enc : α → Val) (I : Env → Prop) (F : α → List Val → Prop) : ∀ (xs : List α) (ρ : Env), I ρ →
    (∀ a, a ∈ xs → ∀ ρ, I ρ → ∃ ρ1 b ρ2, g (enc a) ρ = some ρ1 ∧ t ρ1 = .ok (b, ρ2) ∧ ((b = true ∧ ∃ y ρ3, e ρ2 = .ok (y, ρ3) ∧ I (wipeE ρ3 vs) ∧ F a [y]) ∨ (b = false ∧ I (wipeE ρ2 vs) ∧ F a []))) →
    ∃ yss ρ', lcL g t e vs (xs.map enc) ρ = some (yss.flatten, ρ') ∧ I ρ' ∧ Paired F xs yss
  | [], ρ, h, _ => ⟨[], ρ, rfl, h, .nil⟩
  | a :: xs, ρ, h, st => by
    obtain ⟨ρ1, b, ρ2, h1, h2, h3⟩ := st a List.mem_cons_self ρ h
    rw [List.map_cons]
    unfold lcL
    rw [h1]
    simp only [h2]
    rcases h3 with ⟨rfl, y, ρ3, h4, h5, h6⟩ | ⟨rfl, h5, h6⟩
    · obtain ⟨yss, ρ', k1, k2, k3⟩ := lcL_inv enc I F xs (wipeE ρ3 vs) h5 fun c hc => st c (List.mem_cons_of_mem _ hc)
      refine ⟨[y] :: yss, ρ', ?_, k2, .cons h6 k3⟩
      simp only [h4, k1]
      rfl
    · obtain ⟨yss, ρ', k1, k2, k3⟩ := lcL_inv enc I F xs (wipeE ρ2 vs) h5 fun c hc => st c (List.mem_cons_of_mem _ hc)
      exact ⟨[] :: yss, ρ', by simp only [k1]; rfl, k2, .cons h6 k3⟩
/-- .. that leaves the environment as it is -/
theorem lcL_map {α : Type} {g : DG} {t : DT} {e : DV} {vs : List Nat} (enc : α → Val) (p : α → Bool) (f : α → Val) (ρ : Env) : ∀ (xs : List α),
    (∀ a, a ∈ xs → ∃ ρ1 ρ2, g (enc a) ρ = some ρ1 ∧ t ρ1 = .ok (p a, ρ2) ∧ (if p a = true then ∃ ρ3, e ρ2 = .ok (f a, ρ3) ∧ wipeE ρ3 vs = ρ else wipeE ρ2 vs = ρ)) →
    lcL g t e vs (xs.map enc) ρ = some ((xs.filter p).map f, ρ)
  | [], _ => rfl
  | a :: xs, st => by
    obtain ⟨ρ1, ρ2, h1, h2, h3⟩ := st a List.mem_cons_self
    have ih := lcL_map enc p f ρ xs fun c hc => st c (List.mem_cons_of_mem _ hc)
    rw [List.map_cons]
    unfold lcL
    rw [h1]
    simp only [h2]
    cases hp : p a with
    | true =>
      rw [hp, if_pos rfl] at h3
      obtain ⟨ρ3, h4, h5⟩ := h3
      simp only [h4, h5, ih, List.filter_cons, hp]
      rfl
    | false =>
      rw [hp, if_neg (by decide)] at h3
      simp only [h3, ih, List.filter_cons, hp]
      rfl
end Ev
namespace Ev
open PySem PySem.Spec PyProof.Rows L2
theorem add_int (i j : Int) : addV (.int i) (.int j) = some (.int (i + j)) := rfl
theorem sub_int (i j : Int) : subV (.int i) (.int j) = some (.int (i - j)) := rfl
theorem ixl (xs : List Val) (i : Int) : ixV (.lst xs) (.int i) = atI xs i := rfl
theorem ixt (xs : List Val) (i : Int) : ixV (.tup xs) (.int i) = atI xs i := rfl
theorem len_lst (xs : List Val) : lenV (.lst xs) = some (.int xs.length) := rfl
theorem len_tup (xs : List Val) : lenV (.tup xs) = some (.int xs.length) := rfl
theorem len_scr (xs : List Int) : lenV (.scr xs) = some (.int xs.length) := by first | rfl | simp [lenV]
theorem int_int (i : Int) : intV (.int i) = some (.int i) := rfl
theorem at0 {α : Type} (a : α) (xs : List α) : atI (a :: xs) (0 : Int) = some a := by rw [atI_int (by decide) (by simp)]; rfl
theorem at1 {α : Type} (a b : α) (xs : List α) : atI (a :: b :: xs) (1 : Int) = some b := by rw [atI_int (by decide) (by simp; omega)]; rfl
theorem at2 {α : Type} (a b c : α) (xs : List α) : atI (a :: b :: c :: xs) (2 : Int) = some c := by rw [atI_int (by decide) (by simp; omega)]; rfl
theorem at3 {α : Type} (a b c d : α) (xs : List α) : atI (a :: b :: c :: d :: xs) (3 : Int) = some d := by rw [atI_int (by decide) (by simp; omega)]; rfl
end Ev

/-! Ev: comprehensions with their environment, membership, sorted lists. -/
namespace Ev
open PySem PySem.Spec PyProof.Rows L2

theorem seq_nx {a b : DS} {ρ ρ' : Env} (h : a ρ = .nx ρ') : sSeq a b ρ = b ρ' := by unfold sSeq; rw [h]
theorem seq_rt {a b : DS} {ρ ρ' : Env} {s : Sl} (h : a ρ = .rt s ρ') : sSeq a b ρ = .rt s ρ' := by unfold sSeq; rw [h]
theorem if_t {c : DT} {a b : DS} {ρ ρ' : Env} (h : c ρ = .ok (true, ρ')) : sIf c a b ρ = a ρ' := by unfold sIf; rw [h]
theorem if_f {c : DT} {a b : DS} {ρ ρ' : Env} (h : c ρ = .ok (false, ρ')) : sIf c a b ρ = b ρ' := by unfold sIf; rw [h]
theorem for_eq {it : DI} {g : DG} {b : DS} {ρ ρ' : Env} {xs : List Val} (h : it ρ = .ok (xs, ρ')) : sFor it g b ρ = forL g b xs ρ' := by unfold sFor; rw [h]
theorem lc_eq {it : DI} {g : DG} {t : DT} {e : DV} {vs : List Nat} {ρ ρ1 ρ2 : Env} {xs ys : List Val} (h : it ρ = .ok (xs, ρ1)) (hl : xs.length ≤ sizeLine) (h2 : lcL g t e vs xs (wipeE ρ1 vs) = some (ys, ρ2)) : dLc it g t e vs ρ = .ok (.own ys, rest ρ1 vs ρ2) := by
  unfold dLc
  rw [h]
  simp only [h2, if_pos hl]

/-- a comprehension's turns with a word of what was gone through, what came and the environment -/
theorem lcL_go {α : Type} {g : DG} {t : DT} {e : DV} {vs : List Nat} (enc : α → Val) (xs : List α) (I : List α → List Val → Env → Prop) : ∀ (pre post : List α) (out : List Val) (ρ : Env), xs = pre ++ post → I pre out ρ →
    (∀ pre a post out ρ, xs = pre ++ a :: post → I pre out ρ → ∃ ρ1 b ρ2, g (enc a) ρ = some ρ1 ∧ t ρ1 = .ok (b, ρ2) ∧ ((b = true ∧ ∃ y ρ3, e ρ2 = .ok (y, ρ3) ∧ I (pre ++ [a]) (out ++ [y]) (wipeE ρ3 vs)) ∨ (b = false ∧ I (pre ++ [a]) out (wipeE ρ2 vs)))) →
    ∃ ys ρ', lcL g t e vs (post.map enc) ρ = some (ys, ρ') ∧ I xs (out ++ ys) ρ'
  | pre, [], out, ρ, e, h, _ => ⟨[], ρ, rfl, by rw [e, List.append_nil, List.append_nil]; exact h⟩
  | pre, a :: post, out, ρ, e, h, st => by
    obtain ⟨ρ1, b, ρ2, h1, h2, h3⟩ := st pre a post out ρ e h
    rw [List.map_cons]
    unfold lcL
    rw [h1]
    simp only [h2]
    rcases h3 with ⟨rfl, y, ρ3, h4, h5⟩ | ⟨rfl, h5⟩
    · obtain ⟨ys, ρ', k1, k2⟩ := lcL_go enc xs I (pre ++ [a]) post (out ++ [y]) (wipeE ρ3 vs) (by rw [e]; simp) h5 st
      refine ⟨y :: ys, ρ', by simp only [h4, k1]; rfl, ?_⟩
      rw [List.append_assoc] at k2
      exact k2
    · obtain ⟨ys, ρ', k1, k2⟩ := lcL_go enc xs I (pre ++ [a]) post out (wipeE ρ2 vs) (by rw [e]; simp) h5 st
      exact ⟨ys, ρ', by simp only [k1], k2⟩
theorem lcL_all {α : Type} {g : DG} {t : DT} {e : DV} {vs : List Nat} (enc : α → Val) (xs : List α) (I : List α → List Val → Env → Prop) {ρ : Env} (h0 : I [] [] ρ)
    (st : ∀ pre a post out ρ, xs = pre ++ a :: post → I pre out ρ → ∃ ρ1 b ρ2, g (enc a) ρ = some ρ1 ∧ t ρ1 = .ok (b, ρ2) ∧ ((b = true ∧ ∃ y ρ3, e ρ2 = .ok (y, ρ3) ∧ I (pre ++ [a]) (out ++ [y]) (wipeE ρ3 vs)) ∨ (b = false ∧ I (pre ++ [a]) out (wipeE ρ2 vs)))) :
    ∃ ys ρ', lcL g t e vs (xs.map enc) ρ = some (ys, ρ') ∧ I xs ys ρ' := by
  obtain ⟨ys, ρ', h1, h2⟩ := lcL_go enc xs I [] xs [] ρ rfl h0 st
  exact ⟨ys, ρ', h1, by simpa using h2⟩

/-! ### membership -/
def eqvs (x : Val) (ys : List Val) : Bool := (pys ys).any fun d => PyData.eqv d x.py
open Classical in
theorem any_eqv {x : Val} (hx : gd x = true) : ∀ {ys : List Val}, gds ys = true → ((ys.map Val.py).any fun d => PyData.eqv x.py d) = decide (x ∈ ys)
  | [], _ => by simp
  | y :: ys, h => by
    simp only [gds, Bool.and_eq_true] at h
    rw [List.map_cons, List.any_cons, any_eqv hx h.2, gd_eqb hx h.1]
    by_cases e : x = y <;> simp [e]
open Classical in
theorem any_eqv' {x : Val} (hx : gd x = true) : ∀ {ys : List Val}, gds ys = true → ((ys.map Val.py).any fun d => PyData.eqv d x.py) = decide (x ∈ ys)
  | [], _ => by simp
  | y :: ys, h => by
    simp only [gds, Bool.and_eq_true] at h
    rw [List.map_cons, List.any_cons, any_eqv' hx h.2, gd_eqb h.1 hx]
    by_cases e : y = x
    · subst e; simp
    · simp [e, Ne.symm e]
theorem gds_all {xs : List Val} : gds xs = true ↔ ∀ x ∈ xs, gd x = true := by
  induction xs with
  | nil => simp [gds]
  | cons x xs ih => simp [gds, ih]
/-! ### sorted -/
def srt {α : Type} (f : α → Val) (xs : List α) : List α := xs.mergeSort fun a b => PySem.W.dataLe false Val.py (f a) (f b)
theorem sortedL_map {α : Type} (f : α → Val) (xs : List α) : sortedL (xs.map f) = (srt f xs).map f := by
  unfold sortedL srt
  rw [List.map_mergeSort]
  intro a _ b _
  rfl
theorem srt_perm {α : Type} (f : α → Val) (xs : List α) : (srt f xs).Perm xs := List.mergeSort_perm _ _
theorem alikeOk_map {α : Type} (f : α → Val) (xs : List α) (h : ∀ a b, PySem.W.alike (f a).py (f b).py = true) : alikeOk ((xs.map f).map Val.py) = true := by
  refine List.all_eq_true.mpr fun d hd => List.all_eq_true.mpr fun d' hd' => ?_
  obtain ⟨y, hy, rfl⟩ := List.mem_map.mp hd
  obtain ⟨a, _, rfl⟩ := List.mem_map.mp hy
  obtain ⟨y', hy', rfl⟩ := List.mem_map.mp hd'
  obtain ⟨b, _, rfl⟩ := List.mem_map.mp hy'
  exact h a b
theorem sortOk_map {α : Type} (f : α → Val) (xs : List α) (h : ∀ a b, PySem.W.alike (f a).py (f b).py = true) (hp : ∀ a, (f a).py.plain = true ∧ (f a).py.depth ≤ 64) (hk : (∀ a, isTupD (f a).py = true) ∨ ∀ a, isOthD (f a).py = true) (hl : xs.length ≤ sizeLine) : sortOk (xs.map f) = true := by
  unfold sortOk
  rw [alikeOk_map f xs h, Bool.and_true, List.length_map, decide_eq_true hl, Bool.and_true]
  rw [Bool.and_eq_true]
  refine ⟨List.all_eq_true.mpr fun y hy => ?_, ?_⟩
  · obtain ⟨a, _, rfl⟩ := List.mem_map.mp hy
    rw [(hp a).1, decide_eq_true (hp a).2]
    rfl
  · rw [Bool.or_eq_true]
    rcases hk with hk | hk
    · refine .inl (List.all_eq_true.mpr fun d hd => ?_)
      obtain ⟨y, hy, rfl⟩ := List.mem_map.mp hd
      obtain ⟨a, _, rfl⟩ := List.mem_map.mp hy
      exact hk a
    · refine .inr (List.all_eq_true.mpr fun d hd => ?_)
      obtain ⟨y, hy, rfl⟩ := List.mem_map.mp hd
      obtain ⟨a, _, rfl⟩ := List.mem_map.mp hy
      exact hk a
theorem sortOk_ints (xs : List Int) (h : xs.length ≤ sizeLine) : sortOk (xs.map .int) = true :=
  sortOk_map Val.int xs (fun a b => by simp [Val.py, PySem.W.alike]) (fun a => by simp [Val.py, PyData.plain, PyData.depth]) (.inr fun a => by simp [Val.py, isOthD]) h
def prV (p : Int × Int) : Val := .tup [.int p.1, .int p.2]
theorem prV_py (p : Int × Int) : (prV p).py = .tuple [.int p.1, .int p.2] := by simp [prV, Val.py, pys]
theorem sortOk_prs (xs : List (Int × Int)) (h : xs.length ≤ sizeLine) : sortOk (xs.map prV) = true :=
  sortOk_map prV xs (fun a b => by rw [prV_py, prV_py]; simp [PySem.W.alike, PySem.W.alikeAll]) (fun a => by rw [prV_py]; simp [PyData.plain, PyData.plainAll, PyData.depth, PyData.depthAll]) (.inl fun a => by rw [prV_py]; simp [isTupD]) h
theorem sort_ints (xs : List Int) (h : xs.length ≤ sizeLine) : sortV (.lst (xs.map .int)) = some ((srt Val.int xs).map .int) := by
  show (if sortOk (xs.map .int) = true then _ else _) = _
  rw [if_pos (sortOk_ints xs h), sortedL_map]
theorem sort_prs (xs : List (Int × Int)) (h : xs.length ≤ sizeLine) : sortV (.lst (xs.map prV)) = some ((srt prV xs).map prV) := by
  show (if sortOk (xs.map prV) = true then _ else _) = _
  rw [if_pos (sortOk_prs xs h), sortedL_map]

/-! membership by value -/
theorem in_of {x : Val} {ys : List Val} {b : Bool} (hx : gd x = true) (hy : gds ys = true) (hd : PyData.depthAll (pys ys) ≤ 64 ∨ dp x ≤ 64) (hb : b = true ↔ x ∈ ys) : (inB x (.lst ys) = some b) ∧ inB x (.tup ys) = some b := by
  have h1 : ((pys ys).any fun y => PyData.eqv y x.py) = b := by
    rw [pys_map, any_eqv' hx hy]
    cases b with
    | true => exact @decide_eq_true _ (_) (hb.mp rfl)
    | false => exact @decide_eq_false _ (_) fun z => by have := hb.mpr z; cases this
  have h2 : decide (min (PyData.depthAll (pys ys)) x.py.depth ≤ 64) = true := by
    refine decide_eq_true ?_
    unfold dp at hd
    omega
  have h3 : (x.py.plain && PyData.plainAll (pys ys) && decide (min (PyData.depthAll (pys ys)) x.py.depth ≤ 64)) = true := by rw [gd_plain hx, gds_plain hy, h2]; rfl
  constructor
  · show (if _ then _ else _) = _
    rw [if_pos h3, h1]
  · show (if _ then _ else _) = _
    rw [if_pos h3, h1]
theorem eqB_b {x y : Val} {b : Bool} (h1 : gd x = true) (h2 : gd y = true) (hd : dp x ≤ 64 ∨ dp y ≤ 64) (hb : b = true ↔ x = y) : eqB x y = some b := by
  rw [eqB_gd h1 h2 hd]
  cases b with
  | true => exact congrArg some (@decide_eq_true _ (_) (hb.mp rfl))
  | false => exact congrArg some (@decide_eq_false _ (_) fun z => by have := hb.mpr z; cases this)
theorem gds_ints (xs : List Int) : gds (xs.map .int) = true := gds_all.mpr fun x hx => by obtain ⟨a, _, rfl⟩ := List.mem_map.mp hx; rfl
theorem gd_pr (p : Int × Int) : gd (prV p) = true := by simp [prV, gd, gds]
theorem gds_prs (xs : List (Int × Int)) : gds (xs.map prV) = true := gds_all.mpr fun x hx => by obtain ⟨a, _, rfl⟩ := List.mem_map.mp hx; exact gd_pr a
theorem dp_pr (p : Int × Int) : dp (prV p) = 1 := by unfold dp; rw [prV_py]; simp [PyData.depth, PyData.depthAll]
theorem int_mem (x : Int) (xs : List Int) : Val.int x ∈ xs.map Val.int ↔ x ∈ xs := by
  constructor
  · intro h; obtain ⟨a, h1, h2⟩ := List.mem_map.mp h; cases h2; exact h1
  · exact fun h => List.mem_map.mpr ⟨x, h, rfl⟩
theorem pr_inj {p q : Int × Int} (h : prV p = prV q) : p = q := by
  obtain ⟨a, b⟩ := p
  obtain ⟨c, d⟩ := q
  simp [prV] at h
  rw [h.1, h.2]
theorem pr_mem (x : Int × Int) (xs : List (Int × Int)) : prV x ∈ xs.map prV ↔ x ∈ xs := by
  constructor
  · intro h; obtain ⟨a, h1, h2⟩ := List.mem_map.mp h; rw [← pr_inj h2]; exact h1
  · exact fun h => List.mem_map.mpr ⟨x, h, rfl⟩
theorem in_ints (x : Int) (xs : List Int) : inV (.int x) (.lst (xs.map .int)) = some (.bl (decide (x ∈ xs))) ∧ inV (.int x) (.tup (xs.map .int)) = some (.bl (decide (x ∈ xs))) ∧
    ninV (.int x) (.lst (xs.map .int)) = some (.bl (!decide (x ∈ xs))) ∧ ninV (.int x) (.tup (xs.map .int)) = some (.bl (!decide (x ∈ xs))) := by
  have h := in_of (x := .int x) (ys := xs.map .int) (b := decide (x ∈ xs)) rfl (gds_ints xs) (.inr (by rw [dp_int]; omega)) (by rw [decide_eq_true_iff]; exact (int_mem x xs).symm)
  unfold inV ninV
  rw [h.1, h.2]
  exact ⟨rfl, rfl, rfl, rfl⟩
theorem in_prs (x : Int × Int) (xs : List (Int × Int)) : inV (prV x) (.lst (xs.map prV)) = some (.bl (decide (x ∈ xs))) ∧ inV (prV x) (.tup (xs.map prV)) = some (.bl (decide (x ∈ xs))) ∧
    ninV (prV x) (.lst (xs.map prV)) = some (.bl (!decide (x ∈ xs))) ∧ ninV (prV x) (.tup (xs.map prV)) = some (.bl (!decide (x ∈ xs))) := by
  have h := in_of (x := prV x) (ys := xs.map prV) (b := decide (x ∈ xs)) (gd_pr x) (gds_prs xs) (.inr (by rw [dp_pr]; omega)) (by rw [decide_eq_true_iff]; exact (pr_mem x xs).symm)
  unfold inV ninV
  rw [h.1, h.2]
  exact ⟨rfl, rfl, rfl, rfl⟩
/-! all, any -/
theorem all_bls (bs : List Bool) : allV (.lst (bs.map .bl)) = some (.bl (bs.all id)) := by
  show (boolsOf (bs.map .bl)).map _ = _
  rw [boolsOf_map]
  rfl
theorem any_bls (bs : List Bool) : anyV (.lst (bs.map .bl)) = some (.bl (bs.any id)) := by
  show (boolsOf (bs.map .bl)).map _ = _
  rw [boolsOf_map]
  rfl
end Ev
namespace Ev
open PySem PySem.Spec PyProof.Rows L2
theorem lcO_map {α : Type} {g : DG} {t : DT} {f : Env → Option (List Val × Env)} {vs : List Nat} (enc : α → Val) (ys : α → List Val) (ρ : Env) : ∀ (xs : List α),
    (∀ a, a ∈ xs → ∃ ρ1 ρ2 ρ3, g (enc a) ρ = some ρ1 ∧ t ρ1 = .ok (true, ρ2) ∧ f ρ2 = some (ys a, ρ3) ∧ wipeE ρ3 vs = ρ) →
    lcO g t f vs (xs.map enc) ρ = some (xs.flatMap ys, ρ)
  | [], _ => rfl
  | a :: xs, st => by
    obtain ⟨ρ1, ρ2, ρ3, h1, h2, h3, h4⟩ := st a List.mem_cons_self
    have ih := lcO_map enc ys ρ xs fun c hc => st c (List.mem_cons_of_mem _ hc)
    rw [List.map_cons]
    unfold lcO
    rw [h1]
    simp only [h2, h3, h4, ih]
    rfl
theorem lc2_eq {it it1 : DI} {g g1 : DG} {t t1 : DT} {e : DV} {vs vs1 : List Nat} {ρ ρ1 ρ2 : Env} {xs ys : List Val} (h : it ρ = .ok (xs, ρ1)) (h2 : lcO g t (lcL2 it1 g1 t1 e vs1) vs xs (wipeE ρ1 vs) = some (ys, ρ2)) (hl : ys.length ≤ sizeLine) : dLc2 it g t it1 g1 t1 e vs vs1 ρ = .ok (.own ys, rest ρ1 vs ρ2) := by
  unfold dLc2
  rw [h]
  simp only [h2, if_pos hl]
theorem lcL2_eq {it1 : DI} {g1 : DG} {t1 : DT} {e : DV} {vs1 : List Nat} {ρ ρ1 ρ2 : Env} {xs ys : List Val} (h : it1 ρ = .ok (xs, ρ1)) (hl : xs.length ≤ sizeLine) (h2 : lcL g1 t1 e vs1 xs (wipeE ρ1 vs1) = some (ys, ρ2)) : lcL2 it1 g1 t1 e vs1 ρ = some (ys, rest ρ1 vs1 ρ2) := by
  unfold lcL2
  rw [h]
  simp only [h2, if_pos hl]
  rfl
theorem rOk_of {i : Int} (h : -(2 ^ 62) ≤ i ∧ i < 2 ^ 62) : rOk i = true := decide_eq_true h
/-- range(n), range(a, n) in a for -/
theorem rg1 {d : DV} {ρ ρ' : Env} {n : Int} (h : d ρ = .ok (.int n, ρ')) (hn : -(2 ^ 62) ≤ n ∧ n < 2 ^ 62) : dRg (dR1 d) ρ = .ok ((rangeI 0 n).map .int, ρ') := by
  unfold dRg dR1
  rw [h]
  simp only [Out.bind]
  rw [rOk_of hn]
  rfl
theorem rg2 {a b : DV} {ρ ρ1 ρ2 : Env} {m n : Int} (h : a ρ = .ok (.int m, ρ1)) (h2 : b ρ1 = .ok (.int n, ρ2)) (hm : -(2 ^ 62) ≤ m ∧ m < 2 ^ 62) (hn : -(2 ^ 62) ≤ n ∧ n < 2 ^ 62) : dRg (dR2 a b) ρ = .ok ((rangeI m n).map .int, ρ2) := by
  unfold dRg dR2
  rw [h]
  simp only [Out.bind, h2]
  rw [rOk_of hn, rOk_of hm]
  rfl
theorem mem_rangeI {a b x : Int} : x ∈ rangeI a b ↔ a ≤ x ∧ x < b := by
  unfold rangeI
  rw [List.mem_map]
  constructor
  · rintro ⟨i, hi, rfl⟩
    have := List.mem_range.mp hi
    omega
  · rintro ⟨h1, h2⟩
    exact ⟨(x - a).toNat, List.mem_range.mpr (by omega), by omega⟩
theorem length_rangeI (a b : Int) : (rangeI a b).length = (b - a).toNat := by simp [rangeI]
theorem sizeLine_big : 2 ^ 20 ≤ sizeLine := by decide
end Ev
namespace Ev
open PySem PySem.Spec PyProof.Rows L2
theorem lcL_map1 {α : Type} {g : DG} {t : DT} {e : DV} {vs : List Nat} (enc : α → Val) (f : α → Val) (ρ : Env) (xs : List α)
    (st : ∀ a, a ∈ xs → ∃ ρ1 ρ2 ρ3, g (enc a) ρ = some ρ1 ∧ t ρ1 = .ok (true, ρ2) ∧ e ρ2 = .ok (f a, ρ3) ∧ wipeE ρ3 vs = ρ) : lcL g t e vs (xs.map enc) ρ = some (xs.map f, ρ) := by
  have h := lcL_map (g := g) (t := t) (e := e) (vs := vs) enc (fun _ => true) f ρ xs fun a ha => by
    obtain ⟨ρ1, ρ2, ρ3, h1, h2, h3, h4⟩ := st a ha
    exact ⟨ρ1, ρ2, h1, h2, by rw [if_pos rfl]; exact ⟨ρ3, h3, h4⟩⟩
  rw [List.filter_eq_self.mpr fun _ _ => rfl] at h
  exact h
theorem all_map {α : Type} (p : α → Bool) (xs : List α) : allV (.lst (xs.map fun a => .bl (p a))) = some (.bl (xs.all p)) := by
  have := all_bls (xs.map p)
  rw [List.map_map] at this
  rw [show (xs.map fun a => Val.bl (p a)) = xs.map (Val.bl ∘ p) from rfl, this, List.all_map]
  rfl
theorem any_map {α : Type} (p : α → Bool) (xs : List α) : anyV (.lst (xs.map fun a => .bl (p a))) = some (.bl (xs.any p)) := by
  have := any_bls (xs.map p)
  rw [List.map_map] at this
  rw [show (xs.map fun a => Val.bl (p a)) = xs.map (Val.bl ∘ p) from rfl, this, List.any_map]
  rfl
end Ev

/-! Ev: each word's meaning, with the environment written. -/
namespace Ev
open PySem PySem.Spec PyProof.Rows L2
theorem ob_ok {α β : Type} (a : α) (f : α → Out β) : Out.bind (.ok a) f = f a := rfl
theorem oo_s {α : Type} (a : α) : Out.of (some a) = .ok a := rfl
theorem de_v (ρ : Env) (x : Val) : deref ρ (.val x) = some x := rfl
theorem de_s (ρ : Env) (i : Nat) : deref ρ (.slot i) = (match ρ[i]? with
  | some s => s.view
  | none => none) := rfl
theorem ds_n (ρ : Env) : derefs ρ [] = some [] := rfl
theorem ds_c (ρ : Env) (h : Hd) (hs : List Hd) : derefs ρ (h :: hs) = (deref ρ h).bind fun x => (derefs ρ hs).map fun xs => x :: xs := rfl
theorem ts_n (ρ : Env) : takes ρ [] = some ([], ρ) := rfl
theorem ts_c (ρ : Env) (h : Hd) (hs : List Hd) : takes ρ (h :: hs) = (takeV h ρ).bind fun p => (takes p.2 hs).map fun q => (p.1 :: q.1, q.2) := rfl
theorem tv_v (ρ : Env) (x : Val) : takeV (.val x) ρ = some (x, ρ) := rfl
theorem tv_s (ρ : Env) (i : Nat) : takeV (.slot i) ρ = (match ρ[i]? with
  | some s => match frOf s with
    | some x => some (x, ρ.set i (.fz x))
    | none => none
  | none => none) := rfl
theorem fl_rt (np : Nat) (rf : Option Nat) (s : Sl) (ρ : Env) : flRes np rf (.rt s ρ) = (match parOf np rf ρ with
    | some t => if notNo s then .ok (s, t) else .bad
    | none => .bad) := rfl
theorem fl_nx (np : Nat) (rf : Option Nat) (ρ : Env) : flRes np rf (.nx ρ) = (match parOf np rf ρ with
    | some t => .ok (.fz .non, t)
    | none => .bad) := rfl
def Out.fl {α : Type} (x : Out α) (f : α → Fl) : Fl := match x with
  | .ok a => f a
  | _ => .bad
theorem fo_ok {α : Type} (a : α) (f : α → Fl) : Out.fl (.ok a) f = f a := rfl
def Fl.thn (x : Fl) (f : Env → Fl) : Fl := match x with
  | .nx ρ => f ρ
  | y => y
theorem th_nx (ρ : Env) (f : Env → Fl) : Fl.thn (.nx ρ) f = f ρ := rfl
theorem th_rt (s : Sl) (ρ : Env) (f : Env → Fl) : Fl.thn (.rt s ρ) f = .rt s ρ := rfl
theorem th_bk (ρ : Env) (f : Env → Fl) : Fl.thn (.bk ρ) f = .bk ρ := rfl
theorem th_ct (ρ : Env) (f : Env → Fl) : Fl.thn (.ct ρ) f = .ct ρ := rfl
theorem x_sSeq (a b : DS) (ρ : Env) : sSeq a b ρ = (a ρ).thn b := by unfold sSeq Fl.thn; cases a ρ <;> rfl
theorem x_sIf (c : DT) (a b : DS) (ρ : Env) : sIf c a b ρ = (c ρ).fl fun p => if p.1 = true then a p.2 else b p.2 := by
  unfold sIf Out.fl
  rcases c ρ with ⟨⟨_ | _, _⟩⟩ | _ | _ <;> rfl
theorem x_sDrop (d : DO) (ρ : Env) : sDrop d ρ = (d ρ).fl fun p => .nx p.2 := by unfold sDrop Out.fl; rcases d ρ with ⟨⟨_, _⟩⟩ | _ | _ <;> rfl
theorem x_sRet (d : DO) (ρ : Env) : sRet d ρ = (d ρ).fl fun p => .rt p.1 p.2 := by unfold sRet Out.fl; rcases d ρ with ⟨⟨_, _⟩⟩ | _ | _ <;> rfl
theorem x_sSet (i : Nat) (d : DO) (ρ : Env) : sSet i d ρ = (d ρ).fl fun p => asg i p.1 p.2 := by unfold sSet Out.fl; rcases d ρ with ⟨⟨_, _⟩⟩ | _ | _ <;> rfl
def Opt.fl {α : Type} (x : Option α) (f : α → Fl) : Fl := match x with
  | some a => f a
  | none => .bad
theorem op_s {α : Type} (a : α) (f : α → Fl) : Opt.fl (some a) f = f a := rfl
theorem x_sAsg (d : DV) (g : DG) (ρ : Env) : sAsg d g ρ = (d ρ).fl fun p => Opt.fl (g p.1 p.2) .nx := by
  unfold sAsg Out.fl
  rcases d ρ with ⟨⟨x, r⟩⟩ | _ | _
  · show (match g x r with | some ρ2 => Fl.nx ρ2 | none => .bad) = Opt.fl (g x r) .nx
    unfold Opt.fl
    cases g x r <;> rfl
  · rfl
  · rfl
theorem x_sPut (i : Nat) (di dv : DV) (ρ : Env) : sPut i di dv ρ = (dv ρ).fl fun p => Opt.fl ((p.2[i]?).bind lstOf) fun _ => (di p.2).fl fun q => Opt.fl (q.2[i]?) fun s => Opt.fl ((lstOf s).bind fun ys => putV ys q.1 p.1) fun ys => .nx (q.2.set i (setL s ys)) := by
  unfold sPut Out.fl Opt.fl
  rcases dv ρ with ⟨⟨x, r⟩⟩ | _ | _
  · simp only
    cases h1 : (r[i]?).bind lstOf with
    | none => rfl
    | some _ =>
      simp only
      rcases di r with ⟨⟨k, r2⟩⟩ | _ | _
      · simp only
        cases h2 : r2[i]? with
        | none => rfl
        | some s =>
          simp only
          cases h3 : (lstOf s).bind fun ys => putV ys k x <;> rfl
      · rfl
      · rfl
  · rfl
  · rfl
theorem x_sPar (i j : Nat) (d : DA) (ρ : Env) : sPar i j d ρ = (d ρ).fl fun p => Opt.fl (takes p.2 p.1) fun q => match q.1 with
    | [x, y] => if i < q.2.length ∧ j < q.2.length then .nx ((q.2.set i (.fz x)).set j (.fz y)) else .bad
    | _ => .bad := by
  unfold sPar Out.fl Opt.fl
  rcases d ρ with ⟨⟨hs, r⟩⟩ | _ | _
  · simp only
    cases h : takes r hs with
    | none => rfl
    | some q =>
      obtain ⟨xs, r2⟩ := q
      rcases xs with _ | ⟨x, _ | ⟨y, _ | ⟨z, t⟩⟩⟩ <;> rfl
  · rfl
  · rfl
theorem x_dHV (d : DV) (ρ : Env) : dHV d ρ = ((d ρ).bind fun p => .ok (.val p.1, p.2)) := by rfl
theorem x_dVar (i : Nat) (ρ : Env) : dVar i ρ = (match ρ[i]? with
    | some (.fz x) => .ok (.val x, ρ)
    | some (.own _) => .ok (.slot i, ρ)
    | some (.par _) => .ok (.slot i, ρ)
    | some (.odK _) => .ok (.slot i, ρ)
    | some (.odT _) => .ok (.slot i, ρ)
    | some (.lck _) => .ok (.slot i, ρ)
    | some (.box _ _ _) => .ok (.slot i, ρ)
    | some (.own2 _) => .ok (.slot i, ρ)
    | _ => .bad) := by rfl
theorem x_dC (x : Val) (ρ : Env) : dC x ρ = (.ok (x, ρ)) := by rfl
theorem x_dVH (d : DH) (ρ : Env) : dVH d ρ = ((d ρ).bind fun p => Out.of (takeV p.1 p.2)) := by rfl
theorem x_dIt (d : DV) (ρ : Env) : dIt d ρ = ((d ρ).bind fun p => Out.of ((goesV p.1).map fun xs => (xs, p.2))) := by rfl
theorem x_dRg (d : DR) (ρ : Env) : dRg d ρ = ((d ρ).bind fun p => if rOk p.1.1 && rOk p.1.2 then .ok ((rangeI p.1.1 p.1.2).map .int, p.2) else .bad) := by rfl
theorem x_tYesD  (ρ : Env) : tYesD ρ = (.ok (true, ρ)) := by rfl
theorem x_dU (g : List Val → List Val → Option (Val × List Val)) (i : Nat) (d : DA) (ρ : Env) : dU g i d ρ = (match (ρ[i]?).bind lstOf with
    | some _ => (d ρ).bind fun p => Out.of ((takes p.2 p.1).bind fun q => (q.2[i]?).bind fun s => (lstOf s).bind fun ys => (g ys q.1).map fun r => (r.1, q.2.set i (setL s r.2)))
    | none => .bad) := by rfl
theorem x_d2 (g : Val → Val → Option Val) (da db : DH) (ρ : Env) : d2 g da db ρ = ((da ρ).bind fun p => (db p.2).bind fun q =>
    Out.of ((deref q.2 p.1).bind fun x => (deref q.2 q.1).bind fun y => (g x y).map fun z => (z, q.2))) := by rfl
theorem x_aNil  (ρ : Env) : aNil ρ = (.ok ([], ρ)) := by rfl
theorem x_aCons (d : DH) (ds : DA) (ρ : Env) : aCons d ds ρ = ((d ρ).bind fun p => (ds p.2).bind fun q => .ok (p.1 :: q.1, q.2)) := by rfl
theorem x_dN (g : List Val → Option Val) (d : DA) (ρ : Env) : dN g d ρ = ((d ρ).bind fun p => Out.of ((derefs p.2 p.1).bind fun xs => (g xs).map fun z => (z, p.2))) := by rfl
theorem x_pNone  (ρ : Env) : pNone ρ = (.ok (none, ρ)) := by rfl
theorem x_pSome (d : DV) (ρ : Env) : pSome d ρ = ((d ρ).bind fun p => match p.1 with
    | .int i => .ok (some i, p.2)
    | _ => .bad) := by rfl
theorem x_dSl (da : DH) (dl dh : DP) (ρ : Env) : dSl da dl dh ρ = ((da ρ).bind fun p => (dl p.2).bind fun l => (dh l.2).bind fun h => Out.of ((deref h.2 p.1).bind fun x => (slV x l.1 h.1).map fun z => (z, h.2))) := by rfl
theorem x_dTup (d : DA) (ρ : Env) : dTup d ρ = ((d ρ).bind fun p => Out.of ((takes p.2 p.1).bind fun q => if q.1.length ≤ sizeLine then some (.tup q.1, q.2) else none)) := by rfl
theorem x_dOV (d : DV) (ρ : Env) : dOV d ρ = ((d ρ).bind fun p => .ok (.fz p.1, p.2)) := by rfl
theorem x_dVO (d : DO) (ρ : Env) : dVO d ρ = ((d ρ).bind fun p => Out.of ((frOf p.1).map fun x => (x, p.2))) := by rfl
theorem x_dLst (d : DA) (ρ : Env) : dLst d ρ = ((d ρ).bind fun p => Out.of ((takes p.2 p.1).bind fun q => if q.1.length ≤ sizeLine then some (.own q.1, q.2) else none)) := by rfl
theorem x_tOf (d : DH) (ρ : Env) : tOf d ρ = ((d ρ).bind fun p => Out.of ((deref p.2 p.1).bind fun x => (truth x).map fun b => (b, p.2))) := by rfl
theorem x_tBl (d : DV) (ρ : Env) : tBl d ρ = ((d ρ).bind fun p => match p.1 with
    | .bl b => .ok (b, p.2)
    | _ => .bad) := by rfl
theorem x_dChain (g g' : Val → Val → Option Val) (da db dc : DH) (ρ : Env) : dChain g g' da db dc ρ = ((da ρ).bind fun p => (db p.2).bind fun q =>
    match (deref q.2 p.1).bind fun x => (deref q.2 q.1).bind fun y => g x y with
    | some (.bl true) => (dc q.2).bind fun r => Out.of ((deref r.2 q.1).bind fun y => (deref r.2 r.1).bind fun w => (g' y w).map fun z => (z, r.2))
    | some (.bl false) => .ok (.bl false, q.2)
    | _ => .bad) := by rfl
theorem x_tAndD (a b : DT) (ρ : Env) : tAndD a b ρ = ((a ρ).bind fun p => if p.1 = true then b p.2 else .ok (false, p.2)) := by rfl
theorem x_tOrD (a b : DT) (ρ : Env) : tOrD a b ρ = ((a ρ).bind fun p => if p.1 = true then .ok (true, p.2) else b p.2) := by rfl
theorem x_tNotD (a : DT) (ρ : Env) : tNotD a ρ = ((a ρ).bind fun p => .ok (!p.1, p.2)) := by rfl
theorem x_vAnd (a b : DV) (ρ : Env) : vAnd a b ρ = ((a ρ).bind fun p => match truth p.1 with
    | some true => b p.2
    | some false => .ok p
    | none => .bad) := by rfl
theorem x_vOr (a b : DV) (ρ : Env) : vOr a b ρ = ((a ρ).bind fun p => match truth p.1 with
    | some true => .ok p
    | some false => b p.2
    | none => .bad) := by rfl
theorem x_vNot (a : DH) (ρ : Env) : vNot a ρ = ((a ρ).bind fun p => Out.of ((deref p.2 p.1).bind fun x => (truth x).map fun b => (.bl (!b), p.2))) := by rfl
theorem x_dIf (t : DT) (a b : DV) (ρ : Env) : dIf t a b ρ = ((t ρ).bind fun p => if p.1 = true then a p.2 else b p.2) := by rfl
theorem x_dNeg (a : DV) (ρ : Env) : dNeg a ρ = ((a ρ).bind fun p => match p.1 with
    | .int i => .ok (.int (-i), p.2)
    | _ => .bad) := by rfl
theorem x_dIsN (d : DV) (ρ : Env) : dIsN d ρ = ((d ρ).bind fun p => .ok (.bl (isNone p.1), p.2)) := by rfl
theorem x_dNotN (d : DV) (ρ : Env) : dNotN d ρ = ((d ρ).bind fun p => .ok (.bl (!isNone p.1), p.2)) := by rfl
theorem x_dNo (g : List Val → Option (List Val)) (d : DA) (ρ : Env) : dNo g d ρ = ((d ρ).bind fun p => Out.of ((derefs p.2 p.1).bind fun xs => (g xs).map fun ys => (.own ys, p.2))) := by rfl
theorem x_dR1 (d : DV) (ρ : Env) : dR1 d ρ = ((d ρ).bind fun p => match p.1 with
    | .int n => .ok (((0 : Int), n), p.2)
    | _ => .bad) := by rfl
theorem x_dR2 (a b : DV) (ρ : Env) : dR2 a b ρ = ((a ρ).bind fun p => (b p.2).bind fun q => match p.1, q.1 with
    | .int i, .int j => .ok ((i, j), q.2)
    | _, _ => .bad) := by rfl
theorem x_dLR (d : DR) (ρ : Env) : dLR d ρ = ((d ρ).bind fun p => if rgOk p.1.1 p.1.2 then .ok (.own ((rangeI p.1.1 p.1.2).map .int), p.2) else .bad) := by rfl
theorem x_dIsi (T : String) (d : DH) (ρ : Env) : dIsi T d ρ = ((d ρ).bind fun p => Out.of ((deref p.2 p.1).bind fun x => (isiV T x).map fun z => (z, p.2))) := by rfl
theorem x_sSkip  (ρ : Env) : sSkip ρ = (Fl.nx ρ) := by rfl
theorem x_sBreak  (ρ : Env) : sBreak ρ = (Fl.bk ρ) := by rfl
theorem x_sCont  (ρ : Env) : sCont ρ = (Fl.ct ρ) := by rfl
theorem x_asg (i : Nat) (s : Sl) (ρ : Env)  : asg i s ρ = (if i < ρ.length then .nx (ρ.set i s) else .bad) := by rfl
theorem x_gNm (i : Nat) (x : Val) (ρ : Env) : gNm i x ρ = (if i < ρ.length then some (ρ.set i (.fz x)) else none) := by rfl
theorem x_gN  (xs : List Val) (ρ : Env) : gN xs ρ = (match xs with
    | [] => some ρ
    | _ => none) := by rfl
theorem x_gC (g : DG) (gs : DGs) (xs : List Val) (ρ : Env) : gC g gs xs ρ = (match xs with
    | x :: xs => (g x ρ).bind fun ρ' => gs xs ρ'
    | [] => none) := by rfl
theorem x_gTp (n : Nat) (gs : DGs) (x : Val) (ρ : Env) : gTp n gs x ρ = ((tupOf x).bind fun xs => if xs.length = n then gs xs ρ else none) := by rfl
theorem x_g1 (g : Val → Option Val) (xs : List Val) : g1 g xs = (match xs with | [x] => g x | _ => none) := by rfl
theorem x_g2 (g : Val → Val → Option Val) (xs : List Val) : g2 g xs = (match xs with | [x, y] => g x y | _ => none) := by rfl
theorem x_go1 (g : Val → Option (List Val)) (xs : List Val) : go1 g xs = (match xs with | [x] => g x | _ => none) := by rfl
theorem x_callD0 (e : FnE) (d : DA) (ρ : Env) : callD0 e d ρ = ((d ρ).bind fun p => match takes p.2 p.1 with
    | some q => if q.1.length = e.np then (e.sem (q.1.map .fz)).bind fun r => if notNo r.1 = true then .ok (r.1, q.2) else .bad else .bad
    | none => .bad) := by rfl
theorem x_callD1 (e : FnE) (k : Nat) (d : DA) (ρ : Env) : callD1 e k d ρ = ((d ρ).bind fun p => match p.1[k]? with
    | some (.slot i) => match takes p.2 (p.1.set k (.val .non)) with
      | some q => match q.2[i]? with
        | some (.own ys) => if q.1.length = e.np then (e.sem ((q.1.map .fz).set k (.par ys))).bind fun r => match r.2 with
          | .par zs => if notNo r.1 = true then .ok (r.1, q.2.set i (.own zs)) else .bad
          | _ => .bad
          else .bad
        | some (.par ys) => if q.1.length = e.np then (e.sem ((q.1.map .fz).set k (.par ys))).bind fun r => match r.2 with
          | .par zs => if notNo r.1 = true then .ok (r.1, q.2.set i (.par zs)) else .bad
          | _ => .bad
          else .bad
        | _ => .bad
      | none => .bad
    | _ => .bad) := by rfl
end Ev

namespace Hd
open PySem PySem.Spec PyProof.Rows L2
def top (i : Nat) : Stmt := PySem.Challenge.pw_whocame_k75_whole_rooms_in_common.main.body.getD i (.Pass ⟨0, 0, 0, 0⟩)
def d1 : He.DefD := ⟨("have_room", none), "have_room", "have_room", defArgs (top 1), defBody (top 1), defScope (top 1), [], []⟩
def d2 : He.DefD := ⟨("shown_by_strolls", none), "shown_by_strolls", "shown_by_strolls", defArgs (top 2), defBody (top 2), defScope (top 2), [], []⟩
def d3 : He.DefD := ⟨("gather", none), "gather", "gather", defArgs (top 3), defBody (top 3), defScope (top 3), [], []⟩
def d5 : He.DefD := ⟨("_law_mix", none), "_law_mix", "_law_mix", defArgs (top 5), defBody (top 5), defScope (top 5), [], []⟩
def d6 : He.DefD := ⟨("_law_tape", none), "_law_tape", "_law_tape", defArgs (top 6), defBody (top 6), defScope (top 6), [], []⟩
def d7 : He.DefD := ⟨("_law_take", none), "_law_take", "_law_take", defArgs (top 7), defBody (top 7), defScope (top 7), [], []⟩
def d8 : He.DefD := ⟨("_law_same", none), "_law_same", "_law_same", defArgs (top 8), defBody (top 8), defScope (top 8), [], []⟩
def d9 : He.DefD := ⟨("_law_mixed", none), "_law_mixed", "_law_mixed", defArgs (top 9), defBody (top 9), defScope (top 9), [], []⟩
def d10 : He.DefD := ⟨("_law_house", none), "_law_house", "_law_house", defArgs (top 10), defBody (top 10), defScope (top 10), [], []⟩
def d11 : He.DefD := ⟨("_law_behind", none), "_law_behind", "_law_behind", defArgs (top 11), defBody (top 11), defScope (top 11), [], []⟩
def d12 : He.DefD := ⟨("_law_stroll", none), "_law_stroll", "_law_stroll", defArgs (top 12), defBody (top 12), defScope (top 12), [], []⟩
def d13 : He.DefD := ⟨("_law_strolls", none), "_law_strolls", "_law_strolls", defArgs (top 13), defBody (top 13), defScope (top 13), [], []⟩
def d14 : He.DefD := ⟨("_law_due", none), "_law_due", "_law_due", defArgs (top 14), defBody (top 14), defScope (top 14), [], []⟩
def d15 : He.DefD := ⟨("_law_through", none), "_law_through", "_law_through", defArgs (top 15), defBody (top 15), defScope (top 15), [], []⟩
def d16 : He.DefD := ⟨("law", none), "law", "law", defArgs (top 16), defBody (top 16), defScope (top 16), [], []⟩
def fn : List He.DefD := [d1, d2, d3, d5, d6, d7, d8, d9, d10, d11, d12, d13, d14, d15, d16]
def fa : List He.Fa := [.glo "have_room", .glo "shown_by_strolls", .glo "gather", .glo "_law_mix", .glo "_law_tape", .glo "_law_take", .glo "_law_same", .glo "_law_mixed", .glo "_law_house", .glo "_law_behind", .glo "_law_stroll", .glo "_law_strolls", .glo "_law_due", .glo "_law_through", .glo "law", .free "all", .free "any", .free "bool", .free "int", .free "isinstance", .free "len", .free "list", .free "max", .free "min", .free "range", .free "sorted", .free "str", .free "tuple"]
abbrev R : PySem.W.OpenRow := PySem.W.OpenLaw.row PySem.Challenge.rw_whocame_k75_whole_rooms_in_common
abbrev hk : PySem.W.Hook := He.hookD 4 fa fn
def ob (s : PySem.W.SharedT) : He.AlD := He.obsDG 4 fa fn (HandSHeadRun.getT s)
theorem ob_eq (s : PySem.W.SharedT) : ob s = hk.obs s.abs := He.obsDG_eq (HandSHeadRun.getT_eq s)
theorem run (w : World) : HandSHeadRun.RunEq R (PySem.W.view R.prog [16]) hk ob 4000 ["have_room", "shown_by_strolls", "gather", "_law_mix", "_law_tape", "_law_take", "_law_same", "_law_mixed", "_law_house", "_law_behind", "_law_stroll", "_law_strolls", "_law_due", "_law_through"] w := by
  intro os
  kernel_rfl
end Hd

namespace B75
open PySem PySem.Spec PyProof.Rows L2 Ev
section
variable {P : Program} {w : World} {K : PySem.W.Frag} {mg : MG} {base : Heap}
theorem sc_have_room : FnScope ["one", "other", "r"] ["one", "other"] (defScope (Hd.top 1)) := ⟨rfl, rfl, rfl, by decide +kernel, rfl, by decide +kernel, by decide +kernel⟩
def D_have_room  : DS := (sRet (dOV (dN (g1 anyV) (aCons (dHV (dVO (dLc (dIt (dVH (dVar 0))) (gNm 2) tYesD (d2 inV (dVar 2) (dVar 1)) [2]))) aNil))))
def E_have_room : FnE := fnE 1 2 3 none D_have_room
theorem s_have_room (a0 a1 : Sl) : E_have_room.sem [a0, a1] = flRes 2 none (D_have_room [a0, a1, .no]) :=
  (fnE_sem 1 2 3 none D_have_room [a0, a1]).trans (congrArg (fun l => flRes 2 none (D_have_room l)) (by rfl : ([a0, a1] : List Sl) ++ List.replicate (3 - 2) .no = [a0, a1, .no]))
theorem np_have_room : E_have_room.np = 2 := rfl
theorem ok_have_room {f : Addr} {fd : FuncData} (F : FunD K "have_room" "have_room" (defArgs (Hd.top 1)) (defBody (Hd.top 1)) (defScope (Hd.top 1)) [] [] f fd) (hm : mg "have_room" = some (.ref f)) (g_any : mg "any" = none) : Cal P w K mg base CX0 "have_room" E_have_room :=
  fn_okD (N := ["one", "other", "r"]) (ps := ["one", "other"]) (k := 0) F sc_have_room rfl rfl hm (fun _ _ _ _ _ _ us hl => match us, hl with | [_, _], _ => rfl) fun cdv A outer s H E hr => (by
    have nd := (sc_have_room).nd
    exact (pst_one (st_ret (pow_of (pv_callB (c_any rfl) (by rfl) g_any (by decide +kernel) (as_cons (ph_of (pv_own (pow_lc rfl nd (it_val (pv_of (ph_var (i := 0)))) (blkOk_by (own := [("r", 2)]) (by first | decide +kernel | rfl)) (fun _ _ _ _ _ => (gt_name (i := 2) nd rfl (by first | exact Or.inl rfl | exact Or.inr rfl))) (fun _ _ _ _ _ => ts_nil) (fun _ _ _ _ _ => (pv_cmp (o_in hr) (ph_var (i := 2)) (ph_var (i := 1)))) (by decide)))) as_nil))))))
theorem sc_shown_by_strolls : FnScope ["strolls", "n", "i", "j"] ["strolls"] (defScope (Hd.top 2)) := ⟨rfl, rfl, rfl, by decide +kernel, rfl, by decide +kernel, by decide +kernel⟩
def D_shown_by_strolls (e_have_room : FnE) : DS := (sSeq (sSet 1 (dOV (dN (g1 lenV) (aCons (dVar 0) aNil))))
  (sRet (dOV (dTup (aCons (dVar 1) (aCons (dHV (dN (g1 tupV) (aCons (dHV (dVO (dLc2 (dRg (dR1 (dVH (dVar 1)))) (gNm 2) tYesD (dRg (dR2 (d2 addV (dVar 2) (dHV (dC (.int 1)))) (dVH (dVar 1)))) (gNm 3) (tOf (dHV (dVO (callD0 e_have_room (aCons (dHV (d2 ixV (dVar 0) (dVar 2))) (aCons (dHV (d2 ixV (dVar 0) (dVar 3))) aNil)))))) (dTup (aCons (dVar 2) (aCons (dVar 3) aNil))) [2, 3] [3]))) aNil))) aNil))))))
def E_shown_by_strolls : FnE := fnE 2 1 4 none (D_shown_by_strolls E_have_room)
theorem s_shown_by_strolls (a0 : Sl) : E_shown_by_strolls.sem [a0] = flRes 1 none ((D_shown_by_strolls E_have_room) [a0, .no, .no, .no]) :=
  (fnE_sem 2 1 4 none (D_shown_by_strolls E_have_room) [a0]).trans (congrArg (fun l => flRes 1 none ((D_shown_by_strolls E_have_room) l)) (by rfl : ([a0] : List Sl) ++ List.replicate (4 - 1) .no = [a0, .no, .no, .no]))
theorem np_shown_by_strolls : E_shown_by_strolls.np = 1 := rfl
theorem ok_shown_by_strolls {f : Addr} {fd : FuncData} (F : FunD K "shown_by_strolls" "shown_by_strolls" (defArgs (Hd.top 2)) (defBody (Hd.top 2)) (defScope (Hd.top 2)) [] [] f fd) (hm : mg "shown_by_strolls" = some (.ref f)) (g_tuple : mg "tuple" = none) (g_range : mg "range" = none) (g_len : mg "len" = none) (C_have_room : Cal P w K mg base CX0 "have_room" E_have_room) : Cal P w K mg base CX0 "shown_by_strolls" E_shown_by_strolls :=
  fn_okD (N := ["strolls", "n", "i", "j"]) (ps := ["strolls"]) (k := 1) F sc_shown_by_strolls rfl rfl hm (fun _ _ _ _ _ _ us hl => match us, hl with | [_], _ => rfl) fun cdv A outer s H E hr => (by
    have nd := (sc_shown_by_strolls).nd
    exact (pst_cons (st_set (i := 1) nd rfl (by first | exact Or.inl rfl | exact Or.inr rfl) (pow_of (pv_callB c_len (by rfl) g_len (by decide +kernel) (as_cons (ph_var (i := 0)) as_nil))))
    (pst_one (st_ret (pow_of (pv_tup (as_cons (ph_var (i := 1)) (as_cons (ph_of (pv_callTy c_tuple (by rfl) g_tuple (by decide +kernel) (as_cons (ph_of (pv_own (pow_lc2 rfl nd (it_r1 (by rfl) g_range (pv_of (ph_var (i := 1)))) (blkOk_by (own := [("i", 2), ("j", 3)]) (by first | decide +kernel | rfl)) (vs1 := [3]) (by decide) (fun _ _ _ _ _ => (gt_name (i := 2) nd rfl (by first | exact Or.inl rfl | exact Or.inr rfl))) (fun _ _ _ _ _ => ts_nil) (fun _ _ _ _ _ => (it_r2 (by rfl) g_range (pv_op o_add (ph_var (i := 2)) (ph_of pv_int)) (pv_of (ph_var (i := 1))))) (fun _ _ _ _ _ => (gt_name (i := 3) nd rfl (by first | exact Or.inl rfl | exact Or.inr rfl))) (fun _ _ _ _ _ => (ts_one (pt_of (ph_of (pv_own (pow_call0 C_have_room rfl hr (by decide) pass0 (by rfl) (as_cons (ph_of (pv_ix i_ix (ph_var (i := 0)) (ph_var (i := 2)))) (as_cons (ph_of (pv_ix i_ix (ph_var (i := 0)) (ph_var (i := 3)))) as_nil)))))))) (fun _ _ _ _ _ => (pv_tup (as_cons (ph_var (i := 2)) (as_cons (ph_var (i := 3)) as_nil)))) (by decide) (by decide)))) as_nil))) as_nil))))))))
theorem sc_gather : FnScope ["house", "strolls", "r", "pairs", "n", "stroll", "i", "j"] ["house", "strolls"] (defScope (Hd.top 3)) := ⟨rfl, rfl, rfl, by decide +kernel, rfl, by decide +kernel, by decide +kernel⟩
def D_gather (e_shown_by_strolls : FnE) : DS := (sSeq (sFor (dRg (dR1 (d2 ixV (dVar 0) (dHV (dC (.int 0)))))) (gNm 2) (sIf (tOf (dHV (dN (g1 allV) (aCons (dHV (dVO (dLc (dIt (dVH (dVar 1))) (gNm 5) tYesD (d2 inV (dVar 2) (dVar 5)) [5]))) aNil)))) (sRet (dOV (dTup (aCons (dHV (dC (.str "room"))) (aCons (dVar 2) aNil))))) sSkip))
  (sSeq (sSet 3 (dOV (d2 ixV (dHV (dVO (callD0 e_shown_by_strolls (aCons (dVar 1) aNil)))) (dHV (dC (.int 1))))))
  (sSeq (sSet 4 (dOV (dN (g1 lenV) (aCons (dVar 1) aNil))))
  (sRet (dOV (d2 addV (dHV (dTup (aCons (dHV (dC (.str "apart"))) aNil))) (dHV (d2 ixV (dHV (dVO (dLc2 (dRg (dR1 (dVH (dVar 4)))) (gNm 6) tYesD (dRg (dR2 (d2 addV (dVar 6) (dHV (dC (.int 1)))) (dVH (dVar 4)))) (gNm 7) (tBl (d2 ninV (dHV (dTup (aCons (dVar 6) (aCons (dVar 7) aNil)))) (dVar 3))) (dTup (aCons (dVar 6) (aCons (dVar 7) aNil))) [6, 7] [7]))) (dHV (dC (.int 0)))))))))))
def E_gather : FnE := fnE 3 2 8 none (D_gather E_shown_by_strolls)
theorem s_gather (a0 a1 : Sl) : E_gather.sem [a0, a1] = flRes 2 none ((D_gather E_shown_by_strolls) [a0, a1, .no, .no, .no, .no, .no, .no]) :=
  (fnE_sem 3 2 8 none (D_gather E_shown_by_strolls) [a0, a1]).trans (congrArg (fun l => flRes 2 none ((D_gather E_shown_by_strolls) l)) (by rfl : ([a0, a1] : List Sl) ++ List.replicate (8 - 2) .no = [a0, a1, .no, .no, .no, .no, .no, .no]))
theorem np_gather : E_gather.np = 2 := rfl
theorem ok_gather {f : Addr} {fd : FuncData} (F : FunD K "gather" "gather" (defArgs (Hd.top 3)) (defBody (Hd.top 3)) (defScope (Hd.top 3)) [] [] f fd) (hm : mg "gather" = some (.ref f)) (g_range : mg "range" = none) (g_len : mg "len" = none) (g_all : mg "all" = none) (C_shown_by_strolls : Cal P w K mg base CX0 "shown_by_strolls" E_shown_by_strolls) : Cal P w K mg base CX0 "gather" E_gather :=
  fn_okD (N := ["house", "strolls", "r", "pairs", "n", "stroll", "i", "j"]) (ps := ["house", "strolls"]) (k := 2) F sc_gather rfl rfl hm (fun _ _ _ _ _ _ us hl => match us, hl with | [_, _], _ => rfl) fun cdv A outer s H E hr => (by
    have nd := (sc_gather).nd
    exact (pst_cons (st_for PassesOwn.never rfl (it_r1 (by rfl) g_range (pv_ix i_ix (ph_var (i := 0)) (ph_of pv_int))) (gt_name (i := 2) nd rfl (by first | exact Or.inl rfl | exact Or.inr rfl)) (pst_one (st_if (pt_of (ph_of (pv_callB (c_all rfl) (by rfl) g_all (by decide +kernel) (as_cons (ph_of (pv_own (pow_lc rfl nd (it_val (pv_of (ph_var (i := 1)))) (blkOk_by (own := [("stroll", 5)]) (by first | decide +kernel | rfl)) (fun _ _ _ _ _ => (gt_name (i := 5) nd rfl (by first | exact Or.inl rfl | exact Or.inr rfl))) (fun _ _ _ _ _ => ts_nil) (fun _ _ _ _ _ => (pv_cmp (o_in hr) (ph_var (i := 2)) (ph_var (i := 5)))) (by decide)))) as_nil)))) (pst_one (st_ret (pow_of (pv_tup (as_cons (ph_of pv_str) (as_cons (ph_var (i := 2)) as_nil)))))) pst_nil)))
    (pst_cons (st_set (i := 3) nd rfl (by first | exact Or.inl rfl | exact Or.inr rfl) (pow_of (pv_ix i_ix (ph_of (pv_own (pow_call0 C_shown_by_strolls rfl hr (by decide) pass0 (by rfl) (as_cons (ph_var (i := 1)) as_nil)))) (ph_of pv_int))))
    (pst_cons (st_set (i := 4) nd rfl (by first | exact Or.inl rfl | exact Or.inr rfl) (pow_of (pv_callB c_len (by rfl) g_len (by decide +kernel) (as_cons (ph_var (i := 1)) as_nil))))
    (pst_one (st_ret (pow_of (pv_op o_add (ph_of (pv_tup (as_cons (ph_of pv_str) as_nil))) (ph_of (pv_ix i_ix (ph_of (pv_own (pow_lc2 rfl nd (it_r1 (by rfl) g_range (pv_of (ph_var (i := 4)))) (blkOk_by (own := [("i", 6), ("j", 7)]) (by first | decide +kernel | rfl)) (vs1 := [7]) (by decide) (fun _ _ _ _ _ => (gt_name (i := 6) nd rfl (by first | exact Or.inl rfl | exact Or.inr rfl))) (fun _ _ _ _ _ => ts_nil) (fun _ _ _ _ _ => (it_r2 (by rfl) g_range (pv_op o_add (ph_var (i := 6)) (ph_of pv_int)) (pv_of (ph_var (i := 4))))) (fun _ _ _ _ _ => (gt_name (i := 7) nd rfl (by first | exact Or.inl rfl | exact Or.inr rfl))) (fun _ _ _ _ _ => (ts_one (pt_cmp' (o_nin hr) (ph_of (pv_tup (as_cons (ph_var (i := 6)) (as_cons (ph_var (i := 7)) as_nil)))) (ph_var (i := 3))))) (fun _ _ _ _ _ => (pv_tup (as_cons (ph_var (i := 6)) (as_cons (ph_var (i := 7)) as_nil)))) (by decide) (by decide)))) (ph_of pv_int)))))))))))
theorem sc__law_mix : FnScope ["number"] ["number"] (defScope (Hd.top 5)) := ⟨rfl, rfl, rfl, by decide +kernel, rfl, by decide +kernel, by decide +kernel⟩
def D__law_mix  : DS := (sSeq (sSet 0 (dOV (d2 modV (dHV (dN (g1 intV) (aCons (dHV (d2 addV (dHV (d2 mulV (dVar 0) (dHV (dC (.int 6364136223846793005))))) (dHV (dC (.int 1442695040888963407))))) aNil))) (dHV (dC (.int 18446744073709551616))))))
  (sRet (dOV (d2 modV (dHV (dN (g1 intV) (aCons (dHV (d2 addV (dHV (d2 divV (dHV (d2 mulV (dVar 0) (dVar 0))) (dHV (dC (.int 4294967296))))) (dHV (d2 mulV (dVar 0) (dHV (dC (.int 69621))))))) aNil))) (dHV (dC (.int 18446744073709551557)))))))
def E__law_mix : FnE := fnE 1 1 1 none D__law_mix
theorem s__law_mix (a0 : Sl) : E__law_mix.sem [a0] = flRes 1 none (D__law_mix [a0]) :=
  (fnE_sem 1 1 1 none D__law_mix [a0]).trans (congrArg (fun l => flRes 1 none (D__law_mix l)) (by rfl : ([a0] : List Sl) ++ List.replicate (1 - 1) .no = [a0]))
theorem np__law_mix : E__law_mix.np = 1 := rfl
theorem ok__law_mix {f : Addr} {fd : FuncData} (F : FunD K "_law_mix" "_law_mix" (defArgs (Hd.top 5)) (defBody (Hd.top 5)) (defScope (Hd.top 5)) [] [] f fd) (hm : mg "_law_mix" = some (.ref f)) (g_int : mg "int" = none) : Cal P w K mg base CX0 "_law_mix" E__law_mix :=
  fn_okD (N := ["number"]) (ps := ["number"]) (k := 0) F sc__law_mix rfl rfl hm (fun _ _ _ _ _ _ us hl => match us, hl with | [_], _ => rfl) fun cdv A outer s H E hr => (by
    have nd := (sc__law_mix).nd
    exact (pst_cons (st_set (i := 0) nd rfl (by first | exact Or.inl rfl | exact Or.inr rfl) (pow_of (pv_op o_mod (ph_of (pv_callTy c_int (by rfl) g_int (by decide +kernel) (as_cons (ph_of (pv_op o_add (ph_of (pv_op o_mul (ph_var (i := 0)) (ph_of pv_int))) (ph_of pv_int))) as_nil))) (ph_of pv_int))))
    (pst_one (st_ret (pow_of (pv_op o_mod (ph_of (pv_callTy c_int (by rfl) g_int (by decide +kernel) (as_cons (ph_of (pv_op o_add (ph_of (pv_op o_div (ph_of (pv_op o_mul (ph_var (i := 0)) (ph_var (i := 0)))) (ph_of pv_int))) (ph_of (pv_op o_mul (ph_var (i := 0)) (ph_of pv_int))))) as_nil))) (ph_of pv_int)))))))
theorem sc__law_tape : FnScope ["script"] ["script"] (defScope (Hd.top 6)) := ⟨rfl, rfl, rfl, by decide +kernel, rfl, by decide +kernel, by decide +kernel⟩
def D__law_tape  : DS := (sRet (dLst (aCons (dHV (dVO (dNo (go1 itemsV) (aCons (dHV (dSl (dVar 0) pNone (pSome (dC (.int 80))))) aNil)))) (aCons (dHV (dC (.int 0))) (aCons (dHV (dC (.int 0))) (aCons (dHV (d2 addV (dHV (dC (.int 1))) (dHV (dN (g1 lenV) (aCons (dVar 0) aNil))))) aNil))))))
def E__law_tape : FnE := fnE 1 1 1 none D__law_tape
theorem s__law_tape (a0 : Sl) : E__law_tape.sem [a0] = flRes 1 none (D__law_tape [a0]) :=
  (fnE_sem 1 1 1 none D__law_tape [a0]).trans (congrArg (fun l => flRes 1 none (D__law_tape l)) (by rfl : ([a0] : List Sl) ++ List.replicate (1 - 1) .no = [a0]))
theorem np__law_tape : E__law_tape.np = 1 := rfl
theorem ok__law_tape {f : Addr} {fd : FuncData} (F : FunD K "_law_tape" "_law_tape" (defArgs (Hd.top 6)) (defBody (Hd.top 6)) (defScope (Hd.top 6)) [] [] f fd) (hm : mg "_law_tape" = some (.ref f)) (g_len : mg "len" = none) (g_list : mg "list" = none) : Cal P w K mg base CX0 "_law_tape" E__law_tape :=
  fn_okD (N := ["script"]) (ps := ["script"]) (k := 0) F sc__law_tape rfl rfl hm (fun _ _ _ _ _ _ us hl => match us, hl with | [_], _ => rfl) fun cdv A outer s H E hr => (by
    have nd := (sc__law_tape).nd
    exact (pst_one (st_ret (pow_lst (as_cons (ph_of (pv_own (pow_callTy c_list (by rfl) g_list (by decide +kernel) (as_cons (ph_of (pv_slice (ph_var (i := 0)) pp_none (pp_some pv_int))) as_nil)))) (as_cons (ph_of pv_int) (as_cons (ph_of pv_int) (as_cons (ph_of (pv_op o_add (ph_of pv_int) (ph_of (pv_callB c_len (by rfl) g_len (by decide +kernel) (as_cons (ph_var (i := 0)) as_nil))))) as_nil))))))))
theorem sc__law_take : FnScope ["tape", "many", "cell", "digit"] ["tape", "many"] (defScope (Hd.top 7)) := ⟨rfl, rfl, rfl, by decide +kernel, rfl, by decide +kernel, by decide +kernel⟩
def D__law_take (e__law_mix : FnE) : DS := (sSeq (sIf (tBl (d2 ltV (dHV (d2 ixV (dVar 0) (dHV (dC (.int 2))))) (dVar 1))) (sIf (tBl (d2 ltV (dHV (d2 ixV (dVar 0) (dHV (dC (.int 1))))) (dHV (dN (g1 lenV) (aCons (dHV (d2 ixV (dVar 0) (dHV (dC (.int 0))))) aNil))))) (sSeq (sSet 2 (dOV (d2 ixV (dHV (d2 ixV (dVar 0) (dHV (dC (.int 0))))) (dHV (d2 ixV (dVar 0) (dHV (dC (.int 1))))))))
  (sSeq (sSet 2 (dOV (dIf (tBl (d2 geV (dVar 2) (dHV (dC (.int 0))))) (d2 mulV (dHV (dC (.int 2))) (dVar 2)) (d2 subV (dHV (d2 mulV (dHV (dNeg (dC (.int 2)))) (dVar 2))) (dHV (dC (.int 1)))))))
  (sSeq (sPut 0 (dC (.int 1)) (d2 addV (dHV (d2 ixV (dVar 0) (dHV (dC (.int 1))))) (dHV (dC (.int 1)))))
  (sSeq (sPut 0 (dC (.int 3)) (dVO (callD0 e__law_mix (aCons (dHV (d2 addV (dHV (d2 ixV (dVar 0) (dHV (dC (.int 3))))) (dVar 2))) aNil))))
  (sPut 0 (dC (.int 2)) (dIf (tBl (d2 geV (dVar 2) (dHV (d2 powV (dHV (dC (.int 10))) (dHV (dC (.int 18))))))) (dVH (dVar 2)) (dVO (callD0 e__law_mix (aCons (dHV (d2 addV (dHV (dVO (callD0 e__law_mix (aCons (dVar 2) aNil)))) (dHV (d2 ixV (dVar 0) (dHV (dC (.int 1))))))) aNil))))))))) (sSeq (sPut 0 (dC (.int 3)) (dVO (callD0 e__law_mix (aCons (dHV (d2 addV (dHV (d2 ixV (dVar 0) (dHV (dC (.int 3))))) (dHV (dC (.int 1))))) aNil))))
  (sPut 0 (dC (.int 2)) (d2 ixV (dVar 0) (dHV (dC (.int 3))))))) sSkip)
  (sSeq (sSet 3 (dOV (d2 modV (dHV (dN (g1 intV) (aCons (dHV (d2 ixV (dVar 0) (dHV (dC (.int 2))))) aNil))) (dVar 1))))
  (sSeq (sPut 0 (dC (.int 2)) (d2 divV (dHV (d2 ixV (dVar 0) (dHV (dC (.int 2))))) (dVar 1)))
  (sRet (dOV (dVH (dVar 3)))))))
def E__law_take : FnE := fnE 2 2 4 (some 0) (D__law_take E__law_mix)
theorem s__law_take (a0 a1 : Sl) : E__law_take.sem [a0, a1] = flRes 2 (some 0) ((D__law_take E__law_mix) [a0, a1, .no, .no]) :=
  (fnE_sem 2 2 4 (some 0) (D__law_take E__law_mix) [a0, a1]).trans (congrArg (fun l => flRes 2 (some 0) ((D__law_take E__law_mix) l)) (by rfl : ([a0, a1] : List Sl) ++ List.replicate (4 - 2) .no = [a0, a1, .no, .no]))
theorem np__law_take : E__law_take.np = 2 := rfl
theorem ok__law_take {f : Addr} {fd : FuncData} (F : FunD K "_law_take" "_law_take" (defArgs (Hd.top 7)) (defBody (Hd.top 7)) (defScope (Hd.top 7)) [] [] f fd) (hm : mg "_law_take" = some (.ref f)) (g_int : mg "int" = none) (g_len : mg "len" = none) (C__law_mix : Cal P w K mg base CX0 "_law_mix" E__law_mix) : Cal P w K mg base CX0 "_law_take" E__law_take :=
  fn_okD (N := ["tape", "many", "cell", "digit"]) (ps := ["tape", "many"]) (k := 1) F sc__law_take rfl rfl hm (fun _ _ _ _ _ _ us hl => match us, hl with | [_, _], _ => rfl) fun cdv A outer s H E hr => (by
    have nd := (sc__law_take).nd
    exact (pst_cons (st_if (pt_cmp' (o_lt hr) (ph_of (pv_ix i_ix (ph_var (i := 0)) (ph_of pv_int))) (ph_var (i := 1))) (pst_one (st_if (pt_cmp' (o_lt hr) (ph_of (pv_ix i_ix (ph_var (i := 0)) (ph_of pv_int))) (ph_of (pv_callB c_len (by rfl) g_len (by decide +kernel) (as_cons (ph_of (pv_ix i_ix (ph_var (i := 0)) (ph_of pv_int))) as_nil)))) (pst_cons (st_set (i := 2) nd rfl (by first | exact Or.inl rfl | exact Or.inr rfl) (pow_of (pv_ix i_ix (ph_of (pv_ix i_ix (ph_var (i := 0)) (ph_of pv_int))) (ph_of (pv_ix i_ix (ph_var (i := 0)) (ph_of pv_int))))))
    (pst_cons (st_set (i := 2) nd rfl (by first | exact Or.inl rfl | exact Or.inr rfl) (pow_of (pv_if (pt_cmp' (o_ge hr) (ph_var (i := 2)) (ph_of pv_int)) (pv_op o_mul (ph_of pv_int) (ph_var (i := 2))) (pv_op o_sub (ph_of (pv_op o_mul (ph_of (pv_neg pv_int)) (ph_var (i := 2)))) (ph_of pv_int)))))
    (pst_cons (st_put (i := 0) (pv 0) pv_int (pv_op o_add (ph_of (pv_ix i_ix (ph_var (i := 0)) (ph_of pv_int))) (ph_of pv_int)))
    (pst_cons (st_put (i := 0) (pv 0) pv_int (pv_own (pow_call0 C__law_mix rfl hr (by decide) pass0 (by rfl) (as_cons (ph_of (pv_op o_add (ph_of (pv_ix i_ix (ph_var (i := 0)) (ph_of pv_int))) (ph_var (i := 2)))) as_nil))))
    (pst_one (st_put (i := 0) (pv 0) pv_int (pv_if (pt_cmp' (o_ge hr) (ph_var (i := 2)) (ph_of (pv_op o_pow (ph_of pv_int) (ph_of pv_int)))) (pv_of (ph_var (i := 2))) (pv_own (pow_call0 C__law_mix rfl hr (by decide) pass0 (by rfl) (as_cons (ph_of (pv_op o_add (ph_of (pv_own (pow_call0 C__law_mix rfl hr (by decide) pass0 (by rfl) (as_cons (ph_var (i := 2)) as_nil)))) (ph_of (pv_ix i_ix (ph_var (i := 0)) (ph_of pv_int))))) as_nil)))))))))) (pst_cons (st_put (i := 0) (pv 0) pv_int (pv_own (pow_call0 C__law_mix rfl hr (by decide) pass0 (by rfl) (as_cons (ph_of (pv_op o_add (ph_of (pv_ix i_ix (ph_var (i := 0)) (ph_of pv_int))) (ph_of pv_int))) as_nil))))
    (pst_one (st_put (i := 0) (pv 0) pv_int (pv_ix i_ix (ph_var (i := 0)) (ph_of pv_int))))))) pst_nil)
    (pst_cons (st_set (i := 3) nd rfl (by first | exact Or.inl rfl | exact Or.inr rfl) (pow_of (pv_op o_mod (ph_of (pv_callTy c_int (by rfl) g_int (by decide +kernel) (as_cons (ph_of (pv_ix i_ix (ph_var (i := 0)) (ph_of pv_int))) as_nil))) (ph_var (i := 1)))))
    (pst_cons (st_put (i := 0) (pv 0) pv_int (pv_op o_div (ph_of (pv_ix i_ix (ph_var (i := 0)) (ph_of pv_int))) (ph_var (i := 1))))
    (pst_one (st_ret (pow_of (pv_of (ph_var (i := 3))))))))))
theorem sc__law_same : FnScope ["a", "b", "k"] ["a", "b"] (defScope (Hd.top 8)) := ⟨rfl, rfl, rfl, by decide +kernel, rfl, by decide +kernel, by decide +kernel⟩
def D__law_same (e__law_same : FnE) : DS := (sSeq (sIf (tOrD (tAndD (tOf (dHV (dIsi "tuple" (dVar 0)))) (tOf (dHV (dIsi "tuple" (dVar 1))))) (tAndD (tOf (dHV (dIsi "list" (dVar 0)))) (tOf (dHV (dIsi "list" (dVar 1)))))) (sRet (dOV (vAnd (d2 eqV (dHV (dN (g1 lenV) (aCons (dVar 0) aNil))) (dHV (dN (g1 lenV) (aCons (dVar 1) aNil)))) (dN (g1 allV) (aCons (dHV (dVO (dLc (dRg (dR1 (dN (g1 lenV) (aCons (dVar 0) aNil)))) (gNm 2) tYesD (dVO (callD0 e__law_same (aCons (dHV (d2 ixV (dVar 0) (dVar 2))) (aCons (dHV (d2 ixV (dVar 1) (dVar 2))) aNil)))) [2]))) aNil))))) sSkip)
  (sSeq (sIf (tOrD (tOf (dHV (dIsi "bool" (dVar 0)))) (tOf (dHV (dIsi "bool" (dVar 1))))) (sRet (dOV (vAnd (dIsi "bool" (dVar 0)) (vAnd (dIsi "bool" (dVar 1)) (d2 eqV (dVar 0) (dVar 1)))))) sSkip)
  (sSeq (sIf (tOrD (tAndD (tOf (dHV (dIsi "int" (dVar 0)))) (tOf (dHV (dIsi "int" (dVar 1))))) (tAndD (tOf (dHV (dIsi "str" (dVar 0)))) (tOf (dHV (dIsi "str" (dVar 1)))))) (sRet (dOV (d2 eqV (dVar 0) (dVar 1)))) sSkip)
  (sRet (dOV (vAnd (dIsN (dVH (dVar 0))) (dIsN (dVH (dVar 1)))))))))
def E__law_same : Nat → FnE
  | 0 => ⟨0, 2, none, fun _ => .bad⟩
  | m + 1 => fnE (0 + m + 1) 2 3 none (D__law_same (E__law_same m))
theorem lv__law_same : ∀ m, (E__law_same m).lv = 0 + m ∧ (E__law_same m).rf = none ∧ (E__law_same m).np = 2
  | 0 => ⟨rfl, rfl, rfl⟩
  | m + 1 => ⟨by show 0 + m + 1 = _; omega, rfl, rfl⟩
theorem s__law_same (m : Nat) (a0 a1 : Sl) : (E__law_same (m + 1)).sem [a0, a1] = flRes 2 none (D__law_same (E__law_same m) [a0, a1, .no]) :=
  (fnE_sem (0 + m + 1) 2 3 none (D__law_same (E__law_same m)) [a0, a1]).trans (congrArg (fun l => flRes 2 none (D__law_same (E__law_same m) l)) (by rfl : ([a0, a1] : List Sl) ++ List.replicate (3 - 2) .no = [a0, a1, .no]))
theorem ok__law_same {f : Addr} {fd : FuncData} (F : FunD K "_law_same" "_law_same" (defArgs (Hd.top 8)) (defBody (Hd.top 8)) (defScope (Hd.top 8)) [] [] f fd) (hm : mg "_law_same" = some (.ref f)) (g_isinstance : mg "isinstance" = none) (g_int : mg "int" = none) (g_str : mg "str" = none) (g_bool : mg "bool" = none) (g_tuple : mg "tuple" = none) (g_list : mg "list" = none) (g_len : mg "len" = none) (g_all : mg "all" = none) (g_range : mg "range" = none) : ∀ m, Cal P w K mg base CX0 "_law_same" (E__law_same m)
  | 0 => cal_bad (ps := ["a", "b"]) F rfl hm (fun _ _ _ _ _ _ us hl => match us, hl with | [_, _], _ => rfl)
  | m + 1 => fn_okD (N := ["a", "b", "k"]) (ps := ["a", "b"]) (k := 0 + m) F sc__law_same rfl rfl hm (fun _ _ _ _ _ _ us hl => match us, hl with | [_, _], _ => rfl) fun cdv A outer s H E hr => (by
      have nd := (sc__law_same).nd
      have C__law_same := ok__law_same F hm g_isinstance g_int g_str g_bool g_tuple g_list g_len g_all g_range m
      have hrf := (lv__law_same m).2.1
      have hlv : (E__law_same m).lv ≤ 0 + m := by rw [(lv__law_same m).1]; exact Nat.le_refl _
      exact (pst_cons (st_if (pt_w (pw_or' (pt_w (pw_and' (pt_of (ph_of (pv_isi (ph_var (i := 0)) (by rfl) g_isinstance (by rfl) g_tuple (by decide +kernel) (by simp)))) (pw_and1' (pt_of (ph_of (pv_isi (ph_var (i := 1)) (by rfl) g_isinstance (by rfl) g_tuple (by decide +kernel) (by simp))))))) (pw_or1' (pt_w (pw_and' (pt_of (ph_of (pv_isi (ph_var (i := 0)) (by rfl) g_isinstance (by rfl) g_list (by decide +kernel) (by simp)))) (pw_and1' (pt_of (ph_of (pv_isi (ph_var (i := 1)) (by rfl) g_isinstance (by rfl) g_list (by decide +kernel) (by simp)))))))))) (pst_one (st_ret (pow_of (pv_and (pv_cmp (o_eq hr) (ph_of (pv_callB c_len (by rfl) g_len (by decide +kernel) (as_cons (ph_var (i := 0)) as_nil))) (ph_of (pv_callB c_len (by rfl) g_len (by decide +kernel) (as_cons (ph_var (i := 1)) as_nil)))) (pv_one (pv_callB (c_all rfl) (by rfl) g_all (by decide +kernel) (as_cons (ph_of (pv_own (pow_lc rfl nd (it_r1 (by rfl) g_range (pv_callB c_len (by rfl) g_len (by decide +kernel) (as_cons (ph_var (i := 0)) as_nil))) (blkOk_by (own := [("k", 2)]) (by first | decide +kernel | rfl)) (fun _ _ _ _ _ => (gt_name (i := 2) nd rfl (by first | exact Or.inl rfl | exact Or.inr rfl))) (fun _ _ _ _ _ => ts_nil) (fun _ _ _ _ _ => (pv_own (pow_call0 C__law_same hrf hr hlv pass0 (by rfl) (as_cons (ph_of (pv_ix i_ix (ph_var (i := 0)) (ph_var (i := 2)))) (as_cons (ph_of (pv_ix i_ix (ph_var (i := 1)) (ph_var (i := 2)))) as_nil))))) (by decide)))) as_nil))))))) pst_nil)
    (pst_cons (st_if (pt_w (pw_or' (pt_of (ph_of (pv_isi (ph_var (i := 0)) (by rfl) g_isinstance (by rfl) g_bool (by decide +kernel) (by simp)))) (pw_or1' (pt_of (ph_of (pv_isi (ph_var (i := 1)) (by rfl) g_isinstance (by rfl) g_bool (by decide +kernel) (by simp))))))) (pst_one (st_ret (pow_of (pv_and (pv_isi (ph_var (i := 0)) (by rfl) g_isinstance (by rfl) g_bool (by decide +kernel) (by simp)) (pv_and (pv_isi (ph_var (i := 1)) (by rfl) g_isinstance (by rfl) g_bool (by decide +kernel) (by simp)) (pv_one (pv_cmp (o_eq hr) (ph_var (i := 0)) (ph_var (i := 1))))))))) pst_nil)
    (pst_cons (st_if (pt_w (pw_or' (pt_w (pw_and' (pt_of (ph_of (pv_isi (ph_var (i := 0)) (by rfl) g_isinstance (by rfl) g_int (by decide +kernel) (by simp)))) (pw_and1' (pt_of (ph_of (pv_isi (ph_var (i := 1)) (by rfl) g_isinstance (by rfl) g_int (by decide +kernel) (by simp))))))) (pw_or1' (pt_w (pw_and' (pt_of (ph_of (pv_isi (ph_var (i := 0)) (by rfl) g_isinstance (by rfl) g_str (by decide +kernel) (by simp)))) (pw_and1' (pt_of (ph_of (pv_isi (ph_var (i := 1)) (by rfl) g_isinstance (by rfl) g_str (by decide +kernel) (by simp)))))))))) (pst_one (st_ret (pow_of (pv_cmp (o_eq hr) (ph_var (i := 0)) (ph_var (i := 1)))))) pst_nil)
    (pst_one (st_ret (pow_of (pv_and (pv_isN (pv_of (ph_var (i := 0)))) (pv_one (pv_isN (pv_of (ph_var (i := 1)))))))))))))
theorem sc__law_mixed : FnScope ["tape", "row", "left", "k"] ["tape", "row"] (defScope (Hd.top 9)) := ⟨rfl, rfl, rfl, by decide +kernel, rfl, by decide +kernel, by decide +kernel⟩
def D__law_mixed (e__law_take : FnE) : DS := (sSeq (sSet 2 (dNo (go1 itemsV) (aCons (dVar 1) aNil)))
  (sRet (dLc (dRg (dR1 (dN (g1 lenV) (aCons (dVar 1) aNil)))) (gNm 3) tYesD (dU popV 2 (aCons (dHV (dVO (callD1 e__law_take 0 (aCons (dVar 0) (aCons (dHV (dN (g1 lenV) (aCons (dVar 2) aNil))) aNil))))) aNil)) [3])))
def E__law_mixed : FnE := fnE 3 2 4 (some 0) (D__law_mixed E__law_take)
theorem s__law_mixed (a0 a1 : Sl) : E__law_mixed.sem [a0, a1] = flRes 2 (some 0) ((D__law_mixed E__law_take) [a0, a1, .no, .no]) :=
  (fnE_sem 3 2 4 (some 0) (D__law_mixed E__law_take) [a0, a1]).trans (congrArg (fun l => flRes 2 (some 0) ((D__law_mixed E__law_take) l)) (by rfl : ([a0, a1] : List Sl) ++ List.replicate (4 - 2) .no = [a0, a1, .no, .no]))
theorem np__law_mixed : E__law_mixed.np = 2 := rfl
theorem ok__law_mixed {f : Addr} {fd : FuncData} (F : FunD K "_law_mixed" "_law_mixed" (defArgs (Hd.top 9)) (defBody (Hd.top 9)) (defScope (Hd.top 9)) [] [] f fd) (hm : mg "_law_mixed" = some (.ref f)) (g_range : mg "range" = none) (g_len : mg "len" = none) (g_list : mg "list" = none) (C__law_take : Cal P w K mg base CX0 "_law_take" E__law_take) : Cal P w K mg base CX0 "_law_mixed" E__law_mixed :=
  fn_okD (N := ["tape", "row", "left", "k"]) (ps := ["tape", "row"]) (k := 2) F sc__law_mixed rfl rfl hm (fun _ _ _ _ _ _ us hl => match us, hl with | [_, _], _ => rfl) fun cdv A outer s H E hr => (by
    have nd := (sc__law_mixed).nd
    exact (pst_cons (st_set (i := 2) nd rfl (by first | exact Or.inl rfl | exact Or.inr rfl) (pow_callTy c_list (by rfl) g_list (by decide +kernel) (as_cons (ph_var (i := 1)) as_nil)))
    (pst_one (st_ret (pow_lc rfl nd (it_r1 (by rfl) g_range (pv_callB c_len (by rfl) g_len (by decide +kernel) (as_cons (ph_var (i := 1)) as_nil))) (blkOk_by (own := [("k", 3)]) (by first | decide +kernel | rfl)) (fun _ _ _ _ _ => (gt_name (i := 3) nd rfl (by first | exact Or.inl rfl | exact Or.inr rfl))) (fun _ _ _ _ _ => ts_nil) (fun _ _ _ _ _ => (pv_bmU PySem.F.slot_list_pop PySem.F.type_list_pop m_pop (pv 2) (as_cons (ph_of (pv_own (pow_call1 (kr := 0) C__law_take rfl (by decide) hr (by decide) pass0 (by rfl) (as_cons (ph_var (i := 0)) (as_cons (ph_of (pv_callB c_len (by rfl) g_len (by decide +kernel) (as_cons (ph_var (i := 2)) as_nil))) as_nil))))) as_nil))) (by decide))))))
theorem sc__law_house : FnScope ["tape", "most", "m", "names", "doors", "k", "j"] ["tape", "most"] (defScope (Hd.top 10)) := ⟨rfl, rfl, rfl, by decide +kernel, rfl, by decide +kernel, by decide +kernel⟩
def D__law_house (e__law_take : FnE) (e__law_mixed : FnE) : DS := (sSeq (sSet 2 (dOV (d2 addV (dHV (dC (.int 1))) (dHV (dVO (callD1 e__law_take 0 (aCons (dVar 0) (aCons (dVar 1) aNil))))))))
  (sSeq (sSet 3 (callD1 e__law_mixed 0 (aCons (dVar 0) (aCons (dHV (dVO (dLR (dR1 (dVH (dVar 2)))))) aNil))))
  (sSeq (sSet 4 (dLst aNil))
  (sSeq (sFor (dRg (dR2 (dC (.int 1)) (dVH (dVar 2)))) (gNm 5) (sSeq (sSet 6 (dOV (d2 ixV (dHV (dVO (dLst (aCons (dHV (d2 subV (dVar 5) (dHV (dC (.int 1))))) (aCons (dHV (dVO (callD1 e__law_take 0 (aCons (dVar 0) (aCons (dVar 5) aNil))))) (aCons (dHV (dC (.int 0))) aNil)))))) (dHV (dVO (callD1 e__law_take 0 (aCons (dVar 0) (aCons (dHV (dC (.int 3))) aNil))))))))
  (sDrop (dOV (dU appV 4 (aCons (dHV (dTup (aCons (dHV (dN (g2 min2V) (aCons (dHV (d2 ixV (dVar 3) (dVar 5))) (aCons (dHV (d2 ixV (dVar 3) (dVar 6))) aNil)))) (aCons (dHV (dN (g2 max2V) (aCons (dHV (d2 ixV (dVar 3) (dVar 5))) (aCons (dHV (d2 ixV (dVar 3) (dVar 6))) aNil)))) aNil)))) aNil))))))
  (sRet (dOV (dTup (aCons (dVar 2) (aCons (dHV (dN (g1 tupV) (aCons (dHV (dVO (dNo (go1 sortV) (aCons (dVar 4) aNil)))) aNil))) aNil)))))))))
def E__law_house : FnE := fnE 4 2 7 (some 0) (D__law_house E__law_take E__law_mixed)
theorem s__law_house (a0 a1 : Sl) : E__law_house.sem [a0, a1] = flRes 2 (some 0) ((D__law_house E__law_take E__law_mixed) [a0, a1, .no, .no, .no, .no, .no]) :=
  (fnE_sem 4 2 7 (some 0) (D__law_house E__law_take E__law_mixed) [a0, a1]).trans (congrArg (fun l => flRes 2 (some 0) ((D__law_house E__law_take E__law_mixed) l)) (by rfl : ([a0, a1] : List Sl) ++ List.replicate (7 - 2) .no = [a0, a1, .no, .no, .no, .no, .no]))
theorem np__law_house : E__law_house.np = 2 := rfl
theorem ok__law_house {f : Addr} {fd : FuncData} (F : FunD K "_law_house" "_law_house" (defArgs (Hd.top 10)) (defBody (Hd.top 10)) (defScope (Hd.top 10)) [] [] f fd) (hm : mg "_law_house" = some (.ref f)) (g_tuple : mg "tuple" = none) (g_sorted : mg "sorted" = none) (g_max : mg "max" = none) (g_min : mg "min" = none) (g_range : mg "range" = none) (g_list : mg "list" = none) (C__law_take : Cal P w K mg base CX0 "_law_take" E__law_take) (C__law_mixed : Cal P w K mg base CX0 "_law_mixed" E__law_mixed) : Cal P w K mg base CX0 "_law_house" E__law_house :=
  fn_okD (N := ["tape", "most", "m", "names", "doors", "k", "j"]) (ps := ["tape", "most"]) (k := 3) F sc__law_house rfl rfl hm (fun _ _ _ _ _ _ us hl => match us, hl with | [_, _], _ => rfl) fun cdv A outer s H E hr => (by
    have nd := (sc__law_house).nd
    exact (pst_cons (st_set (i := 2) nd rfl (by first | exact Or.inl rfl | exact Or.inr rfl) (pow_of (pv_op o_add (ph_of pv_int) (ph_of (pv_own (pow_call1 (kr := 0) C__law_take rfl (by decide) hr (by decide) pass0 (by rfl) (as_cons (ph_var (i := 0)) (as_cons (ph_var (i := 1)) as_nil))))))))
    (pst_cons (st_set (i := 3) nd rfl (by first | exact Or.inl rfl | exact Or.inr rfl) (pow_call1 (kr := 0) C__law_mixed rfl (by decide) hr (by decide) pass0 (by rfl) (as_cons (ph_var (i := 0)) (as_cons (ph_of (pv_own (pow_listRg rfl (by rfl) g_list (pr_1 (by rfl) g_range (pv_of (ph_var (i := 2))))))) as_nil))))
    (pst_cons (st_set (i := 4) nd rfl (by first | exact Or.inl rfl | exact Or.inr rfl) (pow_lst as_nil))
    (pst_cons (st_for PassesOwn.never rfl (it_r2 (by rfl) g_range pv_int (pv_of (ph_var (i := 2)))) (gt_name (i := 5) nd rfl (by first | exact Or.inl rfl | exact Or.inr rfl)) (pst_cons (st_set (i := 6) nd rfl (by first | exact Or.inl rfl | exact Or.inr rfl) (pow_of (pv_ix i_ix (ph_of (pv_own (pow_lst (as_cons (ph_of (pv_op o_sub (ph_var (i := 5)) (ph_of pv_int))) (as_cons (ph_of (pv_own (pow_call1 (kr := 0) C__law_take rfl (by decide) hr (by decide) pass0 (by rfl) (as_cons (ph_var (i := 0)) (as_cons (ph_var (i := 5)) as_nil))))) (as_cons (ph_of pv_int) as_nil)))))) (ph_of (pv_own (pow_call1 (kr := 0) C__law_take rfl (by decide) hr (by decide) pass0 (by rfl) (as_cons (ph_var (i := 0)) (as_cons (ph_of pv_int) as_nil))))))))
    (pst_one (st_expr (pow_of (pv_bmU PySem.F.slot_list_append PySem.F.type_list_append m_append (pv 4) (as_cons (ph_of (pv_tup (as_cons (ph_of (pv_callB (c_min2 rfl) (by rfl) g_min (by decide +kernel) (as_cons (ph_of (pv_ix i_ix (ph_var (i := 3)) (ph_var (i := 5)))) (as_cons (ph_of (pv_ix i_ix (ph_var (i := 3)) (ph_var (i := 6)))) as_nil)))) (as_cons (ph_of (pv_callB (c_max2 rfl) (by rfl) g_max (by decide +kernel) (as_cons (ph_of (pv_ix i_ix (ph_var (i := 3)) (ph_var (i := 5)))) (as_cons (ph_of (pv_ix i_ix (ph_var (i := 3)) (ph_var (i := 6)))) as_nil)))) as_nil)))) as_nil)))))))
    (pst_one (st_ret (pow_of (pv_tup (as_cons (ph_var (i := 2)) (as_cons (ph_of (pv_callTy c_tuple (by rfl) g_tuple (by decide +kernel) (as_cons (ph_of (pv_own (pow_callB (c_sorted hr) (by rfl) g_sorted (by decide +kernel) (as_cons (ph_var (i := 4)) as_nil)))) as_nil))) as_nil)))))))))))
theorem sc__law_behind : FnScope ["land", "r", "found", "door"] ["land", "r"] (defScope (Hd.top 11)) := ⟨rfl, rfl, rfl, by decide +kernel, rfl, by decide +kernel, by decide +kernel⟩
def D__law_behind  : DS := (sSeq (sSet 2 (dLst aNil))
  (sSeq (sFor (dIt (d2 ixV (dVar 0) (dHV (dC (.int 1))))) (gNm 3) (sIf (tBl (d2 inV (dVar 1) (dVar 3))) (sDrop (dOV (dU appV 2 (aCons (dHV (d2 subV (dHV (d2 addV (dHV (d2 ixV (dVar 3) (dHV (dC (.int 0))))) (dHV (d2 ixV (dVar 3) (dHV (dC (.int 1))))))) (dVar 1))) aNil)))) sSkip))
  (sRet (dNo (go1 sortV) (aCons (dVar 2) aNil)))))
def E__law_behind : FnE := fnE 1 2 4 none D__law_behind
theorem s__law_behind (a0 a1 : Sl) : E__law_behind.sem [a0, a1] = flRes 2 none (D__law_behind [a0, a1, .no, .no]) :=
  (fnE_sem 1 2 4 none D__law_behind [a0, a1]).trans (congrArg (fun l => flRes 2 none (D__law_behind l)) (by rfl : ([a0, a1] : List Sl) ++ List.replicate (4 - 2) .no = [a0, a1, .no, .no]))
theorem np__law_behind : E__law_behind.np = 2 := rfl
theorem ok__law_behind {f : Addr} {fd : FuncData} (F : FunD K "_law_behind" "_law_behind" (defArgs (Hd.top 11)) (defBody (Hd.top 11)) (defScope (Hd.top 11)) [] [] f fd) (hm : mg "_law_behind" = some (.ref f)) (g_sorted : mg "sorted" = none) : Cal P w K mg base CX0 "_law_behind" E__law_behind :=
  fn_okD (N := ["land", "r", "found", "door"]) (ps := ["land", "r"]) (k := 0) F sc__law_behind rfl rfl hm (fun _ _ _ _ _ _ us hl => match us, hl with | [_, _], _ => rfl) fun cdv A outer s H E hr => (by
    have nd := (sc__law_behind).nd
    exact (pst_cons (st_set (i := 2) nd rfl (by first | exact Or.inl rfl | exact Or.inr rfl) (pow_lst as_nil))
    (pst_cons (st_for PassesOwn.never rfl (it_val (pv_ix i_ix (ph_var (i := 0)) (ph_of pv_int))) (gt_name (i := 3) nd rfl (by first | exact Or.inl rfl | exact Or.inr rfl)) (pst_one (st_if (pt_cmp' (o_in hr) (ph_var (i := 1)) (ph_var (i := 3))) (pst_one (st_expr (pow_of (pv_bmU PySem.F.slot_list_append PySem.F.type_list_append m_append (pv 2) (as_cons (ph_of (pv_op o_sub (ph_of (pv_op o_add (ph_of (pv_ix i_ix (ph_var (i := 3)) (ph_of pv_int))) (ph_of (pv_ix i_ix (ph_var (i := 3)) (ph_of pv_int))))) (ph_var (i := 1)))) as_nil))))) pst_nil)))
    (pst_one (st_ret (pow_callB (c_sorted hr) (by rfl) g_sorted (by decide +kernel) (as_cons (ph_var (i := 2)) as_nil)))))))
theorem sc__law_stroll : FnScope ["tape", "land", "most", "found", "turn", "near", "r", "s"] ["tape", "land", "most"] (defScope (Hd.top 12)) := ⟨rfl, rfl, rfl, by decide +kernel, rfl, by decide +kernel, by decide +kernel⟩
def D__law_stroll (e__law_take : FnE) (e__law_behind : FnE) : DS := (sSeq (sSet 3 (dLst (aCons (dHV (dVO (callD1 e__law_take 0 (aCons (dVar 0) (aCons (dHV (d2 ixV (dVar 1) (dHV (dC (.int 0))))) aNil))))) aNil)))
  (sSeq (sFor (dRg (dR1 (dVO (callD1 e__law_take 0 (aCons (dVar 0) (aCons (dVar 2) aNil)))))) (gNm 4) (sSeq (sSet 5 (dLst aNil))
  (sSeq (sForV 3 (gNm 6) (sDrop (dOV (dU extV 5 (aCons (dHV (dVO (dLc (dIt (dVO (callD0 e__law_behind (aCons (dVar 1) (aCons (dVar 6) aNil))))) (gNm 7) (tBl (d2 ninV (dVar 7) (dVar 3))) (dVH (dVar 7)) [7]))) aNil)))))
  (sIf (tBl (d2 neV (dVar 5) (dHV (dVO (dLst aNil))))) (sDrop (dOV (dU appV 3 (aCons (dHV (d2 ixV (dVar 5) (dHV (dVO (callD1 e__law_take 0 (aCons (dVar 0) (aCons (dHV (dN (g1 lenV) (aCons (dVar 5) aNil))) aNil))))))) aNil)))) sSkip))))
  (sRet (dOV (dN (g1 tupV) (aCons (dHV (dVO (dNo (go1 sortV) (aCons (dVar 3) aNil)))) aNil))))))
def E__law_stroll : FnE := fnE 3 3 8 (some 0) (D__law_stroll E__law_take E__law_behind)
theorem s__law_stroll (a0 a1 a2 : Sl) : E__law_stroll.sem [a0, a1, a2] = flRes 3 (some 0) ((D__law_stroll E__law_take E__law_behind) [a0, a1, a2, .no, .no, .no, .no, .no]) :=
  (fnE_sem 3 3 8 (some 0) (D__law_stroll E__law_take E__law_behind) [a0, a1, a2]).trans (congrArg (fun l => flRes 3 (some 0) ((D__law_stroll E__law_take E__law_behind) l)) (by rfl : ([a0, a1, a2] : List Sl) ++ List.replicate (8 - 3) .no = [a0, a1, a2, .no, .no, .no, .no, .no]))
theorem np__law_stroll : E__law_stroll.np = 3 := rfl
theorem ok__law_stroll {f : Addr} {fd : FuncData} (F : FunD K "_law_stroll" "_law_stroll" (defArgs (Hd.top 12)) (defBody (Hd.top 12)) (defScope (Hd.top 12)) [] [] f fd) (hm : mg "_law_stroll" = some (.ref f)) (g_tuple : mg "tuple" = none) (g_sorted : mg "sorted" = none) (g_len : mg "len" = none) (g_range : mg "range" = none) (C__law_take : Cal P w K mg base CX0 "_law_take" E__law_take) (C__law_behind : Cal P w K mg base CX0 "_law_behind" E__law_behind) : Cal P w K mg base CX0 "_law_stroll" E__law_stroll :=
  fn_okD (N := ["tape", "land", "most", "found", "turn", "near", "r", "s"]) (ps := ["tape", "land", "most"]) (k := 2) F sc__law_stroll rfl rfl hm (fun _ _ _ _ _ _ us hl => match us, hl with | [_, _, _], _ => rfl) fun cdv A outer s H E hr => (by
    have nd := (sc__law_stroll).nd
    exact (pst_cons (st_set (i := 3) nd rfl (by first | exact Or.inl rfl | exact Or.inr rfl) (pow_lst (as_cons (ph_of (pv_own (pow_call1 (kr := 0) C__law_take rfl (by decide) hr (by decide) pass0 (by rfl) (as_cons (ph_var (i := 0)) (as_cons (ph_of (pv_ix i_ix (ph_var (i := 1)) (ph_of pv_int))) as_nil))))) as_nil)))
    (pst_cons (st_for PassesOwn.never rfl (it_r1 (by rfl) g_range (pv_own (pow_call1 (kr := 0) C__law_take rfl (by decide) hr (by decide) pass0 (by rfl) (as_cons (ph_var (i := 0)) (as_cons (ph_var (i := 2)) as_nil))))) (gt_name (i := 4) nd rfl (by first | exact Or.inl rfl | exact Or.inr rfl)) (pst_cons (st_set (i := 5) nd rfl (by first | exact Or.inl rfl | exact Or.inr rfl) (pow_lst as_nil))
    (pst_cons (st_forV PassesOwn.never rfl (ph_var (i := 3)) (pv 3) (gt_name (i := 6) nd rfl (by first | exact Or.inl rfl | exact Or.inr rfl)) (pst_one (st_expr (pow_of (pv_bmU PySem.F.slot_list_extend PySem.F.type_list_extend m_extend (pv 5) (as_cons (ph_of (pv_own (pow_lc rfl nd (it_val (pv_own (pow_call0 C__law_behind rfl hr (by decide) pass0 (by rfl) (as_cons (ph_var (i := 1)) (as_cons (ph_var (i := 6)) as_nil))))) (blkOk_by (own := [("s", 7)]) (by first | decide +kernel | rfl)) (fun _ _ _ _ _ => (gt_name (i := 7) nd rfl (by first | exact Or.inl rfl | exact Or.inr rfl))) (fun _ _ _ _ _ => (ts_one (pt_cmp' (o_nin hr) (ph_var (i := 7)) (ph_var (i := 3))))) (fun _ _ _ _ _ => (pv_of (ph_var (i := 7)))) (by decide)))) as_nil))))))
    (pst_one (st_if (pt_cmp' (o_ne hr) (ph_var (i := 5)) (ph_of (pv_own (pow_lst as_nil)))) (pst_one (st_expr (pow_of (pv_bmU PySem.F.slot_list_append PySem.F.type_list_append m_append (pv 3) (as_cons (ph_of (pv_ix i_ix (ph_var (i := 5)) (ph_of (pv_own (pow_call1 (kr := 0) C__law_take rfl (by decide) hr (by decide) pass0 (by rfl) (as_cons (ph_var (i := 0)) (as_cons (ph_of (pv_callB c_len (by rfl) g_len (by decide +kernel) (as_cons (ph_var (i := 5)) as_nil))) as_nil))))))) as_nil))))) pst_nil)))))
    (pst_one (st_ret (pow_of (pv_callTy c_tuple (by rfl) g_tuple (by decide +kernel) (as_cons (ph_of (pv_own (pow_callB (c_sorted hr) (by rfl) g_sorted (by decide +kernel) (as_cons (ph_var (i := 3)) as_nil)))) as_nil))))))))
theorem sc__law_strolls : FnScope ["tape", "land", "many", "most", "k"] ["tape", "land", "many", "most"] (defScope (Hd.top 13)) := ⟨rfl, rfl, rfl, by decide +kernel, rfl, by decide +kernel, by decide +kernel⟩
def D__law_strolls (e__law_stroll : FnE) : DS := (sRet (dOV (dN (g1 tupV) (aCons (dHV (dVO (dLc (dRg (dR1 (dVH (dVar 2)))) (gNm 4) tYesD (dVO (callD1 e__law_stroll 0 (aCons (dVar 0) (aCons (dVar 1) (aCons (dVar 3) aNil))))) [4]))) aNil))))
def E__law_strolls : FnE := fnE 4 4 5 (some 0) (D__law_strolls E__law_stroll)
theorem s__law_strolls (a0 a1 a2 a3 : Sl) : E__law_strolls.sem [a0, a1, a2, a3] = flRes 4 (some 0) ((D__law_strolls E__law_stroll) [a0, a1, a2, a3, .no]) :=
  (fnE_sem 4 4 5 (some 0) (D__law_strolls E__law_stroll) [a0, a1, a2, a3]).trans (congrArg (fun l => flRes 4 (some 0) ((D__law_strolls E__law_stroll) l)) (by rfl : ([a0, a1, a2, a3] : List Sl) ++ List.replicate (5 - 4) .no = [a0, a1, a2, a3, .no]))
theorem np__law_strolls : E__law_strolls.np = 4 := rfl
theorem ok__law_strolls {f : Addr} {fd : FuncData} (F : FunD K "_law_strolls" "_law_strolls" (defArgs (Hd.top 13)) (defBody (Hd.top 13)) (defScope (Hd.top 13)) [] [] f fd) (hm : mg "_law_strolls" = some (.ref f)) (g_tuple : mg "tuple" = none) (g_range : mg "range" = none) (C__law_stroll : Cal P w K mg base CX0 "_law_stroll" E__law_stroll) : Cal P w K mg base CX0 "_law_strolls" E__law_strolls :=
  fn_okD (N := ["tape", "land", "many", "most", "k"]) (ps := ["tape", "land", "many", "most"]) (k := 3) F sc__law_strolls rfl rfl hm (fun _ _ _ _ _ _ us hl => match us, hl with | [_, _, _, _], _ => rfl) fun cdv A outer s H E hr => (by
    have nd := (sc__law_strolls).nd
    exact (pst_one (st_ret (pow_of (pv_callTy c_tuple (by rfl) g_tuple (by decide +kernel) (as_cons (ph_of (pv_own (pow_lc rfl nd (it_r1 (by rfl) g_range (pv_of (ph_var (i := 2)))) (blkOk_by (own := [("k", 4)]) (by first | decide +kernel | rfl)) (fun _ _ _ _ _ => (gt_name (i := 4) nd rfl (by first | exact Or.inl rfl | exact Or.inr rfl))) (fun _ _ _ _ _ => ts_nil) (fun _ _ _ _ _ => (pv_own (pow_call1 (kr := 0) C__law_stroll rfl (by decide) hr (by decide) pass0 (by rfl) (as_cons (ph_var (i := 0)) (as_cons (ph_var (i := 1)) (as_cons (ph_var (i := 3)) as_nil)))))) (by decide)))) as_nil))))))
theorem sc__law_due : FnScope ["land", "strolls", "spots", "i", "j", "r", "stroll"] ["land", "strolls"] (defScope (Hd.top 14)) := ⟨rfl, rfl, rfl, by decide +kernel, rfl, by decide +kernel, by decide +kernel⟩
def D__law_due  : DS := (sSeq (sSet 2 (dLc (dRg (dR1 (d2 ixV (dVar 0) (dHV (dC (.int 0)))))) (gNm 5) (tOf (dHV (dN (g1 allV) (aCons (dHV (dVO (dLc (dIt (dVH (dVar 1))) (gNm 6) tYesD (d2 inV (dVar 5) (dVar 6)) [6]))) aNil)))) (dVH (dVar 5)) [5]))
  (sSeq (sIf (tBl (d2 neV (dVar 2) (dHV (dVO (dLst aNil))))) (sRet (dOV (dTup (aCons (dHV (dC (.str "room"))) (aCons (dHV (d2 ixV (dVar 2) (dHV (dC (.int 0))))) aNil))))) sSkip)
  (sSeq (sFor (dRg (dR1 (dN (g1 lenV) (aCons (dVar 1) aNil)))) (gNm 3) (sFor (dRg (dR2 (d2 addV (dVar 3) (dHV (dC (.int 1)))) (dN (g1 lenV) (aCons (dVar 1) aNil)))) (gNm 4) (sIf (tNotD (tOf (dHV (dN (g1 anyV) (aCons (dHV (dVO (dLc (dIt (d2 ixV (dVar 1) (dVar 3))) (gNm 5) tYesD (d2 inV (dVar 5) (dHV (d2 ixV (dVar 1) (dVar 4)))) [5]))) aNil))))) (sRet (dOV (dTup (aCons (dHV (dC (.str "apart"))) (aCons (dVar 3) (aCons (dVar 4) aNil)))))) sSkip)))
  (sRet (dOV (dC .non))))))
def E__law_due : FnE := fnE 1 2 7 none D__law_due
theorem s__law_due (a0 a1 : Sl) : E__law_due.sem [a0, a1] = flRes 2 none (D__law_due [a0, a1, .no, .no, .no, .no, .no]) :=
  (fnE_sem 1 2 7 none D__law_due [a0, a1]).trans (congrArg (fun l => flRes 2 none (D__law_due l)) (by rfl : ([a0, a1] : List Sl) ++ List.replicate (7 - 2) .no = [a0, a1, .no, .no, .no, .no, .no]))
theorem np__law_due : E__law_due.np = 2 := rfl
theorem ok__law_due {f : Addr} {fd : FuncData} (F : FunD K "_law_due" "_law_due" (defArgs (Hd.top 14)) (defBody (Hd.top 14)) (defScope (Hd.top 14)) [] [] f fd) (hm : mg "_law_due" = some (.ref f)) (g_any : mg "any" = none) (g_range : mg "range" = none) (g_len : mg "len" = none) (g_all : mg "all" = none) : Cal P w K mg base CX0 "_law_due" E__law_due :=
  fn_okD (N := ["land", "strolls", "spots", "i", "j", "r", "stroll"]) (ps := ["land", "strolls"]) (k := 0) F sc__law_due rfl rfl hm (fun _ _ _ _ _ _ us hl => match us, hl with | [_, _], _ => rfl) fun cdv A outer s H E hr => (by
    have nd := (sc__law_due).nd
    exact (pst_cons (st_setLc (i := 2) rfl nd rfl rfl (sw_true rfl rfl rfl (by decide +kernel)) (it_r1 (by rfl) g_range (pv_ix i_ix (ph_var (i := 0)) (ph_of pv_int))) (blkOk_by (own := [("r", 5)]) (by first | decide +kernel | rfl)) (fun _ _ _ _ _ => (gt_name (i := 5) nd rfl (by first | exact Or.inl rfl | exact Or.inr rfl))) (fun _ _ _ _ _ => (ts_one (pt_of (ph_of (pv_callB (c_all rfl) (by rfl) g_all (by decide +kernel) (as_cons (ph_of (pv_own (pow_lc rfl nd (it_val (pv_of (ph_var (i := 1)))) (blkOk_by (own := [("stroll", 6)]) (by first | decide +kernel | rfl)) (fun _ _ _ _ _ => (gt_name (i := 6) nd rfl (by first | exact Or.inl rfl | exact Or.inr rfl))) (fun _ _ _ _ _ => ts_nil) (fun _ _ _ _ _ => (pv_cmp (o_in hr) (ph_var (i := 5)) (ph_var (i := 6)))) (by decide)))) as_nil)))))) (fun _ _ _ _ _ => (pv_of (ph_var (i := 5)))) (by decide))
    (pst_cons (st_if (pt_cmp' (o_ne hr) (ph_var (i := 2)) (ph_of (pv_own (pow_lst as_nil)))) (pst_one (st_ret (pow_of (pv_tup (as_cons (ph_of pv_str) (as_cons (ph_of (pv_ix i_ix (ph_var (i := 2)) (ph_of pv_int))) as_nil)))))) pst_nil)
    (pst_cons (st_for PassesOwn.never rfl (it_r1 (by rfl) g_range (pv_callB c_len (by rfl) g_len (by decide +kernel) (as_cons (ph_var (i := 1)) as_nil))) (gt_name (i := 3) nd rfl (by first | exact Or.inl rfl | exact Or.inr rfl)) (pst_one (st_for PassesOwn.never rfl (it_r2 (by rfl) g_range (pv_op o_add (ph_var (i := 3)) (ph_of pv_int)) (pv_callB c_len (by rfl) g_len (by decide +kernel) (as_cons (ph_var (i := 1)) as_nil))) (gt_name (i := 4) nd rfl (by first | exact Or.inl rfl | exact Or.inr rfl)) (pst_one (st_if (pt_not' (pt_of (ph_of (pv_callB (c_any rfl) (by rfl) g_any (by decide +kernel) (as_cons (ph_of (pv_own (pow_lc rfl nd (it_val (pv_ix i_ix (ph_var (i := 1)) (ph_var (i := 3)))) (blkOk_by (own := [("r", 5)]) (by first | decide +kernel | rfl)) (fun _ _ _ _ _ => (gt_name (i := 5) nd rfl (by first | exact Or.inl rfl | exact Or.inr rfl))) (fun _ _ _ _ _ => ts_nil) (fun _ _ _ _ _ => (pv_cmp (o_in hr) (ph_var (i := 5)) (ph_of (pv_ix i_ix (ph_var (i := 1)) (ph_var (i := 4)))))) (by decide)))) as_nil))))) (pst_one (st_ret (pow_of (pv_tup (as_cons (ph_of pv_str) (as_cons (ph_var (i := 3)) (as_cons (ph_var (i := 4)) as_nil))))))) pst_nil)))))
    (pst_one (st_ret (pow_of pv_non)))))))
theorem sc__law_through : FnScope ["tape", "land", "room", "many", "most", "found", "k", "spots", "turn", "near", "r", "s"] ["tape", "land", "room", "many", "most"] (defScope (Hd.top 15)) := ⟨rfl, rfl, rfl, by decide +kernel, rfl, by decide +kernel, by decide +kernel⟩
def D__law_through (e__law_take : FnE) (e__law_behind : FnE) : DS := (sSeq (sSet 5 (dLst aNil))
  (sSeq (sFor (dRg (dR1 (dVH (dVar 3)))) (gNm 6) (sSeq (sSet 7 (dLst (aCons (dVar 2) aNil)))
  (sSeq (sFor (dRg (dR1 (dVO (callD1 e__law_take 0 (aCons (dVar 0) (aCons (dVar 4) aNil)))))) (gNm 8) (sSeq (sSet 9 (dLst aNil))
  (sSeq (sForV 7 (gNm 10) (sDrop (dOV (dU extV 9 (aCons (dHV (dVO (dLc (dIt (dVO (callD0 e__law_behind (aCons (dVar 1) (aCons (dVar 10) aNil))))) (gNm 11) (tBl (d2 ninV (dVar 11) (dVar 7))) (dVH (dVar 11)) [11]))) aNil)))))
  (sIf (tBl (d2 neV (dVar 9) (dHV (dVO (dLst aNil))))) (sDrop (dOV (dU appV 7 (aCons (dHV (d2 ixV (dVar 9) (dHV (dVO (callD1 e__law_take 0 (aCons (dVar 0) (aCons (dHV (dN (g1 lenV) (aCons (dVar 9) aNil))) aNil))))))) aNil)))) sSkip))))
  (sDrop (dOV (dU appV 5 (aCons (dHV (dN (g1 tupV) (aCons (dHV (dVO (dNo (go1 sortV) (aCons (dVar 7) aNil)))) aNil))) aNil)))))))
  (sRet (dOV (dN (g1 tupV) (aCons (dVar 5) aNil))))))
def E__law_through : FnE := fnE 3 5 12 (some 0) (D__law_through E__law_take E__law_behind)
theorem s__law_through (a0 a1 a2 a3 a4 : Sl) : E__law_through.sem [a0, a1, a2, a3, a4] = flRes 5 (some 0) ((D__law_through E__law_take E__law_behind) [a0, a1, a2, a3, a4, .no, .no, .no, .no, .no, .no, .no]) :=
  (fnE_sem 3 5 12 (some 0) (D__law_through E__law_take E__law_behind) [a0, a1, a2, a3, a4]).trans (congrArg (fun l => flRes 5 (some 0) ((D__law_through E__law_take E__law_behind) l)) (by rfl : ([a0, a1, a2, a3, a4] : List Sl) ++ List.replicate (12 - 5) .no = [a0, a1, a2, a3, a4, .no, .no, .no, .no, .no, .no, .no]))
theorem np__law_through : E__law_through.np = 5 := rfl
theorem ok__law_through {f : Addr} {fd : FuncData} (F : FunD K "_law_through" "_law_through" (defArgs (Hd.top 15)) (defBody (Hd.top 15)) (defScope (Hd.top 15)) [] [] f fd) (hm : mg "_law_through" = some (.ref f)) (g_tuple : mg "tuple" = none) (g_sorted : mg "sorted" = none) (g_len : mg "len" = none) (g_range : mg "range" = none) (C__law_take : Cal P w K mg base CX0 "_law_take" E__law_take) (C__law_behind : Cal P w K mg base CX0 "_law_behind" E__law_behind) : Cal P w K mg base CX0 "_law_through" E__law_through :=
  fn_okD (N := ["tape", "land", "room", "many", "most", "found", "k", "spots", "turn", "near", "r", "s"]) (ps := ["tape", "land", "room", "many", "most"]) (k := 2) F sc__law_through rfl rfl hm (fun _ _ _ _ _ _ us hl => match us, hl with | [_, _, _, _, _], _ => rfl) fun cdv A outer s H E hr => (by
    have nd := (sc__law_through).nd
    exact (pst_cons (st_set (i := 5) nd rfl (by first | exact Or.inl rfl | exact Or.inr rfl) (pow_lst as_nil))
    (pst_cons (st_for PassesOwn.never rfl (it_r1 (by rfl) g_range (pv_of (ph_var (i := 3)))) (gt_name (i := 6) nd rfl (by first | exact Or.inl rfl | exact Or.inr rfl)) (pst_cons (st_set (i := 7) nd rfl (by first | exact Or.inl rfl | exact Or.inr rfl) (pow_lst (as_cons (ph_var (i := 2)) as_nil)))
    (pst_cons (st_for PassesOwn.never rfl (it_r1 (by rfl) g_range (pv_own (pow_call1 (kr := 0) C__law_take rfl (by decide) hr (by decide) pass0 (by rfl) (as_cons (ph_var (i := 0)) (as_cons (ph_var (i := 4)) as_nil))))) (gt_name (i := 8) nd rfl (by first | exact Or.inl rfl | exact Or.inr rfl)) (pst_cons (st_set (i := 9) nd rfl (by first | exact Or.inl rfl | exact Or.inr rfl) (pow_lst as_nil))
    (pst_cons (st_forV PassesOwn.never rfl (ph_var (i := 7)) (pv 7) (gt_name (i := 10) nd rfl (by first | exact Or.inl rfl | exact Or.inr rfl)) (pst_one (st_expr (pow_of (pv_bmU PySem.F.slot_list_extend PySem.F.type_list_extend m_extend (pv 9) (as_cons (ph_of (pv_own (pow_lc rfl nd (it_val (pv_own (pow_call0 C__law_behind rfl hr (by decide) pass0 (by rfl) (as_cons (ph_var (i := 1)) (as_cons (ph_var (i := 10)) as_nil))))) (blkOk_by (own := [("s", 11)]) (by first | decide +kernel | rfl)) (fun _ _ _ _ _ => (gt_name (i := 11) nd rfl (by first | exact Or.inl rfl | exact Or.inr rfl))) (fun _ _ _ _ _ => (ts_one (pt_cmp' (o_nin hr) (ph_var (i := 11)) (ph_var (i := 7))))) (fun _ _ _ _ _ => (pv_of (ph_var (i := 11)))) (by decide)))) as_nil))))))
    (pst_one (st_if (pt_cmp' (o_ne hr) (ph_var (i := 9)) (ph_of (pv_own (pow_lst as_nil)))) (pst_one (st_expr (pow_of (pv_bmU PySem.F.slot_list_append PySem.F.type_list_append m_append (pv 7) (as_cons (ph_of (pv_ix i_ix (ph_var (i := 9)) (ph_of (pv_own (pow_call1 (kr := 0) C__law_take rfl (by decide) hr (by decide) pass0 (by rfl) (as_cons (ph_var (i := 0)) (as_cons (ph_of (pv_callB c_len (by rfl) g_len (by decide +kernel) (as_cons (ph_var (i := 9)) as_nil))) as_nil))))))) as_nil))))) pst_nil)))))
    (pst_one (st_expr (pow_of (pv_bmU PySem.F.slot_list_append PySem.F.type_list_append m_append (pv 5) (as_cons (ph_of (pv_callTy c_tuple (by rfl) g_tuple (by decide +kernel) (as_cons (ph_of (pv_own (pow_callB (c_sorted hr) (by rfl) g_sorted (by decide +kernel) (as_cons (ph_var (i := 7)) as_nil)))) as_nil))) as_nil))))))))
    (pst_one (st_ret (pow_of (pv_callTy c_tuple (by rfl) g_tuple (by decide +kernel) (as_cons (ph_var (i := 5)) as_nil))))))))
theorem sc_law : FnScope ["script", "tape", "most", "land", "many", "room", "sets", "strolls", "due"] ["script"] (defScope (Hd.top 16)) := ⟨rfl, rfl, rfl, by decide +kernel, rfl, by decide +kernel, by decide +kernel⟩
def D_law (e__law_due : FnE) (e__law_same : FnE) (e_gather : FnE) (e__law_strolls : FnE) (e__law_through : FnE) (e__law_take : FnE) (e__law_house : FnE) (e__law_tape : FnE) : DS := (sSeq (sSet 1 (callD0 e__law_tape (aCons (dVar 0) aNil)))
  (sSeq (sFor (dIt (dTup (aCons (dHV (dC (.int 8))) (aCons (dHV (dC (.int 8))) (aCons (dHV (dC (.int 24))) aNil))))) (gNm 2) (sSeq (sSet 3 (callD1 e__law_house 0 (aCons (dVar 1) (aCons (dVar 2) aNil))))
  (sSeq (sSet 4 (dOV (d2 addV (dHV (dC (.int 1))) (dHV (dVO (callD1 e__law_take 0 (aCons (dVar 1) (aCons (dHV (dIf (tBl (d2 eqV (dVar 2) (dHV (dC (.int 8))))) (dC (.int 6)) (dC (.int 24)))) aNil))))))))
  (sSeq (sSet 5 (callD1 e__law_take 0 (aCons (dVar 1) (aCons (dHV (d2 ixV (dVar 3) (dHV (dC (.int 0))))) aNil))))
  (sSeq (sSet 6 (dLst (aCons (dHV (dVO (callD1 e__law_strolls 0 (aCons (dVar 1) (aCons (dVar 3) (aCons (dVar 4) (aCons (dVar 2) aNil))))))) (aCons (dHV (dVO (callD1 e__law_through 0 (aCons (dVar 1) (aCons (dVar 3) (aCons (dVar 5) (aCons (dVar 4) (aCons (dVar 2) aNil)))))))) aNil))))
  (sSeq (sDrop (dOV (dU appV 6 (aCons (dHV (dSl (dHV (d2 addV (dHV (d2 ixV (dVar 6) (dHV (dC (.int 1))))) (dHV (dVO (callD1 e__law_strolls 0 (aCons (dVar 1) (aCons (dVar 3) (aCons (dHV (dC (.int 1))) (aCons (dHV (dC (.int 4))) aNil))))))))) (pSome (dNeg (dC (.int 24)))) pNone)) aNil))))
  (sSeq (sForV 6 (gNm 7) (sSeq (sSet 8 (callD0 e__law_due (aCons (dVar 3) (aCons (dVar 7) aNil))))
  (sIf (tOrD (tBl (dIsN (dVH (dVar 8)))) (tNotD (tOf (dHV (dVO (callD0 e__law_same (aCons (dHV (dVO (callD0 e_gather (aCons (dVar 3) (aCons (dVar 7) aNil))))) (aCons (dVar 8) aNil)))))))) (sRet (dOV (dC (.bl false)))) sSkip)))
  (sIf (tBl (d2 neV (dHV (d2 ixV (dHV (dVO (callD0 e__law_due (aCons (dVar 3) (aCons (dHV (d2 ixV (dVar 6) (dHV (dC (.int 1))))) aNil))))) (dHV (dC (.int 0))))) (dHV (dC (.str "room"))))) (sRet (dOV (dC (.bl false)))) sSkip))))))))
  (sRet (dOV (dC (.bl true))))))
def E_law : FnE := fnE 10 1 9 none (D_law E__law_due (E__law_same 8) E_gather E__law_strolls E__law_through E__law_take E__law_house E__law_tape)
theorem s_law (a0 : Sl) : E_law.sem [a0] = flRes 1 none ((D_law E__law_due (E__law_same 8) E_gather E__law_strolls E__law_through E__law_take E__law_house E__law_tape) [a0, .no, .no, .no, .no, .no, .no, .no, .no]) :=
  (fnE_sem 10 1 9 none (D_law E__law_due (E__law_same 8) E_gather E__law_strolls E__law_through E__law_take E__law_house E__law_tape) [a0]).trans (congrArg (fun l => flRes 1 none ((D_law E__law_due (E__law_same 8) E_gather E__law_strolls E__law_through E__law_take E__law_house E__law_tape) l)) (by rfl : ([a0] : List Sl) ++ List.replicate (9 - 1) .no = [a0, .no, .no, .no, .no, .no, .no, .no, .no]))
theorem np_law : E_law.np = 1 := rfl
theorem fo_law {f : Addr} {fd : FuncData} (F : FunD K "law" "law" (defArgs (Hd.top 16)) (defBody (Hd.top 16)) (defScope (Hd.top 16)) [] [] f fd) (C__law_due : Cal P w K mg base CX0 "_law_due" E__law_due) (C__law_same : Cal P w K mg base CX0 "_law_same" (E__law_same 8)) (C_gather : Cal P w K mg base CX0 "gather" E_gather) (C__law_strolls : Cal P w K mg base CX0 "_law_strolls" E__law_strolls) (C__law_through : Cal P w K mg base CX0 "_law_through" E__law_through) (C__law_take : Cal P w K mg base CX0 "_law_take" E__law_take) (C__law_house : Cal P w K mg base CX0 "_law_house" E__law_house) (C__law_tape : Cal P w K mg base CX0 "_law_tape" E__law_tape) : FnOk P w K mg base CX0 10 f fd ["script"] (spF K mg E_law) :=
  fn_okW (N := ["script", "tape", "most", "land", "many", "room", "sets", "strolls", "due"]) (ps := ["script"]) (k := 9) F sc_law rfl rfl fun cdv A outer s H E hr => (by
    have nd := (sc_law).nd
    exact (pst_cons (st_set (i := 1) nd rfl (by first | exact Or.inl rfl | exact Or.inr rfl) (pow_call0 C__law_tape rfl hr (by decide) pass0 (by rfl) (as_cons (ph_var (i := 0)) as_nil)))
    (pst_cons (st_for PassesOwn.never rfl (it_val (pv_tup (as_cons (ph_of pv_int) (as_cons (ph_of pv_int) (as_cons (ph_of pv_int) as_nil))))) (gt_name (i := 2) nd rfl (by first | exact Or.inl rfl | exact Or.inr rfl)) (pst_cons (st_set (i := 3) nd rfl (by first | exact Or.inl rfl | exact Or.inr rfl) (pow_call1 (kr := 0) C__law_house rfl (by decide) hr (by decide) pass0 (by rfl) (as_cons (ph_var (i := 1)) (as_cons (ph_var (i := 2)) as_nil))))
    (pst_cons (st_set (i := 4) nd rfl (by first | exact Or.inl rfl | exact Or.inr rfl) (pow_of (pv_op o_add (ph_of pv_int) (ph_of (pv_own (pow_call1 (kr := 0) C__law_take rfl (by decide) hr (by decide) pass0 (by rfl) (as_cons (ph_var (i := 1)) (as_cons (ph_of (pv_if (pt_cmp' (o_eq hr) (ph_var (i := 2)) (ph_of pv_int)) pv_int pv_int)) as_nil))))))))
    (pst_cons (st_set (i := 5) nd rfl (by first | exact Or.inl rfl | exact Or.inr rfl) (pow_call1 (kr := 0) C__law_take rfl (by decide) hr (by decide) pass0 (by rfl) (as_cons (ph_var (i := 1)) (as_cons (ph_of (pv_ix i_ix (ph_var (i := 3)) (ph_of pv_int))) as_nil))))
    (pst_cons (st_set (i := 6) nd rfl (by first | exact Or.inl rfl | exact Or.inr rfl) (pow_lst (as_cons (ph_of (pv_own (pow_call1 (kr := 0) C__law_strolls rfl (by decide) hr (by decide) pass0 (by rfl) (as_cons (ph_var (i := 1)) (as_cons (ph_var (i := 3)) (as_cons (ph_var (i := 4)) (as_cons (ph_var (i := 2)) as_nil))))))) (as_cons (ph_of (pv_own (pow_call1 (kr := 0) C__law_through rfl (by decide) hr (by decide) pass0 (by rfl) (as_cons (ph_var (i := 1)) (as_cons (ph_var (i := 3)) (as_cons (ph_var (i := 5)) (as_cons (ph_var (i := 4)) (as_cons (ph_var (i := 2)) as_nil)))))))) as_nil))))
    (pst_cons (st_expr (pow_of (pv_bmU PySem.F.slot_list_append PySem.F.type_list_append m_append (pv 6) (as_cons (ph_of (pv_slice (ph_of (pv_op o_add (ph_of (pv_ix i_ix (ph_var (i := 6)) (ph_of pv_int))) (ph_of (pv_own (pow_call1 (kr := 0) C__law_strolls rfl (by decide) hr (by decide) pass0 (by rfl) (as_cons (ph_var (i := 1)) (as_cons (ph_var (i := 3)) (as_cons (ph_of pv_int) (as_cons (ph_of pv_int) as_nil))))))))) (pp_some (pv_neg pv_int)) pp_none)) as_nil))))
    (pst_cons (st_forV PassesOwn.never rfl (ph_var (i := 6)) (pv 6) (gt_name (i := 7) nd rfl (by first | exact Or.inl rfl | exact Or.inr rfl)) (pst_cons (st_set (i := 8) nd rfl (by first | exact Or.inl rfl | exact Or.inr rfl) (pow_call0 C__law_due rfl hr (by decide) pass0 (by rfl) (as_cons (ph_var (i := 3)) (as_cons (ph_var (i := 7)) as_nil))))
    (pst_one (st_if (pt_w (pw_or' (pt_isN (pv_of (ph_var (i := 8)))) (pw_or1' (pt_not' (pt_of (ph_of (pv_own (pow_call0 C__law_same rfl hr (by decide) pass0 (by rfl) (as_cons (ph_of (pv_own (pow_call0 C_gather rfl hr (by decide) pass0 (by rfl) (as_cons (ph_var (i := 3)) (as_cons (ph_var (i := 7)) as_nil))))) (as_cons (ph_var (i := 8)) as_nil)))))))))) (pst_one (st_ret (pow_of pv_bl))) pst_nil))))
    (pst_one (st_if (pt_cmp' (o_ne hr) (ph_of (pv_ix i_ix (ph_of (pv_own (pow_call0 C__law_due rfl hr (by decide) pass0 (by rfl) (as_cons (ph_var (i := 3)) (as_cons (ph_of (pv_ix i_ix (ph_var (i := 6)) (ph_of pv_int))) as_nil))))) (ph_of pv_int))) (ph_of pv_str)) (pst_one (st_ret (pow_of pv_bl))) pst_nil)))))))))
    (pst_one (st_ret (pow_of pv_bl))))))
end

end B75

namespace C75
open PySem Ev B75

theorem ok_size {n : Nat} (h : n ≤ 1000000) : n ≤ sizeLine := Nat.le_trans h (Nat.le_trans (by decide) sizeLine_big)
/-! ### what the numbers' def is worth -/
def MixOk (e : FnE) : Prop := e.np = 1 ∧ ∀ x : Int, ∃ y : Int, e.sem [.fz (.int x)] = .ok (.fz (.int y), .no)
theorem mix_ok : MixOk E__law_mix := by
  refine ⟨rfl, fun x => ?_⟩
  have h1 : mulV (.int x) (.int 6364136223846793005) = some (.int (x * 6364136223846793005)) := mul_r (by decide)
  have h2 : ∀ y : Int, mulV (.int y) (.int 69621) = some (.int (y * 69621)) := fun y => mul_r (by decide)
  have h4 : ∀ y : Int, divV (.int y) (.int 4294967296) = some (.int (y / 4294967296)) := fun y => div_of (by decide) (by decide)
  have h5 : ∀ y : Int, modV (.int y) (.int 18446744073709551616) = some (.int (y % 18446744073709551616)) := fun y => mod_of (by decide)
  have h6 : ∀ y : Int, modV (.int y) (.int 18446744073709551557) = some (.int (y % 18446744073709551557)) := fun y => mod_of (by decide)
  rw [s__law_mix]
  have k1 : 0 ≤ (x * 6364136223846793005 + 1442695040888963407) % 18446744073709551616 := by omega
  have k2 : (x * 6364136223846793005 + 1442695040888963407) % 18446744073709551616 < 18446744073709551616 := by omega
  generalize hn : (x * 6364136223846793005 + 1442695040888963407) % 18446744073709551616 = n at k1 k2
  have h3 : mulV (.int n) (.int n) = some (.int (n * n)) := mul_r (by omega)
  refine ⟨(n * n / 4294967296 + n * 69621) % 18446744073709551557, ?_⟩
  simp [D__law_mix, fo_ok, th_nx, th_rt, th_bk, th_ct, op_s, ob_ok, oo_s, de_v, de_s, ds_n, ds_c, ts_n, ts_c, tv_v, tv_s, fl_rt, fl_nx, x_dHV, x_dVar, x_dC, x_dVH, x_dIt, x_dRg, x_tYesD, x_dU, x_sPut, x_d2, x_aNil, x_aCons, x_dN, x_pNone, x_pSome, x_dSl, x_dTup, x_dOV, x_dVO, x_dLst, x_tOf, x_tBl, x_dChain, x_tAndD, x_tOrD, x_tNotD, x_vAnd, x_vOr, x_vNot, x_dIf, x_dNeg, x_dIsN, x_dNotN, x_dNo, x_dR1, x_dR2, x_dLR, x_dIsi, x_sSkip, x_sBreak, x_sCont, x_sSeq, x_sIf, x_sDrop, x_sRet, x_asg, x_sSet, x_gNm, x_gN, x_gC, x_gTp, x_sAsg, x_sPar, x_g1, x_g2, x_go1, x_callD0, x_callD1, parOf, putV, lstOf, setL, frOf, Sl.view, add_int, sub_int, int_int, ixl, ixt, len_lst, len_tup, lt_int, gt_int, le_int, ge_int, eq_int, ne_int, at0, at1, at2, at3, notNo, isNone, tupOf, h1, h2, h3, h4, h5, h6, hn]
structure Tape where
  cells : List Int
  pos : Nat
  cur : Int
  seed : Int
def Tape.v (t : Tape) : List Val := [.lst (t.cells.map .int), .int t.pos, .int t.cur, .int t.seed]
def TapeOk (e : FnE) : Prop := e.np = 1 ∧ ∀ ns : List Int, ns.length ≤ 63 → ∃ t : Tape, e.sem [.fz (.scr ns)] = .ok (.own t.v, .no)
theorem tape_ok : TapeOk E__law_tape := by
  refine ⟨rfl, fun ns h => ⟨⟨ns, 0, 0, 1 + ns.length⟩, ?_⟩⟩
  have h1 : cutL ns none (some 80) = ns := by
    unfold cutL
    have e1 : HT.sIx ns.length 0 none = 0 := rfl
    have e2 : HT.sIx ns.length ns.length (some 80) = ns.length := by
      unfold HT.sIx
      simp
      omega
    rw [e1, e2]
    simp
  have h2 : (4:Nat) ≤ sizeLine := ok_size (by decide)
  rw [s__law_tape]
  simp [D__law_tape, fo_ok, th_nx, th_rt, th_bk, th_ct, op_s, ob_ok, oo_s, de_v, de_s, ds_n, ds_c, ts_n, ts_c, tv_v, tv_s, fl_rt, fl_nx, x_dHV, x_dVar, x_dC, x_dVH, x_dIt, x_dRg, x_tYesD, x_dU, x_sPut, x_d2, x_aNil, x_aCons, x_dN, x_pNone, x_pSome, x_dSl, x_dTup, x_dOV, x_dVO, x_dLst, x_tOf, x_tBl, x_dChain, x_tAndD, x_tOrD, x_tNotD, x_vAnd, x_vOr, x_vNot, x_dIf, x_dNeg, x_dIsN, x_dNotN, x_dNo, x_dR1, x_dR2, x_dLR, x_dIsi, x_sSkip, x_sBreak, x_sCont, x_sSeq, x_sIf, x_sDrop, x_sRet, x_asg, x_sSet, x_gNm, x_gN, x_gC, x_gTp, x_sAsg, x_sPar, x_g1, x_g2, x_go1, x_callD0, x_callD1, parOf, putV, lstOf, setL, frOf, Sl.view, add_int, sub_int, int_int, ixl, ixt, len_lst, len_tup, lt_int, gt_int, le_int, ge_int, eq_int, ne_int, at0, at1, at2, at3, notNo, isNone, tupOf, slV, itemsV, lenV, h1, h2, Tape.v]
def TakeOk (e : FnE) : Prop := e.np = 2 ∧ ∀ (t : Tape) (m : Int), 0 < m → m < 2 ^ 200 → ∃ (d : Nat) (t' : Tape), (d : Int) < m ∧ e.sem [.par t.v, .fz (.int m)] = .ok (.fz (.int d), .par t'.v)
/-- behind the first statement -/
theorem take_fill (e : FnE) (he : MixOk e) (t : Tape) (m : Int) : ∃ (t' : Tape) (s2 : Sl), (sIf (tBl (d2 ltV (dHV (d2 ixV (dVar 0) (dHV (dC (.int 2))))) (dVar 1))) (sIf (tBl (d2 ltV (dHV (d2 ixV (dVar 0) (dHV (dC (.int 1))))) (dHV (dN (g1 lenV) (aCons (dHV (d2 ixV (dVar 0) (dHV (dC (.int 0))))) aNil))))) (sSeq (sSet 2 (dOV (d2 ixV (dHV (d2 ixV (dVar 0) (dHV (dC (.int 0))))) (dHV (d2 ixV (dVar 0) (dHV (dC (.int 1))))))))
  (sSeq (sSet 2 (dOV (dIf (tBl (d2 geV (dVar 2) (dHV (dC (.int 0))))) (d2 mulV (dHV (dC (.int 2))) (dVar 2)) (d2 subV (dHV (d2 mulV (dHV (dNeg (dC (.int 2)))) (dVar 2))) (dHV (dC (.int 1)))))))
  (sSeq (sPut 0 (dC (.int 1)) (d2 addV (dHV (d2 ixV (dVar 0) (dHV (dC (.int 1))))) (dHV (dC (.int 1)))))
  (sSeq (sPut 0 (dC (.int 3)) (dVO (callD0 e (aCons (dHV (d2 addV (dHV (d2 ixV (dVar 0) (dHV (dC (.int 3))))) (dVar 2))) aNil))))
  (sPut 0 (dC (.int 2)) (dIf (tBl (d2 geV (dVar 2) (dHV (d2 powV (dHV (dC (.int 10))) (dHV (dC (.int 18))))))) (dVH (dVar 2)) (dVO (callD0 e (aCons (dHV (d2 addV (dHV (dVO (callD0 e (aCons (dVar 2) aNil)))) (dHV (d2 ixV (dVar 0) (dHV (dC (.int 1))))))) aNil))))))))) (sSeq (sPut 0 (dC (.int 3)) (dVO (callD0 e (aCons (dHV (d2 addV (dHV (d2 ixV (dVar 0) (dHV (dC (.int 3))))) (dHV (dC (.int 1))))) aNil))))
  (sPut 0 (dC (.int 2)) (d2 ixV (dVar 0) (dHV (dC (.int 3))))))) sSkip) [.par t.v, .fz (.int m), .no, .no] = .nx [.par t'.v, .fz (.int m), s2, .no] := by
  obtain ⟨hn, hx⟩ := he
  have p1 : L2.ixN 4 (1 : Int) = some 1 := rfl
  have p2 : L2.ixN 4 (2 : Int) = some 2 := rfl
  have p3 : L2.ixN 4 (3 : Int) = some 3 := rfl
  have hml : ∀ y : Int, mulV (.int 2) (.int y) = some (.int (2 * y)) := fun y => mul_l (by decide)
  have hml2 : ∀ y : Int, mulV (.int (-2)) (.int y) = some (.int (-2 * y)) := fun y => mul_l (by decide)
  have hp : powV (.int 10) (.int 18) = some (.int 1000000000000000000) := by simp [powV]
  by_cases c1 : t.cur < m
  · by_cases c2 : t.pos < t.cells.length
    · have e1 : L2.atI (t.cells.map Val.int) (t.pos : Int) = some (.int t.cells[t.pos]) := by rw [atI_nat (by simpa using c2)]; simp [c2]
      have c2' : (t.pos : Int) < t.cells.length := by omega
      have go : ∃ c : Int, (0 ≤ t.cells[t.pos] ∧ c = 2 * t.cells[t.pos]) ∨ (¬ 0 ≤ t.cells[t.pos] ∧ c = -2 * t.cells[t.pos] - 1) := by
        by_cases c3 : 0 ≤ t.cells[t.pos]
        · exact ⟨_, .inl ⟨c3, rfl⟩⟩
        · exact ⟨_, .inr ⟨c3, rfl⟩⟩
      obtain ⟨c, hc⟩ := go
      obtain ⟨y1, hy1⟩ := hx (t.seed + c)
      obtain ⟨y2, hy2⟩ := hx c
      obtain ⟨y3, hy3⟩ := hx (y2 + (t.pos + 1))
      by_cases c4 : 1000000000000000000 ≤ c
      · refine ⟨⟨t.cells, t.pos + 1, c, y1⟩, .fz (.int c), ?_⟩
        rcases hc with ⟨c3, hc⟩ | ⟨c3, hc⟩
        · simp [Tape.v, fo_ok, th_nx, th_rt, th_bk, th_ct, op_s, ob_ok, oo_s, de_v, de_s, ds_n, ds_c, ts_n, ts_c, tv_v, tv_s, fl_rt, fl_nx, x_dHV, x_dVar, x_dC, x_dVH, x_dIt, x_dRg, x_tYesD, x_dU, x_sPut, x_d2, x_aNil, x_aCons, x_dN, x_pNone, x_pSome, x_dSl, x_dTup, x_dOV, x_dVO, x_dLst, x_tOf, x_tBl, x_dChain, x_tAndD, x_tOrD, x_tNotD, x_vAnd, x_vOr, x_vNot, x_dIf, x_dNeg, x_dIsN, x_dNotN, x_dNo, x_dR1, x_dR2, x_dLR, x_dIsi, x_sSkip, x_sBreak, x_sCont, x_sSeq, x_sIf, x_sDrop, x_sRet, x_asg, x_sSet, x_gNm, x_gN, x_gC, x_gTp, x_sAsg, x_sPar, x_g1, x_g2, x_go1, x_callD0, x_callD1, parOf, putV, lstOf, setL, frOf, Sl.view, add_int, sub_int, int_int, ixl, ixt, len_lst, len_tup, lt_int, gt_int, le_int, ge_int, eq_int, ne_int, at0, at1, at2, at3, notNo, isNone, tupOf, p1, p2, p3, hml, hp, hn, c1, c2', c3, ← hc, c4, e1, hy1]
        · simp [Tape.v, fo_ok, th_nx, th_rt, th_bk, th_ct, op_s, ob_ok, oo_s, de_v, de_s, ds_n, ds_c, ts_n, ts_c, tv_v, tv_s, fl_rt, fl_nx, x_dHV, x_dVar, x_dC, x_dVH, x_dIt, x_dRg, x_tYesD, x_dU, x_sPut, x_d2, x_aNil, x_aCons, x_dN, x_pNone, x_pSome, x_dSl, x_dTup, x_dOV, x_dVO, x_dLst, x_tOf, x_tBl, x_dChain, x_tAndD, x_tOrD, x_tNotD, x_vAnd, x_vOr, x_vNot, x_dIf, x_dNeg, x_dIsN, x_dNotN, x_dNo, x_dR1, x_dR2, x_dLR, x_dIsi, x_sSkip, x_sBreak, x_sCont, x_sSeq, x_sIf, x_sDrop, x_sRet, x_asg, x_sSet, x_gNm, x_gN, x_gC, x_gTp, x_sAsg, x_sPar, x_g1, x_g2, x_go1, x_callD0, x_callD1, parOf, putV, lstOf, setL, frOf, Sl.view, add_int, sub_int, int_int, ixl, ixt, len_lst, len_tup, lt_int, gt_int, le_int, ge_int, eq_int, ne_int, at0, at1, at2, at3, notNo, isNone, tupOf, p1, p2, p3, hml2, hp, hn, c1, c2', c3, ← hc, c4, e1, hy1]
      · refine ⟨⟨t.cells, t.pos + 1, y3, y1⟩, .fz (.int c), ?_⟩
        rcases hc with ⟨c3, hc⟩ | ⟨c3, hc⟩
        · simp [Tape.v, fo_ok, th_nx, th_rt, th_bk, th_ct, op_s, ob_ok, oo_s, de_v, de_s, ds_n, ds_c, ts_n, ts_c, tv_v, tv_s, fl_rt, fl_nx, x_dHV, x_dVar, x_dC, x_dVH, x_dIt, x_dRg, x_tYesD, x_dU, x_sPut, x_d2, x_aNil, x_aCons, x_dN, x_pNone, x_pSome, x_dSl, x_dTup, x_dOV, x_dVO, x_dLst, x_tOf, x_tBl, x_dChain, x_tAndD, x_tOrD, x_tNotD, x_vAnd, x_vOr, x_vNot, x_dIf, x_dNeg, x_dIsN, x_dNotN, x_dNo, x_dR1, x_dR2, x_dLR, x_dIsi, x_sSkip, x_sBreak, x_sCont, x_sSeq, x_sIf, x_sDrop, x_sRet, x_asg, x_sSet, x_gNm, x_gN, x_gC, x_gTp, x_sAsg, x_sPar, x_g1, x_g2, x_go1, x_callD0, x_callD1, parOf, putV, lstOf, setL, frOf, Sl.view, add_int, sub_int, int_int, ixl, ixt, len_lst, len_tup, lt_int, gt_int, le_int, ge_int, eq_int, ne_int, at0, at1, at2, at3, notNo, isNone, tupOf, p1, p2, p3, hml, hp, hn, c1, c2', c3, ← hc, c4, e1, hy1, hy2, hy3]
        · simp [Tape.v, fo_ok, th_nx, th_rt, th_bk, th_ct, op_s, ob_ok, oo_s, de_v, de_s, ds_n, ds_c, ts_n, ts_c, tv_v, tv_s, fl_rt, fl_nx, x_dHV, x_dVar, x_dC, x_dVH, x_dIt, x_dRg, x_tYesD, x_dU, x_sPut, x_d2, x_aNil, x_aCons, x_dN, x_pNone, x_pSome, x_dSl, x_dTup, x_dOV, x_dVO, x_dLst, x_tOf, x_tBl, x_dChain, x_tAndD, x_tOrD, x_tNotD, x_vAnd, x_vOr, x_vNot, x_dIf, x_dNeg, x_dIsN, x_dNotN, x_dNo, x_dR1, x_dR2, x_dLR, x_dIsi, x_sSkip, x_sBreak, x_sCont, x_sSeq, x_sIf, x_sDrop, x_sRet, x_asg, x_sSet, x_gNm, x_gN, x_gC, x_gTp, x_sAsg, x_sPar, x_g1, x_g2, x_go1, x_callD0, x_callD1, parOf, putV, lstOf, setL, frOf, Sl.view, add_int, sub_int, int_int, ixl, ixt, len_lst, len_tup, lt_int, gt_int, le_int, ge_int, eq_int, ne_int, at0, at1, at2, at3, notNo, isNone, tupOf, p1, p2, p3, hml2, hp, hn, c1, c2', c3, ← hc, c4, e1, hy1, hy2, hy3]
    · have c2' : ¬ (t.pos : Int) < t.cells.length := by omega
      obtain ⟨y1, hy1⟩ := hx (t.seed + 1)
      refine ⟨⟨t.cells, t.pos, y1, y1⟩, .no, ?_⟩
      simp [Tape.v, fo_ok, th_nx, th_rt, th_bk, th_ct, op_s, ob_ok, oo_s, de_v, de_s, ds_n, ds_c, ts_n, ts_c, tv_v, tv_s, fl_rt, fl_nx, x_dHV, x_dVar, x_dC, x_dVH, x_dIt, x_dRg, x_tYesD, x_dU, x_sPut, x_d2, x_aNil, x_aCons, x_dN, x_pNone, x_pSome, x_dSl, x_dTup, x_dOV, x_dVO, x_dLst, x_tOf, x_tBl, x_dChain, x_tAndD, x_tOrD, x_tNotD, x_vAnd, x_vOr, x_vNot, x_dIf, x_dNeg, x_dIsN, x_dNotN, x_dNo, x_dR1, x_dR2, x_dLR, x_dIsi, x_sSkip, x_sBreak, x_sCont, x_sSeq, x_sIf, x_sDrop, x_sRet, x_asg, x_sSet, x_gNm, x_gN, x_gC, x_gTp, x_sAsg, x_sPar, x_g1, x_g2, x_go1, x_callD0, x_callD1, parOf, putV, lstOf, setL, frOf, Sl.view, add_int, sub_int, int_int, ixl, ixt, len_lst, len_tup, lt_int, gt_int, le_int, ge_int, eq_int, ne_int, at0, at1, at2, at3, notNo, isNone, tupOf, p1, p2, p3, hn, c1, c2', hy1]
  · refine ⟨t, .no, ?_⟩
    simp [Tape.v, fo_ok, th_nx, th_rt, th_bk, th_ct, op_s, ob_ok, oo_s, de_v, de_s, ds_n, ds_c, ts_n, ts_c, tv_v, tv_s, fl_rt, fl_nx, x_dHV, x_dVar, x_dC, x_dVH, x_dIt, x_dRg, x_tYesD, x_dU, x_sPut, x_d2, x_aNil, x_aCons, x_dN, x_pNone, x_pSome, x_dSl, x_dTup, x_dOV, x_dVO, x_dLst, x_tOf, x_tBl, x_dChain, x_tAndD, x_tOrD, x_tNotD, x_vAnd, x_vOr, x_vNot, x_dIf, x_dNeg, x_dIsN, x_dNotN, x_dNo, x_dR1, x_dR2, x_dLR, x_dIsi, x_sSkip, x_sBreak, x_sCont, x_sSeq, x_sIf, x_sDrop, x_sRet, x_asg, x_sSet, x_gNm, x_gN, x_gC, x_gTp, x_sAsg, x_sPar, x_g1, x_g2, x_go1, x_callD0, x_callD1, parOf, putV, lstOf, setL, frOf, Sl.view, add_int, sub_int, int_int, ixl, ixt, len_lst, len_tup, lt_int, gt_int, le_int, ge_int, eq_int, ne_int, at0, at1, at2, at3, notNo, isNone, tupOf, c1]
theorem take_ok : TakeOk E__law_take := by
  refine ⟨rfl, fun t m h h2 => ?_⟩
  obtain ⟨t1, s2, h1⟩ := take_fill E__law_mix mix_ok t m
  have p2 : L2.ixN 4 (2 : Int) = some 2 := rfl
  have hm : ∀ y : Int, modV (.int y) (.int m) = some (.int (y % m)) := fun y => mod_of h
  have hd : ∀ y : Int, divV (.int y) (.int m) = some (.int (y / m)) := fun y => div_of h h2
  obtain ⟨d, hdd⟩ := Int.eq_ofNat_of_zero_le (Int.emod_nonneg t1.cur (show m ≠ 0 by omega))
  refine ⟨d, ⟨t1.cells, t1.pos, t1.cur / m, t1.seed⟩, by have := Int.emod_lt_of_pos t1.cur h; omega, ?_⟩
  rw [s__law_take]
  unfold D__law_take
  rw [seq_nx h1]
  simp [Tape.v, fo_ok, th_nx, th_rt, th_bk, th_ct, op_s, ob_ok, oo_s, de_v, de_s, ds_n, ds_c, ts_n, ts_c, tv_v, tv_s, fl_rt, fl_nx, x_dHV, x_dVar, x_dC, x_dVH, x_dIt, x_dRg, x_tYesD, x_dU, x_sPut, x_d2, x_aNil, x_aCons, x_dN, x_pNone, x_pSome, x_dSl, x_dTup, x_dOV, x_dVO, x_dLst, x_tOf, x_tBl, x_dChain, x_tAndD, x_tOrD, x_tNotD, x_vAnd, x_vOr, x_vNot, x_dIf, x_dNeg, x_dIsN, x_dNotN, x_dNo, x_dR1, x_dR2, x_dLR, x_dIsi, x_sSkip, x_sBreak, x_sCont, x_sSeq, x_sIf, x_sDrop, x_sRet, x_asg, x_sSet, x_gNm, x_gN, x_gC, x_gTp, x_sAsg, x_sPar, x_g1, x_g2, x_go1, x_callD0, x_callD1, parOf, putV, lstOf, setL, frOf, Sl.view, add_int, sub_int, int_int, ixl, ixt, len_lst, len_tup, lt_int, gt_int, le_int, ge_int, eq_int, ne_int, at0, at1, at2, at3, notNo, isNone, tupOf, p2, hm, hd, hdd]
/-! ### a row, mixed -/
theorem map_erase : ∀ (xs : List Int) (d : Nat), (xs.map Val.int).eraseIdx d = (xs.eraseIdx d).map .int
  | [], _ => rfl
  | _ :: _, 0 => rfl
  | x :: xs, d + 1 => by
    rw [List.map_cons, List.eraseIdx_cons_succ, List.eraseIdx_cons_succ, List.map_cons, map_erase xs d]
theorem perm_erase : ∀ (xs : List Int) (d : Nat) (h : d < xs.length), (xs[d] :: xs.eraseIdx d).Perm xs
  | x :: xs, 0, _ => List.Perm.refl _
  | x :: xs, d + 1, h => by
    rw [List.eraseIdx_cons_succ, List.getElem_cons_succ]
    exact (List.Perm.swap x _ _).trans ((perm_erase xs d (by simpa using h)).cons x)
theorem popV_int (left : List Int) (d : Nat) (h : d < left.length) (hl : left.length ≤ 1000000) : popV (left.map .int) [.int (d : Int)] = some (.int left[d], (left.eraseIdx d).map .int) := by
  have h1 : seqIndex? (d : Int) (left.map Val.int).length = some d := by
    unfold seqIndex?
    rw [List.length_map]
    have : ¬ ((d : Int) < 0) := by omega
    simp [this]
    omega
  have h2 : ((left.map Val.int)[d]?) = some (.int left[d]) := by simp [h]
  unfold popV
  simp only [h1]
  rw [if_pos (by omega), Option.bind_some, h2, map_erase]
  rfl
theorem mixed_step (e : FnE) (hn : e.np = 2) (tv t2v : List Val) (rw : Val) (left : List Val) (a : Int) (d : Int) (z : Val) (left2 : List Val) (ht : e.sem [.par tv, .fz (.int left.length)] = .ok (.fz (.int d), .par t2v)) (hp : popV left [.int d] = some (z, left2)) :
    dU popV 2 (aCons (dHV (dVO (callD1 e 0 (aCons (dVar 0) (aCons (dHV (dN (g1 lenV) (aCons (dVar 2) aNil))) aNil))))) aNil) [.par tv, .fz rw, .own left, .fz (.int a)] = .ok (z, [.par t2v, .fz rw, .own left2, .fz (.int a)]) := by
  simp [fo_ok, th_nx, th_rt, th_bk, th_ct, op_s, ob_ok, oo_s, de_v, de_s, ds_n, ds_c, ts_n, ts_c, tv_v, tv_s, fl_rt, fl_nx, x_dHV, x_dVar, x_dC, x_dVH, x_dIt, x_dRg, x_tYesD, x_dU, x_sPut, x_d2, x_aNil, x_aCons, x_dN, x_pNone, x_pSome, x_dSl, x_dTup, x_dOV, x_dVO, x_dLst, x_tOf, x_tBl, x_dChain, x_tAndD, x_tOrD, x_tNotD, x_vAnd, x_vOr, x_vNot, x_dIf, x_dNeg, x_dIsN, x_dNotN, x_dNo, x_dR1, x_dR2, x_dLR, x_dIsi, x_sSkip, x_sBreak, x_sCont, x_sSeq, x_sIf, x_sDrop, x_sRet, x_asg, x_sSet, x_gNm, x_gN, x_gC, x_gTp, x_sAsg, x_sPar, x_g1, x_g2, x_go1, x_callD0, x_callD1, parOf, putV, lstOf, setL, frOf, Sl.view, add_int, sub_int, int_int, ixl, ixt, len_lst, len_tup, lt_int, gt_int, le_int, ge_int, eq_int, ne_int, at0, at1, at2, at3, notNo, isNone, tupOf, hn, ht, hp]
def MixedOk (e : FnE) : Prop := e.np = 2 ∧ ∀ (t : Tape) (row : List Int), row.length ≤ 1000 → ∃ (t' : Tape) (os : List Int), e.sem [.par t.v, .fz (.lst (row.map .int))] = .ok (.own (os.map .int), .par t'.v) ∧ os.Perm row
theorem mixed_core (e : FnE) (he : TakeOk e) (t : Tape) (row : List Int) (hl : row.length ≤ 1000) : ∃ (t' : Tape) (os : List Int), flRes 2 (some 0) (D__law_mixed e [.par t.v, .fz (.lst (row.map .int)), .no, .no]) = .ok (.own (os.map .int), .par t'.v) ∧ os.Perm row := by
  obtain ⟨hn, hx⟩ := he
  have lc := lcL_all (g := gNm 3) (t := tYesD) (e := (dU popV 2 (aCons (dHV (dVO (callD1 e 0 (aCons (dVar 0) (aCons (dHV (dN (g1 lenV) (aCons (dVar 2) aNil))) aNil))))) aNil))) (vs := [3]) Val.int (rangeI 0 row.length)
    (fun pre out ρ => ∃ (t : Tape) (left os : List Int), ρ = [.par t.v, .fz (.lst (row.map .int)), .own (left.map .int), .no] ∧ out = os.map .int ∧ (os ++ left).Perm row ∧ left.length + pre.length = row.length)
    (ρ := [.par t.v, .fz (.lst (row.map .int)), .own (row.map .int), .no]) ⟨t, row, [], rfl, rfl, by simp, by simp⟩ fun pre a post out ρ e0 h => by
      obtain ⟨t, left, os, rfl, rfl, hp, hn2⟩ := h
      have hlen : pre.length < row.length := by
        have := congrArg List.length e0
        rw [length_rangeI] at this
        simp at this
        omega
      obtain ⟨d, t2, hd, ht⟩ := hx t left.length (by omega) (by omega)
      have hd2 : d < left.length := by omega
      have st := mixed_step e hn t.v t2.v (.lst (row.map .int)) (left.map .int) a d _ _ (by rw [List.length_map]; exact ht) (popV_int left d hd2 (by omega))
      refine ⟨[.par t.v, .fz (.lst (row.map .int)), .own (left.map .int), .fz (.int a)], true, [.par t.v, .fz (.lst (row.map .int)), .own (left.map .int), .fz (.int a)], by simp [gNm], rfl, .inl ⟨rfl, _, _, st, ⟨t2, left.eraseIdx d, os ++ [left[d]], by simp [wipeE], by simp, ?_, ?_⟩⟩⟩
      · have h1 := perm_erase left d hd2
        refine List.Perm.trans ?_ hp
        rw [List.append_assoc]
        exact (List.perm_append_left_iff os).mpr h1
      · rw [List.length_eraseIdx_of_lt hd2, List.length_append]
        simp
        omega
  obtain ⟨ys, ρ', h1, t', left, os, rfl, rfl, h2, h3⟩ := lc
  have h4 : left = [] := by
    rw [length_rangeI] at h3
    exact List.eq_nil_of_length_eq_zero (by omega)
  subst h4
  have h5 := lc_eq (it := dRg (dR1 (dN (g1 lenV) (aCons (dVar 1) aNil)))) (xs := (rangeI 0 row.length).map .int) (ρ := [.par t.v, .fz (.lst (row.map .int)), .own (row.map .int), .no]) (ρ1 := [.par t.v, .fz (.lst (row.map .int)), .own (row.map .int), .no]) (rg1 (by simp [fo_ok, th_nx, th_rt, th_bk, th_ct, op_s, ob_ok, oo_s, de_v, de_s, ds_n, ds_c, ts_n, ts_c, tv_v, tv_s, fl_rt, fl_nx, x_dHV, x_dVar, x_dC, x_dVH, x_dIt, x_dRg, x_tYesD, x_dU, x_sPut, x_d2, x_aNil, x_aCons, x_dN, x_pNone, x_pSome, x_dSl, x_dTup, x_dOV, x_dVO, x_dLst, x_tOf, x_tBl, x_dChain, x_tAndD, x_tOrD, x_tNotD, x_vAnd, x_vOr, x_vNot, x_dIf, x_dNeg, x_dIsN, x_dNotN, x_dNo, x_dR1, x_dR2, x_dLR, x_dIsi, x_sSkip, x_sBreak, x_sCont, x_sSeq, x_sIf, x_sDrop, x_sRet, x_asg, x_sSet, x_gNm, x_gN, x_gC, x_gTp, x_sAsg, x_sPar, x_g1, x_g2, x_go1, x_callD0, x_callD1, parOf, putV, lstOf, setL, frOf, Sl.view, add_int, sub_int, int_int, ixl, ixt, len_lst, len_tup, lt_int, gt_int, le_int, ge_int, eq_int, ne_int, at0, at1, at2, at3, notNo, isNone, tupOf]) (by omega)) (ok_size (by rw [List.length_map, length_rangeI]; omega)) (by rw [show wipeE [Sl.par t.v, .fz (.lst (row.map .int)), .own (row.map .int), .no] [3] = [Sl.par t.v, .fz (.lst (row.map .int)), .own (row.map .int), .no] from rfl]; exact h1)
  refine ⟨t', os, ?_, by simpa using h2⟩
  have h6 : D__law_mixed e [.par t.v, .fz (.lst (row.map .int)), .no, .no] = .rt (.own (os.map .int)) [.par t'.v, .fz (.lst (row.map .int)), .own [], .no] := by
    unfold D__law_mixed
    rw [seq_nx (ρ' := [.par t.v, .fz (.lst (row.map .int)), .own (row.map .int), .no]) (by simp [fo_ok, th_nx, th_rt, th_bk, th_ct, op_s, ob_ok, oo_s, de_v, de_s, ds_n, ds_c, ts_n, ts_c, tv_v, tv_s, fl_rt, fl_nx, x_dHV, x_dVar, x_dC, x_dVH, x_dIt, x_dRg, x_tYesD, x_dU, x_sPut, x_d2, x_aNil, x_aCons, x_dN, x_pNone, x_pSome, x_dSl, x_dTup, x_dOV, x_dVO, x_dLst, x_tOf, x_tBl, x_dChain, x_tAndD, x_tOrD, x_tNotD, x_vAnd, x_vOr, x_vNot, x_dIf, x_dNeg, x_dIsN, x_dNotN, x_dNo, x_dR1, x_dR2, x_dLR, x_dIsi, x_sSkip, x_sBreak, x_sCont, x_sSeq, x_sIf, x_sDrop, x_sRet, x_asg, x_sSet, x_gNm, x_gN, x_gC, x_gTp, x_sAsg, x_sPar, x_g1, x_g2, x_go1, x_callD0, x_callD1, parOf, putV, lstOf, setL, frOf, Sl.view, add_int, sub_int, int_int, ixl, ixt, len_lst, len_tup, lt_int, gt_int, le_int, ge_int, eq_int, ne_int, at0, at1, at2, at3, notNo, isNone, tupOf, itemsV])]
    rw [x_sRet, h5]
    simp [fo_ok, rest, keepFz]
  rw [h6]
  simp [fo_ok, th_nx, th_rt, th_bk, th_ct, op_s, ob_ok, oo_s, de_v, de_s, ds_n, ds_c, ts_n, ts_c, tv_v, tv_s, fl_rt, fl_nx, x_dHV, x_dVar, x_dC, x_dVH, x_dIt, x_dRg, x_tYesD, x_dU, x_sPut, x_d2, x_aNil, x_aCons, x_dN, x_pNone, x_pSome, x_dSl, x_dTup, x_dOV, x_dVO, x_dLst, x_tOf, x_tBl, x_dChain, x_tAndD, x_tOrD, x_tNotD, x_vAnd, x_vOr, x_vNot, x_dIf, x_dNeg, x_dIsN, x_dNotN, x_dNo, x_dR1, x_dR2, x_dLR, x_dIsi, x_sSkip, x_sBreak, x_sCont, x_sSeq, x_sIf, x_sDrop, x_sRet, x_asg, x_sSet, x_gNm, x_gN, x_gC, x_gTp, x_sAsg, x_sPar, x_g1, x_g2, x_go1, x_callD0, x_callD1, parOf, putV, lstOf, setL, frOf, Sl.view, add_int, sub_int, int_int, ixl, ixt, len_lst, len_tup, lt_int, gt_int, le_int, ge_int, eq_int, ne_int, at0, at1, at2, at3, notNo, isNone, tupOf]
theorem mixed_ok : MixedOk E__law_mixed := ⟨rfl, fun t row hl => by
  rw [s__law_mixed]
  exact mixed_core E__law_take take_ok t row hl⟩

/-! ### the same value twice -/
mutual
def wd : Val → Bool
  | .tup xs => decide (xs.length ≤ 1000000) && wds xs
  | .lst xs => decide (xs.length ≤ 1000000) && wds xs
  | _ => true
def wds : List Val → Bool
  | [] => true
  | x :: xs => wd x && wds xs
end
theorem wds_all {xs : List Val} : wds xs = true ↔ ∀ x ∈ xs, wd x = true := by
  induction xs with
  | nil => simp [wds]
  | cons x xs ih => simp [wds, ih]
def SameOk (e : FnE) (n : Nat) : Prop := ∀ x : Val, gd x = true → dp x < n → wd x = true → e.sem [.fz x, .fz x] = .ok (.fz (.bl true), .no)
theorem same_lc (e : FnE) (np : e.np = 2) (xs : List Val) (v : Val) (hl : xs.length ≤ 1000000) (hv : lenV v = some (.int xs.length)) (hi : ∀ k : Int, ixV v (.int k) = L2.atI xs k) (h : ∀ x ∈ xs, e.sem [.fz x, .fz x] = .ok (.fz (.bl true), .no)) :
    dN (g1 allV) (aCons (dHV (dVO (dLc (dRg (dR1 (dN (g1 lenV) (aCons (dVar 0) aNil)))) (gNm 2) tYesD (dVO (callD0 e (aCons (dHV (d2 ixV (dVar 0) (dVar 2))) (aCons (dHV (d2 ixV (dVar 1) (dVar 2))) aNil)))) [2]))) aNil) [.fz v, .fz v, .no] = .ok (.bl true, [.fz v, .fz v, .no]) := by
  have k1 := lcL_map1 (g := gNm 2) (t := tYesD) (e := dVO (callD0 e (aCons (dHV (d2 ixV (dVar 0) (dVar 2))) (aCons (dHV (d2 ixV (dVar 1) (dVar 2))) aNil)))) (vs := [2]) Val.int (fun _ => .bl true) [.fz v, .fz v, .no] (rangeI 0 xs.length) fun k hk => by
    have hk := mem_rangeI.mp hk
    have hk2 : k.toNat < xs.length := by omega
    have e1 : ixV v (.int k) = some xs[k.toNat] := by rw [hi, atI_int hk.1 hk.2]; simp [hk2]
    have e2 := h xs[k.toNat] (List.getElem_mem hk2)
    generalize xs[k.toNat] = x at *
    refine ⟨[.fz v, .fz v, .fz (.int k)], [.fz v, .fz v, .fz (.int k)], [.fz v, .fz v, .fz (.int k)], by simp [gNm], rfl, ?_, by simp [wipeE]⟩
    simp [fo_ok, th_nx, th_rt, th_bk, th_ct, op_s, ob_ok, oo_s, de_v, de_s, ds_n, ds_c, ts_n, ts_c, tv_v, tv_s, fl_rt, fl_nx, x_dHV, x_dVar, x_dC, x_dVH, x_dIt, x_dRg, x_tYesD, x_dU, x_sPut, x_d2, x_aNil, x_aCons, x_dN, x_pNone, x_pSome, x_dSl, x_dTup, x_dOV, x_dVO, x_dLst, x_tOf, x_tBl, x_dChain, x_tAndD, x_tOrD, x_tNotD, x_vAnd, x_vOr, x_vNot, x_dIf, x_dNeg, x_dIsN, x_dNotN, x_dNo, x_dR1, x_dR2, x_dLR, x_dIsi, x_sSkip, x_sBreak, x_sCont, x_sSeq, x_sIf, x_sDrop, x_sRet, x_asg, x_sSet, x_gNm, x_gN, x_gC, x_gTp, x_sAsg, x_sPar, x_g1, x_g2, x_go1, x_callD0, x_callD1, parOf, putV, lstOf, setL, frOf, Sl.view, add_int, sub_int, int_int, ixl, ixt, len_lst, len_tup, lt_int, gt_int, le_int, ge_int, eq_int, ne_int, at0, at1, at2, at3, notNo, isNone, tupOf, e1, e2, np]
  have k2 := lc_eq (it := dRg (dR1 (dN (g1 lenV) (aCons (dVar 0) aNil)))) (xs := (rangeI 0 xs.length).map .int) (ρ := [.fz v, .fz v, .no]) (ρ1 := [.fz v, .fz v, .no]) (rg1 (by simp [fo_ok, th_nx, th_rt, th_bk, th_ct, op_s, ob_ok, oo_s, de_v, de_s, ds_n, ds_c, ts_n, ts_c, tv_v, tv_s, fl_rt, fl_nx, x_dHV, x_dVar, x_dC, x_dVH, x_dIt, x_dRg, x_tYesD, x_dU, x_sPut, x_d2, x_aNil, x_aCons, x_dN, x_pNone, x_pSome, x_dSl, x_dTup, x_dOV, x_dVO, x_dLst, x_tOf, x_tBl, x_dChain, x_tAndD, x_tOrD, x_tNotD, x_vAnd, x_vOr, x_vNot, x_dIf, x_dNeg, x_dIsN, x_dNotN, x_dNo, x_dR1, x_dR2, x_dLR, x_dIsi, x_sSkip, x_sBreak, x_sCont, x_sSeq, x_sIf, x_sDrop, x_sRet, x_asg, x_sSet, x_gNm, x_gN, x_gC, x_gTp, x_sAsg, x_sPar, x_g1, x_g2, x_go1, x_callD0, x_callD1, parOf, putV, lstOf, setL, frOf, Sl.view, add_int, sub_int, int_int, ixl, ixt, len_lst, len_tup, lt_int, gt_int, le_int, ge_int, eq_int, ne_int, at0, at1, at2, at3, notNo, isNone, tupOf, hv]) (by omega)) (ok_size (by rw [List.length_map, length_rangeI]; omega)) (by rw [show wipeE [Sl.fz v, .fz v, .no] [2] = [.fz v, .fz v, .no] from rfl]; exact k1)
  rw [show rest [Sl.fz v, .fz v, .no] [2] [.fz v, .fz v, .no] = [.fz v, .fz v, .no] from rfl] at k2
  have k3 := all_map (fun _ : Int => true) (rangeI 0 xs.length)
  have k4 : (rangeI 0 xs.length).all (fun _ => true) = true := List.all_eq_true.mpr fun _ _ => rfl
  rw [k4] at k3
  generalize dLc (dRg (dR1 (dN (g1 lenV) (aCons (dVar 0) aNil)))) (gNm 2) tYesD (dVO (callD0 e (aCons (dHV (d2 ixV (dVar 0) (dVar 2))) (aCons (dHV (d2 ixV (dVar 1) (dVar 2))) aNil)))) [2] = X at *
  generalize (rangeI 0 xs.length).map (fun _ => Val.bl true) = ys at *
  simp [fo_ok, th_nx, th_rt, th_bk, th_ct, op_s, ob_ok, oo_s, de_v, de_s, ds_n, ds_c, ts_n, ts_c, tv_v, tv_s, fl_rt, fl_nx, x_dHV, x_dVar, x_dC, x_dVH, x_dIt, x_dRg, x_tYesD, x_dU, x_sPut, x_d2, x_aNil, x_aCons, x_dN, x_pNone, x_pSome, x_dSl, x_dTup, x_dOV, x_dVO, x_dLst, x_tOf, x_tBl, x_dChain, x_tAndD, x_tOrD, x_tNotD, x_vAnd, x_vOr, x_vNot, x_dIf, x_dNeg, x_dIsN, x_dNotN, x_dNo, x_dR1, x_dR2, x_dLR, x_dIsi, x_sSkip, x_sBreak, x_sCont, x_sSeq, x_sIf, x_sDrop, x_sRet, x_asg, x_sSet, x_gNm, x_gN, x_gC, x_gTp, x_sAsg, x_sPar, x_g1, x_g2, x_go1, x_callD0, x_callD1, parOf, putV, lstOf, setL, frOf, Sl.view, add_int, sub_int, int_int, ixl, ixt, len_lst, len_tup, lt_int, gt_int, le_int, ge_int, eq_int, ne_int, at0, at1, at2, at3, notNo, isNone, tupOf, k2, k3]
theorem same_fin (X : DV) (v : Val) (n : Int) (b1 b2 : Bool) (h1 : isiV "tuple" v = some (.bl b1)) (h2 : isiV "list" v = some (.bl b2)) (hb : b1 = true ∨ b2 = true) (hv : lenV v = some (.int n)) (hX : X [.fz v, .fz v, .no] = .ok (.bl true, [.fz v, .fz v, .no])) :
    (sIf (tOrD (tAndD (tOf (dHV (dIsi "tuple" (dVar 0)))) (tOf (dHV (dIsi "tuple" (dVar 1))))) (tAndD (tOf (dHV (dIsi "list" (dVar 0)))) (tOf (dHV (dIsi "list" (dVar 1)))))) (sRet (dOV (vAnd (d2 eqV (dHV (dN (g1 lenV) (aCons (dVar 0) aNil))) (dHV (dN (g1 lenV) (aCons (dVar 1) aNil)))) X))) sSkip) [.fz v, .fz v, .no] = .rt (.fz (.bl true)) [.fz v, .fz v, .no] := by
  cases b1 with
  | true => simp [fo_ok, th_nx, th_rt, th_bk, th_ct, op_s, ob_ok, oo_s, de_v, de_s, ds_n, ds_c, ts_n, ts_c, tv_v, tv_s, fl_rt, fl_nx, x_dHV, x_dVar, x_dC, x_dVH, x_dIt, x_dRg, x_tYesD, x_dU, x_sPut, x_d2, x_aNil, x_aCons, x_dN, x_pNone, x_pSome, x_dSl, x_dTup, x_dOV, x_dVO, x_dLst, x_tOf, x_tBl, x_dChain, x_tAndD, x_tOrD, x_tNotD, x_vAnd, x_vOr, x_vNot, x_dIf, x_dNeg, x_dIsN, x_dNotN, x_dNo, x_dR1, x_dR2, x_dLR, x_dIsi, x_sSkip, x_sBreak, x_sCont, x_sSeq, x_sIf, x_sDrop, x_sRet, x_asg, x_sSet, x_gNm, x_gN, x_gC, x_gTp, x_sAsg, x_sPar, x_g1, x_g2, x_go1, x_callD0, x_callD1, parOf, putV, lstOf, setL, frOf, Sl.view, add_int, sub_int, int_int, ixl, ixt, len_lst, len_tup, lt_int, gt_int, le_int, ge_int, eq_int, ne_int, at0, at1, at2, at3, notNo, isNone, tupOf, h1, truth, hv, hX]
  | false =>
    rcases hb with h | h
    · cases h
    · subst h
      simp [fo_ok, th_nx, th_rt, th_bk, th_ct, op_s, ob_ok, oo_s, de_v, de_s, ds_n, ds_c, ts_n, ts_c, tv_v, tv_s, fl_rt, fl_nx, x_dHV, x_dVar, x_dC, x_dVH, x_dIt, x_dRg, x_tYesD, x_dU, x_sPut, x_d2, x_aNil, x_aCons, x_dN, x_pNone, x_pSome, x_dSl, x_dTup, x_dOV, x_dVO, x_dLst, x_tOf, x_tBl, x_dChain, x_tAndD, x_tOrD, x_tNotD, x_vAnd, x_vOr, x_vNot, x_dIf, x_dNeg, x_dIsN, x_dNotN, x_dNo, x_dR1, x_dR2, x_dLR, x_dIsi, x_sSkip, x_sBreak, x_sCont, x_sSeq, x_sIf, x_sDrop, x_sRet, x_asg, x_sSet, x_gNm, x_gN, x_gC, x_gTp, x_sAsg, x_sPar, x_g1, x_g2, x_go1, x_callD0, x_callD1, parOf, putV, lstOf, setL, frOf, Sl.view, add_int, sub_int, int_int, ixl, ixt, len_lst, len_tup, lt_int, gt_int, le_int, ge_int, eq_int, ne_int, at0, at1, at2, at3, notNo, isNone, tupOf, h1, h2, truth, hv, hX]
theorem same_core (e : FnE) (np : e.np = 2) (n : Nat) (he : SameOk e n) (x : Val) (g : gd x = true) (hd : dp x < n + 1) (hw : wd x = true) : flRes 2 none (D__law_same e [.fz x, .fz x, .no]) = .ok (.fz (.bl true), .no) := by
  have deep : ∀ xs : List Val, PyData.depthAll (pys xs) < n → ∀ y ∈ xs, dp y < n := by
    intro xs
    induction xs with
    | nil => intro _ y hy; cases hy
    | cons z zs ih =>
      intro h y hy
      simp only [pys, PyData.depthAll] at h
      rcases List.mem_cons.mp hy with e | hy
      · rw [e]; unfold dp; omega
      · exact ih (by omega) y hy
  have fin : ∀ ρ', D__law_same e [.fz x, .fz x, .no] = .rt (.fz (.bl true)) ρ' → 2 ≤ ρ'.length → flRes 2 none (D__law_same e [.fz x, .fz x, .no]) = .ok (.fz (.bl true), .no) := fun ρ' h h2 => by
    rw [h, fl_rt]
    have h5 : ¬ ρ'.length < 2 := by omega
    simp [parOf, h5, notNo]
  cases x with
  | tup xs =>
    have g' : gds xs = true := g
    have hdd : PyData.depthAll (pys xs) < n := by
      have h : PyData.depthAll (pys xs) + 1 < n + 1 := by simpa [dp, Val.py, PyData.depth] using hd
      omega
    have gw : xs.length ≤ 1000000 ∧ wds xs = true := by simpa [wd] using hw
    have hx : ∀ y ∈ xs, e.sem [.fz y, .fz y] = .ok (.fz (.bl true), .no) := fun y hy => he y (gds_all.mp g' y hy) (deep xs hdd y hy) (wds_all.mp gw.2 y hy)
    refine fin [.fz (.tup xs), .fz (.tup xs), .no] ?_ (by simp)
    unfold D__law_same
    exact seq_rt (same_fin _ _ xs.length true false (by simp [isiV, tyName]; decide +kernel) (by simp [isiV, tyName]; decide +kernel) (.inl rfl) rfl (same_lc e np xs _ gw.1 rfl (fun _ => rfl) hx))
  | lst xs =>
    have g' : gds xs = true := g
    have hdd : PyData.depthAll (pys xs) < n := by
      have h : PyData.depthAll (pys xs) + 1 < n + 1 := by simpa [dp, Val.py, PyData.depth] using hd
      omega
    have gw : xs.length ≤ 1000000 ∧ wds xs = true := by simpa [wd] using hw
    have hx : ∀ y ∈ xs, e.sem [.fz y, .fz y] = .ok (.fz (.bl true), .no) := fun y hy => he y (gds_all.mp g' y hy) (deep xs hdd y hy) (wds_all.mp gw.2 y hy)
    refine fin [.fz (.lst xs), .fz (.lst xs), .no] ?_ (by simp)
    unfold D__law_same
    exact seq_rt (same_fin _ _ xs.length false true (by simp [isiV, tyName]; decide +kernel) (by simp [isiV, tyName]; decide +kernel) (.inr rfl) rfl (same_lc e np xs _ gw.1 rfl (fun _ => rfl) hx))
  | int i =>
    have i1 : isiV "tuple" (.int i) = some (.bl false) := by simp [isiV, tyName]; decide +kernel
    have i2 : isiV "list" (.int i) = some (.bl false) := by simp [isiV, tyName]; decide +kernel
    have i3 : isiV "bool" (.int i) = some (.bl false) := by simp [isiV, tyName]; decide +kernel
    have i4 : isiV "int" (.int i) = some (.bl true) := by simp [isiV, tyName]; decide +kernel
    refine fin [.fz (.int i), .fz (.int i), .no] ?_ (by simp)
    unfold D__law_same
    rw [seq_nx (ρ' := [.fz (.int i), .fz (.int i), .no]) (by rw [if_f (ρ' := [.fz (.int i), .fz (.int i), .no]) (by simp [fo_ok, th_nx, th_rt, th_bk, th_ct, op_s, ob_ok, oo_s, de_v, de_s, ds_n, ds_c, ts_n, ts_c, tv_v, tv_s, fl_rt, fl_nx, x_dHV, x_dVar, x_dC, x_dVH, x_dIt, x_dRg, x_tYesD, x_dU, x_sPut, x_d2, x_aNil, x_aCons, x_dN, x_pNone, x_pSome, x_dSl, x_dTup, x_dOV, x_dVO, x_dLst, x_tOf, x_tBl, x_dChain, x_tAndD, x_tOrD, x_tNotD, x_vAnd, x_vOr, x_vNot, x_dIf, x_dNeg, x_dIsN, x_dNotN, x_dNo, x_dR1, x_dR2, x_dLR, x_dIsi, x_sSkip, x_sBreak, x_sCont, x_sSeq, x_sIf, x_sDrop, x_sRet, x_asg, x_sSet, x_gNm, x_gN, x_gC, x_gTp, x_sAsg, x_sPar, x_g1, x_g2, x_go1, x_callD0, x_callD1, parOf, putV, lstOf, setL, frOf, Sl.view, add_int, sub_int, int_int, ixl, ixt, len_lst, len_tup, lt_int, gt_int, le_int, ge_int, eq_int, ne_int, at0, at1, at2, at3, notNo, isNone, tupOf, i1, i2, truth])]; rfl)]
    rw [seq_nx (ρ' := [.fz (.int i), .fz (.int i), .no]) (by rw [if_f (ρ' := [.fz (.int i), .fz (.int i), .no]) (by simp [fo_ok, th_nx, th_rt, th_bk, th_ct, op_s, ob_ok, oo_s, de_v, de_s, ds_n, ds_c, ts_n, ts_c, tv_v, tv_s, fl_rt, fl_nx, x_dHV, x_dVar, x_dC, x_dVH, x_dIt, x_dRg, x_tYesD, x_dU, x_sPut, x_d2, x_aNil, x_aCons, x_dN, x_pNone, x_pSome, x_dSl, x_dTup, x_dOV, x_dVO, x_dLst, x_tOf, x_tBl, x_dChain, x_tAndD, x_tOrD, x_tNotD, x_vAnd, x_vOr, x_vNot, x_dIf, x_dNeg, x_dIsN, x_dNotN, x_dNo, x_dR1, x_dR2, x_dLR, x_dIsi, x_sSkip, x_sBreak, x_sCont, x_sSeq, x_sIf, x_sDrop, x_sRet, x_asg, x_sSet, x_gNm, x_gN, x_gC, x_gTp, x_sAsg, x_sPar, x_g1, x_g2, x_go1, x_callD0, x_callD1, parOf, putV, lstOf, setL, frOf, Sl.view, add_int, sub_int, int_int, ixl, ixt, len_lst, len_tup, lt_int, gt_int, le_int, ge_int, eq_int, ne_int, at0, at1, at2, at3, notNo, isNone, tupOf, i3, truth])]; rfl)]
    exact seq_rt (by rw [if_t (ρ' := [.fz (.int i), .fz (.int i), .no]) (by simp [fo_ok, th_nx, th_rt, th_bk, th_ct, op_s, ob_ok, oo_s, de_v, de_s, ds_n, ds_c, ts_n, ts_c, tv_v, tv_s, fl_rt, fl_nx, x_dHV, x_dVar, x_dC, x_dVH, x_dIt, x_dRg, x_tYesD, x_dU, x_sPut, x_d2, x_aNil, x_aCons, x_dN, x_pNone, x_pSome, x_dSl, x_dTup, x_dOV, x_dVO, x_dLst, x_tOf, x_tBl, x_dChain, x_tAndD, x_tOrD, x_tNotD, x_vAnd, x_vOr, x_vNot, x_dIf, x_dNeg, x_dIsN, x_dNotN, x_dNo, x_dR1, x_dR2, x_dLR, x_dIsi, x_sSkip, x_sBreak, x_sCont, x_sSeq, x_sIf, x_sDrop, x_sRet, x_asg, x_sSet, x_gNm, x_gN, x_gC, x_gTp, x_sAsg, x_sPar, x_g1, x_g2, x_go1, x_callD0, x_callD1, parOf, putV, lstOf, setL, frOf, Sl.view, add_int, sub_int, int_int, ixl, ixt, len_lst, len_tup, lt_int, gt_int, le_int, ge_int, eq_int, ne_int, at0, at1, at2, at3, notNo, isNone, tupOf, i4, truth])]; simp [fo_ok, th_nx, th_rt, th_bk, th_ct, op_s, ob_ok, oo_s, de_v, de_s, ds_n, ds_c, ts_n, ts_c, tv_v, tv_s, fl_rt, fl_nx, x_dHV, x_dVar, x_dC, x_dVH, x_dIt, x_dRg, x_tYesD, x_dU, x_sPut, x_d2, x_aNil, x_aCons, x_dN, x_pNone, x_pSome, x_dSl, x_dTup, x_dOV, x_dVO, x_dLst, x_tOf, x_tBl, x_dChain, x_tAndD, x_tOrD, x_tNotD, x_vAnd, x_vOr, x_vNot, x_dIf, x_dNeg, x_dIsN, x_dNotN, x_dNo, x_dR1, x_dR2, x_dLR, x_dIsi, x_sSkip, x_sBreak, x_sCont, x_sSeq, x_sIf, x_sDrop, x_sRet, x_asg, x_sSet, x_gNm, x_gN, x_gC, x_gTp, x_sAsg, x_sPar, x_g1, x_g2, x_go1, x_callD0, x_callD1, parOf, putV, lstOf, setL, frOf, Sl.view, add_int, sub_int, int_int, ixl, ixt, len_lst, len_tup, lt_int, gt_int, le_int, ge_int, eq_int, ne_int, at0, at1, at2, at3, notNo, isNone, tupOf])
  | str s =>
    have i1 : isiV "tuple" (.str s) = some (.bl false) := by simp [isiV, tyName]; decide +kernel
    have i2 : isiV "list" (.str s) = some (.bl false) := by simp [isiV, tyName]; decide +kernel
    have i3 : isiV "bool" (.str s) = some (.bl false) := by simp [isiV, tyName]; decide +kernel
    have i4 : isiV "int" (.str s) = some (.bl false) := by simp [isiV, tyName]; decide +kernel
    have i5 : isiV "str" (.str s) = some (.bl true) := by simp [isiV, tyName]; decide +kernel
    have i6 : eqV (.str s) (.str s) = some (.bl true) := by
      unfold eqV
      rw [eqB_b (b := true) rfl rfl (.inl (by rw [dp_str]; omega)) (by simp)]
      rfl
    refine fin [.fz (.str s), .fz (.str s), .no] ?_ (by simp)
    unfold D__law_same
    rw [seq_nx (ρ' := [.fz (.str s), .fz (.str s), .no]) (by rw [if_f (ρ' := [.fz (.str s), .fz (.str s), .no]) (by simp [fo_ok, th_nx, th_rt, th_bk, th_ct, op_s, ob_ok, oo_s, de_v, de_s, ds_n, ds_c, ts_n, ts_c, tv_v, tv_s, fl_rt, fl_nx, x_dHV, x_dVar, x_dC, x_dVH, x_dIt, x_dRg, x_tYesD, x_dU, x_sPut, x_d2, x_aNil, x_aCons, x_dN, x_pNone, x_pSome, x_dSl, x_dTup, x_dOV, x_dVO, x_dLst, x_tOf, x_tBl, x_dChain, x_tAndD, x_tOrD, x_tNotD, x_vAnd, x_vOr, x_vNot, x_dIf, x_dNeg, x_dIsN, x_dNotN, x_dNo, x_dR1, x_dR2, x_dLR, x_dIsi, x_sSkip, x_sBreak, x_sCont, x_sSeq, x_sIf, x_sDrop, x_sRet, x_asg, x_sSet, x_gNm, x_gN, x_gC, x_gTp, x_sAsg, x_sPar, x_g1, x_g2, x_go1, x_callD0, x_callD1, parOf, putV, lstOf, setL, frOf, Sl.view, add_int, sub_int, int_int, ixl, ixt, len_lst, len_tup, lt_int, gt_int, le_int, ge_int, eq_int, ne_int, at0, at1, at2, at3, notNo, isNone, tupOf, i1, i2, truth])]; rfl)]
    rw [seq_nx (ρ' := [.fz (.str s), .fz (.str s), .no]) (by rw [if_f (ρ' := [.fz (.str s), .fz (.str s), .no]) (by simp [fo_ok, th_nx, th_rt, th_bk, th_ct, op_s, ob_ok, oo_s, de_v, de_s, ds_n, ds_c, ts_n, ts_c, tv_v, tv_s, fl_rt, fl_nx, x_dHV, x_dVar, x_dC, x_dVH, x_dIt, x_dRg, x_tYesD, x_dU, x_sPut, x_d2, x_aNil, x_aCons, x_dN, x_pNone, x_pSome, x_dSl, x_dTup, x_dOV, x_dVO, x_dLst, x_tOf, x_tBl, x_dChain, x_tAndD, x_tOrD, x_tNotD, x_vAnd, x_vOr, x_vNot, x_dIf, x_dNeg, x_dIsN, x_dNotN, x_dNo, x_dR1, x_dR2, x_dLR, x_dIsi, x_sSkip, x_sBreak, x_sCont, x_sSeq, x_sIf, x_sDrop, x_sRet, x_asg, x_sSet, x_gNm, x_gN, x_gC, x_gTp, x_sAsg, x_sPar, x_g1, x_g2, x_go1, x_callD0, x_callD1, parOf, putV, lstOf, setL, frOf, Sl.view, add_int, sub_int, int_int, ixl, ixt, len_lst, len_tup, lt_int, gt_int, le_int, ge_int, eq_int, ne_int, at0, at1, at2, at3, notNo, isNone, tupOf, i3, truth])]; rfl)]
    exact seq_rt (by rw [if_t (ρ' := [.fz (.str s), .fz (.str s), .no]) (by simp [fo_ok, th_nx, th_rt, th_bk, th_ct, op_s, ob_ok, oo_s, de_v, de_s, ds_n, ds_c, ts_n, ts_c, tv_v, tv_s, fl_rt, fl_nx, x_dHV, x_dVar, x_dC, x_dVH, x_dIt, x_dRg, x_tYesD, x_dU, x_sPut, x_d2, x_aNil, x_aCons, x_dN, x_pNone, x_pSome, x_dSl, x_dTup, x_dOV, x_dVO, x_dLst, x_tOf, x_tBl, x_dChain, x_tAndD, x_tOrD, x_tNotD, x_vAnd, x_vOr, x_vNot, x_dIf, x_dNeg, x_dIsN, x_dNotN, x_dNo, x_dR1, x_dR2, x_dLR, x_dIsi, x_sSkip, x_sBreak, x_sCont, x_sSeq, x_sIf, x_sDrop, x_sRet, x_asg, x_sSet, x_gNm, x_gN, x_gC, x_gTp, x_sAsg, x_sPar, x_g1, x_g2, x_go1, x_callD0, x_callD1, parOf, putV, lstOf, setL, frOf, Sl.view, add_int, sub_int, int_int, ixl, ixt, len_lst, len_tup, lt_int, gt_int, le_int, ge_int, eq_int, ne_int, at0, at1, at2, at3, notNo, isNone, tupOf, i4, i5, truth])]; simp [fo_ok, th_nx, th_rt, th_bk, th_ct, op_s, ob_ok, oo_s, de_v, de_s, ds_n, ds_c, ts_n, ts_c, tv_v, tv_s, fl_rt, fl_nx, x_dHV, x_dVar, x_dC, x_dVH, x_dIt, x_dRg, x_tYesD, x_dU, x_sPut, x_d2, x_aNil, x_aCons, x_dN, x_pNone, x_pSome, x_dSl, x_dTup, x_dOV, x_dVO, x_dLst, x_tOf, x_tBl, x_dChain, x_tAndD, x_tOrD, x_tNotD, x_vAnd, x_vOr, x_vNot, x_dIf, x_dNeg, x_dIsN, x_dNotN, x_dNo, x_dR1, x_dR2, x_dLR, x_dIsi, x_sSkip, x_sBreak, x_sCont, x_sSeq, x_sIf, x_sDrop, x_sRet, x_asg, x_sSet, x_gNm, x_gN, x_gC, x_gTp, x_sAsg, x_sPar, x_g1, x_g2, x_go1, x_callD0, x_callD1, parOf, putV, lstOf, setL, frOf, Sl.view, add_int, sub_int, int_int, ixl, ixt, len_lst, len_tup, lt_int, gt_int, le_int, ge_int, eq_int, ne_int, at0, at1, at2, at3, notNo, isNone, tupOf, i6])
  | non =>
    have i1 : isiV "tuple" .non = some (.bl false) := by simp [isiV, tyName]; decide +kernel
    have i2 : isiV "list" .non = some (.bl false) := by simp [isiV, tyName]; decide +kernel
    have i3 : isiV "bool" .non = some (.bl false) := by simp [isiV, tyName]; decide +kernel
    have i4 : isiV "int" .non = some (.bl false) := by simp [isiV, tyName]; decide +kernel
    have i5 : isiV "str" .non = some (.bl false) := by simp [isiV, tyName]; decide +kernel
    refine fin [.fz .non, .fz .non, .no] ?_ (by simp)
    unfold D__law_same
    rw [seq_nx (ρ' := [.fz .non, .fz .non, .no]) (by rw [if_f (ρ' := [.fz .non, .fz .non, .no]) (by simp [fo_ok, th_nx, th_rt, th_bk, th_ct, op_s, ob_ok, oo_s, de_v, de_s, ds_n, ds_c, ts_n, ts_c, tv_v, tv_s, fl_rt, fl_nx, x_dHV, x_dVar, x_dC, x_dVH, x_dIt, x_dRg, x_tYesD, x_dU, x_sPut, x_d2, x_aNil, x_aCons, x_dN, x_pNone, x_pSome, x_dSl, x_dTup, x_dOV, x_dVO, x_dLst, x_tOf, x_tBl, x_dChain, x_tAndD, x_tOrD, x_tNotD, x_vAnd, x_vOr, x_vNot, x_dIf, x_dNeg, x_dIsN, x_dNotN, x_dNo, x_dR1, x_dR2, x_dLR, x_dIsi, x_sSkip, x_sBreak, x_sCont, x_sSeq, x_sIf, x_sDrop, x_sRet, x_asg, x_sSet, x_gNm, x_gN, x_gC, x_gTp, x_sAsg, x_sPar, x_g1, x_g2, x_go1, x_callD0, x_callD1, parOf, putV, lstOf, setL, frOf, Sl.view, add_int, sub_int, int_int, ixl, ixt, len_lst, len_tup, lt_int, gt_int, le_int, ge_int, eq_int, ne_int, at0, at1, at2, at3, notNo, isNone, tupOf, i1, i2, truth])]; rfl)]
    rw [seq_nx (ρ' := [.fz .non, .fz .non, .no]) (by rw [if_f (ρ' := [.fz .non, .fz .non, .no]) (by simp [fo_ok, th_nx, th_rt, th_bk, th_ct, op_s, ob_ok, oo_s, de_v, de_s, ds_n, ds_c, ts_n, ts_c, tv_v, tv_s, fl_rt, fl_nx, x_dHV, x_dVar, x_dC, x_dVH, x_dIt, x_dRg, x_tYesD, x_dU, x_sPut, x_d2, x_aNil, x_aCons, x_dN, x_pNone, x_pSome, x_dSl, x_dTup, x_dOV, x_dVO, x_dLst, x_tOf, x_tBl, x_dChain, x_tAndD, x_tOrD, x_tNotD, x_vAnd, x_vOr, x_vNot, x_dIf, x_dNeg, x_dIsN, x_dNotN, x_dNo, x_dR1, x_dR2, x_dLR, x_dIsi, x_sSkip, x_sBreak, x_sCont, x_sSeq, x_sIf, x_sDrop, x_sRet, x_asg, x_sSet, x_gNm, x_gN, x_gC, x_gTp, x_sAsg, x_sPar, x_g1, x_g2, x_go1, x_callD0, x_callD1, parOf, putV, lstOf, setL, frOf, Sl.view, add_int, sub_int, int_int, ixl, ixt, len_lst, len_tup, lt_int, gt_int, le_int, ge_int, eq_int, ne_int, at0, at1, at2, at3, notNo, isNone, tupOf, i3, truth])]; rfl)]
    rw [seq_nx (ρ' := [.fz .non, .fz .non, .no]) (by rw [if_f (ρ' := [.fz .non, .fz .non, .no]) (by simp [fo_ok, th_nx, th_rt, th_bk, th_ct, op_s, ob_ok, oo_s, de_v, de_s, ds_n, ds_c, ts_n, ts_c, tv_v, tv_s, fl_rt, fl_nx, x_dHV, x_dVar, x_dC, x_dVH, x_dIt, x_dRg, x_tYesD, x_dU, x_sPut, x_d2, x_aNil, x_aCons, x_dN, x_pNone, x_pSome, x_dSl, x_dTup, x_dOV, x_dVO, x_dLst, x_tOf, x_tBl, x_dChain, x_tAndD, x_tOrD, x_tNotD, x_vAnd, x_vOr, x_vNot, x_dIf, x_dNeg, x_dIsN, x_dNotN, x_dNo, x_dR1, x_dR2, x_dLR, x_dIsi, x_sSkip, x_sBreak, x_sCont, x_sSeq, x_sIf, x_sDrop, x_sRet, x_asg, x_sSet, x_gNm, x_gN, x_gC, x_gTp, x_sAsg, x_sPar, x_g1, x_g2, x_go1, x_callD0, x_callD1, parOf, putV, lstOf, setL, frOf, Sl.view, add_int, sub_int, int_int, ixl, ixt, len_lst, len_tup, lt_int, gt_int, le_int, ge_int, eq_int, ne_int, at0, at1, at2, at3, notNo, isNone, tupOf, i4, i5, truth])]; rfl)]
    simp [fo_ok, th_nx, th_rt, th_bk, th_ct, op_s, ob_ok, oo_s, de_v, de_s, ds_n, ds_c, ts_n, ts_c, tv_v, tv_s, fl_rt, fl_nx, x_dHV, x_dVar, x_dC, x_dVH, x_dIt, x_dRg, x_tYesD, x_dU, x_sPut, x_d2, x_aNil, x_aCons, x_dN, x_pNone, x_pSome, x_dSl, x_dTup, x_dOV, x_dVO, x_dLst, x_tOf, x_tBl, x_dChain, x_tAndD, x_tOrD, x_tNotD, x_vAnd, x_vOr, x_vNot, x_dIf, x_dNeg, x_dIsN, x_dNotN, x_dNo, x_dR1, x_dR2, x_dLR, x_dIsi, x_sSkip, x_sBreak, x_sCont, x_sSeq, x_sIf, x_sDrop, x_sRet, x_asg, x_sSet, x_gNm, x_gN, x_gC, x_gTp, x_sAsg, x_sPar, x_g1, x_g2, x_go1, x_callD0, x_callD1, parOf, putV, lstOf, setL, frOf, Sl.view, add_int, sub_int, int_int, ixl, ixt, len_lst, len_tup, lt_int, gt_int, le_int, ge_int, eq_int, ne_int, at0, at1, at2, at3, notNo, isNone, tupOf, truth]
  | _ => simp [gd] at g
theorem same_ok : ∀ n : Nat, SameOk (E__law_same n) n
  | 0 => fun x _ h _ => absurd h (Nat.not_lt_zero _)
  | n + 1 => fun x g h w => by
    rw [s__law_same]
    exact same_core (E__law_same n) (lv__law_same n).2.2 n (same_ok n) x g h w

def rowV (s : List Int) : Val := .tup (s.map .int)
def strV (S : List (List Int)) : Val := .tup (S.map rowV)
def landV (m : Int) (doors : List (Int × Int)) : Val := .tup [.int m, .tup (doors.map prV)]
def RoomOk (e : FnE) : Prop := e.np = 2 ∧ ∀ a b : List Int, a.length ≤ 1000000 → e.sem [.fz (rowV a), .fz (rowV b)] = .ok (.fz (.bl (a.any fun r => decide (r ∈ b))), .no)
theorem room_ok : RoomOk E_have_room := by
  refine ⟨rfl, fun a b ha => ?_⟩
  have h1 := lcL_map1 (g := gNm 2) (t := tYesD) (e := d2 inV (dVar 2) (dVar 1)) (vs := [2]) Val.int (fun r => .bl (decide (r ∈ b))) [.fz (rowV a), .fz (rowV b), .no] a fun r hr => by
    refine ⟨[.fz (rowV a), .fz (rowV b), .fz (.int r)], [.fz (rowV a), .fz (rowV b), .fz (.int r)], [.fz (rowV a), .fz (rowV b), .fz (.int r)], by simp [gNm], rfl, ?_, ?_⟩
    · simp [fo_ok, th_nx, th_rt, th_bk, th_ct, op_s, ob_ok, oo_s, de_v, de_s, ds_n, ds_c, ts_n, ts_c, tv_v, tv_s, fl_rt, fl_nx, x_dHV, x_dVar, x_dC, x_dVH, x_dIt, x_dRg, x_tYesD, x_dU, x_sPut, x_d2, x_aNil, x_aCons, x_dN, x_pNone, x_pSome, x_dSl, x_dTup, x_dOV, x_dVO, x_dLst, x_tOf, x_tBl, x_dChain, x_tAndD, x_tOrD, x_tNotD, x_vAnd, x_vOr, x_vNot, x_dIf, x_dNeg, x_dIsN, x_dNotN, x_dNo, x_dR1, x_dR2, x_dLR, x_dIsi, x_sSkip, x_sBreak, x_sCont, x_sSeq, x_sIf, x_sDrop, x_sRet, x_asg, x_sSet, x_gNm, x_gN, x_gC, x_gTp, x_sAsg, x_sPar, x_g1, x_g2, x_go1, x_callD0, x_callD1, parOf, putV, lstOf, setL, frOf, Sl.view, add_int, sub_int, int_int, ixl, ixt, len_lst, len_tup, lt_int, gt_int, le_int, ge_int, eq_int, ne_int, at0, at1, at2, at3, notNo, isNone, tupOf, rowV, (in_ints r b).2.1]
    · simp [wipeE]
  have h2 : dLc (dIt (dVH (dVar 0))) (gNm 2) tYesD (d2 inV (dVar 2) (dVar 1)) [2] [.fz (rowV a), .fz (rowV b), .no] = .ok (.own (a.map fun r => .bl (decide (r ∈ b))), [.fz (rowV a), .fz (rowV b), .no]) := by
    rw [lc_eq (xs := a.map .int) (ρ1 := [.fz (rowV a), .fz (rowV b), .no]) (by simp [fo_ok, th_nx, th_rt, th_bk, th_ct, op_s, ob_ok, oo_s, de_v, de_s, ds_n, ds_c, ts_n, ts_c, tv_v, tv_s, fl_rt, fl_nx, x_dHV, x_dVar, x_dC, x_dVH, x_dIt, x_dRg, x_tYesD, x_dU, x_sPut, x_d2, x_aNil, x_aCons, x_dN, x_pNone, x_pSome, x_dSl, x_dTup, x_dOV, x_dVO, x_dLst, x_tOf, x_tBl, x_dChain, x_tAndD, x_tOrD, x_tNotD, x_vAnd, x_vOr, x_vNot, x_dIf, x_dNeg, x_dIsN, x_dNotN, x_dNo, x_dR1, x_dR2, x_dLR, x_dIsi, x_sSkip, x_sBreak, x_sCont, x_sSeq, x_sIf, x_sDrop, x_sRet, x_asg, x_sSet, x_gNm, x_gN, x_gC, x_gTp, x_sAsg, x_sPar, x_g1, x_g2, x_go1, x_callD0, x_callD1, parOf, putV, lstOf, setL, frOf, Sl.view, add_int, sub_int, int_int, ixl, ixt, len_lst, len_tup, lt_int, gt_int, le_int, ge_int, eq_int, ne_int, at0, at1, at2, at3, notNo, isNone, tupOf, rowV, goesV]) (ok_size (by simpa using ha)) (by simpa [wipeE] using h1)]
    simp [rest, keepFz]
  rw [s_have_room]
  simp [D_have_room, fo_ok, th_nx, th_rt, th_bk, th_ct, op_s, ob_ok, oo_s, de_v, de_s, ds_n, ds_c, ts_n, ts_c, tv_v, tv_s, fl_rt, fl_nx, x_dHV, x_dVar, x_dC, x_dVH, x_dIt, x_dRg, x_tYesD, x_dU, x_sPut, x_d2, x_aNil, x_aCons, x_dN, x_pNone, x_pSome, x_dSl, x_dTup, x_dOV, x_dVO, x_dLst, x_tOf, x_tBl, x_dChain, x_tAndD, x_tOrD, x_tNotD, x_vAnd, x_vOr, x_vNot, x_dIf, x_dNeg, x_dIsN, x_dNotN, x_dNo, x_dR1, x_dR2, x_dLR, x_dIsi, x_sSkip, x_sBreak, x_sCont, x_sSeq, x_sIf, x_sDrop, x_sRet, x_asg, x_sSet, x_gNm, x_gN, x_gC, x_gTp, x_sAsg, x_sPar, x_g1, x_g2, x_go1, x_callD0, x_callD1, parOf, putV, lstOf, setL, frOf, Sl.view, add_int, sub_int, int_int, ixl, ixt, len_lst, len_tup, lt_int, gt_int, le_int, ge_int, eq_int, ne_int, at0, at1, at2, at3, notNo, isNone, tupOf, h2, any_map (fun r => decide (r ∈ b)) a]
/-- rows i and j have a room in common -/
def meet (S : List (List Int)) (i j : Int) : Bool := ((S[i.toNat]?).getD []).any fun r => decide (r ∈ (S[j.toNat]?).getD [])
def prs (n : Int) (p : Int → Int → Bool) : List (Int × Int) := (rangeI 0 n).flatMap fun i => ((rangeI (i + 1) n).filter fun j => p i j).map fun j => (i, j)
theorem mem_prs {n : Int} {p : Int → Int → Bool} {i j : Int} : (i, j) ∈ prs n p ↔ 0 ≤ i ∧ i < j ∧ j < n ∧ p i j = true := by
  unfold prs
  simp only [List.mem_flatMap, List.mem_map, List.mem_filter, mem_rangeI, Prod.mk.injEq]
  constructor
  · rintro ⟨a, ⟨h1, h2⟩, b, ⟨⟨h3, h4⟩, h5⟩, rfl, rfl⟩
    exact ⟨h1, by omega, h4, h5⟩
  · rintro ⟨h1, h2, h3, h4⟩
    exact ⟨i, ⟨h1, by omega⟩, j, ⟨⟨by omega, h3⟩, h4⟩, rfl, rfl⟩
theorem atI_row (S : List (List Int)) {i : Int} (h0 : 0 ≤ i) (h1 : i < S.length) : L2.atI (S.map rowV) i = some (rowV ((S[i.toNat]?).getD [])) := by
  rw [atI_int h0 (by simpa using h1), List.getElem?_map]
  have : i.toNat < S.length := by omega
  simp [this]
theorem sum_le : ∀ (l : List Nat) (k : Nat), (∀ x ∈ l, x ≤ k) → l.sum ≤ l.length * k := by
  intro l k hl
  induction l with
  | nil => simp
  | cons x xs ih =>
    have a := hl x List.mem_cons_self
    have b := ih fun y hy => hl y (List.mem_cons_of_mem _ hy)
    simp only [List.sum_cons, List.length_cons, Nat.succ_mul]
    omega
theorem prs_len {n : Int} {p : Int → Int → Bool} (hn : n ≤ 100) : (prs n p).length ≤ 10000 := by
  unfold prs
  rw [List.length_flatMap]
  have := sum_le ((rangeI 0 n).map fun i => (((rangeI (i + 1) n).filter fun j => p i j).map fun j => (i, j)).length) 100 (by
    intro x hx
    obtain ⟨i, hi, rfl⟩ := List.mem_map.mp hx
    rw [List.length_map]
    have h1 := List.length_filter_le (fun j => p i j) (rangeI (i + 1) n)
    rw [length_rangeI] at h1
    have := mem_rangeI.mp hi
    omega)
  rw [List.length_map, length_rangeI] at this
  omega
theorem row_le {S : List (List Int)} (hs : ∀ s ∈ S, s.length ≤ 1000) (i : Int) : ((S[i.toNat]?).getD []).length ≤ 1000000 := by
  cases e : S[i.toNat]? with
  | none => simp
  | some s => have := hs s (List.mem_of_getElem? e); simp; omega
def ShownOk (e : FnE) : Prop := e.np = 1 ∧ ∀ S : List (List Int), S.length ≤ 100 → (∀ s ∈ S, s.length ≤ 1000) → e.sem [.fz (strV S)] = .ok (.fz (.tup [.int S.length, .tup ((prs S.length (meet S)).map prV)]), .no)
theorem shown_fin (X : DO) (v : Val) (n : Int) (ys : List Val) (h5 : lenV v = some (.int n)) (h3 : X [.fz v, .fz (.int n), .no, .no] = .ok (.own ys, [.fz v, .fz (.int n), .no, .no])) :
    (sSeq (sSet 1 (dOV (dN (g1 lenV) (aCons (dVar 0) aNil)))) (sRet (dOV (dTup (aCons (dVar 1) (aCons (dHV (dN (g1 tupV) (aCons (dHV (dVO X)) aNil))) aNil)))))) [.fz v, .no, .no, .no] = .rt (.fz (.tup [.int n, .tup ys])) [.fz v, .fz (.int n), .no, .no] := by
  have h4 : (2:Nat) ≤ sizeLine := ok_size (by decide)
  simp [fo_ok, th_nx, th_rt, th_bk, th_ct, op_s, ob_ok, oo_s, de_v, de_s, ds_n, ds_c, ts_n, ts_c, tv_v, tv_s, fl_rt, fl_nx, x_dHV, x_dVar, x_dC, x_dVH, x_dIt, x_dRg, x_tYesD, x_dU, x_sPut, x_d2, x_aNil, x_aCons, x_dN, x_pNone, x_pSome, x_dSl, x_dTup, x_dOV, x_dVO, x_dLst, x_tOf, x_tBl, x_dChain, x_tAndD, x_tOrD, x_tNotD, x_vAnd, x_vOr, x_vNot, x_dIf, x_dNeg, x_dIsN, x_dNotN, x_dNo, x_dR1, x_dR2, x_dLR, x_dIsi, x_sSkip, x_sBreak, x_sCont, x_sSeq, x_sIf, x_sDrop, x_sRet, x_asg, x_sSet, x_gNm, x_gN, x_gC, x_gTp, x_sAsg, x_sPar, x_g1, x_g2, x_go1, x_callD0, x_callD1, parOf, putV, lstOf, setL, frOf, Sl.view, add_int, sub_int, int_int, ixl, ixt, len_lst, len_tup, lt_int, gt_int, le_int, ge_int, eq_int, ne_int, at0, at1, at2, at3, notNo, isNone, tupOf, h3, h4, h5, tupV]
theorem len_str (S : List (List Int)) : lenV (strV S) = some (.int S.length) := by simp [strV, lenV]
theorem shown_core (e : FnE) (he : RoomOk e) (S : List (List Int)) (hn : S.length ≤ 100) (hs : ∀ s ∈ S, s.length ≤ 1000) : D_shown_by_strolls e [.fz (strV S), .no, .no, .no] = .rt (.fz (.tup [.int S.length, .tup ((prs S.length (meet S)).map prV)])) [.fz (strV S), .fz (.int S.length), .no, .no] := by
  obtain ⟨np, hx⟩ := he
  have hg := row_le hs
  have h1 := lcO_map (g := gNm 2) (t := tYesD) (f := lcL2 (dRg (dR2 (d2 addV (dVar 2) (dHV (dC (.int 1)))) (dVH (dVar 1)))) (gNm 3) (tOf (dHV (dVO (callD0 e (aCons (dHV (d2 ixV (dVar 0) (dVar 2))) (aCons (dHV (d2 ixV (dVar 0) (dVar 3))) aNil)))))) (dTup (aCons (dVar 2) (aCons (dVar 3) aNil))) [3]) (vs := [2, 3])
    Val.int (fun i => (((rangeI (i + 1) S.length).filter fun j => meet S i j).map fun j => (i, j)).map prV) [.fz (strV S), .fz (.int S.length), .no, .no] (rangeI 0 S.length) fun i hi => by
      have hi := mem_rangeI.mp hi
      refine ⟨[.fz (strV S), .fz (.int S.length), .fz (.int i), .no], [.fz (strV S), .fz (.int S.length), .fz (.int i), .no], [.fz (strV S), .fz (.int S.length), .fz (.int i), .no], by simp [gNm], rfl, ?_, by simp [wipeE]⟩
      rw [lcL2_eq (rg2 (m := i + 1) (n := S.length) (ρ1 := [.fz (strV S), .fz (.int S.length), .fz (.int i), .no]) (ρ2 := [.fz (strV S), .fz (.int S.length), .fz (.int i), .no]) (by simp [fo_ok, th_nx, th_rt, th_bk, th_ct, op_s, ob_ok, oo_s, de_v, de_s, ds_n, ds_c, ts_n, ts_c, tv_v, tv_s, fl_rt, fl_nx, x_dHV, x_dVar, x_dC, x_dVH, x_dIt, x_dRg, x_tYesD, x_dU, x_sPut, x_d2, x_aNil, x_aCons, x_dN, x_pNone, x_pSome, x_dSl, x_dTup, x_dOV, x_dVO, x_dLst, x_tOf, x_tBl, x_dChain, x_tAndD, x_tOrD, x_tNotD, x_vAnd, x_vOr, x_vNot, x_dIf, x_dNeg, x_dIsN, x_dNotN, x_dNo, x_dR1, x_dR2, x_dLR, x_dIsi, x_sSkip, x_sBreak, x_sCont, x_sSeq, x_sIf, x_sDrop, x_sRet, x_asg, x_sSet, x_gNm, x_gN, x_gC, x_gTp, x_sAsg, x_sPar, x_g1, x_g2, x_go1, x_callD0, x_callD1, parOf, putV, lstOf, setL, frOf, Sl.view, add_int, sub_int, int_int, ixl, ixt, len_lst, len_tup, lt_int, gt_int, le_int, ge_int, eq_int, ne_int, at0, at1, at2, at3, notNo, isNone, tupOf]) (by simp [fo_ok, th_nx, th_rt, th_bk, th_ct, op_s, ob_ok, oo_s, de_v, de_s, ds_n, ds_c, ts_n, ts_c, tv_v, tv_s, fl_rt, fl_nx, x_dHV, x_dVar, x_dC, x_dVH, x_dIt, x_dRg, x_tYesD, x_dU, x_sPut, x_d2, x_aNil, x_aCons, x_dN, x_pNone, x_pSome, x_dSl, x_dTup, x_dOV, x_dVO, x_dLst, x_tOf, x_tBl, x_dChain, x_tAndD, x_tOrD, x_tNotD, x_vAnd, x_vOr, x_vNot, x_dIf, x_dNeg, x_dIsN, x_dNotN, x_dNo, x_dR1, x_dR2, x_dLR, x_dIsi, x_sSkip, x_sBreak, x_sCont, x_sSeq, x_sIf, x_sDrop, x_sRet, x_asg, x_sSet, x_gNm, x_gN, x_gC, x_gTp, x_sAsg, x_sPar, x_g1, x_g2, x_go1, x_callD0, x_callD1, parOf, putV, lstOf, setL, frOf, Sl.view, add_int, sub_int, int_int, ixl, ixt, len_lst, len_tup, lt_int, gt_int, le_int, ge_int, eq_int, ne_int, at0, at1, at2, at3, notNo, isNone, tupOf]) (by omega) (by omega)) (ok_size (by rw [List.length_map, length_rangeI]; omega)) (ys := (((rangeI (i + 1) S.length).filter fun j => meet S i j).map fun j => (i, j)).map prV) (ρ2 := [.fz (strV S), .fz (.int S.length), .fz (.int i), .no]) ?_]
      · simp [rest, keepFz]
      · have h2 := lcL_map (g := gNm 3) (t := tOf (dHV (dVO (callD0 e (aCons (dHV (d2 ixV (dVar 0) (dVar 2))) (aCons (dHV (d2 ixV (dVar 0) (dVar 3))) aNil)))))) (e := dTup (aCons (dVar 2) (aCons (dVar 3) aNil))) (vs := [3]) Val.int (fun j => meet S i j) (fun j => prV (i, j)) [.fz (strV S), .fz (.int S.length), .fz (.int i), .no] (rangeI (i + 1) S.length) fun j hj => by
          have hj := mem_rangeI.mp hj
          refine ⟨[.fz (strV S), .fz (.int S.length), .fz (.int i), .fz (.int j)], [.fz (strV S), .fz (.int S.length), .fz (.int i), .fz (.int j)], by simp [gNm], ?_, ?_⟩
          · simp [fo_ok, th_nx, th_rt, th_bk, th_ct, op_s, ob_ok, oo_s, de_v, de_s, ds_n, ds_c, ts_n, ts_c, tv_v, tv_s, fl_rt, fl_nx, x_dHV, x_dVar, x_dC, x_dVH, x_dIt, x_dRg, x_tYesD, x_dU, x_sPut, x_d2, x_aNil, x_aCons, x_dN, x_pNone, x_pSome, x_dSl, x_dTup, x_dOV, x_dVO, x_dLst, x_tOf, x_tBl, x_dChain, x_tAndD, x_tOrD, x_tNotD, x_vAnd, x_vOr, x_vNot, x_dIf, x_dNeg, x_dIsN, x_dNotN, x_dNo, x_dR1, x_dR2, x_dLR, x_dIsi, x_sSkip, x_sBreak, x_sCont, x_sSeq, x_sIf, x_sDrop, x_sRet, x_asg, x_sSet, x_gNm, x_gN, x_gC, x_gTp, x_sAsg, x_sPar, x_g1, x_g2, x_go1, x_callD0, x_callD1, parOf, putV, lstOf, setL, frOf, Sl.view, add_int, sub_int, int_int, ixl, ixt, len_lst, len_tup, lt_int, gt_int, le_int, ge_int, eq_int, ne_int, at0, at1, at2, at3, notNo, isNone, tupOf, strV, atI_row S hi.1 hi.2, atI_row S (show 0 ≤ j by omega) hj.2, np, hx _ _ (hg i), truth, meet]
          · have h2 : (2:Nat) ≤ sizeLine := ok_size (by decide)
            cases meet S i j <;> simp [fo_ok, th_nx, th_rt, th_bk, th_ct, op_s, ob_ok, oo_s, de_v, de_s, ds_n, ds_c, ts_n, ts_c, tv_v, tv_s, fl_rt, fl_nx, x_dHV, x_dVar, x_dC, x_dVH, x_dIt, x_dRg, x_tYesD, x_dU, x_sPut, x_d2, x_aNil, x_aCons, x_dN, x_pNone, x_pSome, x_dSl, x_dTup, x_dOV, x_dVO, x_dLst, x_tOf, x_tBl, x_dChain, x_tAndD, x_tOrD, x_tNotD, x_vAnd, x_vOr, x_vNot, x_dIf, x_dNeg, x_dIsN, x_dNotN, x_dNo, x_dR1, x_dR2, x_dLR, x_dIsi, x_sSkip, x_sBreak, x_sCont, x_sSeq, x_sIf, x_sDrop, x_sRet, x_asg, x_sSet, x_gNm, x_gN, x_gC, x_gTp, x_sAsg, x_sPar, x_g1, x_g2, x_go1, x_callD0, x_callD1, parOf, putV, lstOf, setL, frOf, Sl.view, add_int, sub_int, int_int, ixl, ixt, len_lst, len_tup, lt_int, gt_int, le_int, ge_int, eq_int, ne_int, at0, at1, at2, at3, notNo, isNone, tupOf, wipeE, h2, prV]
        rw [show wipeE [Sl.fz (strV S), Sl.fz (.int S.length), Sl.fz (.int i), Sl.no] [3] = [Sl.fz (strV S), Sl.fz (.int S.length), Sl.fz (.int i), Sl.no] from rfl, h2, List.map_map]
        rfl
  have h2 : lcO (gNm 2) tYesD (lcL2 (dRg (dR2 (d2 addV (dVar 2) (dHV (dC (.int 1)))) (dVH (dVar 1)))) (gNm 3) (tOf (dHV (dVO (callD0 e (aCons (dHV (d2 ixV (dVar 0) (dVar 2))) (aCons (dHV (d2 ixV (dVar 0) (dVar 3))) aNil)))))) (dTup (aCons (dVar 2) (aCons (dVar 3) aNil))) [3]) [2, 3] ((rangeI 0 S.length).map .int) (wipeE [.fz (strV S), .fz (.int S.length), .no, .no] [2, 3]) = some ((prs S.length (meet S)).map prV, [.fz (strV S), .fz (.int S.length), .no, .no]) := by
    rw [show wipeE [Sl.fz (strV S), .fz (.int S.length), .no, .no] [2, 3] = [.fz (strV S), .fz (.int S.length), .no, .no] from rfl, h1]
    unfold prs
    rw [List.map_flatMap]
  have h3 := lc2_eq (rg1 (d := dVH (dVar 1)) (ρ := [.fz (strV S), .fz (.int S.length), .no, .no]) (ρ' := [.fz (strV S), .fz (.int S.length), .no, .no]) (n := S.length) (by simp [fo_ok, th_nx, th_rt, th_bk, th_ct, op_s, ob_ok, oo_s, de_v, de_s, ds_n, ds_c, ts_n, ts_c, tv_v, tv_s, fl_rt, fl_nx, x_dHV, x_dVar, x_dC, x_dVH, x_dIt, x_dRg, x_tYesD, x_dU, x_sPut, x_d2, x_aNil, x_aCons, x_dN, x_pNone, x_pSome, x_dSl, x_dTup, x_dOV, x_dVO, x_dLst, x_tOf, x_tBl, x_dChain, x_tAndD, x_tOrD, x_tNotD, x_vAnd, x_vOr, x_vNot, x_dIf, x_dNeg, x_dIsN, x_dNotN, x_dNo, x_dR1, x_dR2, x_dLR, x_dIsi, x_sSkip, x_sBreak, x_sCont, x_sSeq, x_sIf, x_sDrop, x_sRet, x_asg, x_sSet, x_gNm, x_gN, x_gC, x_gTp, x_sAsg, x_sPar, x_g1, x_g2, x_go1, x_callD0, x_callD1, parOf, putV, lstOf, setL, frOf, Sl.view, add_int, sub_int, int_int, ixl, ixt, len_lst, len_tup, lt_int, gt_int, le_int, ge_int, eq_int, ne_int, at0, at1, at2, at3, notNo, isNone, tupOf]) (by omega)) h2 (ok_size (by rw [List.length_map]; exact Nat.le_trans (prs_len (by omega)) (by decide)))
  exact shown_fin _ _ _ _ (len_str S) h3
theorem shown_ok : ShownOk E_shown_by_strolls := ⟨rfl, fun S hn hs => by
  rw [s_shown_by_strolls, shown_core E_have_room room_ok S hn hs]
  simp [fo_ok, th_nx, th_rt, th_bk, th_ct, op_s, ob_ok, oo_s, de_v, de_s, ds_n, ds_c, ts_n, ts_c, tv_v, tv_s, fl_rt, fl_nx, x_dHV, x_dVar, x_dC, x_dVH, x_dIt, x_dRg, x_tYesD, x_dU, x_sPut, x_d2, x_aNil, x_aCons, x_dN, x_pNone, x_pSome, x_dSl, x_dTup, x_dOV, x_dVO, x_dLst, x_tOf, x_tBl, x_dChain, x_tAndD, x_tOrD, x_tNotD, x_vAnd, x_vOr, x_vNot, x_dIf, x_dNeg, x_dIsN, x_dNotN, x_dNo, x_dR1, x_dR2, x_dLR, x_dIsi, x_sSkip, x_sBreak, x_sCont, x_sSeq, x_sIf, x_sDrop, x_sRet, x_asg, x_sSet, x_gNm, x_gN, x_gC, x_gTp, x_sAsg, x_sPar, x_g1, x_g2, x_go1, x_callD0, x_callD1, parOf, putV, lstOf, setL, frOf, Sl.view, add_int, sub_int, int_int, ixl, ixt, len_lst, len_tup, lt_int, gt_int, le_int, ge_int, eq_int, ne_int, at0, at1, at2, at3, notNo, isNone, tupOf]⟩

/-! ### the answer -/
def com (S : List (List Int)) (r : Int) : Bool := S.all fun s => decide (r ∈ s)
def strS : Val := .str "room"
def apS : Val := .str "apart"
theorem in_row (r : Int) (s : List Int) : inV (.int r) (rowV s) = some (.bl (decide (r ∈ s))) := (in_ints r s).2.1
/-- all([r in stroll for stroll in strolls]) -/
theorem com_lc (S : List (List Int)) (r : Int) (hn : S.length ≤ 100) (ρ : Ev.Env) (d : DV) (i j : Nat) (hS : d ρ = .ok (strV S, ρ)) (hr : ρ[i]? = some (.fz (.int r))) (hj : ρ[j]? = some .no) (hij : i ≠ j) :
    dN (g1 allV) (aCons (dHV (dVO (dLc (dIt d) (gNm j) tYesD (d2 inV (dVar i) (dVar j)) [j]))) aNil) ρ = .ok (.bl (com S r), ρ) := by
  have hl : j < ρ.length := (List.getElem?_eq_some_iff.mp hj).1
  have hw : wipeE ρ [j] = ρ := by
    show ρ.set j .no = ρ
    refine List.ext_getElem? fun k => ?_
    by_cases hk : j = k
    · subst hk; rw [List.getElem?_set_self hl, hj]
    · rw [List.getElem?_set_ne hk]
  have hr2 : rest ρ [j] ρ = ρ := by
    show ρ.set j (keepFz ρ[j]?) = ρ
    rw [hj]
    exact hw
  have h1 := lcL_map1 (g := gNm j) (t := tYesD) (e := d2 inV (dVar i) (dVar j)) (vs := [j]) rowV (fun s => .bl (decide (r ∈ s))) ρ S fun s hs => by
    refine ⟨ρ.set j (.fz (rowV s)), ρ.set j (.fz (rowV s)), ρ.set j (.fz (rowV s)), by simp [gNm, hl], rfl, ?_, ?_⟩
    · have e1 : (ρ.set j (.fz (rowV s)))[i]? = some (.fz (.int r)) := by rw [List.getElem?_set_ne (Ne.symm hij), hr]
      have e2 : (ρ.set j (.fz (rowV s)))[j]? = some (.fz (rowV s)) := by rw [List.getElem?_set_self hl]
      simp [fo_ok, th_nx, th_rt, th_bk, th_ct, op_s, ob_ok, oo_s, de_v, de_s, ds_n, ds_c, ts_n, ts_c, tv_v, tv_s, fl_rt, fl_nx, x_dHV, x_dVar, x_dC, x_dVH, x_dIt, x_dRg, x_tYesD, x_dU, x_sPut, x_d2, x_aNil, x_aCons, x_dN, x_pNone, x_pSome, x_dSl, x_dTup, x_dOV, x_dVO, x_dLst, x_tOf, x_tBl, x_dChain, x_tAndD, x_tOrD, x_tNotD, x_vAnd, x_vOr, x_vNot, x_dIf, x_dNeg, x_dIsN, x_dNotN, x_dNo, x_dR1, x_dR2, x_dLR, x_dIsi, x_sSkip, x_sBreak, x_sCont, x_sSeq, x_sIf, x_sDrop, x_sRet, x_asg, x_sSet, x_gNm, x_gN, x_gC, x_gTp, x_sAsg, x_sPar, x_g1, x_g2, x_go1, x_callD0, x_callD1, parOf, putV, lstOf, setL, frOf, Sl.view, add_int, sub_int, int_int, ixl, ixt, len_lst, len_tup, lt_int, gt_int, le_int, ge_int, eq_int, ne_int, at0, at1, at2, at3, notNo, isNone, tupOf, e1, e2, in_row]
    · show (ρ.set j (.fz (rowV s))).set j .no = ρ
      rw [List.set_set]
      exact hw
  have h2 := lc_eq (it := dIt d) (xs := S.map rowV) (ρ := ρ) (ρ1 := ρ) (by simp [fo_ok, th_nx, th_rt, th_bk, th_ct, op_s, ob_ok, oo_s, de_v, de_s, ds_n, ds_c, ts_n, ts_c, tv_v, tv_s, fl_rt, fl_nx, x_dHV, x_dVar, x_dC, x_dVH, x_dIt, x_dRg, x_tYesD, x_dU, x_sPut, x_d2, x_aNil, x_aCons, x_dN, x_pNone, x_pSome, x_dSl, x_dTup, x_dOV, x_dVO, x_dLst, x_tOf, x_tBl, x_dChain, x_tAndD, x_tOrD, x_tNotD, x_vAnd, x_vOr, x_vNot, x_dIf, x_dNeg, x_dIsN, x_dNotN, x_dNo, x_dR1, x_dR2, x_dLR, x_dIsi, x_sSkip, x_sBreak, x_sCont, x_sSeq, x_sIf, x_sDrop, x_sRet, x_asg, x_sSet, x_gNm, x_gN, x_gC, x_gTp, x_sAsg, x_sPar, x_g1, x_g2, x_go1, x_callD0, x_callD1, parOf, putV, lstOf, setL, frOf, Sl.view, add_int, sub_int, int_int, ixl, ixt, len_lst, len_tup, lt_int, gt_int, le_int, ge_int, eq_int, ne_int, at0, at1, at2, at3, notNo, isNone, tupOf, hS, strV, goesV]) (ok_size (by rw [List.length_map]; omega)) (by rw [hw]; exact h1)
  rw [hr2] at h2
  simp [fo_ok, th_nx, th_rt, th_bk, th_ct, op_s, ob_ok, oo_s, de_v, de_s, ds_n, ds_c, ts_n, ts_c, tv_v, tv_s, fl_rt, fl_nx, x_dHV, x_dVar, x_dC, x_dVH, x_dIt, x_dRg, x_tYesD, x_dU, x_sPut, x_d2, x_aNil, x_aCons, x_dN, x_pNone, x_pSome, x_dSl, x_dTup, x_dOV, x_dVO, x_dLst, x_tOf, x_tBl, x_dChain, x_tAndD, x_tOrD, x_tNotD, x_vAnd, x_vOr, x_vNot, x_dIf, x_dNeg, x_dIsN, x_dNotN, x_dNo, x_dR1, x_dR2, x_dLR, x_dIsi, x_sSkip, x_sBreak, x_sCont, x_sSeq, x_sIf, x_sDrop, x_sRet, x_asg, x_sSet, x_gNm, x_gN, x_gC, x_gTp, x_sAsg, x_sPar, x_g1, x_g2, x_go1, x_callD0, x_callD1, parOf, putV, lstOf, setL, frOf, Sl.view, add_int, sub_int, int_int, ixl, ixt, len_lst, len_tup, lt_int, gt_int, le_int, ge_int, eq_int, ne_int, at0, at1, at2, at3, notNo, isNone, tupOf, h2, all_map (fun s => decide (r ∈ s)) S, com]

theorem find_at {p : Int → Bool} {xs pre post : List Int} {a : Int} (e : xs = pre ++ a :: post) (h : ∀ r ∈ pre, p r = false) (ha : p a = true) : xs.find? p = some a := by
  rw [e, List.find?_append]
  have : pre.find? p = none := List.find?_eq_none.mpr fun x hx => by rw [h x hx]; decide
  rw [this, List.find?_cons_of_pos ha]
  rfl
theorem find_no {p : Int → Bool} {xs : List Int} (h : ∀ r ∈ xs, p r = false) : xs.find? p = none := List.find?_eq_none.mpr fun x hx => by rw [h x hx]; decide
def apart (S : List (List Int)) : List (Int × Int) := prs S.length fun i j => !meet S i j
theorem apart_map (S : List (List Int)) : (apart S).map prV = (rangeI 0 S.length).flatMap fun i => (((rangeI (i + 1) S.length).filter fun j => !meet S i j).map fun j => (i, j)).map prV := by
  unfold apart prs
  rw [List.map_flatMap]
def AnsOk (e : FnE) : Prop := e.np = 2 ∧ ∀ (m : Int) (doors : List (Int × Int)) (S : List (List Int)), 0 ≤ m → m ≤ 24 → S.length ≤ 100 → (∀ s ∈ S, s.length ≤ 1000) →
  (∀ r0, (rangeI 0 m).find? (com S) = some r0 → e.sem [.fz (landV m doors), .fz (strV S)] = .ok (.fz (.tup [strS, .int r0]), .no)) ∧
  ((rangeI 0 m).find? (com S) = none → ∀ i j tl, apart S = (i, j) :: tl → e.sem [.fz (landV m doors), .fz (strV S)] = .ok (.fz (.tup [apS, .int i, .int j]), .no))
theorem land0 (m : Int) (doors : List (Int × Int)) : ixV (landV m doors) (.int 0) = some (.int m) := by
  show L2.atI _ _ = _
  rw [at0]
theorem land1 (m : Int) (doors : List (Int × Int)) : ixV (landV m doors) (.int 1) = some (.tup (doors.map prV)) := by
  show L2.atI _ _ = _
  rw [at1]
theorem gather_end (X : DO) (e : FnE) (np : e.np = 1) (l v : Val) (n : Int) (P ys : List Val) (y2 y3 : Val) (s2 : Sl) (hs : e.sem [.fz v] = .ok (.fz (.tup [.int n, .tup P]), .no)) (hl : lenV v = some (.int n))
    (h3 : X [.fz l, .fz v, s2, .fz (.tup P), .fz (.int n), .no, .no, .no] = .ok (.own (.tup [y2, y3] :: ys), [.fz l, .fz v, s2, .fz (.tup P), .fz (.int n), .no, .no, .no])) :
    (sSeq (sSet 3 (dOV (d2 ixV (dHV (dVO (callD0 e (aCons (dVar 1) aNil)))) (dHV (dC (.int 1))))))
  (sSeq (sSet 4 (dOV (dN (g1 lenV) (aCons (dVar 1) aNil))))
  (sRet (dOV (d2 addV (dHV (dTup (aCons (dHV (dC (.str "apart"))) aNil))) (dHV (d2 ixV (dHV (dVO X)) (dHV (dC (.int 0)))))))))) [.fz l, .fz v, s2, .no, .no, .no, .no, .no] = .rt (.fz (.tup [apS, y2, y3])) [.fz l, .fz v, s2, .fz (.tup P), .fz (.int n), .no, .no, .no] := by
  have h1 : (1:Nat) ≤ sizeLine := ok_size (by decide)
  have h2 : addV (.tup [apS]) (.tup [y2, y3]) = some (.tup [apS, y2, y3]) := by
    show (if ([apS] : List Val).length + ([y2, y3] : List Val).length ≤ sizeLine then some (Val.tup ([apS] ++ [y2, y3])) else none) = _
    rw [if_pos (show ([apS] : List Val).length + ([y2, y3] : List Val).length ≤ sizeLine from ok_size (by simp))]
    rfl
  have h4 : Val.str "apart" = apS := rfl
  simp [fo_ok, th_nx, th_rt, th_bk, th_ct, op_s, ob_ok, oo_s, de_v, de_s, ds_n, ds_c, ts_n, ts_c, tv_v, tv_s, fl_rt, fl_nx, x_dHV, x_dVar, x_dC, x_dVH, x_dIt, x_dRg, x_tYesD, x_dU, x_sPut, x_d2, x_aNil, x_aCons, x_dN, x_pNone, x_pSome, x_dSl, x_dTup, x_dOV, x_dVO, x_dLst, x_tOf, x_tBl, x_dChain, x_tAndD, x_tOrD, x_tNotD, x_vAnd, x_vOr, x_vNot, x_dIf, x_dNeg, x_dIsN, x_dNotN, x_dNo, x_dR1, x_dR2, x_dLR, x_dIsi, x_sSkip, x_sBreak, x_sCont, x_sSeq, x_sIf, x_sDrop, x_sRet, x_asg, x_sSet, x_gNm, x_gN, x_gC, x_gTp, x_sAsg, x_sPar, x_g1, x_g2, x_go1, x_callD0, x_callD1, parOf, putV, lstOf, setL, frOf, Sl.view, add_int, sub_int, int_int, ixl, ixt, len_lst, len_tup, lt_int, gt_int, le_int, ge_int, eq_int, ne_int, at0, at1, at2, at3, notNo, isNone, tupOf, np, hs, hl, h3, h1, h4, h2]
theorem gather_core (e : FnE) (he : ShownOk e) (m : Int) (doors : List (Int × Int)) (S : List (List Int)) (m0 : 0 ≤ m) (m1 : m ≤ 24) (hn : S.length ≤ 100) (hs : ∀ s ∈ S, s.length ≤ 1000) :
    (∀ r0, (rangeI 0 m).find? (com S) = some r0 → flRes 2 none (D_gather e [.fz (landV m doors), .fz (strV S), .no, .no, .no, .no, .no, .no]) = .ok (.fz (.tup [strS, .int r0]), .no)) ∧
    ((rangeI 0 m).find? (com S) = none → ∀ i j tl, apart S = (i, j) :: tl → flRes 2 none (D_gather e [.fz (landV m doors), .fz (strV S), .no, .no, .no, .no, .no, .no]) = .ok (.fz (.tup [apS, .int i, .int j]), .no)) := by
  obtain ⟨np, hx⟩ := he
  have h2s : (2:Nat) ≤ sizeLine := ok_size (by decide)
  have fr := for_eq (it := dRg (dR1 (d2 ixV (dVar 0) (dHV (dC (.int 0)))))) (g := gNm 2) (b := sIf (tOf (dHV (dN (g1 allV) (aCons (dHV (dVO (dLc (dIt (dVH (dVar 1))) (gNm 5) tYesD (d2 inV (dVar 2) (dVar 5)) [5]))) aNil)))) (sRet (dOV (dTup (aCons (dHV (dC (.str "room"))) (aCons (dVar 2) aNil))))) sSkip) (ρ := [.fz (landV m doors), .fz (strV S), .no, .no, .no, .no, .no, .no]) (ρ' := [.fz (landV m doors), .fz (strV S), .no, .no, .no, .no, .no, .no]) (rg1 (n := m) (by simp [fo_ok, th_nx, th_rt, th_bk, th_ct, op_s, ob_ok, oo_s, de_v, de_s, ds_n, ds_c, ts_n, ts_c, tv_v, tv_s, fl_rt, fl_nx, x_dHV, x_dVar, x_dC, x_dVH, x_dIt, x_dRg, x_tYesD, x_dU, x_sPut, x_d2, x_aNil, x_aCons, x_dN, x_pNone, x_pSome, x_dSl, x_dTup, x_dOV, x_dVO, x_dLst, x_tOf, x_tBl, x_dChain, x_tAndD, x_tOrD, x_tNotD, x_vAnd, x_vOr, x_vNot, x_dIf, x_dNeg, x_dIsN, x_dNotN, x_dNo, x_dR1, x_dR2, x_dLR, x_dIsi, x_sSkip, x_sBreak, x_sCont, x_sSeq, x_sIf, x_sDrop, x_sRet, x_asg, x_sSet, x_gNm, x_gN, x_gC, x_gTp, x_sAsg, x_sPar, x_g1, x_g2, x_go1, x_callD0, x_callD1, parOf, putV, lstOf, setL, frOf, Sl.view, add_int, sub_int, int_int, ixl, ixt, len_lst, len_tup, lt_int, gt_int, le_int, ge_int, eq_int, ne_int, at0, at1, at2, at3, notNo, isNone, tupOf, land0]) (by omega))
  have lp := forL_ret (g := gNm 2) (b := sIf (tOf (dHV (dN (g1 allV) (aCons (dHV (dVO (dLc (dIt (dVH (dVar 1))) (gNm 5) tYesD (d2 inV (dVar 2) (dVar 5)) [5]))) aNil)))) (sRet (dOV (dTup (aCons (dHV (dC (.str "room"))) (aCons (dVar 2) aNil))))) sSkip) Val.int (rangeI 0 m)
    (fun pre ρ => (∃ s2, ρ = [.fz (landV m doors), .fz (strV S), s2, .no, .no, .no, .no, .no]) ∧ ∀ r ∈ pre, com S r = false)
    (fun s ρ => ∃ r0, (rangeI 0 m).find? (com S) = some r0 ∧ s = .fz (.tup [strS, .int r0]) ∧ 2 ≤ ρ.length) [] (rangeI 0 m) [.fz (landV m doors), .fz (strV S), .no, .no, .no, .no, .no, .no] rfl ⟨⟨_, rfl⟩, by simp⟩ fun pre a post ρ e0 h => by
      obtain ⟨⟨s2, rfl⟩, hp⟩ := h
      refine ⟨[.fz (landV m doors), .fz (strV S), .fz (.int a), .no, .no, .no, .no, .no], by simp [gNm], ?_⟩
      have hc := com_lc S a hn [.fz (landV m doors), .fz (strV S), .fz (.int a), .no, .no, .no, .no, .no] (dVH (dVar 1)) 2 5 (by simp [fo_ok, th_nx, th_rt, th_bk, th_ct, op_s, ob_ok, oo_s, de_v, de_s, ds_n, ds_c, ts_n, ts_c, tv_v, tv_s, fl_rt, fl_nx, x_dHV, x_dVar, x_dC, x_dVH, x_dIt, x_dRg, x_tYesD, x_dU, x_sPut, x_d2, x_aNil, x_aCons, x_dN, x_pNone, x_pSome, x_dSl, x_dTup, x_dOV, x_dVO, x_dLst, x_tOf, x_tBl, x_dChain, x_tAndD, x_tOrD, x_tNotD, x_vAnd, x_vOr, x_vNot, x_dIf, x_dNeg, x_dIsN, x_dNotN, x_dNo, x_dR1, x_dR2, x_dLR, x_dIsi, x_sSkip, x_sBreak, x_sCont, x_sSeq, x_sIf, x_sDrop, x_sRet, x_asg, x_sSet, x_gNm, x_gN, x_gC, x_gTp, x_sAsg, x_sPar, x_g1, x_g2, x_go1, x_callD0, x_callD1, parOf, putV, lstOf, setL, frOf, Sl.view, add_int, sub_int, int_int, ixl, ixt, len_lst, len_tup, lt_int, gt_int, le_int, ge_int, eq_int, ne_int, at0, at1, at2, at3, notNo, isNone, tupOf]) rfl rfl (by decide)
      cases ha : com S a with
      | true =>
        refine .inr ⟨.fz (.tup [strS, .int a]), [.fz (landV m doors), .fz (strV S), .fz (.int a), .no, .no, .no, .no, .no], ?_, a, find_at e0 hp ha, rfl, by simp⟩
        rw [if_t (ρ' := [.fz (landV m doors), .fz (strV S), .fz (.int a), .no, .no, .no, .no, .no]) (by simp [x_tOf, x_dHV, hc, ob_ok, oo_s, de_v, truth, ha])]
        simp [fo_ok, th_nx, th_rt, th_bk, th_ct, op_s, ob_ok, oo_s, de_v, de_s, ds_n, ds_c, ts_n, ts_c, tv_v, tv_s, fl_rt, fl_nx, x_dHV, x_dVar, x_dC, x_dVH, x_dIt, x_dRg, x_tYesD, x_dU, x_sPut, x_d2, x_aNil, x_aCons, x_dN, x_pNone, x_pSome, x_dSl, x_dTup, x_dOV, x_dVO, x_dLst, x_tOf, x_tBl, x_dChain, x_tAndD, x_tOrD, x_tNotD, x_vAnd, x_vOr, x_vNot, x_dIf, x_dNeg, x_dIsN, x_dNotN, x_dNo, x_dR1, x_dR2, x_dLR, x_dIsi, x_sSkip, x_sBreak, x_sCont, x_sSeq, x_sIf, x_sDrop, x_sRet, x_asg, x_sSet, x_gNm, x_gN, x_gC, x_gTp, x_sAsg, x_sPar, x_g1, x_g2, x_go1, x_callD0, x_callD1, parOf, putV, lstOf, setL, frOf, Sl.view, add_int, sub_int, int_int, ixl, ixt, len_lst, len_tup, lt_int, gt_int, le_int, ge_int, eq_int, ne_int, at0, at1, at2, at3, notNo, isNone, tupOf, h2s, strS]
      | false =>
        refine .inl ⟨[.fz (landV m doors), .fz (strV S), .fz (.int a), .no, .no, .no, .no, .no], .inl ?_, ⟨_, rfl⟩, fun r hr => ?_⟩
        · rw [if_f (ρ' := [.fz (landV m doors), .fz (strV S), .fz (.int a), .no, .no, .no, .no, .no]) (by simp [x_tOf, x_dHV, hc, ob_ok, oo_s, de_v, truth, ha])]
          rfl
        · rcases List.mem_append.mp hr with h | h
          · exact hp r h
          · rw [List.mem_singleton.mp h]; exact ha
  constructor
  · intro r0 hf
    rcases lp with ⟨ρ', h1, _, h2⟩ | ⟨s, ρ', h1, r1, h2, rfl, h3⟩
    · rw [find_no h2] at hf; cases hf
    · rw [hf] at h2
      cases h2
      have h4 : D_gather e [.fz (landV m doors), .fz (strV S), .no, .no, .no, .no, .no, .no] = .rt (.fz (.tup [strS, .int r0])) ρ' := by
        unfold D_gather
        exact seq_rt (fr.trans h1)
      rw [h4, fl_rt]
      have h5 : ¬ ρ'.length < 2 := by omega
      simp [parOf, h5, notNo]
  · intro hf i j tl ha
    rcases lp with ⟨ρ', h1, ⟨s2, rfl⟩, h2⟩ | ⟨s, ρ', h1, r1, h2, rfl, h3⟩
    · have lc := lcO_map (g := gNm 6) (t := tYesD) (f := lcL2 (dRg (dR2 (d2 addV (dVar 6) (dHV (dC (.int 1)))) (dVH (dVar 4)))) (gNm 7) (tBl (d2 ninV (dHV (dTup (aCons (dVar 6) (aCons (dVar 7) aNil)))) (dVar 3))) (dTup (aCons (dVar 6) (aCons (dVar 7) aNil))) [7]) (vs := [6, 7])
        Val.int (fun i => (((rangeI (i + 1) S.length).filter fun j => !meet S i j).map fun j => (i, j)).map prV) [.fz (landV m doors), .fz (strV S), s2, .fz (.tup ((prs S.length (meet S)).map prV)), .fz (.int S.length), .no, .no, .no] (rangeI 0 S.length) fun i hi => by
          have hi := mem_rangeI.mp hi
          refine ⟨[.fz (landV m doors), .fz (strV S), s2, .fz (.tup ((prs S.length (meet S)).map prV)), .fz (.int S.length), .no, .fz (.int i), .no], [.fz (landV m doors), .fz (strV S), s2, .fz (.tup ((prs S.length (meet S)).map prV)), .fz (.int S.length), .no, .fz (.int i), .no], [.fz (landV m doors), .fz (strV S), s2, .fz (.tup ((prs S.length (meet S)).map prV)), .fz (.int S.length), .no, .fz (.int i), .no], by simp [gNm], rfl, ?_, by simp [wipeE]⟩
          rw [lcL2_eq (rg2 (m := i + 1) (n := S.length) (ρ1 := [.fz (landV m doors), .fz (strV S), s2, .fz (.tup ((prs S.length (meet S)).map prV)), .fz (.int S.length), .no, .fz (.int i), .no]) (ρ2 := [.fz (landV m doors), .fz (strV S), s2, .fz (.tup ((prs S.length (meet S)).map prV)), .fz (.int S.length), .no, .fz (.int i), .no]) (by simp [fo_ok, th_nx, th_rt, th_bk, th_ct, op_s, ob_ok, oo_s, de_v, de_s, ds_n, ds_c, ts_n, ts_c, tv_v, tv_s, fl_rt, fl_nx, x_dHV, x_dVar, x_dC, x_dVH, x_dIt, x_dRg, x_tYesD, x_dU, x_sPut, x_d2, x_aNil, x_aCons, x_dN, x_pNone, x_pSome, x_dSl, x_dTup, x_dOV, x_dVO, x_dLst, x_tOf, x_tBl, x_dChain, x_tAndD, x_tOrD, x_tNotD, x_vAnd, x_vOr, x_vNot, x_dIf, x_dNeg, x_dIsN, x_dNotN, x_dNo, x_dR1, x_dR2, x_dLR, x_dIsi, x_sSkip, x_sBreak, x_sCont, x_sSeq, x_sIf, x_sDrop, x_sRet, x_asg, x_sSet, x_gNm, x_gN, x_gC, x_gTp, x_sAsg, x_sPar, x_g1, x_g2, x_go1, x_callD0, x_callD1, parOf, putV, lstOf, setL, frOf, Sl.view, add_int, sub_int, int_int, ixl, ixt, len_lst, len_tup, lt_int, gt_int, le_int, ge_int, eq_int, ne_int, at0, at1, at2, at3, notNo, isNone, tupOf]) (by simp [fo_ok, th_nx, th_rt, th_bk, th_ct, op_s, ob_ok, oo_s, de_v, de_s, ds_n, ds_c, ts_n, ts_c, tv_v, tv_s, fl_rt, fl_nx, x_dHV, x_dVar, x_dC, x_dVH, x_dIt, x_dRg, x_tYesD, x_dU, x_sPut, x_d2, x_aNil, x_aCons, x_dN, x_pNone, x_pSome, x_dSl, x_dTup, x_dOV, x_dVO, x_dLst, x_tOf, x_tBl, x_dChain, x_tAndD, x_tOrD, x_tNotD, x_vAnd, x_vOr, x_vNot, x_dIf, x_dNeg, x_dIsN, x_dNotN, x_dNo, x_dR1, x_dR2, x_dLR, x_dIsi, x_sSkip, x_sBreak, x_sCont, x_sSeq, x_sIf, x_sDrop, x_sRet, x_asg, x_sSet, x_gNm, x_gN, x_gC, x_gTp, x_sAsg, x_sPar, x_g1, x_g2, x_go1, x_callD0, x_callD1, parOf, putV, lstOf, setL, frOf, Sl.view, add_int, sub_int, int_int, ixl, ixt, len_lst, len_tup, lt_int, gt_int, le_int, ge_int, eq_int, ne_int, at0, at1, at2, at3, notNo, isNone, tupOf]) (by omega) (by omega)) (ok_size (by rw [List.length_map, length_rangeI]; omega)) (ys := (((rangeI (i + 1) S.length).filter fun j => !meet S i j).map fun j => (i, j)).map prV) (ρ2 := [.fz (landV m doors), .fz (strV S), s2, .fz (.tup ((prs S.length (meet S)).map prV)), .fz (.int S.length), .no, .fz (.int i), .no]) ?_]
          · simp [rest, keepFz]
          · have h2 := lcL_map (g := gNm 7) (t := tBl (d2 ninV (dHV (dTup (aCons (dVar 6) (aCons (dVar 7) aNil)))) (dVar 3))) (e := dTup (aCons (dVar 6) (aCons (dVar 7) aNil))) (vs := [7]) Val.int (fun j => !meet S i j) (fun j => prV (i, j)) [.fz (landV m doors), .fz (strV S), s2, .fz (.tup ((prs S.length (meet S)).map prV)), .fz (.int S.length), .no, .fz (.int i), .no] (rangeI (i + 1) S.length) fun j hj => by
              have hj := mem_rangeI.mp hj
              have hm : decide ((i, j) ∈ prs S.length (meet S)) = meet S i j := by
                cases q : meet S i j with
                | true => exact decide_eq_true (mem_prs.mpr ⟨hi.1, by omega, hj.2, q⟩)
                | false => exact decide_eq_false fun z => by have := (mem_prs.mp z).2.2.2; rw [q] at this; cases this
              have hni : ninV (.tup [.int i, .int j]) (.tup ((prs S.length (meet S)).map prV)) = some (.bl (!meet S i j)) := by
                have := (in_prs (i, j) (prs S.length (meet S))).2.2.2
                rw [hm] at this
                exact this
              refine ⟨[.fz (landV m doors), .fz (strV S), s2, .fz (.tup ((prs S.length (meet S)).map prV)), .fz (.int S.length), .no, .fz (.int i), .fz (.int j)], [.fz (landV m doors), .fz (strV S), s2, .fz (.tup ((prs S.length (meet S)).map prV)), .fz (.int S.length), .no, .fz (.int i), .fz (.int j)], by simp [gNm], ?_, ?_⟩
              · simp [fo_ok, th_nx, th_rt, th_bk, th_ct, op_s, ob_ok, oo_s, de_v, de_s, ds_n, ds_c, ts_n, ts_c, tv_v, tv_s, fl_rt, fl_nx, x_dHV, x_dVar, x_dC, x_dVH, x_dIt, x_dRg, x_tYesD, x_dU, x_sPut, x_d2, x_aNil, x_aCons, x_dN, x_pNone, x_pSome, x_dSl, x_dTup, x_dOV, x_dVO, x_dLst, x_tOf, x_tBl, x_dChain, x_tAndD, x_tOrD, x_tNotD, x_vAnd, x_vOr, x_vNot, x_dIf, x_dNeg, x_dIsN, x_dNotN, x_dNo, x_dR1, x_dR2, x_dLR, x_dIsi, x_sSkip, x_sBreak, x_sCont, x_sSeq, x_sIf, x_sDrop, x_sRet, x_asg, x_sSet, x_gNm, x_gN, x_gC, x_gTp, x_sAsg, x_sPar, x_g1, x_g2, x_go1, x_callD0, x_callD1, parOf, putV, lstOf, setL, frOf, Sl.view, add_int, sub_int, int_int, ixl, ixt, len_lst, len_tup, lt_int, gt_int, le_int, ge_int, eq_int, ne_int, at0, at1, at2, at3, notNo, isNone, tupOf, h2s, hni]
              · cases meet S i j <;> simp [fo_ok, th_nx, th_rt, th_bk, th_ct, op_s, ob_ok, oo_s, de_v, de_s, ds_n, ds_c, ts_n, ts_c, tv_v, tv_s, fl_rt, fl_nx, x_dHV, x_dVar, x_dC, x_dVH, x_dIt, x_dRg, x_tYesD, x_dU, x_sPut, x_d2, x_aNil, x_aCons, x_dN, x_pNone, x_pSome, x_dSl, x_dTup, x_dOV, x_dVO, x_dLst, x_tOf, x_tBl, x_dChain, x_tAndD, x_tOrD, x_tNotD, x_vAnd, x_vOr, x_vNot, x_dIf, x_dNeg, x_dIsN, x_dNotN, x_dNo, x_dR1, x_dR2, x_dLR, x_dIsi, x_sSkip, x_sBreak, x_sCont, x_sSeq, x_sIf, x_sDrop, x_sRet, x_asg, x_sSet, x_gNm, x_gN, x_gC, x_gTp, x_sAsg, x_sPar, x_g1, x_g2, x_go1, x_callD0, x_callD1, parOf, putV, lstOf, setL, frOf, Sl.view, add_int, sub_int, int_int, ixl, ixt, len_lst, len_tup, lt_int, gt_int, le_int, ge_int, eq_int, ne_int, at0, at1, at2, at3, notNo, isNone, tupOf, wipeE, h2s, prV]
            rw [show wipeE [Sl.fz (landV m doors), .fz (strV S), s2, .fz (.tup ((prs S.length (meet S)).map prV)), .fz (.int S.length), .no, .fz (.int i), .no] [7] = [.fz (landV m doors), .fz (strV S), s2, .fz (.tup ((prs S.length (meet S)).map prV)), .fz (.int S.length), .no, .fz (.int i), .no] from rfl, h2, List.map_map]
            rfl
      have e1 : lcO (gNm 6) tYesD (lcL2 (dRg (dR2 (d2 addV (dVar 6) (dHV (dC (.int 1)))) (dVH (dVar 4)))) (gNm 7) (tBl (d2 ninV (dHV (dTup (aCons (dVar 6) (aCons (dVar 7) aNil)))) (dVar 3))) (dTup (aCons (dVar 6) (aCons (dVar 7) aNil))) [7]) [6, 7] ((rangeI 0 S.length).map .int) (wipeE [.fz (landV m doors), .fz (strV S), s2, .fz (.tup ((prs S.length (meet S)).map prV)), .fz (.int S.length), .no, .no, .no] [6, 7]) = some ((apart S).map prV, [.fz (landV m doors), .fz (strV S), s2, .fz (.tup ((prs S.length (meet S)).map prV)), .fz (.int S.length), .no, .no, .no]) := by
        rw [show wipeE [Sl.fz (landV m doors), .fz (strV S), s2, .fz (.tup ((prs S.length (meet S)).map prV)), .fz (.int S.length), .no, .no, .no] [6, 7] = [.fz (landV m doors), .fz (strV S), s2, .fz (.tup ((prs S.length (meet S)).map prV)), .fz (.int S.length), .no, .no, .no] from rfl, lc, apart_map]
      have e2 := lc2_eq (rg1 (d := dVH (dVar 4)) (ρ := [.fz (landV m doors), .fz (strV S), s2, .fz (.tup ((prs S.length (meet S)).map prV)), .fz (.int S.length), .no, .no, .no]) (ρ' := [.fz (landV m doors), .fz (strV S), s2, .fz (.tup ((prs S.length (meet S)).map prV)), .fz (.int S.length), .no, .no, .no]) (n := S.length) (by simp [fo_ok, th_nx, th_rt, th_bk, th_ct, op_s, ob_ok, oo_s, de_v, de_s, ds_n, ds_c, ts_n, ts_c, tv_v, tv_s, fl_rt, fl_nx, x_dHV, x_dVar, x_dC, x_dVH, x_dIt, x_dRg, x_tYesD, x_dU, x_sPut, x_d2, x_aNil, x_aCons, x_dN, x_pNone, x_pSome, x_dSl, x_dTup, x_dOV, x_dVO, x_dLst, x_tOf, x_tBl, x_dChain, x_tAndD, x_tOrD, x_tNotD, x_vAnd, x_vOr, x_vNot, x_dIf, x_dNeg, x_dIsN, x_dNotN, x_dNo, x_dR1, x_dR2, x_dLR, x_dIsi, x_sSkip, x_sBreak, x_sCont, x_sSeq, x_sIf, x_sDrop, x_sRet, x_asg, x_sSet, x_gNm, x_gN, x_gC, x_gTp, x_sAsg, x_sPar, x_g1, x_g2, x_go1, x_callD0, x_callD1, parOf, putV, lstOf, setL, frOf, Sl.view, add_int, sub_int, int_int, ixl, ixt, len_lst, len_tup, lt_int, gt_int, le_int, ge_int, eq_int, ne_int, at0, at1, at2, at3, notNo, isNone, tupOf]) (by omega)) e1 (ok_size (by rw [List.length_map]; exact Nat.le_trans (prs_len (by omega)) (by decide)))
      rw [ha, List.map_cons] at e2
      have h4 := gather_end _ e np (landV m doors) (strV S) S.length _ (tl.map prV) (.int i) (.int j) s2 (hx S hn hs) (len_str S) e2
      have h5 : D_gather e [.fz (landV m doors), .fz (strV S), .no, .no, .no, .no, .no, .no] = .rt (.fz (.tup [apS, .int i, .int j])) [.fz (landV m doors), .fz (strV S), s2, .fz (.tup ((prs S.length (meet S)).map prV)), .fz (.int S.length), .no, .no, .no] := by
        unfold D_gather
        exact (seq_nx (fr.trans h1)).trans h4
      rw [h5, fl_rt]
      simp [parOf, notNo]
    · rw [hf] at h2; cases h2
theorem gather_ok : AnsOk E_gather := ⟨rfl, fun m doors S m0 m1 hn hs => by
  rw [s_gather]
  exact gather_core E_shown_by_strolls shown_ok m doors S m0 m1 hn hs⟩

/-! ### what is due -/
theorem any_lc (S : List (List Int)) (i j : Int) (h0 : 0 ≤ i) (h1 : i < S.length) (h2 : 0 ≤ j) (h3 : j < S.length) (hs : ∀ s ∈ S, s.length ≤ 1000) (l : Val) (s2 : Sl) :
    dN (g1 anyV) (aCons (dHV (dVO (dLc (dIt (d2 ixV (dVar 1) (dVar 3))) (gNm 5) tYesD (d2 inV (dVar 5) (dHV (d2 ixV (dVar 1) (dVar 4)))) [5]))) aNil) [.fz l, .fz (strV S), s2, .fz (.int i), .fz (.int j), .no, .no] = .ok (.bl (meet S i j), [.fz l, .fz (strV S), s2, .fz (.int i), .fz (.int j), .no, .no]) := by
  have e1 : ixV (strV S) (.int i) = some (rowV ((S[i.toNat]?).getD [])) := atI_row S h0 h1
  have e2 : ixV (strV S) (.int j) = some (rowV ((S[j.toNat]?).getD [])) := atI_row S h2 h3
  have hg := row_le hs i
  have hmeet : meet S i j = ((S[i.toNat]?).getD []).any fun r => decide (r ∈ (S[j.toNat]?).getD []) := rfl
  rw [hmeet]
  generalize (S[i.toNat]?).getD [] = a at *
  generalize (S[j.toNat]?).getD [] = b at *
  have k1 := lcL_map1 (g := gNm 5) (t := tYesD) (e := d2 inV (dVar 5) (dHV (d2 ixV (dVar 1) (dVar 4)))) (vs := [5]) Val.int (fun r => .bl (decide (r ∈ b))) [.fz l, .fz (strV S), s2, .fz (.int i), .fz (.int j), .no, .no] a fun r hr => by
    refine ⟨[.fz l, .fz (strV S), s2, .fz (.int i), .fz (.int j), .fz (.int r), .no], [.fz l, .fz (strV S), s2, .fz (.int i), .fz (.int j), .fz (.int r), .no], [.fz l, .fz (strV S), s2, .fz (.int i), .fz (.int j), .fz (.int r), .no], by simp [gNm], rfl, ?_, by simp [wipeE]⟩
    simp [fo_ok, th_nx, th_rt, th_bk, th_ct, op_s, ob_ok, oo_s, de_v, de_s, ds_n, ds_c, ts_n, ts_c, tv_v, tv_s, fl_rt, fl_nx, x_dHV, x_dVar, x_dC, x_dVH, x_dIt, x_dRg, x_tYesD, x_dU, x_sPut, x_d2, x_aNil, x_aCons, x_dN, x_pNone, x_pSome, x_dSl, x_dTup, x_dOV, x_dVO, x_dLst, x_tOf, x_tBl, x_dChain, x_tAndD, x_tOrD, x_tNotD, x_vAnd, x_vOr, x_vNot, x_dIf, x_dNeg, x_dIsN, x_dNotN, x_dNo, x_dR1, x_dR2, x_dLR, x_dIsi, x_sSkip, x_sBreak, x_sCont, x_sSeq, x_sIf, x_sDrop, x_sRet, x_asg, x_sSet, x_gNm, x_gN, x_gC, x_gTp, x_sAsg, x_sPar, x_g1, x_g2, x_go1, x_callD0, x_callD1, parOf, putV, lstOf, setL, frOf, Sl.view, add_int, sub_int, int_int, ixl, ixt, len_lst, len_tup, lt_int, gt_int, le_int, ge_int, eq_int, ne_int, at0, at1, at2, at3, notNo, isNone, tupOf, e2, in_row]
  have k2 := lc_eq (it := dIt (d2 ixV (dVar 1) (dVar 3))) (xs := a.map .int) (ρ := [.fz l, .fz (strV S), s2, .fz (.int i), .fz (.int j), .no, .no]) (ρ1 := [.fz l, .fz (strV S), s2, .fz (.int i), .fz (.int j), .no, .no]) (by simp [fo_ok, th_nx, th_rt, th_bk, th_ct, op_s, ob_ok, oo_s, de_v, de_s, ds_n, ds_c, ts_n, ts_c, tv_v, tv_s, fl_rt, fl_nx, x_dHV, x_dVar, x_dC, x_dVH, x_dIt, x_dRg, x_tYesD, x_dU, x_sPut, x_d2, x_aNil, x_aCons, x_dN, x_pNone, x_pSome, x_dSl, x_dTup, x_dOV, x_dVO, x_dLst, x_tOf, x_tBl, x_dChain, x_tAndD, x_tOrD, x_tNotD, x_vAnd, x_vOr, x_vNot, x_dIf, x_dNeg, x_dIsN, x_dNotN, x_dNo, x_dR1, x_dR2, x_dLR, x_dIsi, x_sSkip, x_sBreak, x_sCont, x_sSeq, x_sIf, x_sDrop, x_sRet, x_asg, x_sSet, x_gNm, x_gN, x_gC, x_gTp, x_sAsg, x_sPar, x_g1, x_g2, x_go1, x_callD0, x_callD1, parOf, putV, lstOf, setL, frOf, Sl.view, add_int, sub_int, int_int, ixl, ixt, len_lst, len_tup, lt_int, gt_int, le_int, ge_int, eq_int, ne_int, at0, at1, at2, at3, notNo, isNone, tupOf, e1, rowV, goesV]) (ok_size (by rw [List.length_map]; omega)) (by rw [show wipeE [Sl.fz l, .fz (strV S), s2, .fz (.int i), .fz (.int j), .no, .no] [5] = [.fz l, .fz (strV S), s2, .fz (.int i), .fz (.int j), .no, .no] from rfl]; exact k1)
  rw [show rest [Sl.fz l, .fz (strV S), s2, .fz (.int i), .fz (.int j), .no, .no] [5] [.fz l, .fz (strV S), s2, .fz (.int i), .fz (.int j), .no, .no] = [.fz l, .fz (strV S), s2, .fz (.int i), .fz (.int j), .no, .no] from rfl] at k2
  generalize dLc (dIt (d2 ixV (dVar 1) (dVar 3))) (gNm 5) tYesD (d2 inV (dVar 5) (dHV (d2 ixV (dVar 1) (dVar 4)))) [5] = X at *
  simp [fo_ok, th_nx, th_rt, th_bk, th_ct, op_s, ob_ok, oo_s, de_v, de_s, ds_n, ds_c, ts_n, ts_c, tv_v, tv_s, fl_rt, fl_nx, x_dHV, x_dVar, x_dC, x_dVH, x_dIt, x_dRg, x_tYesD, x_dU, x_sPut, x_d2, x_aNil, x_aCons, x_dN, x_pNone, x_pSome, x_dSl, x_dTup, x_dOV, x_dVO, x_dLst, x_tOf, x_tBl, x_dChain, x_tAndD, x_tOrD, x_tNotD, x_vAnd, x_vOr, x_vNot, x_dIf, x_dNeg, x_dIsN, x_dNotN, x_dNo, x_dR1, x_dR2, x_dLR, x_dIsi, x_sSkip, x_sBreak, x_sCont, x_sSeq, x_sIf, x_sDrop, x_sRet, x_asg, x_sSet, x_gNm, x_gN, x_gC, x_gTp, x_sAsg, x_sPar, x_g1, x_g2, x_go1, x_callD0, x_callD1, parOf, putV, lstOf, setL, frOf, Sl.view, add_int, sub_int, int_int, ixl, ixt, len_lst, len_tup, lt_int, gt_int, le_int, ge_int, eq_int, ne_int, at0, at1, at2, at3, notNo, isNone, tupOf, k2, any_map (fun r => decide (r ∈ b)) a]
theorem ne_nil (xs : List Int) : neV (.lst (xs.map .int)) (.lst []) = some (.bl (!decide (xs = []))) := by
  have h1 : dp (.lst []) ≤ 64 := by simp [dp, Val.py, pys, PyData.depth, PyData.depthAll]
  have h := eqB_b (x := .lst (xs.map .int)) (y := .lst []) (b := decide (xs = [])) (by show gds _ = true; exact gds_ints xs) rfl (.inr h1) (by rw [decide_eq_true_iff]; cases xs <;> simp)
  unfold neV
  rw [h]
  rfl
theorem prs_first {n : Int} {p : Int → Int → Bool} {pre post pre2 post2 : List Int} {i j : Int} (e1 : rangeI 0 n = pre ++ i :: post) (h1 : ∀ a ∈ pre, ∀ b, a < b → b < n → p a b = false) (e2 : rangeI (i + 1) n = pre2 ++ j :: post2) (h2 : ∀ b ∈ pre2, p i b = false) (hp : p i j = true) : ∃ tl, prs n p = (i, j) :: tl := by
  unfold prs
  rw [e1, List.flatMap_append, List.flatMap_cons]
  have k1 : (pre.flatMap fun i => ((rangeI (i + 1) n).filter fun j => p i j).map fun j => (i, j)) = [] := by
    refine List.flatMap_eq_nil_iff.mpr fun a ha => ?_
    rw [List.map_eq_nil_iff, List.filter_eq_nil_iff]
    intro b hb
    have hb := mem_rangeI.mp hb
    rw [h1 a ha b (by omega) hb.2]
    decide
  rw [k1, List.nil_append, e2, List.filter_append]
  have k2 : (pre2.filter fun j => p i j) = [] := by
    rw [List.filter_eq_nil_iff]
    intro b hb
    rw [h2 b hb]
    decide
  rw [k2, List.nil_append, List.filter_cons_of_pos hp]
  exact ⟨_, rfl⟩
theorem due_core (m : Int) (doors : List (Int × Int)) (S : List (List Int)) (m0 : 0 ≤ m) (m1 : m ≤ 24) (hn : S.length ≤ 100) (hs : ∀ s ∈ S, s.length ≤ 1000) :
    (∀ r0, (rangeI 0 m).find? (com S) = some r0 → flRes 2 none (D__law_due [.fz (landV m doors), .fz (strV S), .no, .no, .no, .no, .no]) = .ok (.fz (.tup [strS, .int r0]), .no)) ∧
    ((rangeI 0 m).find? (com S) = none → ∀ i j tl, apart S = (i, j) :: tl → flRes 2 none (D__law_due [.fz (landV m doors), .fz (strV S), .no, .no, .no, .no, .no]) = .ok (.fz (.tup [apS, .int i, .int j]), .no)) := by
  have h2s : (2:Nat) ≤ sizeLine := ok_size (by decide)
  have h3s : (3:Nat) ≤ sizeLine := ok_size (by decide)
  have l1 := lcL_map (g := gNm 5) (t := tOf (dHV (dN (g1 allV) (aCons (dHV (dVO (dLc (dIt (dVH (dVar 1))) (gNm 6) tYesD (d2 inV (dVar 5) (dVar 6)) [6]))) aNil)))) (e := dVH (dVar 5)) (vs := [5]) Val.int (com S) Val.int [.fz (landV m doors), .fz (strV S), .no, .no, .no, .no, .no] (rangeI 0 m) fun a ha => by
    have hc := com_lc S a hn [.fz (landV m doors), .fz (strV S), .no, .no, .no, .fz (.int a), .no] (dVH (dVar 1)) 5 6 (by simp [fo_ok, th_nx, th_rt, th_bk, th_ct, op_s, ob_ok, oo_s, de_v, de_s, ds_n, ds_c, ts_n, ts_c, tv_v, tv_s, fl_rt, fl_nx, x_dHV, x_dVar, x_dC, x_dVH, x_dIt, x_dRg, x_tYesD, x_dU, x_sPut, x_d2, x_aNil, x_aCons, x_dN, x_pNone, x_pSome, x_dSl, x_dTup, x_dOV, x_dVO, x_dLst, x_tOf, x_tBl, x_dChain, x_tAndD, x_tOrD, x_tNotD, x_vAnd, x_vOr, x_vNot, x_dIf, x_dNeg, x_dIsN, x_dNotN, x_dNo, x_dR1, x_dR2, x_dLR, x_dIsi, x_sSkip, x_sBreak, x_sCont, x_sSeq, x_sIf, x_sDrop, x_sRet, x_asg, x_sSet, x_gNm, x_gN, x_gC, x_gTp, x_sAsg, x_sPar, x_g1, x_g2, x_go1, x_callD0, x_callD1, parOf, putV, lstOf, setL, frOf, Sl.view, add_int, sub_int, int_int, ixl, ixt, len_lst, len_tup, lt_int, gt_int, le_int, ge_int, eq_int, ne_int, at0, at1, at2, at3, notNo, isNone, tupOf]) rfl rfl (by decide)
    refine ⟨[.fz (landV m doors), .fz (strV S), .no, .no, .no, .fz (.int a), .no], [.fz (landV m doors), .fz (strV S), .no, .no, .no, .fz (.int a), .no], by simp [gNm], by simp [x_tOf, x_dHV, hc, ob_ok, oo_s, de_v, truth], ?_⟩
    cases com S a <;> simp [fo_ok, th_nx, th_rt, th_bk, th_ct, op_s, ob_ok, oo_s, de_v, de_s, ds_n, ds_c, ts_n, ts_c, tv_v, tv_s, fl_rt, fl_nx, x_dHV, x_dVar, x_dC, x_dVH, x_dIt, x_dRg, x_tYesD, x_dU, x_sPut, x_d2, x_aNil, x_aCons, x_dN, x_pNone, x_pSome, x_dSl, x_dTup, x_dOV, x_dVO, x_dLst, x_tOf, x_tBl, x_dChain, x_tAndD, x_tOrD, x_tNotD, x_vAnd, x_vOr, x_vNot, x_dIf, x_dNeg, x_dIsN, x_dNotN, x_dNo, x_dR1, x_dR2, x_dLR, x_dIsi, x_sSkip, x_sBreak, x_sCont, x_sSeq, x_sIf, x_sDrop, x_sRet, x_asg, x_sSet, x_gNm, x_gN, x_gC, x_gTp, x_sAsg, x_sPar, x_g1, x_g2, x_go1, x_callD0, x_callD1, parOf, putV, lstOf, setL, frOf, Sl.view, add_int, sub_int, int_int, ixl, ixt, len_lst, len_tup, lt_int, gt_int, le_int, ge_int, eq_int, ne_int, at0, at1, at2, at3, notNo, isNone, tupOf, wipeE]
  have l2 := lc_eq (it := dRg (dR1 (d2 ixV (dVar 0) (dHV (dC (.int 0)))))) (xs := (rangeI 0 m).map .int) (ρ := [.fz (landV m doors), .fz (strV S), .no, .no, .no, .no, .no]) (ρ1 := [.fz (landV m doors), .fz (strV S), .no, .no, .no, .no, .no]) (rg1 (by simp [fo_ok, th_nx, th_rt, th_bk, th_ct, op_s, ob_ok, oo_s, de_v, de_s, ds_n, ds_c, ts_n, ts_c, tv_v, tv_s, fl_rt, fl_nx, x_dHV, x_dVar, x_dC, x_dVH, x_dIt, x_dRg, x_tYesD, x_dU, x_sPut, x_d2, x_aNil, x_aCons, x_dN, x_pNone, x_pSome, x_dSl, x_dTup, x_dOV, x_dVO, x_dLst, x_tOf, x_tBl, x_dChain, x_tAndD, x_tOrD, x_tNotD, x_vAnd, x_vOr, x_vNot, x_dIf, x_dNeg, x_dIsN, x_dNotN, x_dNo, x_dR1, x_dR2, x_dLR, x_dIsi, x_sSkip, x_sBreak, x_sCont, x_sSeq, x_sIf, x_sDrop, x_sRet, x_asg, x_sSet, x_gNm, x_gN, x_gC, x_gTp, x_sAsg, x_sPar, x_g1, x_g2, x_go1, x_callD0, x_callD1, parOf, putV, lstOf, setL, frOf, Sl.view, add_int, sub_int, int_int, ixl, ixt, len_lst, len_tup, lt_int, gt_int, le_int, ge_int, eq_int, ne_int, at0, at1, at2, at3, notNo, isNone, tupOf, land0]) (by omega)) (ok_size (by rw [List.length_map, length_rangeI]; omega)) (by rw [show wipeE [Sl.fz (landV m doors), .fz (strV S), .no, .no, .no, .no, .no] [5] = [.fz (landV m doors), .fz (strV S), .no, .no, .no, .no, .no] from rfl]; exact l1)
  rw [show rest [Sl.fz (landV m doors), .fz (strV S), .no, .no, .no, .no, .no] [5] [.fz (landV m doors), .fz (strV S), .no, .no, .no, .no, .no] = [.fz (landV m doors), .fz (strV S), .no, .no, .no, .no, .no] from rfl] at l2
  have s1 : (sSet 2 (dLc (dRg (dR1 (d2 ixV (dVar 0) (dHV (dC (.int 0)))))) (gNm 5) (tOf (dHV (dN (g1 allV) (aCons (dHV (dVO (dLc (dIt (dVH (dVar 1))) (gNm 6) tYesD (d2 inV (dVar 5) (dVar 6)) [6]))) aNil)))) (dVH (dVar 5)) [5])) [.fz (landV m doors), .fz (strV S), .no, .no, .no, .no, .no] = .nx [.fz (landV m doors), .fz (strV S), .own (((rangeI 0 m).filter (com S)).map .int), .no, .no, .no, .no] := by
    rw [x_sSet, l2]
    simp [fo_ok, x_asg]
  have hh : ((rangeI 0 m).filter (com S)).head? = (rangeI 0 m).find? (com S) := List.head?_filter
  generalize hsp : (rangeI 0 m).filter (com S) = sp at *
  constructor
  · intro r0 hf
    rw [hf] at hh
    obtain ⟨r, sp', rfl⟩ : ∃ r sp', sp = r :: sp' := by cases sp with
      | nil => cases hh
      | cons r t => exact ⟨_, _, rfl⟩
    cases hh
    have s2 : D__law_due [.fz (landV m doors), .fz (strV S), .no, .no, .no, .no, .no] = .rt (.fz (.tup [strS, .int r0])) [.fz (landV m doors), .fz (strV S), .own ((r0 :: sp').map .int), .no, .no, .no, .no] := by
      unfold D__law_due
      rw [seq_nx s1]
      refine seq_rt ?_
      have := ne_nil (r0 :: sp')
      rw [if_t (ρ' := [.fz (landV m doors), .fz (strV S), .own ((r0 :: sp').map .int), .no, .no, .no, .no])]
      · simp [fo_ok, th_nx, th_rt, th_bk, th_ct, op_s, ob_ok, oo_s, de_v, de_s, ds_n, ds_c, ts_n, ts_c, tv_v, tv_s, fl_rt, fl_nx, x_dHV, x_dVar, x_dC, x_dVH, x_dIt, x_dRg, x_tYesD, x_dU, x_sPut, x_d2, x_aNil, x_aCons, x_dN, x_pNone, x_pSome, x_dSl, x_dTup, x_dOV, x_dVO, x_dLst, x_tOf, x_tBl, x_dChain, x_tAndD, x_tOrD, x_tNotD, x_vAnd, x_vOr, x_vNot, x_dIf, x_dNeg, x_dIsN, x_dNotN, x_dNo, x_dR1, x_dR2, x_dLR, x_dIsi, x_sSkip, x_sBreak, x_sCont, x_sSeq, x_sIf, x_sDrop, x_sRet, x_asg, x_sSet, x_gNm, x_gN, x_gC, x_gTp, x_sAsg, x_sPar, x_g1, x_g2, x_go1, x_callD0, x_callD1, parOf, putV, lstOf, setL, frOf, Sl.view, add_int, sub_int, int_int, ixl, ixt, len_lst, len_tup, lt_int, gt_int, le_int, ge_int, eq_int, ne_int, at0, at1, at2, at3, notNo, isNone, tupOf, h2s, strS]
      · simp only [List.map_cons] at this
        simp [fo_ok, th_nx, th_rt, th_bk, th_ct, op_s, ob_ok, oo_s, de_v, de_s, ds_n, ds_c, ts_n, ts_c, tv_v, tv_s, fl_rt, fl_nx, x_dHV, x_dVar, x_dC, x_dVH, x_dIt, x_dRg, x_tYesD, x_dU, x_sPut, x_d2, x_aNil, x_aCons, x_dN, x_pNone, x_pSome, x_dSl, x_dTup, x_dOV, x_dVO, x_dLst, x_tOf, x_tBl, x_dChain, x_tAndD, x_tOrD, x_tNotD, x_vAnd, x_vOr, x_vNot, x_dIf, x_dNeg, x_dIsN, x_dNotN, x_dNo, x_dR1, x_dR2, x_dLR, x_dIsi, x_sSkip, x_sBreak, x_sCont, x_sSeq, x_sIf, x_sDrop, x_sRet, x_asg, x_sSet, x_gNm, x_gN, x_gC, x_gTp, x_sAsg, x_sPar, x_g1, x_g2, x_go1, x_callD0, x_callD1, parOf, putV, lstOf, setL, frOf, Sl.view, add_int, sub_int, int_int, ixl, ixt, len_lst, len_tup, lt_int, gt_int, le_int, ge_int, eq_int, ne_int, at0, at1, at2, at3, notNo, isNone, tupOf, this]
    rw [s2, fl_rt]
    simp [parOf, notNo]
  · intro hf i0 j0 tl ha
    rw [hf] at hh
    have hsp0 : sp = [] := by cases sp with
      | nil => rfl
      | cons r t => cases hh
    subst hsp0
    have inner : ∀ (i : Int) (s3 s4 : Sl), 0 ≤ i → i < S.length → (∃ s4', (sFor (dRg (dR2 (d2 addV (dVar 3) (dHV (dC (.int 1)))) (dN (g1 lenV) (aCons (dVar 1) aNil)))) (gNm 4) (sIf (tNotD (tOf (dHV (dN (g1 anyV) (aCons (dHV (dVO (dLc (dIt (d2 ixV (dVar 1) (dVar 3))) (gNm 5) tYesD (d2 inV (dVar 5) (dHV (d2 ixV (dVar 1) (dVar 4)))) [5]))) aNil))))) (sRet (dOV (dTup (aCons (dHV (dC (.str "apart"))) (aCons (dVar 3) (aCons (dVar 4) aNil)))))) sSkip)) [.fz (landV m doors), .fz (strV S), .own [], .fz (.int i), s4, .no, .no] = .nx [.fz (landV m doors), .fz (strV S), .own [], .fz (.int i), s4', .no, .no] ∧ ∀ j, i < j → j < S.length → meet S i j = true) ∨
        ∃ j pre2 post2 ρ', rangeI (i + 1) S.length = pre2 ++ j :: post2 ∧ (∀ b ∈ pre2, meet S i b = true) ∧ meet S i j = false ∧ (sFor (dRg (dR2 (d2 addV (dVar 3) (dHV (dC (.int 1)))) (dN (g1 lenV) (aCons (dVar 1) aNil)))) (gNm 4) (sIf (tNotD (tOf (dHV (dN (g1 anyV) (aCons (dHV (dVO (dLc (dIt (d2 ixV (dVar 1) (dVar 3))) (gNm 5) tYesD (d2 inV (dVar 5) (dHV (d2 ixV (dVar 1) (dVar 4)))) [5]))) aNil))))) (sRet (dOV (dTup (aCons (dHV (dC (.str "apart"))) (aCons (dVar 3) (aCons (dVar 4) aNil)))))) sSkip)) [.fz (landV m doors), .fz (strV S), .own [], .fz (.int i), s4, .no, .no] = .rt (.fz (.tup [apS, .int i, .int j])) ρ' ∧ 2 ≤ ρ'.length := fun i s3 s4 hi0 hi1 => by
      have fr := for_eq (it := dRg (dR2 (d2 addV (dVar 3) (dHV (dC (.int 1)))) (dN (g1 lenV) (aCons (dVar 1) aNil)))) (g := gNm 4) (b := sIf (tNotD (tOf (dHV (dN (g1 anyV) (aCons (dHV (dVO (dLc (dIt (d2 ixV (dVar 1) (dVar 3))) (gNm 5) tYesD (d2 inV (dVar 5) (dHV (d2 ixV (dVar 1) (dVar 4)))) [5]))) aNil))))) (sRet (dOV (dTup (aCons (dHV (dC (.str "apart"))) (aCons (dVar 3) (aCons (dVar 4) aNil)))))) sSkip) (ρ := [.fz (landV m doors), .fz (strV S), .own [], .fz (.int i), s4, .no, .no]) (ρ' := [.fz (landV m doors), .fz (strV S), .own [], .fz (.int i), s4, .no, .no]) (rg2 (m := i + 1) (n := S.length) (ρ1 := [.fz (landV m doors), .fz (strV S), .own [], .fz (.int i), s4, .no, .no]) (by simp [fo_ok, th_nx, th_rt, th_bk, th_ct, op_s, ob_ok, oo_s, de_v, de_s, ds_n, ds_c, ts_n, ts_c, tv_v, tv_s, fl_rt, fl_nx, x_dHV, x_dVar, x_dC, x_dVH, x_dIt, x_dRg, x_tYesD, x_dU, x_sPut, x_d2, x_aNil, x_aCons, x_dN, x_pNone, x_pSome, x_dSl, x_dTup, x_dOV, x_dVO, x_dLst, x_tOf, x_tBl, x_dChain, x_tAndD, x_tOrD, x_tNotD, x_vAnd, x_vOr, x_vNot, x_dIf, x_dNeg, x_dIsN, x_dNotN, x_dNo, x_dR1, x_dR2, x_dLR, x_dIsi, x_sSkip, x_sBreak, x_sCont, x_sSeq, x_sIf, x_sDrop, x_sRet, x_asg, x_sSet, x_gNm, x_gN, x_gC, x_gTp, x_sAsg, x_sPar, x_g1, x_g2, x_go1, x_callD0, x_callD1, parOf, putV, lstOf, setL, frOf, Sl.view, add_int, sub_int, int_int, ixl, ixt, len_lst, len_tup, lt_int, gt_int, le_int, ge_int, eq_int, ne_int, at0, at1, at2, at3, notNo, isNone, tupOf]) (by simp [fo_ok, th_nx, th_rt, th_bk, th_ct, op_s, ob_ok, oo_s, de_v, de_s, ds_n, ds_c, ts_n, ts_c, tv_v, tv_s, fl_rt, fl_nx, x_dHV, x_dVar, x_dC, x_dVH, x_dIt, x_dRg, x_tYesD, x_dU, x_sPut, x_d2, x_aNil, x_aCons, x_dN, x_pNone, x_pSome, x_dSl, x_dTup, x_dOV, x_dVO, x_dLst, x_tOf, x_tBl, x_dChain, x_tAndD, x_tOrD, x_tNotD, x_vAnd, x_vOr, x_vNot, x_dIf, x_dNeg, x_dIsN, x_dNotN, x_dNo, x_dR1, x_dR2, x_dLR, x_dIsi, x_sSkip, x_sBreak, x_sCont, x_sSeq, x_sIf, x_sDrop, x_sRet, x_asg, x_sSet, x_gNm, x_gN, x_gC, x_gTp, x_sAsg, x_sPar, x_g1, x_g2, x_go1, x_callD0, x_callD1, parOf, putV, lstOf, setL, frOf, Sl.view, add_int, sub_int, int_int, ixl, ixt, len_lst, len_tup, lt_int, gt_int, le_int, ge_int, eq_int, ne_int, at0, at1, at2, at3, notNo, isNone, tupOf, len_str]) (by omega) (by omega))
      rw [fr]
      have lp := forL_ret (g := gNm 4) (b := sIf (tNotD (tOf (dHV (dN (g1 anyV) (aCons (dHV (dVO (dLc (dIt (d2 ixV (dVar 1) (dVar 3))) (gNm 5) tYesD (d2 inV (dVar 5) (dHV (d2 ixV (dVar 1) (dVar 4)))) [5]))) aNil))))) (sRet (dOV (dTup (aCons (dHV (dC (.str "apart"))) (aCons (dVar 3) (aCons (dVar 4) aNil)))))) sSkip) Val.int (rangeI (i + 1) S.length)
        (fun pre ρ => (∃ s4, ρ = [.fz (landV m doors), .fz (strV S), .own [], .fz (.int i), s4, .no, .no]) ∧ ∀ b ∈ pre, meet S i b = true)
        (fun s ρ => ∃ j pre2 post2, rangeI (i + 1) S.length = pre2 ++ j :: post2 ∧ (∀ b ∈ pre2, meet S i b = true) ∧ meet S i j = false ∧ s = .fz (.tup [apS, .int i, .int j]) ∧ 2 ≤ ρ.length) [] (rangeI (i + 1) S.length) [.fz (landV m doors), .fz (strV S), .own [], .fz (.int i), s4, .no, .no] rfl ⟨⟨_, rfl⟩, by simp⟩ fun pre j post ρ e0 h => by
          obtain ⟨⟨s4, rfl⟩, hp⟩ := h
          have hj : i + 1 ≤ j ∧ j < S.length := mem_rangeI.mp (by rw [e0]; simp)
          refine ⟨[.fz (landV m doors), .fz (strV S), .own [], .fz (.int i), .fz (.int j), .no, .no], by simp [gNm], ?_⟩
          have hc := any_lc S i j hi0 hi1 (by omega) hj.2 hs (landV m doors) (.own [])
          cases hm : meet S i j with
          | false =>
            refine .inr ⟨.fz (.tup [apS, .int i, .int j]), [.fz (landV m doors), .fz (strV S), .own [], .fz (.int i), .fz (.int j), .no, .no], ?_, j, pre, post, e0, hp, hm, rfl, by simp⟩
            rw [if_t (ρ' := [.fz (landV m doors), .fz (strV S), .own [], .fz (.int i), .fz (.int j), .no, .no]) (by simp [x_tNotD, x_tOf, x_dHV, hc, ob_ok, oo_s, de_v, truth, hm])]
            simp [fo_ok, th_nx, th_rt, th_bk, th_ct, op_s, ob_ok, oo_s, de_v, de_s, ds_n, ds_c, ts_n, ts_c, tv_v, tv_s, fl_rt, fl_nx, x_dHV, x_dVar, x_dC, x_dVH, x_dIt, x_dRg, x_tYesD, x_dU, x_sPut, x_d2, x_aNil, x_aCons, x_dN, x_pNone, x_pSome, x_dSl, x_dTup, x_dOV, x_dVO, x_dLst, x_tOf, x_tBl, x_dChain, x_tAndD, x_tOrD, x_tNotD, x_vAnd, x_vOr, x_vNot, x_dIf, x_dNeg, x_dIsN, x_dNotN, x_dNo, x_dR1, x_dR2, x_dLR, x_dIsi, x_sSkip, x_sBreak, x_sCont, x_sSeq, x_sIf, x_sDrop, x_sRet, x_asg, x_sSet, x_gNm, x_gN, x_gC, x_gTp, x_sAsg, x_sPar, x_g1, x_g2, x_go1, x_callD0, x_callD1, parOf, putV, lstOf, setL, frOf, Sl.view, add_int, sub_int, int_int, ixl, ixt, len_lst, len_tup, lt_int, gt_int, le_int, ge_int, eq_int, ne_int, at0, at1, at2, at3, notNo, isNone, tupOf, h3s, apS]
          | true =>
            refine .inl ⟨[.fz (landV m doors), .fz (strV S), .own [], .fz (.int i), .fz (.int j), .no, .no], .inl ?_, ⟨_, rfl⟩, fun r hr => ?_⟩
            · rw [if_f (ρ' := [.fz (landV m doors), .fz (strV S), .own [], .fz (.int i), .fz (.int j), .no, .no]) (by simp [x_tNotD, x_tOf, x_dHV, hc, ob_ok, oo_s, de_v, truth, hm])]
              rfl
            · rcases List.mem_append.mp hr with h | h
              · exact hp r h
              · rw [List.mem_singleton.mp h]; exact hm
      rcases lp with ⟨ρ', h1, ⟨s4', rfl⟩, h2⟩ | ⟨s, ρ', h1, j, pre2, post2, h2, h3, h4, rfl, h5⟩
      · exact .inl ⟨s4', h1, fun j h3 h4 => h2 j (mem_rangeI.mpr ⟨by omega, h4⟩)⟩
      · exact .inr ⟨j, pre2, post2, ρ', h2, h3, h4, h1, h5⟩
    have lp := forL_ret (g := gNm 3) (b := (sFor (dRg (dR2 (d2 addV (dVar 3) (dHV (dC (.int 1)))) (dN (g1 lenV) (aCons (dVar 1) aNil)))) (gNm 4) (sIf (tNotD (tOf (dHV (dN (g1 anyV) (aCons (dHV (dVO (dLc (dIt (d2 ixV (dVar 1) (dVar 3))) (gNm 5) tYesD (d2 inV (dVar 5) (dHV (d2 ixV (dVar 1) (dVar 4)))) [5]))) aNil))))) (sRet (dOV (dTup (aCons (dHV (dC (.str "apart"))) (aCons (dVar 3) (aCons (dVar 4) aNil)))))) sSkip))) Val.int (rangeI 0 S.length)
      (fun pre ρ => (∃ s3 s4, ρ = [.fz (landV m doors), .fz (strV S), .own [], s3, s4, .no, .no]) ∧ ∀ a ∈ pre, ∀ b, a < b → b < S.length → meet S a b = true)
      (fun s ρ => ∃ i j tl, apart S = (i, j) :: tl ∧ s = .fz (.tup [apS, .int i, .int j]) ∧ 2 ≤ ρ.length) [] (rangeI 0 S.length) [.fz (landV m doors), .fz (strV S), .own [], .no, .no, .no, .no] rfl ⟨⟨_, _, rfl⟩, by simp⟩ fun pre i post ρ e0 h => by
        obtain ⟨⟨s3, s4, rfl⟩, hp⟩ := h
        have hi : 0 ≤ i ∧ i < S.length := mem_rangeI.mp (by rw [e0]; simp)
        refine ⟨[.fz (landV m doors), .fz (strV S), .own [], .fz (.int i), s4, .no, .no], by simp [gNm], ?_⟩
        rcases inner i s3 s4 hi.1 hi.2 with ⟨s4', h1, h2⟩ | ⟨j, pre2, post2, ρ', h1, h2, h3, h4, h5⟩
        · refine .inl ⟨_, .inl h1, ⟨_, _, rfl⟩, fun a ha b hab hb => ?_⟩
          rcases List.mem_append.mp ha with h | h
          · exact hp a h b hab hb
          · have h := List.mem_singleton.mp h
            subst h
            exact h2 b hab hb
        · obtain ⟨tl, htl⟩ := prs_first (p := fun i j => !meet S i j) e0 (fun a ha b h6 h7 => by show (!meet S a b) = false; rw [hp a ha b h6 h7]; rfl) h1 (fun b hb => by show (!meet S i b) = false; rw [h2 b hb]; rfl) (by show (!meet S i j) = true; rw [h3]; rfl)
          exact .inr ⟨_, ρ', h4, i, j, tl, htl, rfl, h5⟩
    have fr := for_eq (it := dRg (dR1 (dN (g1 lenV) (aCons (dVar 1) aNil)))) (g := gNm 3) (b := (sFor (dRg (dR2 (d2 addV (dVar 3) (dHV (dC (.int 1)))) (dN (g1 lenV) (aCons (dVar 1) aNil)))) (gNm 4) (sIf (tNotD (tOf (dHV (dN (g1 anyV) (aCons (dHV (dVO (dLc (dIt (d2 ixV (dVar 1) (dVar 3))) (gNm 5) tYesD (d2 inV (dVar 5) (dHV (d2 ixV (dVar 1) (dVar 4)))) [5]))) aNil))))) (sRet (dOV (dTup (aCons (dHV (dC (.str "apart"))) (aCons (dVar 3) (aCons (dVar 4) aNil)))))) sSkip))) (ρ := [.fz (landV m doors), .fz (strV S), .own [], .no, .no, .no, .no]) (ρ' := [.fz (landV m doors), .fz (strV S), .own [], .no, .no, .no, .no]) (rg1 (n := S.length) (by simp [fo_ok, th_nx, th_rt, th_bk, th_ct, op_s, ob_ok, oo_s, de_v, de_s, ds_n, ds_c, ts_n, ts_c, tv_v, tv_s, fl_rt, fl_nx, x_dHV, x_dVar, x_dC, x_dVH, x_dIt, x_dRg, x_tYesD, x_dU, x_sPut, x_d2, x_aNil, x_aCons, x_dN, x_pNone, x_pSome, x_dSl, x_dTup, x_dOV, x_dVO, x_dLst, x_tOf, x_tBl, x_dChain, x_tAndD, x_tOrD, x_tNotD, x_vAnd, x_vOr, x_vNot, x_dIf, x_dNeg, x_dIsN, x_dNotN, x_dNo, x_dR1, x_dR2, x_dLR, x_dIsi, x_sSkip, x_sBreak, x_sCont, x_sSeq, x_sIf, x_sDrop, x_sRet, x_asg, x_sSet, x_gNm, x_gN, x_gC, x_gTp, x_sAsg, x_sPar, x_g1, x_g2, x_go1, x_callD0, x_callD1, parOf, putV, lstOf, setL, frOf, Sl.view, add_int, sub_int, int_int, ixl, ixt, len_lst, len_tup, lt_int, gt_int, le_int, ge_int, eq_int, ne_int, at0, at1, at2, at3, notNo, isNone, tupOf, len_str]) (by omega))
    have s2 : (sIf (tBl (d2 neV (dVar 2) (dHV (dVO (dLst aNil))))) (sRet (dOV (dTup (aCons (dHV (dC (.str "room"))) (aCons (dHV (d2 ixV (dVar 2) (dHV (dC (.int 0))))) aNil))))) sSkip) [.fz (landV m doors), .fz (strV S), .own [], .no, .no, .no, .no] = .nx [.fz (landV m doors), .fz (strV S), .own [], .no, .no, .no, .no] := by
      have := ne_nil []
      simp only [List.map_nil] at this
      rw [if_f (ρ' := [.fz (landV m doors), .fz (strV S), .own [], .no, .no, .no, .no]) (by simp [fo_ok, th_nx, th_rt, th_bk, th_ct, op_s, ob_ok, oo_s, de_v, de_s, ds_n, ds_c, ts_n, ts_c, tv_v, tv_s, fl_rt, fl_nx, x_dHV, x_dVar, x_dC, x_dVH, x_dIt, x_dRg, x_tYesD, x_dU, x_sPut, x_d2, x_aNil, x_aCons, x_dN, x_pNone, x_pSome, x_dSl, x_dTup, x_dOV, x_dVO, x_dLst, x_tOf, x_tBl, x_dChain, x_tAndD, x_tOrD, x_tNotD, x_vAnd, x_vOr, x_vNot, x_dIf, x_dNeg, x_dIsN, x_dNotN, x_dNo, x_dR1, x_dR2, x_dLR, x_dIsi, x_sSkip, x_sBreak, x_sCont, x_sSeq, x_sIf, x_sDrop, x_sRet, x_asg, x_sSet, x_gNm, x_gN, x_gC, x_gTp, x_sAsg, x_sPar, x_g1, x_g2, x_go1, x_callD0, x_callD1, parOf, putV, lstOf, setL, frOf, Sl.view, add_int, sub_int, int_int, ixl, ixt, len_lst, len_tup, lt_int, gt_int, le_int, ge_int, eq_int, ne_int, at0, at1, at2, at3, notNo, isNone, tupOf, this])]
      rfl
    rcases lp with ⟨ρ', h1, _, h2⟩ | ⟨s, ρ', h1, i, j, tl', h2, rfl, h3⟩
    · exfalso
      have hm : (i0, j0) ∈ apart S := by rw [ha]; exact List.mem_cons_self
      obtain ⟨k1, k2, k3, k4⟩ := mem_prs.mp hm
      have := h2 i0 (mem_rangeI.mpr ⟨k1, by omega⟩) j0 k2 k3
      rw [this] at k4
      cases k4
    · rw [ha] at h2
      cases h2
      have s3 : D__law_due [.fz (landV m doors), .fz (strV S), .no, .no, .no, .no, .no] = .rt (.fz (.tup [apS, .int i0, .int j0])) ρ' := by
        unfold D__law_due
        rw [seq_nx s1]
        simp only [List.map_nil]
        rw [seq_nx s2]
        exact seq_rt (fr.trans h1)
      rw [s3, fl_rt]
      have h5 : ¬ ρ'.length < 2 := by omega
      simp [parOf, h5, notNo]
theorem due_ok : AnsOk E__law_due := ⟨rfl, fun m doors S m0 m1 hn hs => by
  rw [s__law_due]
  exact due_core m doors S m0 m1 hn hs⟩

/-! ### the land -/
structure Land (m : Int) (doors : List (Int × Int)) (rank : Int → Nat) (par : Int → Int) : Prop where
  m1 : 1 ≤ m
  m2 : m ≤ 24
  dl : doors.length ≤ 24
  dr : ∀ a b, (a, b) ∈ doors → 0 ≤ a ∧ a < m ∧ 0 ≤ b ∧ b < m ∧ ((par b = a ∧ rank a < rank b) ∨ (par a = b ∧ rank b < rank a))
def HouseOk (e : FnE) : Prop := e.np = 2 ∧ ∀ (t : Tape) (most : Int), 1 ≤ most → most ≤ 24 → ∃ (t' : Tape) (m : Int) (doors : List (Int × Int)) (rank : Int → Nat) (par : Int → Int), e.sem [.par t.v, .fz (.int most)] = .ok (.fz (landV m doors), .par t'.v) ∧ Land m doors rank par
theorem house_step (e : FnE) (np : e.np = 2) (tv t2v t3v : List Val) (w1 w2 : Val) (names doors doors2 : List Val) (k d1 d2' j a b : Int) (s6 : Sl) (h1 : e.sem [.par tv, .fz (.int k)] = .ok (.fz (.int d1), .par t2v)) (h2 : e.sem [.par t2v, .fz (.int 3)] = .ok (.fz (.int d2'), .par t3v))
    (hj : L2.atI [Val.int (k - 1), .int d1, .int 0] d2' = some (.int j)) (ek : L2.atI names k = some (.int a)) (ej : L2.atI names j = some (.int b)) (hd : doors.length < sizeLine) (hd2 : doors2 = doors ++ [.tup [.int (if b < a then b else a), .int (if a < b then b else a)]]) :
    (sSeq (sSet 6 (dOV (d2 ixV (dHV (dVO (dLst (aCons (dHV (d2 subV (dVar 5) (dHV (dC (.int 1))))) (aCons (dHV (dVO (callD1 e 0 (aCons (dVar 0) (aCons (dVar 5) aNil))))) (aCons (dHV (dC (.int 0))) aNil)))))) (dHV (dVO (callD1 e 0 (aCons (dVar 0) (aCons (dHV (dC (.int 3))) aNil))))))))
    (sDrop (dOV (dU appV 4 (aCons (dHV (dTup (aCons (dHV (dN (g2 min2V) (aCons (dHV (d2 ixV (dVar 3) (dVar 5))) (aCons (dHV (d2 ixV (dVar 3) (dVar 6))) aNil)))) (aCons (dHV (dN (g2 max2V) (aCons (dHV (d2 ixV (dVar 3) (dVar 5))) (aCons (dHV (d2 ixV (dVar 3) (dVar 6))) aNil)))) aNil)))) aNil)))))
    [.par tv, .fz w1, .fz w2, .own names, .own doors, .fz (.int k), s6] = .nx [.par t3v, .fz w1, .fz w2, .own names, .own doors2, .fz (.int k), .fz (.int j)] := by
  have h3s : (3:Nat) ≤ sizeLine := ok_size (by decide)
  have h2s : (2:Nat) ≤ sizeLine := ok_size (by decide)
  rw [seq_nx (ρ' := [.par t3v, .fz w1, .fz w2, .own names, .own doors, .fz (.int k), .fz (.int j)])]
  · simp [fo_ok, th_nx, th_rt, th_bk, th_ct, op_s, ob_ok, oo_s, de_v, de_s, ds_n, ds_c, ts_n, ts_c, tv_v, tv_s, fl_rt, fl_nx, x_dHV, x_dVar, x_dC, x_dVH, x_dIt, x_dRg, x_tYesD, x_dU, x_sPut, x_d2, x_aNil, x_aCons, x_dN, x_pNone, x_pSome, x_dSl, x_dTup, x_dOV, x_dVO, x_dLst, x_tOf, x_tBl, x_dChain, x_tAndD, x_tOrD, x_tNotD, x_vAnd, x_vOr, x_vNot, x_dIf, x_dNeg, x_dIsN, x_dNotN, x_dNo, x_dR1, x_dR2, x_dLR, x_dIsi, x_sSkip, x_sBreak, x_sCont, x_sSeq, x_sIf, x_sDrop, x_sRet, x_asg, x_sSet, x_gNm, x_gN, x_gC, x_gTp, x_sAsg, x_sPar, x_g1, x_g2, x_go1, x_callD0, x_callD1, parOf, putV, lstOf, setL, frOf, Sl.view, add_int, sub_int, int_int, ixl, ixt, len_lst, len_tup, lt_int, gt_int, le_int, ge_int, eq_int, ne_int, at0, at1, at2, at3, notNo, isNone, tupOf, ek, ej, h2s, min2V, max2V, appV, hd, hd2]
  · simp [fo_ok, th_nx, th_rt, th_bk, th_ct, op_s, ob_ok, oo_s, de_v, de_s, ds_n, ds_c, ts_n, ts_c, tv_v, tv_s, fl_rt, fl_nx, x_dHV, x_dVar, x_dC, x_dVH, x_dIt, x_dRg, x_tYesD, x_dU, x_sPut, x_d2, x_aNil, x_aCons, x_dN, x_pNone, x_pSome, x_dSl, x_dTup, x_dOV, x_dVO, x_dLst, x_tOf, x_tBl, x_dChain, x_tAndD, x_tOrD, x_tNotD, x_vAnd, x_vOr, x_vNot, x_dIf, x_dNeg, x_dIsN, x_dNotN, x_dNo, x_dR1, x_dR2, x_dLR, x_dIsi, x_sSkip, x_sBreak, x_sCont, x_sSeq, x_sIf, x_sDrop, x_sRet, x_asg, x_sSet, x_gNm, x_gN, x_gC, x_gTp, x_sAsg, x_sPar, x_g1, x_g2, x_go1, x_callD0, x_callD1, parOf, putV, lstOf, setL, frOf, Sl.view, add_int, sub_int, int_int, ixl, ixt, len_lst, len_tup, lt_int, gt_int, le_int, ge_int, eq_int, ne_int, at0, at1, at2, at3, notNo, isNone, tupOf, np, h1, h2, h3s, hj]
theorem house_core (e e2 : FnE) (he : TakeOk e) (he2 : MixedOk e2) (t : Tape) (most : Int) (h1 : 1 ≤ most) (h2 : most ≤ 24) : ∃ (t' : Tape) (m : Int) (doors : List (Int × Int)) (rank : Int → Nat) (par : Int → Int), flRes 2 (some 0) (D__law_house e e2 [.par t.v, .fz (.int most), .no, .no, .no, .no, .no]) = .ok (.fz (landV m doors), .par t'.v) ∧ Land m doors rank par := by
  obtain ⟨np, hx⟩ := he
  obtain ⟨np2, hx2⟩ := he2
  obtain ⟨d0, t1, hd0, ht1⟩ := hx t most (by omega) (by omega)
  obtain ⟨m, hm⟩ : ∃ m : Int, m = 1 + d0 := ⟨_, rfl⟩
  have hm1 : 1 ≤ m := by omega
  have hm2 : m ≤ 24 := by omega
  obtain ⟨t2, names, hs, hp⟩ := hx2 t1 (rangeI 0 m) (by rw [length_rangeI]; omega)
  have hnl : names.length = m.toNat := by rw [hp.length_eq, length_rangeI]; simp
  have hnd : names.Nodup := hp.nodup_iff.mpr (by
    unfold rangeI
    refine List.Pairwise.map _ ?_ List.nodup_range
    intro a b hab h
    exact hab (by omega))
  have hmem : ∀ x, x ∈ names ↔ 0 ≤ x ∧ x < m := fun x => by rw [hp.mem_iff, mem_rangeI]
  have hix : ∀ (i : Nat) (hi : i < names.length), names.idxOf names[i] = i := fun i hi => List.Nodup.idxOf_getElem hnd i hi
  have lp := forL_all (g := gNm 5) (b := (sSeq (sSet 6 (dOV (d2 ixV (dHV (dVO (dLst (aCons (dHV (d2 subV (dVar 5) (dHV (dC (.int 1))))) (aCons (dHV (dVO (callD1 e 0 (aCons (dVar 0) (aCons (dVar 5) aNil))))) (aCons (dHV (dC (.int 0))) aNil)))))) (dHV (dVO (callD1 e 0 (aCons (dVar 0) (aCons (dHV (dC (.int 3))) aNil))))))))
    (sDrop (dOV (dU appV 4 (aCons (dHV (dTup (aCons (dHV (dN (g2 min2V) (aCons (dHV (d2 ixV (dVar 3) (dVar 5))) (aCons (dHV (d2 ixV (dVar 3) (dVar 6))) aNil)))) (aCons (dHV (dN (g2 max2V) (aCons (dHV (d2 ixV (dVar 3) (dVar 5))) (aCons (dHV (d2 ixV (dVar 3) (dVar 6))) aNil)))) aNil)))) aNil))))))
    Val.int (rangeI 1 m) (fun pre ρ => ∃ (t : Tape) (doors : List (Int × Int)) (par : Int → Int) (s5 s6 : Sl), ρ = [.par t.v, .fz (.int most), .fz (.int m), .own (names.map .int), .own (doors.map prV), s5, s6] ∧ doors.length = pre.length ∧
      ∀ a b, (a, b) ∈ doors → a ∈ names ∧ b ∈ names ∧ ((par b = a ∧ names.idxOf a < names.idxOf b ∧ names.idxOf b ≤ pre.length) ∨ (par a = b ∧ names.idxOf b < names.idxOf a ∧ names.idxOf a ≤ pre.length)))
    (ρ := [.par t2.v, .fz (.int most), .fz (.int m), .own (names.map .int), .own [], .no, .no]) ⟨t2, [], fun x => x, .no, .no, rfl, rfl, by simp⟩ fun pre a post ρ e0 h => by
      obtain ⟨t, doors, par, s5, s6, rfl, hdl, hd⟩ := h
      have hlen : pre.length < (rangeI 1 m).length := by rw [e0]; simp
      rw [length_rangeI] at hlen
      have hk : a = 1 + (pre.length : Int) := by
        have h : (rangeI 1 m)[pre.length]? = some a := by rw [e0]; simp
        unfold rangeI at h
        rw [List.getElem?_map, List.getElem?_range hlen] at h
        exact (Option.some.inj h).symm
      obtain ⟨k, rfl⟩ : ∃ k : Nat, a = (k : Int) := ⟨1 + pre.length, by omega⟩
      have hk1 : 1 ≤ k := by omega
      have hkn : k < names.length := by omega
      obtain ⟨q1, u1, hq1, hu1⟩ := hx t k (by omega) (by omega)
      obtain ⟨q2, u2, hq2, hu2⟩ := hx u1 3 (by decide) (by decide)
      have hj : ∃ j : Nat, j < k ∧ L2.atI [Val.int ((k : Int) - 1), .int q1, .int 0] (q2 : Int) = some (.int j) := by
        have : q2 = 0 ∨ q2 = 1 ∨ q2 = 2 := by omega
        rcases this with h | h | h
        · refine ⟨k - 1, by omega, ?_⟩
          have h0 : (q2 : Int) = 0 := by omega
          have h3 : ((k - 1 : Nat) : Int) = (k : Int) - 1 := by omega
          rw [h0, at0, h3]
        · refine ⟨q1, by omega, ?_⟩
          have h0 : (q2 : Int) = 1 := by omega
          rw [h0, at1]
        · refine ⟨0, by omega, ?_⟩
          have h0 : (q2 : Int) = 2 := by omega
          rw [h0, at2]
          rfl
      obtain ⟨j, hjk, hj⟩ := hj
      have hjn : j < names.length := by omega
      have ek : L2.atI (names.map Val.int) (k : Int) = some (.int names[k]) := by rw [atI_nat (by simpa using hkn)]; simp [hkn]
      have ej : L2.atI (names.map Val.int) (j : Int) = some (.int names[j]) := by rw [atI_nat (by simpa using hjn)]; simp [hjn]
      have hap : (doors.map prV).length < sizeLine := by
        rw [List.length_map]
        exact Nat.lt_of_lt_of_le (by omega : doors.length < 1000) (ok_size (by decide))
      have st := house_step e np t.v u1.v u2.v (.int most) (.int m) (names.map .int) (doors.map prV) _ k q1 q2 j names[k] names[j] s6 hu1 hu2 hj ek ej hap rfl
      have ik := hix k hkn
      have ij := hix j hjn
      have mk : names[k] ∈ names := List.getElem_mem hkn
      have mj : names[j] ∈ names := List.getElem_mem hjn
      generalize names[k] = nk at *
      generalize names[j] = nj at *
      refine ⟨[.par t.v, .fz (.int most), .fz (.int m), .own (names.map .int), .own (doors.map prV), .fz (.int k), s6], _, by simp [gNm], .inl st, ?_⟩
      refine ⟨u2, doors ++ [(if nj < nk then nj else nk, if nk < nj then nj else nk)], fun r => if r = nk then nj else par r, .fz (.int k), .fz (.int j), by rw [List.map_append]; rfl, by simp [hdl], fun a b hab => ?_⟩
      rw [List.length_append, List.length_singleton]
      rcases List.mem_append.mp hab with h | h
      · obtain ⟨g1, g2, g3⟩ := hd a b h
        refine ⟨g1, g2, ?_⟩
        rcases g3 with ⟨g3, g4, g5⟩ | ⟨g3, g4, g5⟩
        · left
          have : b ≠ nk := fun z => by rw [z, ik] at g5; omega
          exact ⟨by simp [this, g3], g4, by omega⟩
        · right
          have : a ≠ nk := fun z => by rw [z, ik] at g5; omega
          exact ⟨by simp [this, g3], g4, by omega⟩
      · have h := List.mem_singleton.mp h
        have h1 : a = if nj < nk then nj else nk := congrArg Prod.fst h
        have h2 : b = if nk < nj then nj else nk := congrArg Prod.snd h
        have hne : nk ≠ nj := fun z => by rw [z, ij] at ik; omega
        by_cases hle : nk < nj
        · have e1 : a = nk := by rw [h1, if_neg (by omega)]
          have e2 : b = nj := by rw [h2, if_pos hle]
          exact ⟨by rw [e1]; exact mk, by rw [e2]; exact mj, .inr ⟨by rw [e1, e2]; simp, by rw [e1, e2, ik, ij]; exact hjk, by rw [e1, ik]; omega⟩⟩
        · have e1 : a = nj := by rw [h1, if_pos (by omega)]
          have e2 : b = nk := by rw [h2, if_neg hle]
          exact ⟨by rw [e1]; exact mj, by rw [e2]; exact mk, .inl ⟨by rw [e1, e2]; simp, by rw [e1, e2, ik, ij]; exact hjk, by rw [e2, ik]; omega⟩⟩
  obtain ⟨ρ', lp1, t3, doors, par, s5, s6, rfl, hdl, hd⟩ := lp
  rw [length_rangeI] at hdl
  have hds : doors.length ≤ sizeLine := ok_size (by omega)
  refine ⟨t3, m, srt prV doors, fun x => names.idxOf x, par, ?_, hm1, hm2, by rw [(srt_perm prV doors).length_eq]; omega, fun a b hab => ?_⟩
  · have h6 : D__law_house e e2 [.par t.v, .fz (.int most), .no, .no, .no, .no, .no] = .rt (.fz (landV m (srt prV doors))) [.par t3.v, .fz (.int most), .fz (.int m), .own (names.map .int), .own (doors.map prV), s5, s6] := by
      unfold D__law_house
      have hrg : rgOk 0 m = true := decide_eq_true ⟨by decide, by decide, by omega, by omega, by omega⟩
      rw [seq_nx (ρ' := [.par t1.v, .fz (.int most), .fz (.int m), .no, .no, .no, .no]) (by simp [fo_ok, th_nx, th_rt, th_bk, th_ct, op_s, ob_ok, oo_s, de_v, de_s, ds_n, ds_c, ts_n, ts_c, tv_v, tv_s, fl_rt, fl_nx, x_dHV, x_dVar, x_dC, x_dVH, x_dIt, x_dRg, x_tYesD, x_dU, x_sPut, x_d2, x_aNil, x_aCons, x_dN, x_pNone, x_pSome, x_dSl, x_dTup, x_dOV, x_dVO, x_dLst, x_tOf, x_tBl, x_dChain, x_tAndD, x_tOrD, x_tNotD, x_vAnd, x_vOr, x_vNot, x_dIf, x_dNeg, x_dIsN, x_dNotN, x_dNo, x_dR1, x_dR2, x_dLR, x_dIsi, x_sSkip, x_sBreak, x_sCont, x_sSeq, x_sIf, x_sDrop, x_sRet, x_asg, x_sSet, x_gNm, x_gN, x_gC, x_gTp, x_sAsg, x_sPar, x_g1, x_g2, x_go1, x_callD0, x_callD1, parOf, putV, lstOf, setL, frOf, Sl.view, add_int, sub_int, int_int, ixl, ixt, len_lst, len_tup, lt_int, gt_int, le_int, ge_int, eq_int, ne_int, at0, at1, at2, at3, notNo, isNone, tupOf, np, ht1, hm])]
      rw [seq_nx (ρ' := [.par t2.v, .fz (.int most), .fz (.int m), .own (names.map .int), .no, .no, .no]) (by simp [fo_ok, th_nx, th_rt, th_bk, th_ct, op_s, ob_ok, oo_s, de_v, de_s, ds_n, ds_c, ts_n, ts_c, tv_v, tv_s, fl_rt, fl_nx, x_dHV, x_dVar, x_dC, x_dVH, x_dIt, x_dRg, x_tYesD, x_dU, x_sPut, x_d2, x_aNil, x_aCons, x_dN, x_pNone, x_pSome, x_dSl, x_dTup, x_dOV, x_dVO, x_dLst, x_tOf, x_tBl, x_dChain, x_tAndD, x_tOrD, x_tNotD, x_vAnd, x_vOr, x_vNot, x_dIf, x_dNeg, x_dIsN, x_dNotN, x_dNo, x_dR1, x_dR2, x_dLR, x_dIsi, x_sSkip, x_sBreak, x_sCont, x_sSeq, x_sIf, x_sDrop, x_sRet, x_asg, x_sSet, x_gNm, x_gN, x_gC, x_gTp, x_sAsg, x_sPar, x_g1, x_g2, x_go1, x_callD0, x_callD1, parOf, putV, lstOf, setL, frOf, Sl.view, add_int, sub_int, int_int, ixl, ixt, len_lst, len_tup, lt_int, gt_int, le_int, ge_int, eq_int, ne_int, at0, at1, at2, at3, notNo, isNone, tupOf, np2, hrg, hs])]
      rw [seq_nx (ρ' := [.par t2.v, .fz (.int most), .fz (.int m), .own (names.map .int), .own [], .no, .no]) (by simp [fo_ok, th_nx, th_rt, th_bk, th_ct, op_s, ob_ok, oo_s, de_v, de_s, ds_n, ds_c, ts_n, ts_c, tv_v, tv_s, fl_rt, fl_nx, x_dHV, x_dVar, x_dC, x_dVH, x_dIt, x_dRg, x_tYesD, x_dU, x_sPut, x_d2, x_aNil, x_aCons, x_dN, x_pNone, x_pSome, x_dSl, x_dTup, x_dOV, x_dVO, x_dLst, x_tOf, x_tBl, x_dChain, x_tAndD, x_tOrD, x_tNotD, x_vAnd, x_vOr, x_vNot, x_dIf, x_dNeg, x_dIsN, x_dNotN, x_dNo, x_dR1, x_dR2, x_dLR, x_dIsi, x_sSkip, x_sBreak, x_sCont, x_sSeq, x_sIf, x_sDrop, x_sRet, x_asg, x_sSet, x_gNm, x_gN, x_gC, x_gTp, x_sAsg, x_sPar, x_g1, x_g2, x_go1, x_callD0, x_callD1, parOf, putV, lstOf, setL, frOf, Sl.view, add_int, sub_int, int_int, ixl, ixt, len_lst, len_tup, lt_int, gt_int, le_int, ge_int, eq_int, ne_int, at0, at1, at2, at3, notNo, isNone, tupOf])]
      rw [seq_nx (ρ' := [.par t3.v, .fz (.int most), .fz (.int m), .own (names.map .int), .own (doors.map prV), s5, s6])]
      · have h2s : (2:Nat) ≤ sizeLine := ok_size (by decide)
        have h3 := sort_prs doors hds
        generalize doors.map prV = dv at *
        generalize hsd : (srt prV doors).map prV = sv at *
        simp [fo_ok, th_nx, th_rt, th_bk, th_ct, op_s, ob_ok, oo_s, de_v, de_s, ds_n, ds_c, ts_n, ts_c, tv_v, tv_s, fl_rt, fl_nx, x_dHV, x_dVar, x_dC, x_dVH, x_dIt, x_dRg, x_tYesD, x_dU, x_sPut, x_d2, x_aNil, x_aCons, x_dN, x_pNone, x_pSome, x_dSl, x_dTup, x_dOV, x_dVO, x_dLst, x_tOf, x_tBl, x_dChain, x_tAndD, x_tOrD, x_tNotD, x_vAnd, x_vOr, x_vNot, x_dIf, x_dNeg, x_dIsN, x_dNotN, x_dNo, x_dR1, x_dR2, x_dLR, x_dIsi, x_sSkip, x_sBreak, x_sCont, x_sSeq, x_sIf, x_sDrop, x_sRet, x_asg, x_sSet, x_gNm, x_gN, x_gC, x_gTp, x_sAsg, x_sPar, x_g1, x_g2, x_go1, x_callD0, x_callD1, parOf, putV, lstOf, setL, frOf, Sl.view, add_int, sub_int, int_int, ixl, ixt, len_lst, len_tup, lt_int, gt_int, le_int, ge_int, eq_int, ne_int, at0, at1, at2, at3, notNo, isNone, tupOf, h3, tupV, h2s, landV, hsd]
      · rw [for_eq (rg2 (m := 1) (n := m) (ρ1 := [.par t2.v, .fz (.int most), .fz (.int m), .own (names.map .int), .own [], .no, .no]) (ρ2 := [.par t2.v, .fz (.int most), .fz (.int m), .own (names.map .int), .own [], .no, .no]) (by simp [fo_ok, th_nx, th_rt, th_bk, th_ct, op_s, ob_ok, oo_s, de_v, de_s, ds_n, ds_c, ts_n, ts_c, tv_v, tv_s, fl_rt, fl_nx, x_dHV, x_dVar, x_dC, x_dVH, x_dIt, x_dRg, x_tYesD, x_dU, x_sPut, x_d2, x_aNil, x_aCons, x_dN, x_pNone, x_pSome, x_dSl, x_dTup, x_dOV, x_dVO, x_dLst, x_tOf, x_tBl, x_dChain, x_tAndD, x_tOrD, x_tNotD, x_vAnd, x_vOr, x_vNot, x_dIf, x_dNeg, x_dIsN, x_dNotN, x_dNo, x_dR1, x_dR2, x_dLR, x_dIsi, x_sSkip, x_sBreak, x_sCont, x_sSeq, x_sIf, x_sDrop, x_sRet, x_asg, x_sSet, x_gNm, x_gN, x_gC, x_gTp, x_sAsg, x_sPar, x_g1, x_g2, x_go1, x_callD0, x_callD1, parOf, putV, lstOf, setL, frOf, Sl.view, add_int, sub_int, int_int, ixl, ixt, len_lst, len_tup, lt_int, gt_int, le_int, ge_int, eq_int, ne_int, at0, at1, at2, at3, notNo, isNone, tupOf]) (by simp [fo_ok, th_nx, th_rt, th_bk, th_ct, op_s, ob_ok, oo_s, de_v, de_s, ds_n, ds_c, ts_n, ts_c, tv_v, tv_s, fl_rt, fl_nx, x_dHV, x_dVar, x_dC, x_dVH, x_dIt, x_dRg, x_tYesD, x_dU, x_sPut, x_d2, x_aNil, x_aCons, x_dN, x_pNone, x_pSome, x_dSl, x_dTup, x_dOV, x_dVO, x_dLst, x_tOf, x_tBl, x_dChain, x_tAndD, x_tOrD, x_tNotD, x_vAnd, x_vOr, x_vNot, x_dIf, x_dNeg, x_dIsN, x_dNotN, x_dNo, x_dR1, x_dR2, x_dLR, x_dIsi, x_sSkip, x_sBreak, x_sCont, x_sSeq, x_sIf, x_sDrop, x_sRet, x_asg, x_sSet, x_gNm, x_gN, x_gC, x_gTp, x_sAsg, x_sPar, x_g1, x_g2, x_go1, x_callD0, x_callD1, parOf, putV, lstOf, setL, frOf, Sl.view, add_int, sub_int, int_int, ixl, ixt, len_lst, len_tup, lt_int, gt_int, le_int, ge_int, eq_int, ne_int, at0, at1, at2, at3, notNo, isNone, tupOf]) (by omega) (by omega))]
        exact lp1
    rw [h6, fl_rt]
    simp [parOf, notNo]
  · obtain ⟨g1, g2, g3⟩ := hd a b ((srt_perm prV doors).mem_iff.mp hab)
    have a1 := (hmem a).mp g1
    have b1 := (hmem b).mp g2
    refine ⟨a1.1, a1.2, b1.1, b1.2, ?_⟩
    rcases g3 with ⟨g3, g4, _⟩ | ⟨g3, g4, _⟩
    · exact .inl ⟨g3, g4⟩
    · exact .inr ⟨g3, g4⟩
theorem house_ok : HouseOk E__law_house := ⟨rfl, fun t most h1 h2 => by
  obtain ⟨t', m, doors, rank, par, h3, h4⟩ := house_core E__law_take E__law_mixed take_ok mixed_ok t most h1 h2
  exact ⟨t', m, doors, rank, par, by rw [s__law_house]; exact h3, h4⟩⟩

/-! ### strolls -/
/-- the rooms next to r -/
def nexts (doors : List (Int × Int)) (r : Int) : List Int := (doors.filter fun d => decide (r = d.1 ∨ r = d.2)).map fun d => d.1 + d.2 - r
def BehindOk (e : FnE) : Prop := e.np = 2 ∧ ∀ (m : Int) (doors : List (Int × Int)) (r : Int), doors.length ≤ 24 → ∃ ys : List Int, e.sem [.fz (landV m doors), .fz (.int r)] = .ok (.own (ys.map .int), .no) ∧ ys.Perm (nexts doors r)
theorem in_pr (r : Int) (d : Int × Int) : inV (.int r) (prV d) = some (.bl (decide (r = d.1 ∨ r = d.2))) := by
  have h := (in_ints r [d.1, d.2]).2.1
  have e : decide (r ∈ [d.1, d.2]) = decide (r = d.1 ∨ r = d.2) := by simp
  rw [e] at h
  exact h
theorem ix_pr0 (d : Int × Int) : ixV (prV d) (.int 0) = some (.int d.1) := by show L2.atI _ _ = _; rw [at0]
theorem ix_pr1 (d : Int × Int) : ixV (prV d) (.int 1) = some (.int d.2) := by show L2.atI _ _ = _; rw [at1]
theorem behind_core (m : Int) (doors : List (Int × Int)) (r : Int) (hl : doors.length ≤ 24) : flRes 2 none (D__law_behind [.fz (landV m doors), .fz (.int r), .no, .no]) = .ok (.own ((srt Val.int (nexts doors r)).map .int), .no) := by
  have lp := forL_all (g := gNm 3) (b := (sIf (tBl (d2 inV (dVar 1) (dVar 3))) (sDrop (dOV (dU appV 2 (aCons (dHV (d2 subV (dHV (d2 addV (dHV (d2 ixV (dVar 3) (dHV (dC (.int 0))))) (dHV (d2 ixV (dVar 3) (dHV (dC (.int 1))))))) (dVar 1))) aNil)))) sSkip)) prV doors
    (fun pre ρ => ∃ s3, ρ = [.fz (landV m doors), .fz (.int r), .own ((nexts pre r).map .int), s3]) (ρ := [.fz (landV m doors), .fz (.int r), .own [], .no]) ⟨.no, rfl⟩ fun pre d post ρ e0 h => by
      obtain ⟨s3, rfl⟩ := h
      have hlen : pre.length < doors.length := by rw [e0]; simp
      have hn : (nexts pre r).length ≤ pre.length := by
        unfold nexts
        rw [List.length_map]
        exact List.length_filter_le _ _
      have hap : ((nexts pre r).map Val.int).length < sizeLine := by
        rw [List.length_map]
        exact Nat.lt_of_lt_of_le (by omega : (nexts pre r).length < 1000) (ok_size (by decide))
      have hx : nexts (pre ++ [d]) r = nexts pre r ++ (if decide (r = d.1 ∨ r = d.2) = true then [d.1 + d.2 - r] else []) := by
        unfold nexts
        rw [List.filter_append, List.map_append, List.filter_cons, List.filter_nil]
        cases h : decide (r = d.1 ∨ r = d.2) <;> rfl
      refine ⟨[.fz (landV m doors), .fz (.int r), .own ((nexts pre r).map .int), .fz (prV d)], [.fz (landV m doors), .fz (.int r), .own ((nexts (pre ++ [d]) r).map .int), .fz (prV d)], by simp [gNm], .inl ?_, ⟨_, rfl⟩⟩
      rw [hx]
      generalize (nexts pre r) = np at *
      cases hd : decide (r = d.1 ∨ r = d.2) with
      | true =>
        rw [if_t (ρ' := [.fz (landV m doors), .fz (.int r), .own (np.map .int), .fz (prV d)]) (by simp only [x_tBl, x_d2, x_dVar]; simp [fo_ok, th_nx, th_rt, th_bk, th_ct, op_s, ob_ok, oo_s, de_v, de_s, ds_n, ds_c, ts_n, ts_c, tv_v, tv_s, fl_rt, fl_nx, x_dHV, x_dVar, x_dC, x_dVH, x_dIt, x_dRg, x_tYesD, x_dU, x_sPut, x_d2, x_aNil, x_aCons, x_dN, x_pNone, x_pSome, x_dSl, x_dTup, x_dOV, x_dVO, x_dLst, x_tOf, x_tBl, x_dChain, x_tAndD, x_tOrD, x_tNotD, x_vAnd, x_vOr, x_vNot, x_dIf, x_dNeg, x_dIsN, x_dNotN, x_dNo, x_dR1, x_dR2, x_dLR, x_dIsi, x_sSkip, x_sBreak, x_sCont, x_sSeq, x_sIf, x_sDrop, x_sRet, x_asg, x_sSet, x_gNm, x_gN, x_gC, x_gTp, x_sAsg, x_sPar, x_g1, x_g2, x_go1, x_callD0, x_callD1, parOf, putV, lstOf, setL, frOf, Sl.view, add_int, sub_int, int_int, ixl, ixt, len_lst, len_tup, lt_int, gt_int, le_int, ge_int, eq_int, ne_int, at0, at1, at2, at3, notNo, isNone, tupOf, in_pr, hd])]
        rw [if_pos rfl, List.map_append]
        generalize np.map Val.int = nv at *
        simp [fo_ok, th_nx, th_rt, th_bk, th_ct, op_s, ob_ok, oo_s, de_v, de_s, ds_n, ds_c, ts_n, ts_c, tv_v, tv_s, fl_rt, fl_nx, x_dHV, x_dVar, x_dC, x_dVH, x_dIt, x_dRg, x_tYesD, x_dU, x_sPut, x_d2, x_aNil, x_aCons, x_dN, x_pNone, x_pSome, x_dSl, x_dTup, x_dOV, x_dVO, x_dLst, x_tOf, x_tBl, x_dChain, x_tAndD, x_tOrD, x_tNotD, x_vAnd, x_vOr, x_vNot, x_dIf, x_dNeg, x_dIsN, x_dNotN, x_dNo, x_dR1, x_dR2, x_dLR, x_dIsi, x_sSkip, x_sBreak, x_sCont, x_sSeq, x_sIf, x_sDrop, x_sRet, x_asg, x_sSet, x_gNm, x_gN, x_gC, x_gTp, x_sAsg, x_sPar, x_g1, x_g2, x_go1, x_callD0, x_callD1, parOf, putV, lstOf, setL, frOf, Sl.view, add_int, sub_int, int_int, ixl, ixt, len_lst, len_tup, lt_int, gt_int, le_int, ge_int, eq_int, ne_int, at0, at1, at2, at3, notNo, isNone, tupOf, ix_pr0, ix_pr1, appV, hap]
      | false =>
        rw [if_f (ρ' := [.fz (landV m doors), .fz (.int r), .own (np.map .int), .fz (prV d)]) (by simp only [x_tBl, x_d2, x_dVar]; simp [fo_ok, th_nx, th_rt, th_bk, th_ct, op_s, ob_ok, oo_s, de_v, de_s, ds_n, ds_c, ts_n, ts_c, tv_v, tv_s, fl_rt, fl_nx, x_dHV, x_dVar, x_dC, x_dVH, x_dIt, x_dRg, x_tYesD, x_dU, x_sPut, x_d2, x_aNil, x_aCons, x_dN, x_pNone, x_pSome, x_dSl, x_dTup, x_dOV, x_dVO, x_dLst, x_tOf, x_tBl, x_dChain, x_tAndD, x_tOrD, x_tNotD, x_vAnd, x_vOr, x_vNot, x_dIf, x_dNeg, x_dIsN, x_dNotN, x_dNo, x_dR1, x_dR2, x_dLR, x_dIsi, x_sSkip, x_sBreak, x_sCont, x_sSeq, x_sIf, x_sDrop, x_sRet, x_asg, x_sSet, x_gNm, x_gN, x_gC, x_gTp, x_sAsg, x_sPar, x_g1, x_g2, x_go1, x_callD0, x_callD1, parOf, putV, lstOf, setL, frOf, Sl.view, add_int, sub_int, int_int, ixl, ixt, len_lst, len_tup, lt_int, gt_int, le_int, ge_int, eq_int, ne_int, at0, at1, at2, at3, notNo, isNone, tupOf, in_pr, hd])]
        simp [fo_ok, th_nx, th_rt, th_bk, th_ct, op_s, ob_ok, oo_s, de_v, de_s, ds_n, ds_c, ts_n, ts_c, tv_v, tv_s, fl_rt, fl_nx, x_dHV, x_dVar, x_dC, x_dVH, x_dIt, x_dRg, x_tYesD, x_dU, x_sPut, x_d2, x_aNil, x_aCons, x_dN, x_pNone, x_pSome, x_dSl, x_dTup, x_dOV, x_dVO, x_dLst, x_tOf, x_tBl, x_dChain, x_tAndD, x_tOrD, x_tNotD, x_vAnd, x_vOr, x_vNot, x_dIf, x_dNeg, x_dIsN, x_dNotN, x_dNo, x_dR1, x_dR2, x_dLR, x_dIsi, x_sSkip, x_sBreak, x_sCont, x_sSeq, x_sIf, x_sDrop, x_sRet, x_asg, x_sSet, x_gNm, x_gN, x_gC, x_gTp, x_sAsg, x_sPar, x_g1, x_g2, x_go1, x_callD0, x_callD1, parOf, putV, lstOf, setL, frOf, Sl.view, add_int, sub_int, int_int, ixl, ixt, len_lst, len_tup, lt_int, gt_int, le_int, ge_int, eq_int, ne_int, at0, at1, at2, at3, notNo, isNone, tupOf]
  obtain ⟨ρ', h1, s3, rfl⟩ := lp
  have hn : (nexts doors r).length ≤ doors.length := by
    unfold nexts
    rw [List.length_map]
    exact List.length_filter_le _ _
  have h2 := sort_ints (nexts doors r) (ok_size (by omega))
  have h6 : D__law_behind [.fz (landV m doors), .fz (.int r), .no, .no] = .rt (.own ((srt Val.int (nexts doors r)).map .int)) [.fz (landV m doors), .fz (.int r), .own ((nexts doors r).map .int), s3] := by
    unfold D__law_behind
    rw [seq_nx (ρ' := [.fz (landV m doors), .fz (.int r), .own [], .no]) (by simp [fo_ok, th_nx, th_rt, th_bk, th_ct, op_s, ob_ok, oo_s, de_v, de_s, ds_n, ds_c, ts_n, ts_c, tv_v, tv_s, fl_rt, fl_nx, x_dHV, x_dVar, x_dC, x_dVH, x_dIt, x_dRg, x_tYesD, x_dU, x_sPut, x_d2, x_aNil, x_aCons, x_dN, x_pNone, x_pSome, x_dSl, x_dTup, x_dOV, x_dVO, x_dLst, x_tOf, x_tBl, x_dChain, x_tAndD, x_tOrD, x_tNotD, x_vAnd, x_vOr, x_vNot, x_dIf, x_dNeg, x_dIsN, x_dNotN, x_dNo, x_dR1, x_dR2, x_dLR, x_dIsi, x_sSkip, x_sBreak, x_sCont, x_sSeq, x_sIf, x_sDrop, x_sRet, x_asg, x_sSet, x_gNm, x_gN, x_gC, x_gTp, x_sAsg, x_sPar, x_g1, x_g2, x_go1, x_callD0, x_callD1, parOf, putV, lstOf, setL, frOf, Sl.view, add_int, sub_int, int_int, ixl, ixt, len_lst, len_tup, lt_int, gt_int, le_int, ge_int, eq_int, ne_int, at0, at1, at2, at3, notNo, isNone, tupOf])]
    rw [seq_nx (ρ' := [.fz (landV m doors), .fz (.int r), .own ((nexts doors r).map .int), s3])]
    · generalize (nexts doors r).map Val.int = nv at *
      simp [fo_ok, th_nx, th_rt, th_bk, th_ct, op_s, ob_ok, oo_s, de_v, de_s, ds_n, ds_c, ts_n, ts_c, tv_v, tv_s, fl_rt, fl_nx, x_dHV, x_dVar, x_dC, x_dVH, x_dIt, x_dRg, x_tYesD, x_dU, x_sPut, x_d2, x_aNil, x_aCons, x_dN, x_pNone, x_pSome, x_dSl, x_dTup, x_dOV, x_dVO, x_dLst, x_tOf, x_tBl, x_dChain, x_tAndD, x_tOrD, x_tNotD, x_vAnd, x_vOr, x_vNot, x_dIf, x_dNeg, x_dIsN, x_dNotN, x_dNo, x_dR1, x_dR2, x_dLR, x_dIsi, x_sSkip, x_sBreak, x_sCont, x_sSeq, x_sIf, x_sDrop, x_sRet, x_asg, x_sSet, x_gNm, x_gN, x_gC, x_gTp, x_sAsg, x_sPar, x_g1, x_g2, x_go1, x_callD0, x_callD1, parOf, putV, lstOf, setL, frOf, Sl.view, add_int, sub_int, int_int, ixl, ixt, len_lst, len_tup, lt_int, gt_int, le_int, ge_int, eq_int, ne_int, at0, at1, at2, at3, notNo, isNone, tupOf, h2]
    · rw [for_eq (xs := doors.map prV) (ρ' := [.fz (landV m doors), .fz (.int r), .own [], .no]) (by simp [fo_ok, th_nx, th_rt, th_bk, th_ct, op_s, ob_ok, oo_s, de_v, de_s, ds_n, ds_c, ts_n, ts_c, tv_v, tv_s, fl_rt, fl_nx, x_dHV, x_dVar, x_dC, x_dVH, x_dIt, x_dRg, x_tYesD, x_dU, x_sPut, x_d2, x_aNil, x_aCons, x_dN, x_pNone, x_pSome, x_dSl, x_dTup, x_dOV, x_dVO, x_dLst, x_tOf, x_tBl, x_dChain, x_tAndD, x_tOrD, x_tNotD, x_vAnd, x_vOr, x_vNot, x_dIf, x_dNeg, x_dIsN, x_dNotN, x_dNo, x_dR1, x_dR2, x_dLR, x_dIsi, x_sSkip, x_sBreak, x_sCont, x_sSeq, x_sIf, x_sDrop, x_sRet, x_asg, x_sSet, x_gNm, x_gN, x_gC, x_gTp, x_sAsg, x_sPar, x_g1, x_g2, x_go1, x_callD0, x_callD1, parOf, putV, lstOf, setL, frOf, Sl.view, add_int, sub_int, int_int, ixl, ixt, len_lst, len_tup, lt_int, gt_int, le_int, ge_int, eq_int, ne_int, at0, at1, at2, at3, notNo, isNone, tupOf, land1, goesV])]
      exact h1
  rw [h6, fl_rt]
  simp [parOf, notNo]
theorem behind_ok : BehindOk E__law_behind := ⟨rfl, fun m doors r hl => ⟨_, by rw [s__law_behind]; exact behind_core m doors r hl, srt_perm _ _⟩⟩

/-! connected -/
def Conn (rank : Int → Nat) (par : Int → Int) (S : List Int) : Prop := ∃ top ∈ S, ∀ x ∈ S, x ≠ top → par x ∈ S ∧ rank (par x) < rank x
theorem conn_one (rank : Int → Nat) (par : Int → Int) (r : Int) : Conn rank par [r] := ⟨r, by simp, fun x hx h => absurd (List.mem_singleton.mp hx) h⟩
theorem conn_more {m : Int} {doors : List (Int × Int)} {rank : Int → Nat} {par : Int → Int} (L : Land m doors rank par) {S : List Int} (h : Conn rank par S) {r y : Int} (hr : r ∈ S) (hy : y ∈ nexts doors r) (hn : y ∉ S) : Conn rank par (S ++ [y]) ∧ 0 ≤ y ∧ y < m := by
  obtain ⟨top, ht, hc⟩ := h
  unfold nexts at hy
  obtain ⟨d, hd, rfl⟩ := List.mem_map.mp hy
  obtain ⟨hd1, hd2⟩ := List.mem_filter.mp hd
  have hd2 : r = d.1 ∨ r = d.2 := of_decide_eq_true hd2
  obtain ⟨a, b⟩ := d
  obtain ⟨k1, k2, k3, k4, k5⟩ := L.dr a b hd1
  simp only at hd2 hn ⊢
  -- r and y are the two ends
  have two : (r = a ∧ a + b - r = b) ∨ (r = b ∧ a + b - r = a) := by omega
  have key : ∀ y : Int, y ∉ S → ((par y = r ∧ rank r < rank y) ∨ (par r = y ∧ rank y < rank r)) → Conn rank par (S ++ [y]) := fun y hn hy => by
    rcases hy with ⟨h1, h2⟩ | ⟨h1, h2⟩
    · refine ⟨top, List.mem_append_left _ ht, fun x hx hne => ?_⟩
      rcases List.mem_append.mp hx with hx | hx
      · obtain ⟨q1, q2⟩ := hc x hx hne
        exact ⟨List.mem_append_left _ q1, q2⟩
      · rw [List.mem_singleton.mp hx, h1]
        exact ⟨List.mem_append_left _ hr, h2⟩
    · have hrt : r = top := by
        by_cases q : r = top
        · exact q
        · have := (hc r hr q).1
          rw [h1] at this
          exact absurd this hn
      refine ⟨y, List.mem_append_right _ (by simp), fun x hx hne => ?_⟩
      rcases List.mem_append.mp hx with hx | hx
      · by_cases q : x = top
        · rw [q, ← hrt, h1]
          exact ⟨List.mem_append_right _ (by simp), h2⟩
        · obtain ⟨q1, q2⟩ := hc x hx q
          exact ⟨List.mem_append_left _ q1, q2⟩
      · exact absurd (List.mem_singleton.mp hx) hne
  rcases two with ⟨h1, h2⟩ | ⟨h1, h2⟩
  · rw [h2] at hn ⊢
    exact ⟨key b hn (by rw [h1]; exact k5), k3, k4⟩
  · rw [h2] at hn ⊢
    exact ⟨key a hn (by rw [h1]; rcases k5 with q | q; exact .inr q; exact .inl q), k1, k2⟩
theorem conn_perm {rank : Int → Nat} {par : Int → Int} {S S' : List Int} (h : Conn rank par S) (p : S'.Perm S) : Conn rank par S' := by
  obtain ⟨top, ht, hc⟩ := h
  exact ⟨top, p.mem_iff.mpr ht, fun x hx hne => let ⟨a, b⟩ := hc x (p.mem_iff.mp hx) hne; ⟨p.mem_iff.mpr a, b⟩⟩
theorem conn_ge {rank : Int → Nat} {par : Int → Int} {S : List Int} {top : Int} (hc : ∀ x ∈ S, x ≠ top → par x ∈ S ∧ rank (par x) < rank x) : ∀ (n : Nat) (x : Int), rank x ≤ n → x ∈ S → rank top ≤ rank x
  | 0, x, hn, hx => by
    by_cases q : x = top
    · rw [q]; exact Nat.le_refl _
    · have := (hc x hx q).2; omega
  | n + 1, x, hn, hx => by
    by_cases q : x = top
    · rw [q]; exact Nat.le_refl _
    · obtain ⟨h1, h2⟩ := hc x hx q
      have := conn_ge hc n (par x) (by omega) h1
      omega
/-- two that meet: the lower top lies in both -/
theorem conn_top {rank : Int → Nat} {par : Int → Int} {S T : List Int} {s t : Int} (hS : ∀ x ∈ S, x ≠ s → par x ∈ S ∧ rank (par x) < rank x) (hT : ∀ x ∈ T, x ≠ t → par x ∈ T ∧ rank (par x) < rank x) (hst : rank t ≤ rank s) :
    ∀ (n : Nat) (x : Int), rank x ≤ n → x ∈ S → x ∈ T → s ∈ T
  | n, x, hn, h1, h2 => by
    by_cases q : x = s
    · rw [← q]; exact h2
    · obtain ⟨k1, k2⟩ := hS x h1 q
      by_cases q2 : x = t
      · have := conn_ge hS n (par x) (by omega) k1
        rw [q2] at k2
        rw [q2] at this
        omega
      · obtain ⟨k3, k4⟩ := hT x h2 q2
        cases n with
        | zero => omega
        | succ n => exact conn_top hS hT hst n (par x) (by omega) k1 k3
/-- Helly's word, of trees -/
theorem helly {rank : Int → Nat} {par : Int → Int} {S : List (List Int)} (hne : S ≠ []) (hc : ∀ s ∈ S, Conn rank par s) (hm : ∀ s ∈ S, ∀ t ∈ S, ∃ x, x ∈ s ∧ x ∈ t) : ∃ r, (∃ s ∈ S, r ∈ s) ∧ ∀ s ∈ S, r ∈ s := by
  -- one whose top is the lowest
  have go : ∀ (T : List (List Int)), T ≠ [] → (∀ s ∈ T, Conn rank par s) → ∃ s ∈ T, ∃ top ∈ s, (∀ x ∈ s, x ≠ top → par x ∈ s ∧ rank (par x) < rank x) ∧ ∀ t ∈ T, ∃ tt ∈ t, (∀ x ∈ t, x ≠ tt → par x ∈ t ∧ rank (par x) < rank x) ∧ rank tt ≤ rank top := by
    intro T
    induction T with
    | nil => intro h; exact absurd rfl h
    | cons a T ih =>
      intro _ hT
      obtain ⟨ta, h1, h2⟩ := hT a List.mem_cons_self
      by_cases q : T = []
      · subst q
        exact ⟨a, List.mem_cons_self, ta, h1, h2, fun t ht => by rw [List.mem_singleton.mp ht]; exact ⟨ta, h1, h2, Nat.le_refl _⟩⟩
      · obtain ⟨s, hs, top, k1, k2, k3⟩ := ih q fun s hs => hT s (List.mem_cons_of_mem _ hs)
        by_cases hle : rank ta ≤ rank top
        · refine ⟨s, List.mem_cons_of_mem _ hs, top, k1, k2, fun t ht => ?_⟩
          rcases List.mem_cons.mp ht with e | ht
          · rw [e]; exact ⟨ta, h1, h2, hle⟩
          · exact k3 t ht
        · refine ⟨a, List.mem_cons_self, ta, h1, h2, fun t ht => ?_⟩
          rcases List.mem_cons.mp ht with e | ht
          · rw [e]; exact ⟨ta, h1, h2, Nat.le_refl _⟩
          · obtain ⟨tt, q1, q2, q3⟩ := k3 t ht
            exact ⟨tt, q1, q2, by omega⟩
  obtain ⟨s, hs, top, k1, k2, k3⟩ := go S hne hc
  refine ⟨top, ⟨s, hs, k1⟩, fun t ht => ?_⟩
  obtain ⟨tt, q1, q2, q3⟩ := k3 t ht
  obtain ⟨x, x1, x2⟩ := hm s hs t ht
  exact conn_top k2 q2 q3 (rank x) x (Nat.le_refl _) x1 x2

theorem stroll_r (eb : FnE) (hb : BehindOk eb) (m : Int) (doors : List (Int × Int)) (hl : doors.length ≤ 24) (S near : List Int) (hn : near.length ≤ 10000) (r : Int) (tv : List Val) (most : Int) (tu : Sl) :
    ∃ zs : List Int, (∀ y ∈ zs, y ∈ nexts doors r ∧ y ∉ S) ∧ zs.length ≤ 24 ∧ (sDrop (dOV (dU extV 5 (aCons (dHV (dVO (dLc (dIt (dVO (callD0 eb (aCons (dVar 1) (aCons (dVar 6) aNil))))) (gNm 7) (tBl (d2 ninV (dVar 7) (dVar 3))) (dVH (dVar 7)) [7]))) aNil)))) [.par tv, .fz (landV m doors), .fz (.int most), .lck (S.map .int), tu, .own (near.map .int), .fz (.int r), .no] = .nx [.par tv, .fz (landV m doors), .fz (.int most), .lck (S.map .int), tu, .own ((near ++ zs).map .int), .fz (.int r), .no] := by
  obtain ⟨np, hx⟩ := hb
  obtain ⟨ys, h1, hp⟩ := hx m doors r hl
  have hyl : ys.length ≤ 24 := by
    rw [hp.length_eq]
    unfold nexts
    rw [List.length_map]
    exact Nat.le_trans (List.length_filter_le _ _) hl
  have hzl : (ys.filter fun y => !decide (y ∈ S)).length ≤ 24 := Nat.le_trans (List.length_filter_le _ _) hyl
  have k1 := lcL_map (g := gNm 7) (t := tBl (d2 ninV (dVar 7) (dVar 3))) (e := dVH (dVar 7)) (vs := [7]) Val.int (fun y => !decide (y ∈ S)) Val.int [.par tv, .fz (landV m doors), .fz (.int most), .lck (S.map .int), tu, .own (near.map .int), .fz (.int r), .no] ys fun y hy => by
    have q := (in_ints y S).2.2.1
    generalize S.map Val.int = SV at *
    refine ⟨[.par tv, .fz (landV m doors), .fz (.int most), .lck SV, tu, .own (near.map .int), .fz (.int r), .fz (.int y)], [.par tv, .fz (landV m doors), .fz (.int most), .lck SV, tu, .own (near.map .int), .fz (.int r), .fz (.int y)], by simp [gNm], by simp [fo_ok, th_nx, th_rt, th_bk, th_ct, op_s, ob_ok, oo_s, de_v, de_s, ds_n, ds_c, ts_n, ts_c, tv_v, tv_s, fl_rt, fl_nx, x_dHV, x_dVar, x_dC, x_dVH, x_dIt, x_dRg, x_tYesD, x_dU, x_sPut, x_d2, x_aNil, x_aCons, x_dN, x_pNone, x_pSome, x_dSl, x_dTup, x_dOV, x_dVO, x_dLst, x_tOf, x_tBl, x_dChain, x_tAndD, x_tOrD, x_tNotD, x_vAnd, x_vOr, x_vNot, x_dIf, x_dNeg, x_dIsN, x_dNotN, x_dNo, x_dR1, x_dR2, x_dLR, x_dIsi, x_sSkip, x_sBreak, x_sCont, x_sSeq, x_sIf, x_sDrop, x_sRet, x_asg, x_sSet, x_gNm, x_gN, x_gC, x_gTp, x_sAsg, x_sPar, x_g1, x_g2, x_go1, x_callD0, x_callD1, parOf, putV, lstOf, setL, frOf, Sl.view, add_int, sub_int, int_int, ixl, ixt, len_lst, len_tup, lt_int, gt_int, le_int, ge_int, eq_int, ne_int, at0, at1, at2, at3, notNo, isNone, tupOf, q], ?_⟩
    cases (!decide (y ∈ S)) <;> simp [fo_ok, th_nx, th_rt, th_bk, th_ct, op_s, ob_ok, oo_s, de_v, de_s, ds_n, ds_c, ts_n, ts_c, tv_v, tv_s, fl_rt, fl_nx, x_dHV, x_dVar, x_dC, x_dVH, x_dIt, x_dRg, x_tYesD, x_dU, x_sPut, x_d2, x_aNil, x_aCons, x_dN, x_pNone, x_pSome, x_dSl, x_dTup, x_dOV, x_dVO, x_dLst, x_tOf, x_tBl, x_dChain, x_tAndD, x_tOrD, x_tNotD, x_vAnd, x_vOr, x_vNot, x_dIf, x_dNeg, x_dIsN, x_dNotN, x_dNo, x_dR1, x_dR2, x_dLR, x_dIsi, x_sSkip, x_sBreak, x_sCont, x_sSeq, x_sIf, x_sDrop, x_sRet, x_asg, x_sSet, x_gNm, x_gN, x_gC, x_gTp, x_sAsg, x_sPar, x_g1, x_g2, x_go1, x_callD0, x_callD1, parOf, putV, lstOf, setL, frOf, Sl.view, add_int, sub_int, int_int, ixl, ixt, len_lst, len_tup, lt_int, gt_int, le_int, ge_int, eq_int, ne_int, at0, at1, at2, at3, notNo, isNone, tupOf, wipeE]
  have k2 := lc_eq (it := dIt (dVO (callD0 eb (aCons (dVar 1) (aCons (dVar 6) aNil))))) (xs := ys.map .int) (ρ := [.par tv, .fz (landV m doors), .fz (.int most), .lck (S.map .int), tu, .own (near.map .int), .fz (.int r), .no]) (ρ1 := [.par tv, .fz (landV m doors), .fz (.int most), .lck (S.map .int), tu, .own (near.map .int), .fz (.int r), .no]) (by simp [fo_ok, th_nx, th_rt, th_bk, th_ct, op_s, ob_ok, oo_s, de_v, de_s, ds_n, ds_c, ts_n, ts_c, tv_v, tv_s, fl_rt, fl_nx, x_dHV, x_dVar, x_dC, x_dVH, x_dIt, x_dRg, x_tYesD, x_dU, x_sPut, x_d2, x_aNil, x_aCons, x_dN, x_pNone, x_pSome, x_dSl, x_dTup, x_dOV, x_dVO, x_dLst, x_tOf, x_tBl, x_dChain, x_tAndD, x_tOrD, x_tNotD, x_vAnd, x_vOr, x_vNot, x_dIf, x_dNeg, x_dIsN, x_dNotN, x_dNo, x_dR1, x_dR2, x_dLR, x_dIsi, x_sSkip, x_sBreak, x_sCont, x_sSeq, x_sIf, x_sDrop, x_sRet, x_asg, x_sSet, x_gNm, x_gN, x_gC, x_gTp, x_sAsg, x_sPar, x_g1, x_g2, x_go1, x_callD0, x_callD1, parOf, putV, lstOf, setL, frOf, Sl.view, add_int, sub_int, int_int, ixl, ixt, len_lst, len_tup, lt_int, gt_int, le_int, ge_int, eq_int, ne_int, at0, at1, at2, at3, notNo, isNone, tupOf, np, h1, goesV]) (ok_size (by rw [List.length_map]; omega)) (by rw [show wipeE ([.par tv, .fz (landV m doors), .fz (.int most), .lck (S.map .int), tu, .own (near.map .int), .fz (.int r), .no] : List Sl) [7] = [.par tv, .fz (landV m doors), .fz (.int most), .lck (S.map .int), tu, .own (near.map .int), .fz (.int r), .no] from rfl]; exact k1)
  rw [show rest ([.par tv, .fz (landV m doors), .fz (.int most), .lck (S.map .int), tu, .own (near.map .int), .fz (.int r), .no] : List Sl) [7] [.par tv, .fz (landV m doors), .fz (.int most), .lck (S.map .int), tu, .own (near.map .int), .fz (.int r), .no] = [.par tv, .fz (landV m doors), .fz (.int most), .lck (S.map .int), tu, .own (near.map .int), .fz (.int r), .no] from rfl] at k2
  refine ⟨ys.filter fun y => !decide (y ∈ S), fun y hy => ?_, hzl, ?_⟩
  · obtain ⟨q1, q2⟩ := List.mem_filter.mp hy
    refine ⟨hp.mem_iff.mp q1, fun z => ?_⟩
    rw [decide_eq_true z] at q2
    cases q2
  · generalize (ys.filter fun y => !decide (y ∈ S)) = zs at *
    generalize (dLc (dIt (dVO (callD0 eb (aCons (dVar 1) (aCons (dVar 6) aNil))))) (gNm 7) (tBl (d2 ninV (dVar 7) (dVar 3))) (dVH (dVar 7)) [7]) = X at *
    have hsz : (near.map Val.int).length + (zs.map Val.int).length ≤ sizeLine := ok_size (by rw [List.length_map, List.length_map]; omega)
    rw [List.map_append]
    generalize S.map Val.int = SV at *
    generalize near.map Val.int = NV at *
    generalize zs.map Val.int = ZV at *
    simp [fo_ok, th_nx, th_rt, th_bk, th_ct, op_s, ob_ok, oo_s, de_v, de_s, ds_n, ds_c, ts_n, ts_c, tv_v, tv_s, fl_rt, fl_nx, x_dHV, x_dVar, x_dC, x_dVH, x_dIt, x_dRg, x_tYesD, x_dU, x_sPut, x_d2, x_aNil, x_aCons, x_dN, x_pNone, x_pSome, x_dSl, x_dTup, x_dOV, x_dVO, x_dLst, x_tOf, x_tBl, x_dChain, x_tAndD, x_tOrD, x_tNotD, x_vAnd, x_vOr, x_vNot, x_dIf, x_dNeg, x_dIsN, x_dNotN, x_dNo, x_dR1, x_dR2, x_dLR, x_dIsi, x_sSkip, x_sBreak, x_sCont, x_sSeq, x_sIf, x_sDrop, x_sRet, x_asg, x_sSet, x_gNm, x_gN, x_gC, x_gTp, x_sAsg, x_sPar, x_g1, x_g2, x_go1, x_callD0, x_callD1, parOf, putV, lstOf, setL, frOf, Sl.view, add_int, sub_int, int_int, ixl, ixt, len_lst, len_tup, lt_int, gt_int, le_int, ge_int, eq_int, ne_int, at0, at1, at2, at3, notNo, isNone, tupOf, k2, extV, hsz]
theorem stroll_turn (eb et : FnE) (hb : BehindOk eb) (ht : TakeOk et) {m : Int} {doors : List (Int × Int)} {rank : Int → Nat} {par : Int → Int} (LD : Land m doors rank par) (S : List Int) (hS : S.length ≤ 100) (hc : Conn rank par S) (hr : ∀ x ∈ S, 0 ≤ x ∧ x < m) (t : Tape) (most : Int) (tu s5 s6 : Sl) :
    ∃ (t' : Tape) (S' : List Int) (s5' s6' : Sl), (sSeq (sSet 5 (dLst aNil))
  (sSeq (sForV 3 (gNm 6) (sDrop (dOV (dU extV 5 (aCons (dHV (dVO (dLc (dIt (dVO (callD0 eb (aCons (dVar 1) (aCons (dVar 6) aNil))))) (gNm 7) (tBl (d2 ninV (dVar 7) (dVar 3))) (dVH (dVar 7)) [7]))) aNil)))))
  (sIf (tBl (d2 neV (dVar 5) (dHV (dVO (dLst aNil))))) (sDrop (dOV (dU appV 3 (aCons (dHV (d2 ixV (dVar 5) (dHV (dVO (callD1 et 0 (aCons (dVar 0) (aCons (dHV (dN (g1 lenV) (aCons (dVar 5) aNil))) aNil))))))) aNil)))) sSkip))) [.par t.v, .fz (landV m doors), .fz (.int most), .own (S.map .int), tu, s5, s6, .no] = .nx [.par t'.v, .fz (landV m doors), .fz (.int most), (.own (S'.map .int)), tu, s5', s6', .no] ∧ Conn rank par S' ∧ (∀ x ∈ S', 0 ≤ x ∧ x < m) ∧ S'.length ≤ S.length + 1 ∧ ∀ x ∈ S, x ∈ S' := by
  obtain ⟨np, hx⟩ := ht
  have lp := forL_all (g := gNm 6) (b := (sDrop (dOV (dU extV 5 (aCons (dHV (dVO (dLc (dIt (dVO (callD0 eb (aCons (dVar 1) (aCons (dVar 6) aNil))))) (gNm 7) (tBl (d2 ninV (dVar 7) (dVar 3))) (dVH (dVar 7)) [7]))) aNil))))) Val.int S
    (fun pre ρ => ∃ (near : List Int) (s6 : Sl), ρ = [.par t.v, .fz (landV m doors), .fz (.int most), .lck (S.map .int), tu, .own (near.map .int), s6, .no] ∧ near.length ≤ 24 * pre.length ∧ ∀ y ∈ near, ∃ r ∈ S, y ∈ nexts doors r ∧ y ∉ S)
    (ρ := [.par t.v, .fz (landV m doors), .fz (.int most), .lck (S.map .int), tu, .own [], s6, .no]) ⟨[], s6, rfl, by simp, by simp⟩ fun pre r post ρ e0 h => by
      obtain ⟨near, s6, rfl, h1, h2⟩ := h
      have hpl : pre.length < S.length := by rw [e0]; simp
      obtain ⟨zs, z1, z2, z3⟩ := stroll_r eb hb m doors LD.dl S near (by omega) r t.v most tu
      refine ⟨[.par t.v, .fz (landV m doors), .fz (.int most), .lck (S.map .int), tu, .own (near.map .int), .fz (.int r), .no], _, by simp [gNm], .inl z3, near ++ zs, .fz (.int r), rfl, by rw [List.length_append, List.length_append, List.length_singleton]; omega, fun y hy => ?_⟩
      rcases List.mem_append.mp hy with hy | hy
      · exact h2 y hy
      · exact ⟨r, by rw [e0]; simp, z1 y hy⟩
  obtain ⟨ρ', l1, near, s6', rfl, n1, n2⟩ := lp
  have f1 : sForV 3 (gNm 6) (sDrop (dOV (dU extV 5 (aCons (dHV (dVO (dLc (dIt (dVO (callD0 eb (aCons (dVar 1) (aCons (dVar 6) aNil))))) (gNm 7) (tBl (d2 ninV (dVar 7) (dVar 3))) (dVH (dVar 7)) [7]))) aNil)))) [.par t.v, .fz (landV m doors), .fz (.int most), .own (S.map .int), tu, .own [], s6, .no] = .nx [.par t.v, .fz (landV m doors), .fz (.int most), .own (S.map .int), tu, .own (near.map .int), s6', .no] := by
    have e1 : sForV 3 (gNm 6) (sDrop (dOV (dU extV 5 (aCons (dHV (dVO (dLc (dIt (dVO (callD0 eb (aCons (dVar 1) (aCons (dVar 6) aNil))))) (gNm 7) (tBl (d2 ninV (dVar 7) (dVar 3))) (dVH (dVar 7)) [7]))) aNil)))) [.par t.v, .fz (landV m doors), .fz (.int most), .own (S.map .int), tu, .own [], s6, .no] = unlk 3 (.own (S.map .int)) (forL (gNm 6) (sDrop (dOV (dU extV 5 (aCons (dHV (dVO (dLc (dIt (dVO (callD0 eb (aCons (dVar 1) (aCons (dVar 6) aNil))))) (gNm 7) (tBl (d2 ninV (dVar 7) (dVar 3))) (dVH (dVar 7)) [7]))) aNil)))) (S.map .int) [.par t.v, .fz (landV m doors), .fz (.int most), .lck (S.map .int), tu, .own [], s6, .no]) := rfl
    rw [e1, l1]
    rfl
  rw [seq_nx (ρ' := [.par t.v, .fz (landV m doors), .fz (.int most), .own (S.map .int), tu, .own [], s6, .no]) (by simp [fo_ok, th_nx, th_rt, th_bk, th_ct, op_s, ob_ok, oo_s, de_v, de_s, ds_n, ds_c, ts_n, ts_c, tv_v, tv_s, fl_rt, fl_nx, x_dHV, x_dVar, x_dC, x_dVH, x_dIt, x_dRg, x_tYesD, x_dU, x_sPut, x_d2, x_aNil, x_aCons, x_dN, x_pNone, x_pSome, x_dSl, x_dTup, x_dOV, x_dVO, x_dLst, x_tOf, x_tBl, x_dChain, x_tAndD, x_tOrD, x_tNotD, x_vAnd, x_vOr, x_vNot, x_dIf, x_dNeg, x_dIsN, x_dNotN, x_dNo, x_dR1, x_dR2, x_dLR, x_dIsi, x_sSkip, x_sBreak, x_sCont, x_sSeq, x_sIf, x_sDrop, x_sRet, x_asg, x_sSet, x_gNm, x_gN, x_gC, x_gTp, x_sAsg, x_sPar, x_g1, x_g2, x_go1, x_callD0, x_callD1, parOf, putV, lstOf, setL, frOf, Sl.view, add_int, sub_int, int_int, ixl, ixt, len_lst, len_tup, lt_int, gt_int, le_int, ge_int, eq_int, ne_int, at0, at1, at2, at3, notNo, isNone, tupOf]), seq_nx f1]
  by_cases hne : near = []
  · subst hne
    refine ⟨t, S, .own [], s6', ?_, hc, hr, by omega, fun x h => h⟩
    have := ne_nil []
    simp only [List.map_nil] at this
    generalize S.map Val.int = SV at *
    rw [if_f (ρ' := [.par t.v, .fz (landV m doors), .fz (.int most), .own SV, tu, .own [], s6', .no]) (by simp [fo_ok, th_nx, th_rt, th_bk, th_ct, op_s, ob_ok, oo_s, de_v, de_s, ds_n, ds_c, ts_n, ts_c, tv_v, tv_s, fl_rt, fl_nx, x_dHV, x_dVar, x_dC, x_dVH, x_dIt, x_dRg, x_tYesD, x_dU, x_sPut, x_d2, x_aNil, x_aCons, x_dN, x_pNone, x_pSome, x_dSl, x_dTup, x_dOV, x_dVO, x_dLst, x_tOf, x_tBl, x_dChain, x_tAndD, x_tOrD, x_tNotD, x_vAnd, x_vOr, x_vNot, x_dIf, x_dNeg, x_dIsN, x_dNotN, x_dNo, x_dR1, x_dR2, x_dLR, x_dIsi, x_sSkip, x_sBreak, x_sCont, x_sSeq, x_sIf, x_sDrop, x_sRet, x_asg, x_sSet, x_gNm, x_gN, x_gC, x_gTp, x_sAsg, x_sPar, x_g1, x_g2, x_go1, x_callD0, x_callD1, parOf, putV, lstOf, setL, frOf, Sl.view, add_int, sub_int, int_int, ixl, ixt, len_lst, len_tup, lt_int, gt_int, le_int, ge_int, eq_int, ne_int, at0, at1, at2, at3, notNo, isNone, tupOf, this])]
    rfl
  · have hpos : 0 < near.length := List.length_pos_iff.mpr hne
    obtain ⟨d, t2, hd, ht⟩ := hx t near.length (by omega) (by omega)
    have hd2 : d < near.length := by omega
    have e1 : L2.atI (near.map Val.int) (d : Int) = some (.int near[d]) := by rw [atI_nat (by simpa using hd2)]; simp [hd2]
    obtain ⟨r, q1, q2, q3⟩ := n2 near[d] (List.getElem_mem hd2)
    obtain ⟨c1, c2, c3⟩ := conn_more LD hc q1 q2 q3
    have hz : (S.map Val.int).length < sizeLine := by
      rw [List.length_map]
      exact Nat.lt_of_lt_of_le (by omega : S.length < 1000) (ok_size (by decide))
    have nn := ne_nil near
    rw [decide_eq_false hne] at nn
    have hnl : ((near.map Val.int).length : Int) = near.length := by rw [List.length_map]
    generalize near[d] = y at *
    refine ⟨t2, S ++ [y], .own (near.map .int), s6', ?_, c1, fun x hx => ?_, by simp, fun x h => List.mem_append_left _ h⟩
    · rw [List.map_append, List.map_singleton]
      rw [← hnl] at ht
      generalize S.map Val.int = SV at *
      generalize near.map Val.int = NV at *
      rw [if_t (ρ' := [.par t.v, .fz (landV m doors), .fz (.int most), .own SV, tu, .own NV, s6', .no]) (by simp [fo_ok, th_nx, th_rt, th_bk, th_ct, op_s, ob_ok, oo_s, de_v, de_s, ds_n, ds_c, ts_n, ts_c, tv_v, tv_s, fl_rt, fl_nx, x_dHV, x_dVar, x_dC, x_dVH, x_dIt, x_dRg, x_tYesD, x_dU, x_sPut, x_d2, x_aNil, x_aCons, x_dN, x_pNone, x_pSome, x_dSl, x_dTup, x_dOV, x_dVO, x_dLst, x_tOf, x_tBl, x_dChain, x_tAndD, x_tOrD, x_tNotD, x_vAnd, x_vOr, x_vNot, x_dIf, x_dNeg, x_dIsN, x_dNotN, x_dNo, x_dR1, x_dR2, x_dLR, x_dIsi, x_sSkip, x_sBreak, x_sCont, x_sSeq, x_sIf, x_sDrop, x_sRet, x_asg, x_sSet, x_gNm, x_gN, x_gC, x_gTp, x_sAsg, x_sPar, x_g1, x_g2, x_go1, x_callD0, x_callD1, parOf, putV, lstOf, setL, frOf, Sl.view, add_int, sub_int, int_int, ixl, ixt, len_lst, len_tup, lt_int, gt_int, le_int, ge_int, eq_int, ne_int, at0, at1, at2, at3, notNo, isNone, tupOf, nn])]
      simp [fo_ok, th_nx, th_rt, th_bk, th_ct, op_s, ob_ok, oo_s, de_v, de_s, ds_n, ds_c, ts_n, ts_c, tv_v, tv_s, fl_rt, fl_nx, x_dHV, x_dVar, x_dC, x_dVH, x_dIt, x_dRg, x_tYesD, x_dU, x_sPut, x_d2, x_aNil, x_aCons, x_dN, x_pNone, x_pSome, x_dSl, x_dTup, x_dOV, x_dVO, x_dLst, x_tOf, x_tBl, x_dChain, x_tAndD, x_tOrD, x_tNotD, x_vAnd, x_vOr, x_vNot, x_dIf, x_dNeg, x_dIsN, x_dNotN, x_dNo, x_dR1, x_dR2, x_dLR, x_dIsi, x_sSkip, x_sBreak, x_sCont, x_sSeq, x_sIf, x_sDrop, x_sRet, x_asg, x_sSet, x_gNm, x_gN, x_gC, x_gTp, x_sAsg, x_sPar, x_g1, x_g2, x_go1, x_callD0, x_callD1, parOf, putV, lstOf, setL, frOf, Sl.view, add_int, sub_int, int_int, ixl, ixt, len_lst, len_tup, lt_int, gt_int, le_int, ge_int, eq_int, ne_int, at0, at1, at2, at3, notNo, isNone, tupOf, np, ht, e1, appV, hz]
    · rcases List.mem_append.mp hx with h | h
      · exact hr x h
      · rw [List.mem_singleton.mp h]; exact ⟨c2, c3⟩
theorem through_r (eb : FnE) (hb : BehindOk eb) (m : Int) (doors : List (Int × Int)) (hl : doors.length ≤ 24) (S near : List Int) (hn : near.length ≤ 10000) (r : Int) (tv : List Val) (room many most : Int) (found : List Val) (s6a : Sl) (tu : Sl) :
    ∃ zs : List Int, (∀ y ∈ zs, y ∈ nexts doors r ∧ y ∉ S) ∧ zs.length ≤ 24 ∧ (sDrop (dOV (dU extV 9 (aCons (dHV (dVO (dLc (dIt (dVO (callD0 eb (aCons (dVar 1) (aCons (dVar 10) aNil))))) (gNm 11) (tBl (d2 ninV (dVar 11) (dVar 7))) (dVH (dVar 11)) [11]))) aNil)))) [.par tv, .fz (landV m doors), .fz (.int room), .fz (.int many), .fz (.int most), .own found, s6a, .lck (S.map .int), tu, .own (near.map .int), .fz (.int r), .no] = .nx [.par tv, .fz (landV m doors), .fz (.int room), .fz (.int many), .fz (.int most), .own found, s6a, .lck (S.map .int), tu, .own ((near ++ zs).map .int), .fz (.int r), .no] := by
  obtain ⟨np, hx⟩ := hb
  obtain ⟨ys, h1, hp⟩ := hx m doors r hl
  have hyl : ys.length ≤ 24 := by
    rw [hp.length_eq]
    unfold nexts
    rw [List.length_map]
    exact Nat.le_trans (List.length_filter_le _ _) hl
  have hzl : (ys.filter fun y => !decide (y ∈ S)).length ≤ 24 := Nat.le_trans (List.length_filter_le _ _) hyl
  have k1 := lcL_map (g := gNm 11) (t := tBl (d2 ninV (dVar 11) (dVar 7))) (e := dVH (dVar 11)) (vs := [11]) Val.int (fun y => !decide (y ∈ S)) Val.int [.par tv, .fz (landV m doors), .fz (.int room), .fz (.int many), .fz (.int most), .own found, s6a, .lck (S.map .int), tu, .own (near.map .int), .fz (.int r), .no] ys fun y hy => by
    have q := (in_ints y S).2.2.1
    generalize S.map Val.int = SV at *
    refine ⟨[.par tv, .fz (landV m doors), .fz (.int room), .fz (.int many), .fz (.int most), .own found, s6a, .lck SV, tu, .own (near.map .int), .fz (.int r), .fz (.int y)], [.par tv, .fz (landV m doors), .fz (.int room), .fz (.int many), .fz (.int most), .own found, s6a, .lck SV, tu, .own (near.map .int), .fz (.int r), .fz (.int y)], by simp [gNm], by simp [fo_ok, th_nx, th_rt, th_bk, th_ct, op_s, ob_ok, oo_s, de_v, de_s, ds_n, ds_c, ts_n, ts_c, tv_v, tv_s, fl_rt, fl_nx, x_dHV, x_dVar, x_dC, x_dVH, x_dIt, x_dRg, x_tYesD, x_dU, x_sPut, x_d2, x_aNil, x_aCons, x_dN, x_pNone, x_pSome, x_dSl, x_dTup, x_dOV, x_dVO, x_dLst, x_tOf, x_tBl, x_dChain, x_tAndD, x_tOrD, x_tNotD, x_vAnd, x_vOr, x_vNot, x_dIf, x_dNeg, x_dIsN, x_dNotN, x_dNo, x_dR1, x_dR2, x_dLR, x_dIsi, x_sSkip, x_sBreak, x_sCont, x_sSeq, x_sIf, x_sDrop, x_sRet, x_asg, x_sSet, x_gNm, x_gN, x_gC, x_gTp, x_sAsg, x_sPar, x_g1, x_g2, x_go1, x_callD0, x_callD1, parOf, putV, lstOf, setL, frOf, Sl.view, add_int, sub_int, int_int, ixl, ixt, len_lst, len_tup, lt_int, gt_int, le_int, ge_int, eq_int, ne_int, at0, at1, at2, at3, notNo, isNone, tupOf, q], ?_⟩
    cases (!decide (y ∈ S)) <;> simp [fo_ok, th_nx, th_rt, th_bk, th_ct, op_s, ob_ok, oo_s, de_v, de_s, ds_n, ds_c, ts_n, ts_c, tv_v, tv_s, fl_rt, fl_nx, x_dHV, x_dVar, x_dC, x_dVH, x_dIt, x_dRg, x_tYesD, x_dU, x_sPut, x_d2, x_aNil, x_aCons, x_dN, x_pNone, x_pSome, x_dSl, x_dTup, x_dOV, x_dVO, x_dLst, x_tOf, x_tBl, x_dChain, x_tAndD, x_tOrD, x_tNotD, x_vAnd, x_vOr, x_vNot, x_dIf, x_dNeg, x_dIsN, x_dNotN, x_dNo, x_dR1, x_dR2, x_dLR, x_dIsi, x_sSkip, x_sBreak, x_sCont, x_sSeq, x_sIf, x_sDrop, x_sRet, x_asg, x_sSet, x_gNm, x_gN, x_gC, x_gTp, x_sAsg, x_sPar, x_g1, x_g2, x_go1, x_callD0, x_callD1, parOf, putV, lstOf, setL, frOf, Sl.view, add_int, sub_int, int_int, ixl, ixt, len_lst, len_tup, lt_int, gt_int, le_int, ge_int, eq_int, ne_int, at0, at1, at2, at3, notNo, isNone, tupOf, wipeE]
  have k2 := lc_eq (it := dIt (dVO (callD0 eb (aCons (dVar 1) (aCons (dVar 10) aNil))))) (xs := ys.map .int) (ρ := [.par tv, .fz (landV m doors), .fz (.int room), .fz (.int many), .fz (.int most), .own found, s6a, .lck (S.map .int), tu, .own (near.map .int), .fz (.int r), .no]) (ρ1 := [.par tv, .fz (landV m doors), .fz (.int room), .fz (.int many), .fz (.int most), .own found, s6a, .lck (S.map .int), tu, .own (near.map .int), .fz (.int r), .no]) (by simp [fo_ok, th_nx, th_rt, th_bk, th_ct, op_s, ob_ok, oo_s, de_v, de_s, ds_n, ds_c, ts_n, ts_c, tv_v, tv_s, fl_rt, fl_nx, x_dHV, x_dVar, x_dC, x_dVH, x_dIt, x_dRg, x_tYesD, x_dU, x_sPut, x_d2, x_aNil, x_aCons, x_dN, x_pNone, x_pSome, x_dSl, x_dTup, x_dOV, x_dVO, x_dLst, x_tOf, x_tBl, x_dChain, x_tAndD, x_tOrD, x_tNotD, x_vAnd, x_vOr, x_vNot, x_dIf, x_dNeg, x_dIsN, x_dNotN, x_dNo, x_dR1, x_dR2, x_dLR, x_dIsi, x_sSkip, x_sBreak, x_sCont, x_sSeq, x_sIf, x_sDrop, x_sRet, x_asg, x_sSet, x_gNm, x_gN, x_gC, x_gTp, x_sAsg, x_sPar, x_g1, x_g2, x_go1, x_callD0, x_callD1, parOf, putV, lstOf, setL, frOf, Sl.view, add_int, sub_int, int_int, ixl, ixt, len_lst, len_tup, lt_int, gt_int, le_int, ge_int, eq_int, ne_int, at0, at1, at2, at3, notNo, isNone, tupOf, np, h1, goesV]) (ok_size (by rw [List.length_map]; omega)) (by rw [show wipeE ([.par tv, .fz (landV m doors), .fz (.int room), .fz (.int many), .fz (.int most), .own found, s6a, .lck (S.map .int), tu, .own (near.map .int), .fz (.int r), .no] : List Sl) [11] = [.par tv, .fz (landV m doors), .fz (.int room), .fz (.int many), .fz (.int most), .own found, s6a, .lck (S.map .int), tu, .own (near.map .int), .fz (.int r), .no] from rfl]; exact k1)
  rw [show rest ([.par tv, .fz (landV m doors), .fz (.int room), .fz (.int many), .fz (.int most), .own found, s6a, .lck (S.map .int), tu, .own (near.map .int), .fz (.int r), .no] : List Sl) [11] [.par tv, .fz (landV m doors), .fz (.int room), .fz (.int many), .fz (.int most), .own found, s6a, .lck (S.map .int), tu, .own (near.map .int), .fz (.int r), .no] = [.par tv, .fz (landV m doors), .fz (.int room), .fz (.int many), .fz (.int most), .own found, s6a, .lck (S.map .int), tu, .own (near.map .int), .fz (.int r), .no] from rfl] at k2
  refine ⟨ys.filter fun y => !decide (y ∈ S), fun y hy => ?_, hzl, ?_⟩
  · obtain ⟨q1, q2⟩ := List.mem_filter.mp hy
    refine ⟨hp.mem_iff.mp q1, fun z => ?_⟩
    rw [decide_eq_true z] at q2
    cases q2
  · generalize (ys.filter fun y => !decide (y ∈ S)) = zs at *
    generalize (dLc (dIt (dVO (callD0 eb (aCons (dVar 1) (aCons (dVar 10) aNil))))) (gNm 11) (tBl (d2 ninV (dVar 11) (dVar 7))) (dVH (dVar 11)) [11]) = X at *
    have hsz : (near.map Val.int).length + (zs.map Val.int).length ≤ sizeLine := ok_size (by rw [List.length_map, List.length_map]; omega)
    rw [List.map_append]
    generalize S.map Val.int = SV at *
    generalize near.map Val.int = NV at *
    generalize zs.map Val.int = ZV at *
    simp [fo_ok, th_nx, th_rt, th_bk, th_ct, op_s, ob_ok, oo_s, de_v, de_s, ds_n, ds_c, ts_n, ts_c, tv_v, tv_s, fl_rt, fl_nx, x_dHV, x_dVar, x_dC, x_dVH, x_dIt, x_dRg, x_tYesD, x_dU, x_sPut, x_d2, x_aNil, x_aCons, x_dN, x_pNone, x_pSome, x_dSl, x_dTup, x_dOV, x_dVO, x_dLst, x_tOf, x_tBl, x_dChain, x_tAndD, x_tOrD, x_tNotD, x_vAnd, x_vOr, x_vNot, x_dIf, x_dNeg, x_dIsN, x_dNotN, x_dNo, x_dR1, x_dR2, x_dLR, x_dIsi, x_sSkip, x_sBreak, x_sCont, x_sSeq, x_sIf, x_sDrop, x_sRet, x_asg, x_sSet, x_gNm, x_gN, x_gC, x_gTp, x_sAsg, x_sPar, x_g1, x_g2, x_go1, x_callD0, x_callD1, parOf, putV, lstOf, setL, frOf, Sl.view, add_int, sub_int, int_int, ixl, ixt, len_lst, len_tup, lt_int, gt_int, le_int, ge_int, eq_int, ne_int, at0, at1, at2, at3, notNo, isNone, tupOf, k2, extV, hsz]
theorem through_turn (eb et : FnE) (hb : BehindOk eb) (ht : TakeOk et) {m : Int} {doors : List (Int × Int)} {rank : Int → Nat} {par : Int → Int} (LD : Land m doors rank par) (S : List Int) (hS : S.length ≤ 100) (hc : Conn rank par S) (hr : ∀ x ∈ S, 0 ≤ x ∧ x < m) (t : Tape) (room many most : Int) (found : List Val) (s6a : Sl) (tu s5 s6 : Sl) :
    ∃ (t' : Tape) (S' : List Int) (s5' s6' : Sl), (sSeq (sSet 9 (dLst aNil))
  (sSeq (sForV 7 (gNm 10) (sDrop (dOV (dU extV 9 (aCons (dHV (dVO (dLc (dIt (dVO (callD0 eb (aCons (dVar 1) (aCons (dVar 10) aNil))))) (gNm 11) (tBl (d2 ninV (dVar 11) (dVar 7))) (dVH (dVar 11)) [11]))) aNil)))))
  (sIf (tBl (d2 neV (dVar 9) (dHV (dVO (dLst aNil))))) (sDrop (dOV (dU appV 7 (aCons (dHV (d2 ixV (dVar 9) (dHV (dVO (callD1 et 0 (aCons (dVar 0) (aCons (dHV (dN (g1 lenV) (aCons (dVar 9) aNil))) aNil))))))) aNil)))) sSkip))) [.par t.v, .fz (landV m doors), .fz (.int room), .fz (.int many), .fz (.int most), .own found, s6a, .own (S.map .int), tu, s5, s6, .no] = .nx [.par t'.v, .fz (landV m doors), .fz (.int room), .fz (.int many), .fz (.int most), .own found, s6a, (.own (S'.map .int)), tu, s5', s6', .no] ∧ Conn rank par S' ∧ (∀ x ∈ S', 0 ≤ x ∧ x < m) ∧ S'.length ≤ S.length + 1 ∧ ∀ x ∈ S, x ∈ S' := by
  obtain ⟨np, hx⟩ := ht
  have lp := forL_all (g := gNm 10) (b := (sDrop (dOV (dU extV 9 (aCons (dHV (dVO (dLc (dIt (dVO (callD0 eb (aCons (dVar 1) (aCons (dVar 10) aNil))))) (gNm 11) (tBl (d2 ninV (dVar 11) (dVar 7))) (dVH (dVar 11)) [11]))) aNil))))) Val.int S
    (fun pre ρ => ∃ (near : List Int) (s6 : Sl), ρ = [.par t.v, .fz (landV m doors), .fz (.int room), .fz (.int many), .fz (.int most), .own found, s6a, .lck (S.map .int), tu, .own (near.map .int), s6, .no] ∧ near.length ≤ 24 * pre.length ∧ ∀ y ∈ near, ∃ r ∈ S, y ∈ nexts doors r ∧ y ∉ S)
    (ρ := [.par t.v, .fz (landV m doors), .fz (.int room), .fz (.int many), .fz (.int most), .own found, s6a, .lck (S.map .int), tu, .own [], s6, .no]) ⟨[], s6, rfl, by simp, by simp⟩ fun pre r post ρ e0 h => by
      obtain ⟨near, s6, rfl, h1, h2⟩ := h
      have hpl : pre.length < S.length := by rw [e0]; simp
      obtain ⟨zs, z1, z2, z3⟩ := through_r eb hb m doors LD.dl S near (by omega) r t.v room many most found s6a tu
      refine ⟨[.par t.v, .fz (landV m doors), .fz (.int room), .fz (.int many), .fz (.int most), .own found, s6a, .lck (S.map .int), tu, .own (near.map .int), .fz (.int r), .no], _, by simp [gNm], .inl z3, near ++ zs, .fz (.int r), rfl, by rw [List.length_append, List.length_append, List.length_singleton]; omega, fun y hy => ?_⟩
      rcases List.mem_append.mp hy with hy | hy
      · exact h2 y hy
      · exact ⟨r, by rw [e0]; simp, z1 y hy⟩
  obtain ⟨ρ', l1, near, s6', rfl, n1, n2⟩ := lp
  have f1 : sForV 7 (gNm 10) (sDrop (dOV (dU extV 9 (aCons (dHV (dVO (dLc (dIt (dVO (callD0 eb (aCons (dVar 1) (aCons (dVar 10) aNil))))) (gNm 11) (tBl (d2 ninV (dVar 11) (dVar 7))) (dVH (dVar 11)) [11]))) aNil)))) [.par t.v, .fz (landV m doors), .fz (.int room), .fz (.int many), .fz (.int most), .own found, s6a, .own (S.map .int), tu, .own [], s6, .no] = .nx [.par t.v, .fz (landV m doors), .fz (.int room), .fz (.int many), .fz (.int most), .own found, s6a, .own (S.map .int), tu, .own (near.map .int), s6', .no] := by
    have e1 : sForV 7 (gNm 10) (sDrop (dOV (dU extV 9 (aCons (dHV (dVO (dLc (dIt (dVO (callD0 eb (aCons (dVar 1) (aCons (dVar 10) aNil))))) (gNm 11) (tBl (d2 ninV (dVar 11) (dVar 7))) (dVH (dVar 11)) [11]))) aNil)))) [.par t.v, .fz (landV m doors), .fz (.int room), .fz (.int many), .fz (.int most), .own found, s6a, .own (S.map .int), tu, .own [], s6, .no] = unlk 7 (.own (S.map .int)) (forL (gNm 10) (sDrop (dOV (dU extV 9 (aCons (dHV (dVO (dLc (dIt (dVO (callD0 eb (aCons (dVar 1) (aCons (dVar 10) aNil))))) (gNm 11) (tBl (d2 ninV (dVar 11) (dVar 7))) (dVH (dVar 11)) [11]))) aNil)))) (S.map .int) [.par t.v, .fz (landV m doors), .fz (.int room), .fz (.int many), .fz (.int most), .own found, s6a, .lck (S.map .int), tu, .own [], s6, .no]) := rfl
    rw [e1, l1]
    rfl
  rw [seq_nx (ρ' := [.par t.v, .fz (landV m doors), .fz (.int room), .fz (.int many), .fz (.int most), .own found, s6a, .own (S.map .int), tu, .own [], s6, .no]) (by simp [fo_ok, th_nx, th_rt, th_bk, th_ct, op_s, ob_ok, oo_s, de_v, de_s, ds_n, ds_c, ts_n, ts_c, tv_v, tv_s, fl_rt, fl_nx, x_dHV, x_dVar, x_dC, x_dVH, x_dIt, x_dRg, x_tYesD, x_dU, x_sPut, x_d2, x_aNil, x_aCons, x_dN, x_pNone, x_pSome, x_dSl, x_dTup, x_dOV, x_dVO, x_dLst, x_tOf, x_tBl, x_dChain, x_tAndD, x_tOrD, x_tNotD, x_vAnd, x_vOr, x_vNot, x_dIf, x_dNeg, x_dIsN, x_dNotN, x_dNo, x_dR1, x_dR2, x_dLR, x_dIsi, x_sSkip, x_sBreak, x_sCont, x_sSeq, x_sIf, x_sDrop, x_sRet, x_asg, x_sSet, x_gNm, x_gN, x_gC, x_gTp, x_sAsg, x_sPar, x_g1, x_g2, x_go1, x_callD0, x_callD1, parOf, putV, lstOf, setL, frOf, Sl.view, add_int, sub_int, int_int, ixl, ixt, len_lst, len_tup, lt_int, gt_int, le_int, ge_int, eq_int, ne_int, at0, at1, at2, at3, notNo, isNone, tupOf]), seq_nx f1]
  by_cases hne : near = []
  · subst hne
    refine ⟨t, S, .own [], s6', ?_, hc, hr, by omega, fun x h => h⟩
    have := ne_nil []
    simp only [List.map_nil] at this
    generalize S.map Val.int = SV at *
    rw [if_f (ρ' := [.par t.v, .fz (landV m doors), .fz (.int room), .fz (.int many), .fz (.int most), .own found, s6a, .own SV, tu, .own [], s6', .no]) (by simp [fo_ok, th_nx, th_rt, th_bk, th_ct, op_s, ob_ok, oo_s, de_v, de_s, ds_n, ds_c, ts_n, ts_c, tv_v, tv_s, fl_rt, fl_nx, x_dHV, x_dVar, x_dC, x_dVH, x_dIt, x_dRg, x_tYesD, x_dU, x_sPut, x_d2, x_aNil, x_aCons, x_dN, x_pNone, x_pSome, x_dSl, x_dTup, x_dOV, x_dVO, x_dLst, x_tOf, x_tBl, x_dChain, x_tAndD, x_tOrD, x_tNotD, x_vAnd, x_vOr, x_vNot, x_dIf, x_dNeg, x_dIsN, x_dNotN, x_dNo, x_dR1, x_dR2, x_dLR, x_dIsi, x_sSkip, x_sBreak, x_sCont, x_sSeq, x_sIf, x_sDrop, x_sRet, x_asg, x_sSet, x_gNm, x_gN, x_gC, x_gTp, x_sAsg, x_sPar, x_g1, x_g2, x_go1, x_callD0, x_callD1, parOf, putV, lstOf, setL, frOf, Sl.view, add_int, sub_int, int_int, ixl, ixt, len_lst, len_tup, lt_int, gt_int, le_int, ge_int, eq_int, ne_int, at0, at1, at2, at3, notNo, isNone, tupOf, this])]
    rfl
  · have hpos : 0 < near.length := List.length_pos_iff.mpr hne
    obtain ⟨d, t2, hd, ht⟩ := hx t near.length (by omega) (by omega)
    have hd2 : d < near.length := by omega
    have e1 : L2.atI (near.map Val.int) (d : Int) = some (.int near[d]) := by rw [atI_nat (by simpa using hd2)]; simp [hd2]
    obtain ⟨r, q1, q2, q3⟩ := n2 near[d] (List.getElem_mem hd2)
    obtain ⟨c1, c2, c3⟩ := conn_more LD hc q1 q2 q3
    have hz : (S.map Val.int).length < sizeLine := by
      rw [List.length_map]
      exact Nat.lt_of_lt_of_le (by omega : S.length < 1000) (ok_size (by decide))
    have nn := ne_nil near
    rw [decide_eq_false hne] at nn
    have hnl : ((near.map Val.int).length : Int) = near.length := by rw [List.length_map]
    generalize near[d] = y at *
    refine ⟨t2, S ++ [y], .own (near.map .int), s6', ?_, c1, fun x hx => ?_, by simp, fun x h => List.mem_append_left _ h⟩
    · rw [List.map_append, List.map_singleton]
      rw [← hnl] at ht
      generalize S.map Val.int = SV at *
      generalize near.map Val.int = NV at *
      rw [if_t (ρ' := [.par t.v, .fz (landV m doors), .fz (.int room), .fz (.int many), .fz (.int most), .own found, s6a, .own SV, tu, .own NV, s6', .no]) (by simp [fo_ok, th_nx, th_rt, th_bk, th_ct, op_s, ob_ok, oo_s, de_v, de_s, ds_n, ds_c, ts_n, ts_c, tv_v, tv_s, fl_rt, fl_nx, x_dHV, x_dVar, x_dC, x_dVH, x_dIt, x_dRg, x_tYesD, x_dU, x_sPut, x_d2, x_aNil, x_aCons, x_dN, x_pNone, x_pSome, x_dSl, x_dTup, x_dOV, x_dVO, x_dLst, x_tOf, x_tBl, x_dChain, x_tAndD, x_tOrD, x_tNotD, x_vAnd, x_vOr, x_vNot, x_dIf, x_dNeg, x_dIsN, x_dNotN, x_dNo, x_dR1, x_dR2, x_dLR, x_dIsi, x_sSkip, x_sBreak, x_sCont, x_sSeq, x_sIf, x_sDrop, x_sRet, x_asg, x_sSet, x_gNm, x_gN, x_gC, x_gTp, x_sAsg, x_sPar, x_g1, x_g2, x_go1, x_callD0, x_callD1, parOf, putV, lstOf, setL, frOf, Sl.view, add_int, sub_int, int_int, ixl, ixt, len_lst, len_tup, lt_int, gt_int, le_int, ge_int, eq_int, ne_int, at0, at1, at2, at3, notNo, isNone, tupOf, nn])]
      simp [fo_ok, th_nx, th_rt, th_bk, th_ct, op_s, ob_ok, oo_s, de_v, de_s, ds_n, ds_c, ts_n, ts_c, tv_v, tv_s, fl_rt, fl_nx, x_dHV, x_dVar, x_dC, x_dVH, x_dIt, x_dRg, x_tYesD, x_dU, x_sPut, x_d2, x_aNil, x_aCons, x_dN, x_pNone, x_pSome, x_dSl, x_dTup, x_dOV, x_dVO, x_dLst, x_tOf, x_tBl, x_dChain, x_tAndD, x_tOrD, x_tNotD, x_vAnd, x_vOr, x_vNot, x_dIf, x_dNeg, x_dIsN, x_dNotN, x_dNo, x_dR1, x_dR2, x_dLR, x_dIsi, x_sSkip, x_sBreak, x_sCont, x_sSeq, x_sIf, x_sDrop, x_sRet, x_asg, x_sSet, x_gNm, x_gN, x_gC, x_gTp, x_sAsg, x_sPar, x_g1, x_g2, x_go1, x_callD0, x_callD1, parOf, putV, lstOf, setL, frOf, Sl.view, add_int, sub_int, int_int, ixl, ixt, len_lst, len_tup, lt_int, gt_int, le_int, ge_int, eq_int, ne_int, at0, at1, at2, at3, notNo, isNone, tupOf, np, ht, e1, appV, hz]
    · rcases List.mem_append.mp hx with h | h
      · exact hr x h
      · rw [List.mem_singleton.mp h]; exact ⟨c2, c3⟩

def Good (m : Int) (rank : Int → Nat) (par : Int → Int) (S : List Int) : Prop := Conn rank par S ∧ (∀ x ∈ S, 0 ≤ x ∧ x < m) ∧ S.length ≤ 100
def StrollOk (e : FnE) : Prop := e.np = 3 ∧ ∀ (t : Tape) (m : Int) (doors : List (Int × Int)) (rank : Int → Nat) (par : Int → Int) (most : Int), Land m doors rank par → 1 ≤ most → most ≤ 24 → ∃ (t' : Tape) (S : List Int), e.sem [.par t.v, .fz (landV m doors), .fz (.int most)] = .ok (.fz (rowV S), .par t'.v) ∧ Good m rank par S
theorem tup_sorted (S : List Int) (hS : S.length ≤ 100) : sortV (.lst (S.map .int)) = some ((srt Val.int S).map .int) := sort_ints S (ok_size (by omega))
theorem stroll_core (et eb : FnE) (ht : TakeOk et) (hb : BehindOk eb) (t : Tape) (m : Int) (doors : List (Int × Int)) (rank : Int → Nat) (par : Int → Int) (most : Int) (LD : Land m doors rank par) (h1 : 1 ≤ most) (h2 : most ≤ 24) :
    ∃ (t' : Tape) (S : List Int), flRes 3 (some 0) (D__law_stroll et eb [.par t.v, .fz (landV m doors), .fz (.int most), .no, .no, .no, .no, .no]) = .ok (.fz (rowV S), .par t'.v) ∧ Good m rank par S := by
  have np := ht.1
  have m1 := LD.m1
  have m2 := LD.m2
  obtain ⟨d0, t1, hd0, e0⟩ := ht.2 t m (by omega) (by omega)
  obtain ⟨d1, t2, hd1, e1⟩ := ht.2 t1 most (by omega) (by omega)
  have lp := forL_all (g := gNm 4) (b := (sSeq (sSet 5 (dLst aNil))
  (sSeq (sForV 3 (gNm 6) (sDrop (dOV (dU extV 5 (aCons (dHV (dVO (dLc (dIt (dVO (callD0 eb (aCons (dVar 1) (aCons (dVar 6) aNil))))) (gNm 7) (tBl (d2 ninV (dVar 7) (dVar 3))) (dVH (dVar 7)) [7]))) aNil)))))
  (sIf (tBl (d2 neV (dVar 5) (dHV (dVO (dLst aNil))))) (sDrop (dOV (dU appV 3 (aCons (dHV (d2 ixV (dVar 5) (dHV (dVO (callD1 et 0 (aCons (dVar 0) (aCons (dHV (dN (g1 lenV) (aCons (dVar 5) aNil))) aNil))))))) aNil)))) sSkip)))) Val.int (rangeI 0 d1)
    (fun pre ρ => ∃ (t : Tape) (S : List Int) (s4 s5 s6 : Sl), ρ = [.par t.v, .fz (landV m doors), .fz (.int most), .own (S.map .int), s4, s5, s6, .no] ∧ Conn rank par S ∧ (∀ x ∈ S, 0 ≤ x ∧ x < m) ∧ S.length ≤ pre.length + 1)
    (ρ := [.par t2.v, .fz (landV m doors), .fz (.int most), .own [.int d0], .no, .no, .no, .no]) ⟨t2, [(d0 : Int)], .no, .no, .no, rfl, conn_one _ _ _, fun x hx => by rw [List.mem_singleton.mp hx]; omega, by simp⟩ fun pre a post ρ e9 h => by
      obtain ⟨t, S, s4, s5, s6, rfl, c1, c2, c3⟩ := h
      have hpl : pre.length < (rangeI 0 d1).length := by rw [e9]; simp
      rw [length_rangeI] at hpl
      obtain ⟨t', S', s5', s6', k1, k2, k3, k4, k5⟩ := stroll_turn eb et hb ht LD S (by omega) c1 c2 t most (.fz (.int a)) s5 s6
      exact ⟨_, _, by simp [gNm], .inl k1, t', S', _, _, _, rfl, k2, k3, by rw [List.length_append, List.length_singleton]; omega⟩
  obtain ⟨ρ', l1, t3, S, s4, s5, s6, rfl, c1, c2, c3⟩ := lp
  rw [length_rangeI] at c3
  have hS : S.length ≤ 100 := by omega
  have h3 := tup_sorted S hS
  refine ⟨t3, srt Val.int S, ?_, conn_perm c1 (srt_perm _ _), fun x hx => c2 x ((srt_perm _ _).mem_iff.mp hx), by rw [(srt_perm Val.int S).length_eq]; exact hS⟩
  have h6 : D__law_stroll et eb [.par t.v, .fz (landV m doors), .fz (.int most), .no, .no, .no, .no, .no] = .rt (.fz (rowV (srt Val.int S))) [.par t3.v, .fz (landV m doors), .fz (.int most), .own (S.map .int), s4, s5, s6, .no] := by
    unfold D__law_stroll
    have h1s : (1:Nat) ≤ sizeLine := ok_size (by decide)
    rw [seq_nx (ρ' := [.par t1.v, .fz (landV m doors), .fz (.int most), .own [.int d0], .no, .no, .no, .no]) (by simp [fo_ok, th_nx, th_rt, th_bk, th_ct, op_s, ob_ok, oo_s, de_v, de_s, ds_n, ds_c, ts_n, ts_c, tv_v, tv_s, fl_rt, fl_nx, x_dHV, x_dVar, x_dC, x_dVH, x_dIt, x_dRg, x_tYesD, x_dU, x_sPut, x_d2, x_aNil, x_aCons, x_dN, x_pNone, x_pSome, x_dSl, x_dTup, x_dOV, x_dVO, x_dLst, x_tOf, x_tBl, x_dChain, x_tAndD, x_tOrD, x_tNotD, x_vAnd, x_vOr, x_vNot, x_dIf, x_dNeg, x_dIsN, x_dNotN, x_dNo, x_dR1, x_dR2, x_dLR, x_dIsi, x_sSkip, x_sBreak, x_sCont, x_sSeq, x_sIf, x_sDrop, x_sRet, x_asg, x_sSet, x_gNm, x_gN, x_gC, x_gTp, x_sAsg, x_sPar, x_g1, x_g2, x_go1, x_callD0, x_callD1, parOf, putV, lstOf, setL, frOf, Sl.view, add_int, sub_int, int_int, ixl, ixt, len_lst, len_tup, lt_int, gt_int, le_int, ge_int, eq_int, ne_int, at0, at1, at2, at3, notNo, isNone, tupOf, np, land0, e0, h1s])]
    rw [seq_nx (ρ' := [.par t3.v, .fz (landV m doors), .fz (.int most), .own (S.map .int), s4, s5, s6, .no])]
    · unfold rowV
      generalize S.map Val.int = SV at *
      generalize (srt Val.int S).map Val.int = RV at *
      simp [fo_ok, th_nx, th_rt, th_bk, th_ct, op_s, ob_ok, oo_s, de_v, de_s, ds_n, ds_c, ts_n, ts_c, tv_v, tv_s, fl_rt, fl_nx, x_dHV, x_dVar, x_dC, x_dVH, x_dIt, x_dRg, x_tYesD, x_dU, x_sPut, x_d2, x_aNil, x_aCons, x_dN, x_pNone, x_pSome, x_dSl, x_dTup, x_dOV, x_dVO, x_dLst, x_tOf, x_tBl, x_dChain, x_tAndD, x_tOrD, x_tNotD, x_vAnd, x_vOr, x_vNot, x_dIf, x_dNeg, x_dIsN, x_dNotN, x_dNo, x_dR1, x_dR2, x_dLR, x_dIsi, x_sSkip, x_sBreak, x_sCont, x_sSeq, x_sIf, x_sDrop, x_sRet, x_asg, x_sSet, x_gNm, x_gN, x_gC, x_gTp, x_sAsg, x_sPar, x_g1, x_g2, x_go1, x_callD0, x_callD1, parOf, putV, lstOf, setL, frOf, Sl.view, add_int, sub_int, int_int, ixl, ixt, len_lst, len_tup, lt_int, gt_int, le_int, ge_int, eq_int, ne_int, at0, at1, at2, at3, notNo, isNone, tupOf, h3, tupV]
    · rw [for_eq (rg1 (n := d1) (ρ' := [.par t2.v, .fz (landV m doors), .fz (.int most), .own [.int d0], .no, .no, .no, .no]) (by simp [fo_ok, th_nx, th_rt, th_bk, th_ct, op_s, ob_ok, oo_s, de_v, de_s, ds_n, ds_c, ts_n, ts_c, tv_v, tv_s, fl_rt, fl_nx, x_dHV, x_dVar, x_dC, x_dVH, x_dIt, x_dRg, x_tYesD, x_dU, x_sPut, x_d2, x_aNil, x_aCons, x_dN, x_pNone, x_pSome, x_dSl, x_dTup, x_dOV, x_dVO, x_dLst, x_tOf, x_tBl, x_dChain, x_tAndD, x_tOrD, x_tNotD, x_vAnd, x_vOr, x_vNot, x_dIf, x_dNeg, x_dIsN, x_dNotN, x_dNo, x_dR1, x_dR2, x_dLR, x_dIsi, x_sSkip, x_sBreak, x_sCont, x_sSeq, x_sIf, x_sDrop, x_sRet, x_asg, x_sSet, x_gNm, x_gN, x_gC, x_gTp, x_sAsg, x_sPar, x_g1, x_g2, x_go1, x_callD0, x_callD1, parOf, putV, lstOf, setL, frOf, Sl.view, add_int, sub_int, int_int, ixl, ixt, len_lst, len_tup, lt_int, gt_int, le_int, ge_int, eq_int, ne_int, at0, at1, at2, at3, notNo, isNone, tupOf, np, e1]) (by omega))]
      exact l1
  rw [h6, fl_rt]
  simp [parOf, notNo]
theorem stroll_ok : StrollOk E__law_stroll := ⟨rfl, fun t m doors rank par most LD h1 h2 => by
  obtain ⟨t', S, h3, h4⟩ := stroll_core E__law_take E__law_behind take_ok behind_ok t m doors rank par most LD h1 h2
  exact ⟨t', S, by rw [s__law_stroll]; exact h3, h4⟩⟩
def StrollsOk (e : FnE) : Prop := e.np = 4 ∧ ∀ (t : Tape) (m : Int) (doors : List (Int × Int)) (rank : Int → Nat) (par : Int → Int) (many most : Int), Land m doors rank par → 1 ≤ many → many ≤ 24 → 1 ≤ most → most ≤ 24 → ∃ (t' : Tape) (S : List (List Int)), e.sem [.par t.v, .fz (landV m doors), .fz (.int many), .fz (.int most)] = .ok (.fz (strV S), .par t'.v) ∧ (∀ s ∈ S, Good m rank par s) ∧ S.length = many.toNat
theorem strolls_step (e : FnE) (np : e.np = 3) (tv t2v : List Val) (l : Val) (many most a : Int) (z : Val) (h : e.sem [.par tv, .fz l, .fz (.int most)] = .ok (.fz z, .par t2v)) :
    dVO (callD1 e 0 (aCons (dVar 0) (aCons (dVar 1) (aCons (dVar 3) aNil)))) [.par tv, .fz l, .fz (.int many), .fz (.int most), .fz (.int a)] = .ok (z, [.par t2v, .fz l, .fz (.int many), .fz (.int most), .fz (.int a)]) := by
  simp [fo_ok, th_nx, th_rt, th_bk, th_ct, op_s, ob_ok, oo_s, de_v, de_s, ds_n, ds_c, ts_n, ts_c, tv_v, tv_s, fl_rt, fl_nx, x_dHV, x_dVar, x_dC, x_dVH, x_dIt, x_dRg, x_tYesD, x_dU, x_sPut, x_d2, x_aNil, x_aCons, x_dN, x_pNone, x_pSome, x_dSl, x_dTup, x_dOV, x_dVO, x_dLst, x_tOf, x_tBl, x_dChain, x_tAndD, x_tOrD, x_tNotD, x_vAnd, x_vOr, x_vNot, x_dIf, x_dNeg, x_dIsN, x_dNotN, x_dNo, x_dR1, x_dR2, x_dLR, x_dIsi, x_sSkip, x_sBreak, x_sCont, x_sSeq, x_sIf, x_sDrop, x_sRet, x_asg, x_sSet, x_gNm, x_gN, x_gC, x_gTp, x_sAsg, x_sPar, x_g1, x_g2, x_go1, x_callD0, x_callD1, parOf, putV, lstOf, setL, frOf, Sl.view, add_int, sub_int, int_int, ixl, ixt, len_lst, len_tup, lt_int, gt_int, le_int, ge_int, eq_int, ne_int, at0, at1, at2, at3, notNo, isNone, tupOf, np, h]
theorem strolls_core (e : FnE) (he : StrollOk e) (t : Tape) (m : Int) (doors : List (Int × Int)) (rank : Int → Nat) (par : Int → Int) (many most : Int) (LD : Land m doors rank par) (h1 : 1 ≤ many) (h2 : many ≤ 24) (h3 : 1 ≤ most) (h4 : most ≤ 24) :
    ∃ (t' : Tape) (S : List (List Int)), flRes 4 (some 0) (D__law_strolls e [.par t.v, .fz (landV m doors), .fz (.int many), .fz (.int most), .no]) = .ok (.fz (strV S), .par t'.v) ∧ (∀ s ∈ S, Good m rank par s) ∧ S.length = many.toNat := by
  obtain ⟨np, hx⟩ := he
  have lc := lcL_all (g := gNm 4) (t := tYesD) (e := dVO (callD1 e 0 (aCons (dVar 0) (aCons (dVar 1) (aCons (dVar 3) aNil))))) (vs := [4]) Val.int (rangeI 0 many)
    (fun pre out ρ => ∃ (t : Tape) (S : List (List Int)), ρ = [.par t.v, .fz (landV m doors), .fz (.int many), .fz (.int most), .no] ∧ out = S.map rowV ∧ (∀ s ∈ S, Good m rank par s) ∧ S.length = pre.length)
    (ρ := [.par t.v, .fz (landV m doors), .fz (.int many), .fz (.int most), .no]) ⟨t, [], rfl, rfl, by simp, rfl⟩ fun pre a post out ρ e0 h => by
      obtain ⟨t, S, rfl, rfl, c1, c2⟩ := h
      obtain ⟨t2, s, k1, k2⟩ := hx t m doors rank par most LD h3 h4
      have st := strolls_step e np t.v t2.v (landV m doors) many most a (rowV s) k1
      refine ⟨[.par t.v, .fz (landV m doors), .fz (.int many), .fz (.int most), .fz (.int a)], true, [.par t.v, .fz (landV m doors), .fz (.int many), .fz (.int most), .fz (.int a)], by simp [gNm], rfl, .inl ⟨rfl, _, _, st, t2, S ++ [s], by simp [wipeE], by simp, fun x hx => ?_, by simp [c2]⟩⟩
      rcases List.mem_append.mp hx with h | h
      · exact c1 x h
      · rw [List.mem_singleton.mp h]; exact k2
  obtain ⟨ys, ρ', l1, t', S, rfl, rfl, c1, c2⟩ := lc
  rw [length_rangeI] at c2
  have k2 := lc_eq (it := dRg (dR1 (dVH (dVar 2)))) (xs := (rangeI 0 many).map .int) (ρ := [.par t.v, .fz (landV m doors), .fz (.int many), .fz (.int most), .no]) (ρ1 := [.par t.v, .fz (landV m doors), .fz (.int many), .fz (.int most), .no]) (rg1 (by simp [fo_ok, th_nx, th_rt, th_bk, th_ct, op_s, ob_ok, oo_s, de_v, de_s, ds_n, ds_c, ts_n, ts_c, tv_v, tv_s, fl_rt, fl_nx, x_dHV, x_dVar, x_dC, x_dVH, x_dIt, x_dRg, x_tYesD, x_dU, x_sPut, x_d2, x_aNil, x_aCons, x_dN, x_pNone, x_pSome, x_dSl, x_dTup, x_dOV, x_dVO, x_dLst, x_tOf, x_tBl, x_dChain, x_tAndD, x_tOrD, x_tNotD, x_vAnd, x_vOr, x_vNot, x_dIf, x_dNeg, x_dIsN, x_dNotN, x_dNo, x_dR1, x_dR2, x_dLR, x_dIsi, x_sSkip, x_sBreak, x_sCont, x_sSeq, x_sIf, x_sDrop, x_sRet, x_asg, x_sSet, x_gNm, x_gN, x_gC, x_gTp, x_sAsg, x_sPar, x_g1, x_g2, x_go1, x_callD0, x_callD1, parOf, putV, lstOf, setL, frOf, Sl.view, add_int, sub_int, int_int, ixl, ixt, len_lst, len_tup, lt_int, gt_int, le_int, ge_int, eq_int, ne_int, at0, at1, at2, at3, notNo, isNone, tupOf]) (by omega)) (ok_size (by rw [List.length_map, length_rangeI]; omega)) (by rw [show wipeE [Sl.par t.v, .fz (landV m doors), .fz (.int many), .fz (.int most), .no] [4] = [.par t.v, .fz (landV m doors), .fz (.int many), .fz (.int most), .no] from rfl]; exact l1)
  rw [show rest [Sl.par t.v, .fz (landV m doors), .fz (.int many), .fz (.int most), .no] [4] [.par t'.v, .fz (landV m doors), .fz (.int many), .fz (.int most), .no] = [.par t'.v, .fz (landV m doors), .fz (.int many), .fz (.int most), .no] from rfl] at k2
  refine ⟨t', S, ?_, c1, by omega⟩
  have h6 : D__law_strolls e [.par t.v, .fz (landV m doors), .fz (.int many), .fz (.int most), .no] = .rt (.fz (strV S)) [.par t'.v, .fz (landV m doors), .fz (.int many), .fz (.int most), .no] := by
    unfold D__law_strolls strV
    generalize dLc (dRg (dR1 (dVH (dVar 2)))) (gNm 4) tYesD (dVO (callD1 e 0 (aCons (dVar 0) (aCons (dVar 1) (aCons (dVar 3) aNil))))) [4] = X at *
    generalize S.map rowV = SV at *
    simp [fo_ok, th_nx, th_rt, th_bk, th_ct, op_s, ob_ok, oo_s, de_v, de_s, ds_n, ds_c, ts_n, ts_c, tv_v, tv_s, fl_rt, fl_nx, x_dHV, x_dVar, x_dC, x_dVH, x_dIt, x_dRg, x_tYesD, x_dU, x_sPut, x_d2, x_aNil, x_aCons, x_dN, x_pNone, x_pSome, x_dSl, x_dTup, x_dOV, x_dVO, x_dLst, x_tOf, x_tBl, x_dChain, x_tAndD, x_tOrD, x_tNotD, x_vAnd, x_vOr, x_vNot, x_dIf, x_dNeg, x_dIsN, x_dNotN, x_dNo, x_dR1, x_dR2, x_dLR, x_dIsi, x_sSkip, x_sBreak, x_sCont, x_sSeq, x_sIf, x_sDrop, x_sRet, x_asg, x_sSet, x_gNm, x_gN, x_gC, x_gTp, x_sAsg, x_sPar, x_g1, x_g2, x_go1, x_callD0, x_callD1, parOf, putV, lstOf, setL, frOf, Sl.view, add_int, sub_int, int_int, ixl, ixt, len_lst, len_tup, lt_int, gt_int, le_int, ge_int, eq_int, ne_int, at0, at1, at2, at3, notNo, isNone, tupOf, k2, tupV]
  rw [h6, fl_rt]
  simp [parOf, notNo]
theorem strolls_ok : StrollsOk E__law_strolls := ⟨rfl, fun t m doors rank par many most LD h1 h2 h3 h4 => by
  obtain ⟨t', S, k1, k2⟩ := strolls_core E__law_stroll stroll_ok t m doors rank par many most LD h1 h2 h3 h4
  exact ⟨t', S, by rw [s__law_strolls]; exact k1, k2⟩⟩
def ThroughOk (e : FnE) : Prop := e.np = 5 ∧ ∀ (t : Tape) (m : Int) (doors : List (Int × Int)) (rank : Int → Nat) (par : Int → Int) (room many most : Int), Land m doors rank par → 0 ≤ room → room < m → 1 ≤ many → many ≤ 24 → 1 ≤ most → most ≤ 24 → ∃ (t' : Tape) (S : List (List Int)), e.sem [.par t.v, .fz (landV m doors), .fz (.int room), .fz (.int many), .fz (.int most)] = .ok (.fz (strV S), .par t'.v) ∧ (∀ s ∈ S, Good m rank par s ∧ room ∈ s) ∧ S.length = many.toNat
theorem through_core (et eb : FnE) (ht : TakeOk et) (hb : BehindOk eb) (t : Tape) (m : Int) (doors : List (Int × Int)) (rank : Int → Nat) (par : Int → Int) (room many most : Int) (LD : Land m doors rank par) (r1 : 0 ≤ room) (r2 : room < m) (h1 : 1 ≤ many) (h2 : many ≤ 24) (h3 : 1 ≤ most) (h4 : most ≤ 24) :
    ∃ (t' : Tape) (S : List (List Int)), flRes 5 (some 0) (D__law_through et eb [.par t.v, .fz (landV m doors), .fz (.int room), .fz (.int many), .fz (.int most), .no, .no, .no, .no, .no, .no, .no]) = .ok (.fz (strV S), .par t'.v) ∧ (∀ s ∈ S, Good m rank par s ∧ room ∈ s) ∧ S.length = many.toNat := by
  have np := ht.1
  have h1s : (1:Nat) ≤ sizeLine := ok_size (by decide)
  have lp := forL_all (g := gNm 6) (b := (sSeq (sSet 7 (dLst (aCons (dVar 2) aNil)))
  (sSeq (sFor (dRg (dR1 (dVO (callD1 et 0 (aCons (dVar 0) (aCons (dVar 4) aNil)))))) (gNm 8) (sSeq (sSet 9 (dLst aNil))
  (sSeq (sForV 7 (gNm 10) (sDrop (dOV (dU extV 9 (aCons (dHV (dVO (dLc (dIt (dVO (callD0 eb (aCons (dVar 1) (aCons (dVar 10) aNil))))) (gNm 11) (tBl (d2 ninV (dVar 11) (dVar 7))) (dVH (dVar 11)) [11]))) aNil)))))
  (sIf (tBl (d2 neV (dVar 9) (dHV (dVO (dLst aNil))))) (sDrop (dOV (dU appV 7 (aCons (dHV (d2 ixV (dVar 9) (dHV (dVO (callD1 et 0 (aCons (dVar 0) (aCons (dHV (dN (g1 lenV) (aCons (dVar 9) aNil))) aNil))))))) aNil)))) sSkip))))
  (sDrop (dOV (dU appV 5 (aCons (dHV (dN (g1 tupV) (aCons (dHV (dVO (dNo (go1 sortV) (aCons (dVar 7) aNil)))) aNil))) aNil))))))) Val.int (rangeI 0 many)
    (fun pre ρ => ∃ (t : Tape) (S : List (List Int)) (s6 s7 s8 s9 s10 : Sl), ρ = [.par t.v, .fz (landV m doors), .fz (.int room), .fz (.int many), .fz (.int most), .own (S.map rowV), s6, s7, s8, s9, s10, .no] ∧ (∀ s ∈ S, Good m rank par s ∧ room ∈ s) ∧ S.length = pre.length)
    (ρ := [.par t.v, .fz (landV m doors), .fz (.int room), .fz (.int many), .fz (.int most), .own [], .no, .no, .no, .no, .no, .no]) ⟨t, [], .no, .no, .no, .no, .no, rfl, by simp, rfl⟩ fun pre a post ρ e9 h => by
      obtain ⟨t, found, s6, s7, s8, s9, s10, rfl, c1, c2⟩ := h
      have hpl : pre.length < (rangeI 0 many).length := by rw [e9]; simp
      rw [length_rangeI] at hpl
      obtain ⟨d1, t2, hd1, e1⟩ := ht.2 t most (by omega) (by omega)
      have lq := forL_all (g := gNm 8) (b := (sSeq (sSet 9 (dLst aNil))
  (sSeq (sForV 7 (gNm 10) (sDrop (dOV (dU extV 9 (aCons (dHV (dVO (dLc (dIt (dVO (callD0 eb (aCons (dVar 1) (aCons (dVar 10) aNil))))) (gNm 11) (tBl (d2 ninV (dVar 11) (dVar 7))) (dVH (dVar 11)) [11]))) aNil)))))
  (sIf (tBl (d2 neV (dVar 9) (dHV (dVO (dLst aNil))))) (sDrop (dOV (dU appV 7 (aCons (dHV (d2 ixV (dVar 9) (dHV (dVO (callD1 et 0 (aCons (dVar 0) (aCons (dHV (dN (g1 lenV) (aCons (dVar 9) aNil))) aNil))))))) aNil)))) sSkip)))) Val.int (rangeI 0 d1)
        (fun pre ρ => ∃ (t : Tape) (S : List Int) (s8 s9 s10 : Sl), ρ = [.par t.v, .fz (landV m doors), .fz (.int room), .fz (.int many), .fz (.int most), .own (found.map rowV), .fz (.int a), .own (S.map .int), s8, s9, s10, .no] ∧ Conn rank par S ∧ (∀ x ∈ S, 0 ≤ x ∧ x < m) ∧ S.length ≤ pre.length + 1 ∧ room ∈ S)
        (ρ := [.par t2.v, .fz (landV m doors), .fz (.int room), .fz (.int many), .fz (.int most), .own (found.map rowV), .fz (.int a), .own [.int room], s8, s9, s10, .no]) ⟨t2, [room], s8, s9, s10, rfl, conn_one _ _ _, fun x hx => by rw [List.mem_singleton.mp hx]; omega, by simp, by simp⟩ fun pre b post ρ e9 h => by
          obtain ⟨t, S, s8, s9, s10, rfl, q1, q2, q3, q4⟩ := h
          have hpl : pre.length < (rangeI 0 d1).length := by rw [e9]; simp
          rw [length_rangeI] at hpl
          obtain ⟨t', S', s9', s10', k1, k2, k3, k4, k5⟩ := through_turn eb et hb ht LD S (by omega) q1 q2 t room many most (found.map rowV) (.fz (.int a)) (.fz (.int b)) s9 s10
          exact ⟨_, _, by simp [gNm], .inl k1, t', S', _, _, _, rfl, k2, k3, by rw [List.length_append, List.length_singleton]; omega, k5 _ q4⟩
      obtain ⟨ρ', l1, t3, S, s8', s9', s10', rfl, q1, q2, q3, q4⟩ := lq
      rw [length_rangeI] at q3
      have hS : S.length ≤ 100 := by omega
      have hso := tup_sorted S hS
      have hf : (found.map rowV).length < sizeLine := by
        rw [List.length_map]
        exact Nat.lt_of_lt_of_le (by omega : found.length < 1000) (ok_size (by decide))
      refine ⟨[.par t.v, .fz (landV m doors), .fz (.int room), .fz (.int many), .fz (.int most), .own (found.map rowV), .fz (.int a), s7, s8, s9, s10, .no], [.par t3.v, .fz (landV m doors), .fz (.int room), .fz (.int many), .fz (.int most), .own ((found ++ [srt Val.int S]).map rowV), .fz (.int a), .own (S.map .int), s8', s9', s10', .no], by simp [gNm], .inl ?_, t3, found ++ [srt Val.int S], _, _, _, _, _, rfl, fun x hx => ?_, by simp [c2]⟩
      · rw [seq_nx (ρ' := [.par t.v, .fz (landV m doors), .fz (.int room), .fz (.int many), .fz (.int most), .own (found.map rowV), .fz (.int a), .own [.int room], s8, s9, s10, .no]) (by simp [fo_ok, th_nx, th_rt, th_bk, th_ct, op_s, ob_ok, oo_s, de_v, de_s, ds_n, ds_c, ts_n, ts_c, tv_v, tv_s, fl_rt, fl_nx, x_dHV, x_dVar, x_dC, x_dVH, x_dIt, x_dRg, x_tYesD, x_dU, x_sPut, x_d2, x_aNil, x_aCons, x_dN, x_pNone, x_pSome, x_dSl, x_dTup, x_dOV, x_dVO, x_dLst, x_tOf, x_tBl, x_dChain, x_tAndD, x_tOrD, x_tNotD, x_vAnd, x_vOr, x_vNot, x_dIf, x_dNeg, x_dIsN, x_dNotN, x_dNo, x_dR1, x_dR2, x_dLR, x_dIsi, x_sSkip, x_sBreak, x_sCont, x_sSeq, x_sIf, x_sDrop, x_sRet, x_asg, x_sSet, x_gNm, x_gN, x_gC, x_gTp, x_sAsg, x_sPar, x_g1, x_g2, x_go1, x_callD0, x_callD1, parOf, putV, lstOf, setL, frOf, Sl.view, add_int, sub_int, int_int, ixl, ixt, len_lst, len_tup, lt_int, gt_int, le_int, ge_int, eq_int, ne_int, at0, at1, at2, at3, notNo, isNone, tupOf, h1s])]
        rw [seq_nx (ρ' := [.par t3.v, .fz (landV m doors), .fz (.int room), .fz (.int many), .fz (.int most), .own (found.map rowV), .fz (.int a), .own (S.map .int), s8', s9', s10', .no])]
        · rw [List.map_append, List.map_singleton]
          unfold rowV at hf ⊢
          generalize found.map (fun s => Val.tup (s.map Val.int)) = FV at *
          generalize S.map Val.int = SV at *
          generalize (srt Val.int S).map Val.int = RV at *
          simp [fo_ok, th_nx, th_rt, th_bk, th_ct, op_s, ob_ok, oo_s, de_v, de_s, ds_n, ds_c, ts_n, ts_c, tv_v, tv_s, fl_rt, fl_nx, x_dHV, x_dVar, x_dC, x_dVH, x_dIt, x_dRg, x_tYesD, x_dU, x_sPut, x_d2, x_aNil, x_aCons, x_dN, x_pNone, x_pSome, x_dSl, x_dTup, x_dOV, x_dVO, x_dLst, x_tOf, x_tBl, x_dChain, x_tAndD, x_tOrD, x_tNotD, x_vAnd, x_vOr, x_vNot, x_dIf, x_dNeg, x_dIsN, x_dNotN, x_dNo, x_dR1, x_dR2, x_dLR, x_dIsi, x_sSkip, x_sBreak, x_sCont, x_sSeq, x_sIf, x_sDrop, x_sRet, x_asg, x_sSet, x_gNm, x_gN, x_gC, x_gTp, x_sAsg, x_sPar, x_g1, x_g2, x_go1, x_callD0, x_callD1, parOf, putV, lstOf, setL, frOf, Sl.view, add_int, sub_int, int_int, ixl, ixt, len_lst, len_tup, lt_int, gt_int, le_int, ge_int, eq_int, ne_int, at0, at1, at2, at3, notNo, isNone, tupOf, hso, tupV, appV, hf]
        · rw [for_eq (rg1 (n := d1) (ρ' := [.par t2.v, .fz (landV m doors), .fz (.int room), .fz (.int many), .fz (.int most), .own (found.map rowV), .fz (.int a), .own [.int room], s8, s9, s10, .no]) (by simp [fo_ok, th_nx, th_rt, th_bk, th_ct, op_s, ob_ok, oo_s, de_v, de_s, ds_n, ds_c, ts_n, ts_c, tv_v, tv_s, fl_rt, fl_nx, x_dHV, x_dVar, x_dC, x_dVH, x_dIt, x_dRg, x_tYesD, x_dU, x_sPut, x_d2, x_aNil, x_aCons, x_dN, x_pNone, x_pSome, x_dSl, x_dTup, x_dOV, x_dVO, x_dLst, x_tOf, x_tBl, x_dChain, x_tAndD, x_tOrD, x_tNotD, x_vAnd, x_vOr, x_vNot, x_dIf, x_dNeg, x_dIsN, x_dNotN, x_dNo, x_dR1, x_dR2, x_dLR, x_dIsi, x_sSkip, x_sBreak, x_sCont, x_sSeq, x_sIf, x_sDrop, x_sRet, x_asg, x_sSet, x_gNm, x_gN, x_gC, x_gTp, x_sAsg, x_sPar, x_g1, x_g2, x_go1, x_callD0, x_callD1, parOf, putV, lstOf, setL, frOf, Sl.view, add_int, sub_int, int_int, ixl, ixt, len_lst, len_tup, lt_int, gt_int, le_int, ge_int, eq_int, ne_int, at0, at1, at2, at3, notNo, isNone, tupOf, np, e1]) (by omega))]
          exact l1
      · rcases List.mem_append.mp hx with h | h
        · exact c1 x h
        · rw [List.mem_singleton.mp h]
          exact ⟨⟨conn_perm q1 (srt_perm _ _), fun x hx => q2 x ((srt_perm _ _).mem_iff.mp hx), by rw [(srt_perm Val.int S).length_eq]; exact hS⟩, (srt_perm _ _).mem_iff.mpr q4⟩
  obtain ⟨ρ', l1, t3, S, s6, s7, s8, s9, s10, rfl, c1, c2⟩ := lp
  rw [length_rangeI] at c2
  refine ⟨t3, S, ?_, c1, by omega⟩
  have h6 : D__law_through et eb [.par t.v, .fz (landV m doors), .fz (.int room), .fz (.int many), .fz (.int most), .no, .no, .no, .no, .no, .no, .no] = .rt (.fz (strV S)) [.par t3.v, .fz (landV m doors), .fz (.int room), .fz (.int many), .fz (.int most), .own (S.map rowV), s6, s7, s8, s9, s10, .no] := by
    unfold D__law_through
    rw [seq_nx (ρ' := [.par t.v, .fz (landV m doors), .fz (.int room), .fz (.int many), .fz (.int most), .own [], .no, .no, .no, .no, .no, .no]) (by simp [fo_ok, th_nx, th_rt, th_bk, th_ct, op_s, ob_ok, oo_s, de_v, de_s, ds_n, ds_c, ts_n, ts_c, tv_v, tv_s, fl_rt, fl_nx, x_dHV, x_dVar, x_dC, x_dVH, x_dIt, x_dRg, x_tYesD, x_dU, x_sPut, x_d2, x_aNil, x_aCons, x_dN, x_pNone, x_pSome, x_dSl, x_dTup, x_dOV, x_dVO, x_dLst, x_tOf, x_tBl, x_dChain, x_tAndD, x_tOrD, x_tNotD, x_vAnd, x_vOr, x_vNot, x_dIf, x_dNeg, x_dIsN, x_dNotN, x_dNo, x_dR1, x_dR2, x_dLR, x_dIsi, x_sSkip, x_sBreak, x_sCont, x_sSeq, x_sIf, x_sDrop, x_sRet, x_asg, x_sSet, x_gNm, x_gN, x_gC, x_gTp, x_sAsg, x_sPar, x_g1, x_g2, x_go1, x_callD0, x_callD1, parOf, putV, lstOf, setL, frOf, Sl.view, add_int, sub_int, int_int, ixl, ixt, len_lst, len_tup, lt_int, gt_int, le_int, ge_int, eq_int, ne_int, at0, at1, at2, at3, notNo, isNone, tupOf])]
    rw [seq_nx (ρ' := [.par t3.v, .fz (landV m doors), .fz (.int room), .fz (.int many), .fz (.int most), .own (S.map rowV), s6, s7, s8, s9, s10, .no])]
    · unfold strV
      generalize S.map rowV = SV at *
      simp [fo_ok, th_nx, th_rt, th_bk, th_ct, op_s, ob_ok, oo_s, de_v, de_s, ds_n, ds_c, ts_n, ts_c, tv_v, tv_s, fl_rt, fl_nx, x_dHV, x_dVar, x_dC, x_dVH, x_dIt, x_dRg, x_tYesD, x_dU, x_sPut, x_d2, x_aNil, x_aCons, x_dN, x_pNone, x_pSome, x_dSl, x_dTup, x_dOV, x_dVO, x_dLst, x_tOf, x_tBl, x_dChain, x_tAndD, x_tOrD, x_tNotD, x_vAnd, x_vOr, x_vNot, x_dIf, x_dNeg, x_dIsN, x_dNotN, x_dNo, x_dR1, x_dR2, x_dLR, x_dIsi, x_sSkip, x_sBreak, x_sCont, x_sSeq, x_sIf, x_sDrop, x_sRet, x_asg, x_sSet, x_gNm, x_gN, x_gC, x_gTp, x_sAsg, x_sPar, x_g1, x_g2, x_go1, x_callD0, x_callD1, parOf, putV, lstOf, setL, frOf, Sl.view, add_int, sub_int, int_int, ixl, ixt, len_lst, len_tup, lt_int, gt_int, le_int, ge_int, eq_int, ne_int, at0, at1, at2, at3, notNo, isNone, tupOf, tupV]
    · rw [for_eq (rg1 (n := many) (ρ' := [.par t.v, .fz (landV m doors), .fz (.int room), .fz (.int many), .fz (.int most), .own [], .no, .no, .no, .no, .no, .no]) (by simp [fo_ok, th_nx, th_rt, th_bk, th_ct, op_s, ob_ok, oo_s, de_v, de_s, ds_n, ds_c, ts_n, ts_c, tv_v, tv_s, fl_rt, fl_nx, x_dHV, x_dVar, x_dC, x_dVH, x_dIt, x_dRg, x_tYesD, x_dU, x_sPut, x_d2, x_aNil, x_aCons, x_dN, x_pNone, x_pSome, x_dSl, x_dTup, x_dOV, x_dVO, x_dLst, x_tOf, x_tBl, x_dChain, x_tAndD, x_tOrD, x_tNotD, x_vAnd, x_vOr, x_vNot, x_dIf, x_dNeg, x_dIsN, x_dNotN, x_dNo, x_dR1, x_dR2, x_dLR, x_dIsi, x_sSkip, x_sBreak, x_sCont, x_sSeq, x_sIf, x_sDrop, x_sRet, x_asg, x_sSet, x_gNm, x_gN, x_gC, x_gTp, x_sAsg, x_sPar, x_g1, x_g2, x_go1, x_callD0, x_callD1, parOf, putV, lstOf, setL, frOf, Sl.view, add_int, sub_int, int_int, ixl, ixt, len_lst, len_tup, lt_int, gt_int, le_int, ge_int, eq_int, ne_int, at0, at1, at2, at3, notNo, isNone, tupOf]) (by omega))]
      exact l1
  rw [h6, fl_rt]
  simp [parOf, notNo]
theorem through_ok : ThroughOk E__law_through := ⟨rfl, fun t m doors rank par room many most LD r1 r2 h1 h2 h3 h4 => by
  obtain ⟨t', S, k1, k2⟩ := through_core E__law_take E__law_behind take_ok behind_ok t m doors rank par room many most LD r1 r2 h1 h2 h3 h4
  exact ⟨t', S, by rw [s__law_through]; exact k1, k2⟩⟩

/-! ### the law -/
theorem head_prs {n : Int} {p : Int → Int → Bool} {i j : Int} (h : (i, j) ∈ prs n p) : ∃ i j tl, prs n p = (i, j) :: tl := by
  cases e : prs n p with
  | nil => rw [e] at h; cases h
  | cons a tl => exact ⟨a.1, a.2, tl, rfl⟩
theorem mem_get {S : List (List Int)} {s : List Int} (h : s ∈ S) : ∃ i : Nat, i < S.length ∧ (S[((i : Int)).toNat]?).getD [] = s := by
  obtain ⟨i, hi, e⟩ := List.getElem_of_mem h
  exact ⟨i, hi, by simp [hi, e]⟩
/-- both answer alike -/
theorem answers (ed eg : FnE) (hd : AnsOk ed) (hg : AnsOk eg) {m : Int} {doors : List (Int × Int)} {rank : Int → Nat} {par : Int → Int} (LD : Land m doors rank par) (S : List (List Int)) (hS : S ≠ []) (hn : S.length ≤ 100) (hc : ∀ s ∈ S, Good m rank par s) :
    ∃ v : Val, ed.sem [.fz (landV m doors), .fz (strV S)] = .ok (.fz v, .no) ∧ eg.sem [.fz (landV m doors), .fz (strV S)] = .ok (.fz v, .no) ∧ isNone v = false ∧ gd v = true ∧ dp v < 8 ∧ wd v = true := by
  have m1 := LD.m1
  have m2 := LD.m2
  have hs : ∀ s ∈ S, s.length ≤ 1000 := fun s h => by have := (hc s h).2.2; omega
  obtain ⟨d1, d2⟩ := hd.2 m doors S (by omega) m2 hn hs
  obtain ⟨g1, g2⟩ := hg.2 m doors S (by omega) m2 hn hs
  cases hf : (rangeI 0 m).find? (com S) with
  | some r0 =>
    refine ⟨_, d1 r0 hf, g1 r0 hf, rfl, by simp [gd, gds, strS], ?_, by simp [wd, wds, strS]⟩
    have := dp_tup (n := 0) (xs := [strS, .int r0]) (by
      intro x hx
      rcases List.mem_cons.mp hx with h | h
      · rw [h]; unfold strS; rw [dp_str]; exact Nat.le_refl _
      · rw [List.mem_singleton.mp h, dp_int]; exact Nat.le_refl _)
    omega
  | none =>
    have : ∃ i j, (i, j) ∈ apart S := by
      refine Classical.byContradiction fun hno => ?_
      have hm : ∀ s ∈ S, ∀ t ∈ S, ∃ x, x ∈ s ∧ x ∈ t := by
        have meets : ∀ (i j : Nat), i < j → j < S.length → ∃ x, x ∈ (S[((i : Int)).toNat]?).getD [] ∧ x ∈ (S[((j : Int)).toNat]?).getD [] := fun i j hij hj => by
          have hmt : meet S i j = true := by
            cases q : meet S i j with
            | true => rfl
            | false => exact absurd ⟨(i : Int), (j : Int), mem_prs.mpr ⟨by omega, by omega, by omega, by show (!meet S i j) = true; rw [q]; rfl⟩⟩ hno
          unfold meet at hmt
          obtain ⟨x, h1, h2⟩ := List.any_eq_true.mp hmt
          exact ⟨x, h1, of_decide_eq_true h2⟩
        intro s h1 t h2
        obtain ⟨i, hi, e1⟩ := mem_get h1
        obtain ⟨j, hj, e2⟩ := mem_get h2
        rcases Nat.lt_trichotomy i j with h | h | h
        · obtain ⟨x, k1, k2⟩ := meets i j h hj
          rw [e1] at k1; rw [e2] at k2
          exact ⟨x, k1, k2⟩
        · subst h
          rw [e1] at e2
          obtain ⟨top, ht, _⟩ := (hc s h1).1
          exact ⟨top, ht, by rw [← e2]; exact ht⟩
        · obtain ⟨x, k1, k2⟩ := meets j i h hi
          rw [e2] at k1; rw [e1] at k2
          exact ⟨x, k2, k1⟩
      obtain ⟨r, ⟨s, h1, h2⟩, h3⟩ := helly hS (fun s h => (hc s h).1) hm
      have hr := (hc s h1).2.1 r h2
      have := List.find?_eq_none.mp hf r (mem_rangeI.mpr hr)
      exact this (List.all_eq_true.mpr fun t ht => decide_eq_true (h3 t ht))
    obtain ⟨i, j, hij⟩ := this
    obtain ⟨i, j, tl, htl⟩ := head_prs hij
    refine ⟨_, d2 hf i j tl htl, g2 hf i j tl htl, rfl, by simp [gd, gds, apS], ?_, by simp [wd, wds, apS]⟩
    have := dp_tup (n := 0) (xs := [apS, .int i, .int j]) (by
      intro x hx
      rcases List.mem_cons.mp hx with h | h
      · rw [h]; unfold apS; rw [dp_str]; exact Nat.le_refl _
      · rcases List.mem_cons.mp h with h | h
        · rw [h, dp_int]; exact Nat.le_refl _
        · rw [List.mem_singleton.mp h, dp_int]; exact Nat.le_refl _)
    omega
theorem due_room (ed : FnE) (hd : AnsOk ed) {m : Int} {doors : List (Int × Int)} {rank : Int → Nat} {par : Int → Int} (LD : Land m doors rank par) (S : List (List Int)) (hn : S.length ≤ 100) (room : Int) (r1 : 0 ≤ room) (r2 : room < m) (hc : ∀ s ∈ S, Good m rank par s ∧ room ∈ s) :
    ∃ r0, ed.sem [.fz (landV m doors), .fz (strV S)] = .ok (.fz (.tup [strS, .int r0]), .no) := by
  have m1 := LD.m1
  have m2 := LD.m2
  have hs : ∀ s ∈ S, s.length ≤ 1000 := fun s h => by have := (hc s h).1.2.2; omega
  obtain ⟨d1, d2⟩ := hd.2 m doors S (by omega) m2 hn hs
  cases hf : (rangeI 0 m).find? (com S) with
  | some r0 => exact ⟨r0, d1 r0 hf⟩
  | none =>
    have := List.find?_eq_none.mp hf room (mem_rangeI.mpr ⟨r1, r2⟩)
    exact absurd (List.all_eq_true.mpr fun t ht => decide_eq_true (hc t ht).2) this
theorem check_one (ed es eg : FnE) (nd : ed.np = 2) (ns : es.np = 2) (ng : eg.np = 2) (l sv v : Val) (s0 s1 s2 s4 s5 s6 s8 : Sl) (h1 : ed.sem [.fz l, .fz sv] = .ok (.fz v, .no)) (h2 : eg.sem [.fz l, .fz sv] = .ok (.fz v, .no)) (h3 : es.sem [.fz v, .fz v] = .ok (.fz (.bl true), .no)) (h4 : isNone v = false) :
    (sSeq (sSet 8 (callD0 ed (aCons (dVar 3) (aCons (dVar 7) aNil))))
  (sIf (tOrD (tBl (dIsN (dVH (dVar 8)))) (tNotD (tOf (dHV (dVO (callD0 es (aCons (dHV (dVO (callD0 eg (aCons (dVar 3) (aCons (dVar 7) aNil))))) (aCons (dVar 8) aNil)))))))) (sRet (dOV (dC (.bl false)))) sSkip)) [s0, s1, s2, .fz l, s4, s5, s6, .fz sv, s8] = .nx [s0, s1, s2, .fz l, s4, s5, s6, .fz sv, .fz v] := by
  rw [seq_nx (ρ' := [s0, s1, s2, .fz l, s4, s5, s6, .fz sv, .fz v]) (by simp [fo_ok, th_nx, th_rt, th_bk, th_ct, op_s, ob_ok, oo_s, de_v, de_s, ds_n, ds_c, ts_n, ts_c, tv_v, tv_s, fl_rt, fl_nx, x_dHV, x_dVar, x_dC, x_dVH, x_dIt, x_dRg, x_tYesD, x_dU, x_sPut, x_d2, x_aNil, x_aCons, x_dN, x_pNone, x_pSome, x_dSl, x_dTup, x_dOV, x_dVO, x_dLst, x_tOf, x_tBl, x_dChain, x_tAndD, x_tOrD, x_tNotD, x_vAnd, x_vOr, x_vNot, x_dIf, x_dNeg, x_dIsN, x_dNotN, x_dNo, x_dR1, x_dR2, x_dLR, x_dIsi, x_sSkip, x_sBreak, x_sCont, x_sSeq, x_sIf, x_sDrop, x_sRet, x_asg, x_sSet, x_gNm, x_gN, x_gC, x_gTp, x_sAsg, x_sPar, x_g1, x_g2, x_go1, x_callD0, x_callD1, parOf, putV, lstOf, setL, frOf, Sl.view, add_int, sub_int, int_int, ixl, ixt, len_lst, len_tup, lt_int, gt_int, le_int, ge_int, eq_int, ne_int, at0, at1, at2, at3, notNo, isNone, tupOf, nd, h1])]
  have q : isNone v = false := h4
  rw [if_f (ρ' := [s0, s1, s2, .fz l, s4, s5, s6, .fz sv, .fz v])]
  · rfl
  · simp only [x_tOrD, x_tBl, x_dIsN, x_dVH, x_dVar, x_tNotD, x_tOf, x_dHV, x_dVO, x_callD0, x_aCons, x_aNil]
    simp [ob_ok, oo_s, tv_v, ts_c, ts_n, q, nd, ns, ng, h2, h3, frOf, notNo, de_v, truth]
theorem cut24 (S : List (List Int)) (h1 : 1 ≤ S.length) (h2 : S.length ≤ 48) : ∃ T : List (List Int), slV (strV S) (some (-24)) none = some (strV T) ∧ T ≠ [] ∧ T.length ≤ 100 ∧ ∀ s ∈ T, s ∈ S := by
  have k1 : cutL (S.map rowV) (some (-24)) none = ((S.drop (HT.sIx S.length 0 (some (-24)))).take (S.length - HT.sIx S.length 0 (some (-24)))).map rowV := by
    unfold cutL
    rw [List.length_map, ← List.map_drop, ← List.map_take]
    rfl
  have k2 : HT.sIx S.length 0 (some (-24)) < S.length := by
    show (if (-24 : Int) < 0 then ((-24 : Int) + (S.length : Int)).toNat else min (-24 : Int).toNat S.length) < _
    rw [if_pos (by decide)]
    omega
  generalize HT.sIx S.length 0 (some (-24)) = a at *
  refine ⟨(S.drop a).take (S.length - a), by show some (Val.tup _) = _; rw [k1]; rfl, fun z => ?_, ?_, fun s hs => List.mem_of_mem_drop (List.mem_of_mem_take hs)⟩
  · have := congrArg List.length z
    rw [List.length_take, List.length_drop] at this
    simp at this
    omega
  · rw [List.length_take, List.length_drop]
    omega
theorem sets3 (er : FnE) (nr : er.np = 4) (tv t2v : List Val) (l r : Val) (most many : Int) (s0 s5 s7 s8 : Sl) (A B C D T : List Val) (h : er.sem [.par tv, .fz l, .fz (.int 1), .fz (.int 4)] = .ok (.fz (.tup C), .par t2v)) (hz : B.length + C.length ≤ sizeLine) (hT : slV (.tup (B ++ C)) (some (-24)) none = some (.tup T)) :
    (sDrop (dOV (dU appV 6 (aCons (dHV (dSl (dHV (d2 addV (dHV (d2 ixV (dVar 6) (dHV (dC (.int 1))))) (dHV (dVO (callD1 er 0 (aCons (dVar 1) (aCons (dVar 3) (aCons (dHV (dC (.int 1))) (aCons (dHV (dC (.int 4))) aNil))))))))) (pSome (dNeg (dC (.int 24)))) pNone)) aNil)))) [s0, .own tv, .fz (.int most), .fz l, .fz (.int many), s5, .own [.tup A, .tup B], s7, s8] = .nx [s0, .own t2v, .fz (.int most), .fz l, .fz (.int many), s5, .own [.tup A, .tup B, .tup T], s7, s8] := by
  have ha : addV (.tup B) (.tup C) = some (.tup (B ++ C)) := by
    show (if B.length + C.length ≤ sizeLine then some (Val.tup (B ++ C)) else none) = _
    rw [if_pos hz]
  have hl : 2 < sizeLine := Nat.lt_of_lt_of_le (by decide : 2 < 3) (ok_size (by decide))
  simp [fo_ok, th_nx, th_rt, th_bk, th_ct, op_s, ob_ok, oo_s, de_v, de_s, ds_n, ds_c, ts_n, ts_c, tv_v, tv_s, fl_rt, fl_nx, x_dHV, x_dVar, x_dC, x_dVH, x_dIt, x_dRg, x_tYesD, x_dU, x_sPut, x_d2, x_aNil, x_aCons, x_dN, x_pNone, x_pSome, x_dSl, x_dTup, x_dOV, x_dVO, x_dLst, x_tOf, x_tBl, x_dChain, x_tAndD, x_tOrD, x_tNotD, x_vAnd, x_vOr, x_vNot, x_dIf, x_dNeg, x_dIsN, x_dNotN, x_dNo, x_dR1, x_dR2, x_dLR, x_dIsi, x_sSkip, x_sBreak, x_sCont, x_sSeq, x_sIf, x_sDrop, x_sRet, x_asg, x_sSet, x_gNm, x_gN, x_gC, x_gTp, x_sAsg, x_sPar, x_g1, x_g2, x_go1, x_callD0, x_callD1, parOf, putV, lstOf, setL, frOf, Sl.view, add_int, sub_int, int_int, ixl, ixt, len_lst, len_tup, lt_int, gt_int, le_int, ge_int, eq_int, ne_int, at0, at1, at2, at3, notNo, isNone, tupOf, nr, h, ha, hT, appV, hl]

theorem last_one (ed : FnE) (nd : ed.np = 2) (l A B T : Val) (s0 s1 s2 s4 s5 s7 s8 : Sl) (r0 : Int) (h : ed.sem [.fz l, .fz B] = .ok (.fz (.tup [strS, .int r0]), .no)) :
    (sIf (tBl (d2 neV (dHV (d2 ixV (dHV (dVO (callD0 ed (aCons (dVar 3) (aCons (dHV (d2 ixV (dVar 6) (dHV (dC (.int 1))))) aNil))))) (dHV (dC (.int 0))))) (dHV (dC (.str "room"))))) (sRet (dOV (dC (.bl false)))) sSkip) [s0, s1, s2, .fz l, s4, s5, .own [A, B, T], s7, s8] = .nx [s0, s1, s2, .fz l, s4, s5, .own [A, B, T], s7, s8] := by
  have h1 : neV strS (.str "room") = some (.bl false) := by
    unfold neV strS
    rw [eqB_b (b := true) rfl rfl (.inl (by rw [dp_str]; omega)) (by simp)]
    rfl
  rw [if_f (ρ' := [s0, s1, s2, .fz l, s4, s5, .own [A, B, T], s7, s8])]
  · rfl
  · simp [fo_ok, th_nx, th_rt, th_bk, th_ct, op_s, ob_ok, oo_s, de_v, de_s, ds_n, ds_c, ts_n, ts_c, tv_v, tv_s, fl_rt, fl_nx, x_dHV, x_dVar, x_dC, x_dVH, x_dIt, x_dRg, x_tYesD, x_dU, x_sPut, x_d2, x_aNil, x_aCons, x_dN, x_pNone, x_pSome, x_dSl, x_dTup, x_dOV, x_dVO, x_dLst, x_tOf, x_tBl, x_dChain, x_tAndD, x_tOrD, x_tNotD, x_vAnd, x_vOr, x_vNot, x_dIf, x_dNeg, x_dIsN, x_dNotN, x_dNo, x_dR1, x_dR2, x_dLR, x_dIsi, x_sSkip, x_sBreak, x_sCont, x_sSeq, x_sIf, x_sDrop, x_sRet, x_asg, x_sSet, x_gNm, x_gN, x_gC, x_gTp, x_sAsg, x_sPar, x_g1, x_g2, x_go1, x_callD0, x_callD1, parOf, putV, lstOf, setL, frOf, Sl.view, add_int, sub_int, int_int, ixl, ixt, len_lst, len_tup, lt_int, gt_int, le_int, ge_int, eq_int, ne_int, at0, at1, at2, at3, notNo, isNone, tupOf, nd, h, h1]
theorem law_turn (ed es eg er eh et eo : FnE) (hd : AnsOk ed) (hs : es.np = 2 ∧ SameOk es 8) (hg : AnsOk eg) (hr : StrollsOk er) (hh : ThroughOk eh) (ht : TakeOk et) (ho : HouseOk eo) (t : Tape) (w0 : Val) (most : Int) (hm : most = 8 ∨ most = 24) (s3 s4 s5 s6 s7 s8 : Sl) :
    ∃ (t' : Tape) (s3' s4' s5' s6' s7' s8' : Sl), (sSeq (sSet 3 (callD1 eo 0 (aCons (dVar 1) (aCons (dVar 2) aNil))))
  (sSeq (sSet 4 (dOV (d2 addV (dHV (dC (.int 1))) (dHV (dVO (callD1 et 0 (aCons (dVar 1) (aCons (dHV (dIf (tBl (d2 eqV (dVar 2) (dHV (dC (.int 8))))) (dC (.int 6)) (dC (.int 24)))) aNil))))))))
  (sSeq (sSet 5 (callD1 et 0 (aCons (dVar 1) (aCons (dHV (d2 ixV (dVar 3) (dHV (dC (.int 0))))) aNil))))
  (sSeq (sSet 6 (dLst (aCons (dHV (dVO (callD1 er 0 (aCons (dVar 1) (aCons (dVar 3) (aCons (dVar 4) (aCons (dVar 2) aNil))))))) (aCons (dHV (dVO (callD1 eh 0 (aCons (dVar 1) (aCons (dVar 3) (aCons (dVar 5) (aCons (dVar 4) (aCons (dVar 2) aNil)))))))) aNil))))
  (sSeq (sDrop (dOV (dU appV 6 (aCons (dHV (dSl (dHV (d2 addV (dHV (d2 ixV (dVar 6) (dHV (dC (.int 1))))) (dHV (dVO (callD1 er 0 (aCons (dVar 1) (aCons (dVar 3) (aCons (dHV (dC (.int 1))) (aCons (dHV (dC (.int 4))) aNil))))))))) (pSome (dNeg (dC (.int 24)))) pNone)) aNil))))
  (sSeq (sForV 6 (gNm 7) (sSeq (sSet 8 (callD0 ed (aCons (dVar 3) (aCons (dVar 7) aNil))))
  (sIf (tOrD (tBl (dIsN (dVH (dVar 8)))) (tNotD (tOf (dHV (dVO (callD0 es (aCons (dHV (dVO (callD0 eg (aCons (dVar 3) (aCons (dVar 7) aNil))))) (aCons (dVar 8) aNil)))))))) (sRet (dOV (dC (.bl false)))) sSkip)))
  (sIf (tBl (d2 neV (dHV (d2 ixV (dHV (dVO (callD0 ed (aCons (dVar 3) (aCons (dHV (d2 ixV (dVar 6) (dHV (dC (.int 1))))) aNil))))) (dHV (dC (.int 0))))) (dHV (dC (.str "room"))))) (sRet (dOV (dC (.bl false)))) sSkip)))))))
    [.fz w0, .own t.v, .fz (.int most), s3, s4, s5, s6, s7, s8] = .nx [.fz w0, .own t'.v, .fz (.int most), s3', s4', s5', s6', s7', s8'] := by
  have hm1 : 1 ≤ most ∧ most ≤ 24 := by omega
  obtain ⟨t1, m, doors, rank, par, e1, LD⟩ := ho.2 t most hm1.1 hm1.2
  have m1 := LD.m1
  have m2 := LD.m2
  have no := ho.1
  have nt := ht.1
  have nr := hr.1
  have nh := hh.1
  obtain ⟨k, hk, hk1⟩ : ∃ k : Int, (1 ≤ k ∧ k ≤ 24) ∧ dIf (tBl (d2 eqV (dVar 2) (dHV (dC (.int 8))))) (dC (.int 6)) (dC (.int 24)) [.fz w0, .own t1.v, .fz (.int most), .fz (landV m doors), s4, s5, s6, s7, s8] = .ok (.int k, [.fz w0, .own t1.v, .fz (.int most), .fz (landV m doors), s4, s5, s6, s7, s8]) := by
    rcases hm with h | h
    · exact ⟨6, by decide, by simp [fo_ok, th_nx, th_rt, th_bk, th_ct, op_s, ob_ok, oo_s, de_v, de_s, ds_n, ds_c, ts_n, ts_c, tv_v, tv_s, fl_rt, fl_nx, x_dHV, x_dVar, x_dC, x_dVH, x_dIt, x_dRg, x_tYesD, x_dU, x_sPut, x_d2, x_aNil, x_aCons, x_dN, x_pNone, x_pSome, x_dSl, x_dTup, x_dOV, x_dVO, x_dLst, x_tOf, x_tBl, x_dChain, x_tAndD, x_tOrD, x_tNotD, x_vAnd, x_vOr, x_vNot, x_dIf, x_dNeg, x_dIsN, x_dNotN, x_dNo, x_dR1, x_dR2, x_dLR, x_dIsi, x_sSkip, x_sBreak, x_sCont, x_sSeq, x_sIf, x_sDrop, x_sRet, x_asg, x_sSet, x_gNm, x_gN, x_gC, x_gTp, x_sAsg, x_sPar, x_g1, x_g2, x_go1, x_callD0, x_callD1, parOf, putV, lstOf, setL, frOf, Sl.view, add_int, sub_int, int_int, ixl, ixt, len_lst, len_tup, lt_int, gt_int, le_int, ge_int, eq_int, ne_int, at0, at1, at2, at3, notNo, isNone, tupOf, h]⟩
    · exact ⟨24, by decide, by simp [fo_ok, th_nx, th_rt, th_bk, th_ct, op_s, ob_ok, oo_s, de_v, de_s, ds_n, ds_c, ts_n, ts_c, tv_v, tv_s, fl_rt, fl_nx, x_dHV, x_dVar, x_dC, x_dVH, x_dIt, x_dRg, x_tYesD, x_dU, x_sPut, x_d2, x_aNil, x_aCons, x_dN, x_pNone, x_pSome, x_dSl, x_dTup, x_dOV, x_dVO, x_dLst, x_tOf, x_tBl, x_dChain, x_tAndD, x_tOrD, x_tNotD, x_vAnd, x_vOr, x_vNot, x_dIf, x_dNeg, x_dIsN, x_dNotN, x_dNo, x_dR1, x_dR2, x_dLR, x_dIsi, x_sSkip, x_sBreak, x_sCont, x_sSeq, x_sIf, x_sDrop, x_sRet, x_asg, x_sSet, x_gNm, x_gN, x_gC, x_gTp, x_sAsg, x_sPar, x_g1, x_g2, x_go1, x_callD0, x_callD1, parOf, putV, lstOf, setL, frOf, Sl.view, add_int, sub_int, int_int, ixl, ixt, len_lst, len_tup, lt_int, gt_int, le_int, ge_int, eq_int, ne_int, at0, at1, at2, at3, notNo, isNone, tupOf, h]⟩
  obtain ⟨d2', t2, hd2, e2⟩ := ht.2 t1 k (by omega) (by omega)
  obtain ⟨d3, t3, hd3, e3⟩ := ht.2 t2 m (by omega) (by omega)
  have hmany : (1:Int) ≤ 1 + d2' ∧ (1:Int) + d2' ≤ 24 := by omega
  generalize hmn : (1:Int) + d2' = many at hmany
  obtain ⟨t4, A, e4, a1, a2⟩ := hr.2 t3 m doors rank par many most LD hmany.1 hmany.2 hm1.1 hm1.2
  obtain ⟨t5, B, e5, b1, b2⟩ := hh.2 t4 m doors rank par d3 many most LD (by omega) (by omega) hmany.1 hmany.2 hm1.1 hm1.2
  obtain ⟨t6, C, e6, c1, c2⟩ := hr.2 t5 m doors rank par 1 4 LD (by decide) (by decide) (by decide) (by decide)
  have hAl : A.length ≤ 24 ∧ 1 ≤ A.length := by omega
  have hBl : B.length ≤ 24 ∧ 1 ≤ B.length := by omega
  have hCl : C.length = 1 := by rw [c2]; rfl
  obtain ⟨T, f1, f2, f3, f4⟩ := cut24 (B ++ C) (by rw [List.length_append]; omega) (by rw [List.length_append]; omega)
  have gB : ∀ s ∈ B, Good m rank par s := fun s h => (b1 s h).1
  have gT : ∀ s ∈ T, Good m rank par s := fun s h => by
    rcases List.mem_append.mp (f4 s h) with h | h
    · exact gB s h
    · exact c1 s h
  have f1' : slV (.tup (B.map rowV ++ C.map rowV)) (some (-24)) none = some (.tup (T.map rowV)) := by
    rw [← List.map_append]; exact f1
  -- the three answers
  have ans : ∀ S ∈ [A, B, T], ∃ v : Val, ed.sem [.fz (landV m doors), .fz (strV S)] = .ok (.fz v, .no) ∧ eg.sem [.fz (landV m doors), .fz (strV S)] = .ok (.fz v, .no) ∧ isNone v = false ∧ gd v = true ∧ dp v < 8 ∧ wd v = true := fun S hS => by
    have ne : ∀ {S : List (List Int)}, 1 ≤ S.length → S ≠ [] := fun h z => by rw [z] at h; cases h
    rcases List.mem_cons.mp hS with h | hS
    · rw [h]; exact answers ed eg hd hg LD A (ne hAl.2) (by omega) a1
    · rcases List.mem_cons.mp hS with h | hS
      · rw [h]; exact answers ed eg hd hg LD B (ne hBl.2) (by omega) gB
      · rw [List.mem_singleton.mp hS]; exact answers ed eg hd hg LD T f2 (by omega) gT
  obtain ⟨r0, hr0⟩ := due_room ed hd LD B (by omega) d3 (by omega) (by omega) b1
  have lp := forL_all (g := gNm 7) (b := (sSeq (sSet 8 (callD0 ed (aCons (dVar 3) (aCons (dVar 7) aNil))))
  (sIf (tOrD (tBl (dIsN (dVH (dVar 8)))) (tNotD (tOf (dHV (dVO (callD0 es (aCons (dHV (dVO (callD0 eg (aCons (dVar 3) (aCons (dVar 7) aNil))))) (aCons (dVar 8) aNil)))))))) (sRet (dOV (dC (.bl false)))) sSkip))) strV [A, B, T]
    (fun pre ρ => ∃ s7 s8, ρ = [.fz w0, .own t6.v, .fz (.int most), .fz (landV m doors), .fz (.int many), .fz (.int d3), .lck [strV A, strV B, strV T], s7, s8])
    (ρ := [.fz w0, .own t6.v, .fz (.int most), .fz (landV m doors), .fz (.int many), .fz (.int d3), .lck [strV A, strV B, strV T], s7, s8]) ⟨s7, s8, rfl⟩ fun pre S post ρ e0 h => by
      obtain ⟨s7, s8, rfl⟩ := h
      obtain ⟨v, v1, v2, v3, v4, v5, v6⟩ := ans S (by rw [e0]; simp)
      exact ⟨[.fz w0, .own t6.v, .fz (.int most), .fz (landV m doors), .fz (.int many), .fz (.int d3), .lck [strV A, strV B, strV T], .fz (strV S), s8], _, by simp [gNm], .inl (check_one ed es eg hd.1 hs.1 hg.1 (landV m doors) (strV S) v _ _ _ _ _ _ s8 v1 v2 (hs.2 v v4 v5 v6) v3), _, _, rfl⟩
  obtain ⟨ρ', l1, s7', s8', rfl⟩ := lp
  have fv : sForV 6 (gNm 7) (sSeq (sSet 8 (callD0 ed (aCons (dVar 3) (aCons (dVar 7) aNil))))
  (sIf (tOrD (tBl (dIsN (dVH (dVar 8)))) (tNotD (tOf (dHV (dVO (callD0 es (aCons (dHV (dVO (callD0 eg (aCons (dVar 3) (aCons (dVar 7) aNil))))) (aCons (dVar 8) aNil)))))))) (sRet (dOV (dC (.bl false)))) sSkip)) [.fz w0, .own t6.v, .fz (.int most), .fz (landV m doors), .fz (.int many), .fz (.int d3), .own [strV A, strV B, strV T], s7, s8] = .nx [.fz w0, .own t6.v, .fz (.int most), .fz (landV m doors), .fz (.int many), .fz (.int d3), .own [strV A, strV B, strV T], s7', s8'] := by
    have e1 : sForV 6 (gNm 7) (sSeq (sSet 8 (callD0 ed (aCons (dVar 3) (aCons (dVar 7) aNil))))
  (sIf (tOrD (tBl (dIsN (dVH (dVar 8)))) (tNotD (tOf (dHV (dVO (callD0 es (aCons (dHV (dVO (callD0 eg (aCons (dVar 3) (aCons (dVar 7) aNil))))) (aCons (dVar 8) aNil)))))))) (sRet (dOV (dC (.bl false)))) sSkip)) [.fz w0, .own t6.v, .fz (.int most), .fz (landV m doors), .fz (.int many), .fz (.int d3), .own [strV A, strV B, strV T], s7, s8] = unlk 6 (.own [strV A, strV B, strV T]) (forL (gNm 7) (sSeq (sSet 8 (callD0 ed (aCons (dVar 3) (aCons (dVar 7) aNil))))
  (sIf (tOrD (tBl (dIsN (dVH (dVar 8)))) (tNotD (tOf (dHV (dVO (callD0 es (aCons (dHV (dVO (callD0 eg (aCons (dVar 3) (aCons (dVar 7) aNil))))) (aCons (dVar 8) aNil)))))))) (sRet (dOV (dC (.bl false)))) sSkip)) ([A, B, T].map strV) [.fz w0, .own t6.v, .fz (.int most), .fz (landV m doors), .fz (.int many), .fz (.int d3), .lck [strV A, strV B, strV T], s7, s8]) := rfl
    rw [e1, l1]
    rfl
  refine ⟨t6, .fz (landV m doors), .fz (.int many), .fz (.int d3), .own [strV A, strV B, strV T], s7', s8', ?_⟩
  have h2s : (2:Nat) ≤ sizeLine := ok_size (by decide)
  rw [seq_nx (ρ' := [.fz w0, .own t1.v, .fz (.int most), .fz (landV m doors), s4, s5, s6, s7, s8]) (by simp [fo_ok, th_nx, th_rt, th_bk, th_ct, op_s, ob_ok, oo_s, de_v, de_s, ds_n, ds_c, ts_n, ts_c, tv_v, tv_s, fl_rt, fl_nx, x_dHV, x_dVar, x_dC, x_dVH, x_dIt, x_dRg, x_tYesD, x_dU, x_sPut, x_d2, x_aNil, x_aCons, x_dN, x_pNone, x_pSome, x_dSl, x_dTup, x_dOV, x_dVO, x_dLst, x_tOf, x_tBl, x_dChain, x_tAndD, x_tOrD, x_tNotD, x_vAnd, x_vOr, x_vNot, x_dIf, x_dNeg, x_dIsN, x_dNotN, x_dNo, x_dR1, x_dR2, x_dLR, x_dIsi, x_sSkip, x_sBreak, x_sCont, x_sSeq, x_sIf, x_sDrop, x_sRet, x_asg, x_sSet, x_gNm, x_gN, x_gC, x_gTp, x_sAsg, x_sPar, x_g1, x_g2, x_go1, x_callD0, x_callD1, parOf, putV, lstOf, setL, frOf, Sl.view, add_int, sub_int, int_int, ixl, ixt, len_lst, len_tup, lt_int, gt_int, le_int, ge_int, eq_int, ne_int, at0, at1, at2, at3, notNo, isNone, tupOf, no, e1])]
  rw [seq_nx (ρ' := [.fz w0, .own t2.v, .fz (.int most), .fz (landV m doors), .fz (.int many), s5, s6, s7, s8])]
  rotate_left
  · generalize dIf (tBl (d2 eqV (dVar 2) (dHV (dC (.int 8))))) (dC (.int 6)) (dC (.int 24)) = X at *
    simp [fo_ok, th_nx, th_rt, th_bk, th_ct, op_s, ob_ok, oo_s, de_v, de_s, ds_n, ds_c, ts_n, ts_c, tv_v, tv_s, fl_rt, fl_nx, x_dHV, x_dVar, x_dC, x_dVH, x_dIt, x_dRg, x_tYesD, x_dU, x_sPut, x_d2, x_aNil, x_aCons, x_dN, x_pNone, x_pSome, x_dSl, x_dTup, x_dOV, x_dVO, x_dLst, x_tOf, x_tBl, x_dChain, x_tAndD, x_tOrD, x_tNotD, x_vAnd, x_vOr, x_vNot, x_dIf, x_dNeg, x_dIsN, x_dNotN, x_dNo, x_dR1, x_dR2, x_dLR, x_dIsi, x_sSkip, x_sBreak, x_sCont, x_sSeq, x_sIf, x_sDrop, x_sRet, x_asg, x_sSet, x_gNm, x_gN, x_gC, x_gTp, x_sAsg, x_sPar, x_g1, x_g2, x_go1, x_callD0, x_callD1, parOf, putV, lstOf, setL, frOf, Sl.view, add_int, sub_int, int_int, ixl, ixt, len_lst, len_tup, lt_int, gt_int, le_int, ge_int, eq_int, ne_int, at0, at1, at2, at3, notNo, isNone, tupOf, nt, hk1, e2, hmn]
  rw [seq_nx (ρ' := [.fz w0, .own t3.v, .fz (.int most), .fz (landV m doors), .fz (.int many), .fz (.int d3), s6, s7, s8]) (by simp [fo_ok, th_nx, th_rt, th_bk, th_ct, op_s, ob_ok, oo_s, de_v, de_s, ds_n, ds_c, ts_n, ts_c, tv_v, tv_s, fl_rt, fl_nx, x_dHV, x_dVar, x_dC, x_dVH, x_dIt, x_dRg, x_tYesD, x_dU, x_sPut, x_d2, x_aNil, x_aCons, x_dN, x_pNone, x_pSome, x_dSl, x_dTup, x_dOV, x_dVO, x_dLst, x_tOf, x_tBl, x_dChain, x_tAndD, x_tOrD, x_tNotD, x_vAnd, x_vOr, x_vNot, x_dIf, x_dNeg, x_dIsN, x_dNotN, x_dNo, x_dR1, x_dR2, x_dLR, x_dIsi, x_sSkip, x_sBreak, x_sCont, x_sSeq, x_sIf, x_sDrop, x_sRet, x_asg, x_sSet, x_gNm, x_gN, x_gC, x_gTp, x_sAsg, x_sPar, x_g1, x_g2, x_go1, x_callD0, x_callD1, parOf, putV, lstOf, setL, frOf, Sl.view, add_int, sub_int, int_int, ixl, ixt, len_lst, len_tup, lt_int, gt_int, le_int, ge_int, eq_int, ne_int, at0, at1, at2, at3, notNo, isNone, tupOf, nt, land0, e3])]
  rw [seq_nx (ρ' := [.fz w0, .own t5.v, .fz (.int most), .fz (landV m doors), .fz (.int many), .fz (.int d3), .own [strV A, strV B], s7, s8]) (by simp [fo_ok, th_nx, th_rt, th_bk, th_ct, op_s, ob_ok, oo_s, de_v, de_s, ds_n, ds_c, ts_n, ts_c, tv_v, tv_s, fl_rt, fl_nx, x_dHV, x_dVar, x_dC, x_dVH, x_dIt, x_dRg, x_tYesD, x_dU, x_sPut, x_d2, x_aNil, x_aCons, x_dN, x_pNone, x_pSome, x_dSl, x_dTup, x_dOV, x_dVO, x_dLst, x_tOf, x_tBl, x_dChain, x_tAndD, x_tOrD, x_tNotD, x_vAnd, x_vOr, x_vNot, x_dIf, x_dNeg, x_dIsN, x_dNotN, x_dNo, x_dR1, x_dR2, x_dLR, x_dIsi, x_sSkip, x_sBreak, x_sCont, x_sSeq, x_sIf, x_sDrop, x_sRet, x_asg, x_sSet, x_gNm, x_gN, x_gC, x_gTp, x_sAsg, x_sPar, x_g1, x_g2, x_go1, x_callD0, x_callD1, parOf, putV, lstOf, setL, frOf, Sl.view, add_int, sub_int, int_int, ixl, ixt, len_lst, len_tup, lt_int, gt_int, le_int, ge_int, eq_int, ne_int, at0, at1, at2, at3, notNo, isNone, tupOf, nr, nh, e4, e5, h2s])]
  rw [seq_nx (ρ' := [.fz w0, .own t6.v, .fz (.int most), .fz (landV m doors), .fz (.int many), .fz (.int d3), .own [strV A, strV B, strV T], s7, s8]) (by exact sets3 er nr t5.v t6.v (landV m doors) (.int 0) most many (.fz w0) (.fz (.int d3)) s7 s8 (A.map rowV) (B.map rowV) (C.map rowV) [] (T.map rowV) e6 (ok_size (by rw [List.length_map, List.length_map]; omega)) f1')]
  rw [seq_nx fv]
  exact last_one ed hd.1 (landV m doors) (strV A) (strV B) (strV T) _ _ _ _ _ _ _ r0 hr0
theorem law_core (ed es eg er eh et eo ep : FnE) (hd : AnsOk ed) (hs : es.np = 2 ∧ SameOk es 8) (hg : AnsOk eg) (hr : StrollsOk er) (hh : ThroughOk eh) (ht : TakeOk et) (ho : HouseOk eo) (hp : TapeOk ep) (ns : List Int) (hl : ns.length ≤ 63) :
    flRes 1 none (D_law ed es eg er eh et eo ep [.fz (.scr ns), .no, .no, .no, .no, .no, .no, .no, .no]) = .ok (.fz (.bl true), .no) := by
  obtain ⟨t0, e0⟩ := hp.2 ns hl
  have np := hp.1
  have h3s : (3:Nat) ≤ sizeLine := ok_size (by decide)
  unfold D_law
  rw [seq_nx (ρ' := [.fz (.scr ns), .own t0.v, .no, .no, .no, .no, .no, .no, .no]) (by simp [fo_ok, th_nx, th_rt, th_bk, th_ct, op_s, ob_ok, oo_s, de_v, de_s, ds_n, ds_c, ts_n, ts_c, tv_v, tv_s, fl_rt, fl_nx, x_dHV, x_dVar, x_dC, x_dVH, x_dIt, x_dRg, x_tYesD, x_dU, x_sPut, x_d2, x_aNil, x_aCons, x_dN, x_pNone, x_pSome, x_dSl, x_dTup, x_dOV, x_dVO, x_dLst, x_tOf, x_tBl, x_dChain, x_tAndD, x_tOrD, x_tNotD, x_vAnd, x_vOr, x_vNot, x_dIf, x_dNeg, x_dIsN, x_dNotN, x_dNo, x_dR1, x_dR2, x_dLR, x_dIsi, x_sSkip, x_sBreak, x_sCont, x_sSeq, x_sIf, x_sDrop, x_sRet, x_asg, x_sSet, x_gNm, x_gN, x_gC, x_gTp, x_sAsg, x_sPar, x_g1, x_g2, x_go1, x_callD0, x_callD1, parOf, putV, lstOf, setL, frOf, Sl.view, add_int, sub_int, int_int, ixl, ixt, len_lst, len_tup, lt_int, gt_int, le_int, ge_int, eq_int, ne_int, at0, at1, at2, at3, notNo, isNone, tupOf, np, e0])]
  have fr : ∀ (b : DS), (∀ (t : Tape) (most : Int) (s3 s4 s5 s6 s7 s8 : Sl), most = 8 ∨ most = 24 → ∃ (t' : Tape) (s3' s4' s5' s6' s7' s8' : Sl), b [.fz (.scr ns), .own t.v, .fz (.int most), s3, s4, s5, s6, s7, s8] = .nx [.fz (.scr ns), .own t'.v, .fz (.int most), s3', s4', s5', s6', s7', s8']) →
      ∃ (t' : Tape) (s2' s3' s4' s5' s6' s7' s8' : Sl), sFor (dIt (dTup (aCons (dHV (dC (.int 8))) (aCons (dHV (dC (.int 8))) (aCons (dHV (dC (.int 24))) aNil))))) (gNm 2) b [.fz (.scr ns), .own t0.v, .no, .no, .no, .no, .no, .no, .no] = .nx [.fz (.scr ns), .own t'.v, s2', s3', s4', s5', s6', s7', s8'] := fun b hb => by
    have lp := forL_all (g := gNm 2) (b := b) Val.int [8, 8, 24] (fun pre ρ => ∃ (t : Tape) (s2 s3 s4 s5 s6 s7 s8 : Sl), ρ = [.fz (.scr ns), .own t.v, s2, s3, s4, s5, s6, s7, s8]) (ρ := [.fz (.scr ns), .own t0.v, .no, .no, .no, .no, .no, .no, .no]) ⟨t0, _, _, _, _, _, _, _, rfl⟩ fun pre a post ρ e9 h => by
      obtain ⟨t, s2, s3, s4, s5, s6, s7, s8, rfl⟩ := h
      have ha : a = 8 ∨ a = 24 := by
        have : a ∈ ([8, 8, 24] : List Int) := by rw [e9]; simp
        simpa using this
      obtain ⟨t', s3', s4', s5', s6', s7', s8', h1⟩ := hb t a s3 s4 s5 s6 s7 s8 ha
      exact ⟨_, _, by simp [gNm], .inl h1, t', _, _, _, _, _, _, _, rfl⟩
    obtain ⟨ρ', l1, t', s2, s3, s4, s5, s6, s7, s8, rfl⟩ := lp
    refine ⟨t', s2, s3, s4, s5, s6, s7, s8, ?_⟩
    rw [for_eq (xs := [Val.int 8, .int 8, .int 24]) (ρ' := [.fz (.scr ns), .own t0.v, .no, .no, .no, .no, .no, .no, .no]) (by simp [fo_ok, th_nx, th_rt, th_bk, th_ct, op_s, ob_ok, oo_s, de_v, de_s, ds_n, ds_c, ts_n, ts_c, tv_v, tv_s, fl_rt, fl_nx, x_dHV, x_dVar, x_dC, x_dVH, x_dIt, x_dRg, x_tYesD, x_dU, x_sPut, x_d2, x_aNil, x_aCons, x_dN, x_pNone, x_pSome, x_dSl, x_dTup, x_dOV, x_dVO, x_dLst, x_tOf, x_tBl, x_dChain, x_tAndD, x_tOrD, x_tNotD, x_vAnd, x_vOr, x_vNot, x_dIf, x_dNeg, x_dIsN, x_dNotN, x_dNo, x_dR1, x_dR2, x_dLR, x_dIsi, x_sSkip, x_sBreak, x_sCont, x_sSeq, x_sIf, x_sDrop, x_sRet, x_asg, x_sSet, x_gNm, x_gN, x_gC, x_gTp, x_sAsg, x_sPar, x_g1, x_g2, x_go1, x_callD0, x_callD1, parOf, putV, lstOf, setL, frOf, Sl.view, add_int, sub_int, int_int, ixl, ixt, len_lst, len_tup, lt_int, gt_int, le_int, ge_int, eq_int, ne_int, at0, at1, at2, at3, notNo, isNone, tupOf, h3s, goesV])]
    exact l1
  obtain ⟨t', s2, s3, s4, s5, s6, s7, s8, h1⟩ := fr _ fun t most s3 s4 s5 s6 s7 s8 hm => law_turn ed es eg er eh et eo hd hs hg hr hh ht ho t (.scr ns) most hm s3 s4 s5 s6 s7 s8
  rw [seq_nx h1]
  simp [fo_ok, th_nx, th_rt, th_bk, th_ct, op_s, ob_ok, oo_s, de_v, de_s, ds_n, ds_c, ts_n, ts_c, tv_v, tv_s, fl_rt, fl_nx, x_dHV, x_dVar, x_dC, x_dVH, x_dIt, x_dRg, x_tYesD, x_dU, x_sPut, x_d2, x_aNil, x_aCons, x_dN, x_pNone, x_pSome, x_dSl, x_dTup, x_dOV, x_dVO, x_dLst, x_tOf, x_tBl, x_dChain, x_tAndD, x_tOrD, x_tNotD, x_vAnd, x_vOr, x_vNot, x_dIf, x_dNeg, x_dIsN, x_dNotN, x_dNo, x_dR1, x_dR2, x_dLR, x_dIsi, x_sSkip, x_sBreak, x_sCont, x_sSeq, x_sIf, x_sDrop, x_sRet, x_asg, x_sSet, x_gNm, x_gN, x_gC, x_gTp, x_sAsg, x_sPar, x_g1, x_g2, x_go1, x_callD0, x_callD1, parOf, putV, lstOf, setL, frOf, Sl.view, add_int, sub_int, int_int, ixl, ixt, len_lst, len_tup, lt_int, gt_int, le_int, ge_int, eq_int, ne_int, at0, at1, at2, at3, notNo, isNone, tupOf]
theorem law_true (ns : List Int) (hl : ns.length ≤ 63) : E_law.sem [.fz (.scr ns)] = .ok (.fz (.bl true), .no) := by
  rw [s_law]
  exact law_core _ _ _ _ _ _ _ _ due_ok ⟨(lv__law_same 8).2.2, same_ok 8⟩ gather_ok strolls_ok through_ok take_ok house_ok tape_ok ns hl

end C75

open PySem PySem.W PySem.Calls PyProof.Rows
theorem PySem.Challenge.cw_whocame_k75_whole_rooms_in_common_holds : PySem.Challenge.rw_whocame_k75_whole_rooms_in_common.Holds := by
  w_on; o_law
  refine HandSHeadRun.head_any (r := OpenLaw.row PySem.Challenge.rw_whocame_k75_whole_rooms_in_common) (q := view (OpenLaw.row PySem.Challenge.rw_whocame_k75_whole_rooms_in_common).prog [16]) (H := Hd.hk) (ob := Hd.ob) (M := 4000) (loose := ["have_room", "shown_by_strolls", "gather", "_law_mix", "_law_tape", "_law_take", "_law_same", "_law_mixed", "_law_house", "_law_behind", "_law_stroll", "_law_strolls", "_law_due", "_law_through"]) (d := HandSHeadRun.topDef (OpenLaw.row PySem.Challenge.rw_whocame_k75_whole_rooms_in_common).prog 16) (kwd := []) Hd.ob_eq
    (by kernel_rfl) (fun s => by kernel_rfl) Hd.run (by kernel_rfl) (by kernel_rfl) (by kernel_rfl) (by rfl) (by first | assumption | decide +kernel) (by decide +kernel) ⟨rfl, rfl, rfl, rfl, rfl, by decide +kernel⟩ ?hw ?hc
  case hw => w_witness2
  case hc =>
    refine L2.walk_ofE (l := PySem.Challenge.rw_whocame_k75_whole_rooms_in_common) (n := 63) (k := 10) (x := "script") (CX := L2.CX0) rfl (by decide) (by kernel_rfl) ⟨rfl, by decide, by decide⟩ ?F (fun _ _ _ _ z => z)
    intro w mg fa h Y G hmg0
    obtain ⟨K, KX, c⟩ := Y
    have hmg : mg ("law" : PySem.Str) = some (.ref fa) := by
      have e : (HandSHeadRun.topDef (OpenLaw.row PySem.Challenge.rw_whocame_k75_whole_rooms_in_common).prog 16).name = ("law" : PySem.Str) := by kernel_rfl
      rw [← e]
      exact hmg0
    obtain ⟨fd_have_room, F_have_room⟩ := c.def_ 0 (d := Hd.d1) rfl
    have m_have_room := He.glo_ok KX G (c.fact 0 (f := .glo "have_room") rfl)
    obtain ⟨fd_shown_by_strolls, F_shown_by_strolls⟩ := c.def_ 1 (d := Hd.d2) rfl
    have m_shown_by_strolls := He.glo_ok KX G (c.fact 1 (f := .glo "shown_by_strolls") rfl)
    obtain ⟨fd_gather, F_gather⟩ := c.def_ 2 (d := Hd.d3) rfl
    have m_gather := He.glo_ok KX G (c.fact 2 (f := .glo "gather") rfl)
    obtain ⟨fd__law_mix, F__law_mix⟩ := c.def_ 3 (d := Hd.d5) rfl
    have m__law_mix := He.glo_ok KX G (c.fact 3 (f := .glo "_law_mix") rfl)
    obtain ⟨fd__law_tape, F__law_tape⟩ := c.def_ 4 (d := Hd.d6) rfl
    have m__law_tape := He.glo_ok KX G (c.fact 4 (f := .glo "_law_tape") rfl)
    obtain ⟨fd__law_take, F__law_take⟩ := c.def_ 5 (d := Hd.d7) rfl
    have m__law_take := He.glo_ok KX G (c.fact 5 (f := .glo "_law_take") rfl)
    obtain ⟨fd__law_same, F__law_same⟩ := c.def_ 6 (d := Hd.d8) rfl
    have m__law_same := He.glo_ok KX G (c.fact 6 (f := .glo "_law_same") rfl)
    obtain ⟨fd__law_mixed, F__law_mixed⟩ := c.def_ 7 (d := Hd.d9) rfl
    have m__law_mixed := He.glo_ok KX G (c.fact 7 (f := .glo "_law_mixed") rfl)
    obtain ⟨fd__law_house, F__law_house⟩ := c.def_ 8 (d := Hd.d10) rfl
    have m__law_house := He.glo_ok KX G (c.fact 8 (f := .glo "_law_house") rfl)
    obtain ⟨fd__law_behind, F__law_behind⟩ := c.def_ 9 (d := Hd.d11) rfl
    have m__law_behind := He.glo_ok KX G (c.fact 9 (f := .glo "_law_behind") rfl)
    obtain ⟨fd__law_stroll, F__law_stroll⟩ := c.def_ 10 (d := Hd.d12) rfl
    have m__law_stroll := He.glo_ok KX G (c.fact 10 (f := .glo "_law_stroll") rfl)
    obtain ⟨fd__law_strolls, F__law_strolls⟩ := c.def_ 11 (d := Hd.d13) rfl
    have m__law_strolls := He.glo_ok KX G (c.fact 11 (f := .glo "_law_strolls") rfl)
    obtain ⟨fd__law_due, F__law_due⟩ := c.def_ 12 (d := Hd.d14) rfl
    have m__law_due := He.glo_ok KX G (c.fact 12 (f := .glo "_law_due") rfl)
    obtain ⟨fd__law_through, F__law_through⟩ := c.def_ 13 (d := Hd.d15) rfl
    have m__law_through := He.glo_ok KX G (c.fact 13 (f := .glo "_law_through") rfl)
    obtain ⟨fd_law, F_law⟩ := c.def_ 14 (d := Hd.d16) rfl
    have m_law := He.glo_ok KX G (c.fact 14 (f := .glo "law") rfl)
    have g_any := He.free_ok KX G (c.fact 16 (f := .free "any") rfl)
    have g_tuple := He.free_ok KX G (c.fact 27 (f := .free "tuple") rfl)
    have g_range := He.free_ok KX G (c.fact 24 (f := .free "range") rfl)
    have g_len := He.free_ok KX G (c.fact 20 (f := .free "len") rfl)
    have g_all := He.free_ok KX G (c.fact 15 (f := .free "all") rfl)
    have g_int := He.free_ok KX G (c.fact 18 (f := .free "int") rfl)
    have g_list := He.free_ok KX G (c.fact 21 (f := .free "list") rfl)
    have g_isinstance := He.free_ok KX G (c.fact 19 (f := .free "isinstance") rfl)
    have g_str := He.free_ok KX G (c.fact 26 (f := .free "str") rfl)
    have g_bool := He.free_ok KX G (c.fact 17 (f := .free "bool") rfl)
    have g_sorted := He.free_ok KX G (c.fact 25 (f := .free "sorted") rfl)
    have g_max := He.free_ok KX G (c.fact 22 (f := .free "max") rfl)
    have g_min := He.free_ok KX G (c.fact 23 (f := .free "min") rfl)
    have e := hmg.symm.trans m_law
    cases e
    have b := L2.FunD.bindsA (ps := ["script"]) F_law fun _ _ _ _ _ _ us hl => match us, hl with | [_], _ => rfl
    refine ⟨K, fd_law, Ev.spF K mg B75.E_law, KX, fun s v => b s [v] rfl, fun H a ns hl hO hS => Ev.sp_script rfl rfl hS (C75.law_true ns hl), fun base kb hb => ?_⟩
    have C_have_room := B75.ok_have_room (P := (PySem.Challenge.rw_whocame_k75_whole_rooms_in_common).prog) (w := w) (base := base) F_have_room m_have_room g_any
    have C_shown_by_strolls := B75.ok_shown_by_strolls (P := (PySem.Challenge.rw_whocame_k75_whole_rooms_in_common).prog) (w := w) (base := base) F_shown_by_strolls m_shown_by_strolls g_tuple g_range g_len C_have_room
    have C_gather := B75.ok_gather (P := (PySem.Challenge.rw_whocame_k75_whole_rooms_in_common).prog) (w := w) (base := base) F_gather m_gather g_range g_len g_all C_shown_by_strolls
    have C__law_mix := B75.ok__law_mix (P := (PySem.Challenge.rw_whocame_k75_whole_rooms_in_common).prog) (w := w) (base := base) F__law_mix m__law_mix g_int
    have C__law_tape := B75.ok__law_tape (P := (PySem.Challenge.rw_whocame_k75_whole_rooms_in_common).prog) (w := w) (base := base) F__law_tape m__law_tape g_len g_list
    have C__law_take := B75.ok__law_take (P := (PySem.Challenge.rw_whocame_k75_whole_rooms_in_common).prog) (w := w) (base := base) F__law_take m__law_take g_int g_len C__law_mix
    have C__law_same := B75.ok__law_same (P := (PySem.Challenge.rw_whocame_k75_whole_rooms_in_common).prog) (w := w) (base := base) F__law_same m__law_same g_isinstance g_int g_str g_bool g_tuple g_list g_len g_all g_range 8
    have C__law_mixed := B75.ok__law_mixed (P := (PySem.Challenge.rw_whocame_k75_whole_rooms_in_common).prog) (w := w) (base := base) F__law_mixed m__law_mixed g_range g_len g_list C__law_take
    have C__law_house := B75.ok__law_house (P := (PySem.Challenge.rw_whocame_k75_whole_rooms_in_common).prog) (w := w) (base := base) F__law_house m__law_house g_tuple g_sorted g_max g_min g_range g_list C__law_take C__law_mixed
    have C__law_behind := B75.ok__law_behind (P := (PySem.Challenge.rw_whocame_k75_whole_rooms_in_common).prog) (w := w) (base := base) F__law_behind m__law_behind g_sorted
    have C__law_stroll := B75.ok__law_stroll (P := (PySem.Challenge.rw_whocame_k75_whole_rooms_in_common).prog) (w := w) (base := base) F__law_stroll m__law_stroll g_tuple g_sorted g_len g_range C__law_take C__law_behind
    have C__law_strolls := B75.ok__law_strolls (P := (PySem.Challenge.rw_whocame_k75_whole_rooms_in_common).prog) (w := w) (base := base) F__law_strolls m__law_strolls g_tuple g_range C__law_stroll
    have C__law_due := B75.ok__law_due (P := (PySem.Challenge.rw_whocame_k75_whole_rooms_in_common).prog) (w := w) (base := base) F__law_due m__law_due g_any g_range g_len g_all
    have C__law_through := B75.ok__law_through (P := (PySem.Challenge.rw_whocame_k75_whole_rooms_in_common).prog) (w := w) (base := base) F__law_through m__law_through g_tuple g_sorted g_len g_range C__law_take C__law_behind
    exact B75.fo_law (P := (PySem.Challenge.rw_whocame_k75_whole_rooms_in_common).prog) (w := w) (base := base) F_law C__law_due C__law_same C_gather C__law_strolls C__law_through C__law_take C__law_house C__law_tape
