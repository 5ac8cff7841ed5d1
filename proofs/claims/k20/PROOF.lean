import PyProof.Rows.All
import HandS.ForMost
import HandS.Flow
import HandS.Style
import HandS.TupAny
import HandS.Wide
import HandS.TupMul
import HandS.TupLe
import HandS.IsInst
import KE.DataEq
import KE.DataCmp
import HandS.Dict
import HandS.Text
import HandS.Codes
import KE.SortData
import HandS.Conv
import KE.DataMinMax
import HandS.More
import HandS.Defaults
import HandS.TryOnly
import HandS.Iter
import HandS.Zip
import HandS.Rev
import HandS.Comp
import HandS.SortInts
import HandS.SetFor
import HandS.Deep
import PyProof.AutoSeq1
import HandS.Strs
import Wide.All
import OpenK.AllK
import Wide.FinOn
import KE.KStateDown
import HandS.Base
import HandS.Call
import HandS.Ends
import HandS.Words
import HandS.WordsExc
import HandS.Head0
import HandS.Head1
import HandS.Head2
import HandS.HeadEnd
import HandS.HeadHook1
import HandS.HeadHook2
import HandS.EndBits
import PySem.Challenge.RW_whocame_k20_stays_and_timetables
set_option Elab.async false
set_option linter.all false
set_option maxRecDepth 100000
set_option maxHeartbeats 0
/-! Ev: pure values, an environment of owned slots, and what it is for the machine's state to bear them. -/
namespace Ev
open PySem PySem.Spec PyProof.Rows L2

/-- a plain value -/
inductive Val where
  | non | bl (b : Bool) | int (i : Int) | str (s : Str)
  | tup (xs : List Val) | lst (xs : List Val)
  | dK (kvs : List (Key × Val)) | dT (kvs : List (List Key × Val))
  | scr (ns : List Int)
  | ktup (xs : List Val)
  | fn (n : Str)

abbrev MG := Str → Option Value

mutual
/-- the value v of the machine, over what is frozen at Z, is x -/
inductive Rl (K : PySem.W.Frag) (mg : MG) (Z : Hp) : V → Val → Prop
  | non : Rl K mg Z .non .non
  | bl (b : Bool) : Rl K mg Z (.bl b) (.bl b)
  | int (i : Int) : Rl K mg Z (.int i) (.int i)
  | str (s : Str) : Rl K mg Z (.str s) (.str s)
  | tup {a : Addr} {vs : List V} {xs : List Val} : Z a = some (.tup vs) → Rls K mg Z vs xs → Rl K mg Z (.ref a) (.tup xs)
  | ktup {a : Addr} {vs : List V} {xs : List Val} : SqT K Z a vs → Rls K mg Z vs xs → Rl K mg Z (.ref a) (.ktup xs)
  | lst {a : Addr} {vs : List V} {xs : List Val} : Z a = some (.lst vs) → Rls K mg Z vs xs → Rl K mg Z (.ref a) (.lst xs)
  | dK {a : Addr} {kvs : List (Key × V)} {kxs : List (Key × Val)} : Z a = some (.dK kvs) → kvs.map (·.1) = kxs.map (·.1) → Rls K mg Z (kvs.map (·.2)) (kxs.map (·.2)) → Rl K mg Z (.ref a) (.dK kxs)
  | dT {a : Addr} {kvs : List (List Key × V)} {kxs : List (List Key × Val)} : Z a = some (.dT kvs) → kvs.map (·.1) = kxs.map (·.1) → Rls K mg Z (kvs.map (·.2)) (kxs.map (·.2)) → Rl K mg Z (.ref a) (.dT kxs)
  | scr {a : Addr} {ns : List Int} : SqL K Z a (ns.map V.int) → Rl K mg Z (.ref a) (.scr ns)
  | fn {a : Addr} {n : Str} : mg n = some (.ref a) → PySem.W.keepIn K (.ref a) = true → Rl K mg Z (.ref a) (.fn n)
inductive Rls (K : PySem.W.Frag) (mg : MG) (Z : Hp) : List V → List Val → Prop
  | nil : Rls K mg Z [] []
  | cons {v : V} {x : Val} {vs : List V} {xs : List Val} : Rl K mg Z v x → Rls K mg Z vs xs → Rls K mg Z (v :: vs) (x :: xs)
end

theorem seqT_mono {K : PySem.W.Frag} {H H' : Hp} {a : Addr} {xs : List V} (e : Same H H') (h : SqT K H a xs) : SqT K H' a xs := by
  rcases h with (h | ⟨o, h⟩) | h
  · exact .inl (.inl (e _ _ h))
  · exact .inl (.inr ⟨o, e _ _ h⟩)
  · exact .inr h

section
variable {K : PySem.W.Frag} {mg : MG} {Z Z' : Hp}
mutual
theorem Rl.mono (e : Same Z Z') : ∀ {v : V} {x : Val}, Rl K mg Z v x → Rl K mg Z' v x
  | _, _, .non => .non
  | _, _, .bl b => .bl b
  | _, _, .int i => .int i
  | _, _, .str s => .str s
  | _, _, .tup h r => .tup (e _ _ h) (Rls.mono e r)
  | _, _, .ktup h r => .ktup (seqT_mono e h) (Rls.mono e r)
  | _, _, .lst h r => .lst (e _ _ h) (Rls.mono e r)
  | _, _, .dK h k r => .dK (e _ _ h) k (Rls.mono e r)
  | _, _, .dT h k r => .dT (e _ _ h) k (Rls.mono e r)
  | _, _, .scr h => .scr (e.seq h)
  | _, _, .fn h k => .fn h k
theorem Rls.mono (e : Same Z Z') : ∀ {vs : List V} {xs : List Val}, Rls K mg Z vs xs → Rls K mg Z' vs xs
  | _, _, .nil => .nil
  | _, _, .cons h t => .cons (Rl.mono e h) (Rls.mono e t)
end
theorem Rls.length : ∀ {vs : List V} {xs : List Val}, Rls K mg Z vs xs → vs.length = xs.length
  | _, _, .nil => rfl
  | _, _, .cons _ t => by rw [List.length_cons, List.length_cons, Rls.length t]
theorem Rls.get : ∀ {vs : List V} {xs : List Val} {i : Nat} {x : Val}, Rls K mg Z vs xs → xs[i]? = some x → ∃ v, vs[i]? = some v ∧ Rl K mg Z v x
  | _, _, _, _, .nil, e => by simp at e
  | _, _, 0, _, .cons r _, e => by simp at e; subst e; exact ⟨_, rfl, r⟩
  | _, _, i + 1, x, .cons _ t, e => by
    obtain ⟨u, h1, h2⟩ := Rls.get (i := i) (x := x) t (by simpa using e)
    exact ⟨u, by simpa using h1, h2⟩
theorem Rls.get' : ∀ {vs : List V} {xs : List Val} {i : Nat} {v : V}, Rls K mg Z vs xs → vs[i]? = some v → ∃ x, xs[i]? = some x ∧ Rl K mg Z v x
  | _, _, _, _, .nil, e => by simp at e
  | _, _, 0, _, .cons r _, e => by simp at e; subst e; exact ⟨_, rfl, r⟩
  | _, _, i + 1, x, .cons _ t, e => by
    obtain ⟨u, h1, h2⟩ := Rls.get' (i := i) (v := x) t (by simpa using e)
    exact ⟨u, by simpa using h1, h2⟩
theorem Rls.append : ∀ {vs ws : List V} {xs ys : List Val}, Rls K mg Z vs xs → Rls K mg Z ws ys → Rls K mg Z (vs ++ ws) (xs ++ ys)
  | _, _, _, _, .nil, s => s
  | _, _, _, _, .cons r t, s => .cons r (Rls.append t s)
theorem Rls.one {v : V} {x : Val} (r : Rl K mg Z v x) : Rls K mg Z [v] [x] := .cons r .nil
theorem Rls.set {v : V} {x : Val} (r : Rl K mg Z v x) : ∀ {vs : List V} {xs : List Val} (i : Nat), Rls K mg Z vs xs → Rls K mg Z (vs.set i v) (xs.set i x)
  | _, _, _, .nil => .nil
  | _, _, 0, .cons _ t => .cons r t
  | _, _, i + 1, .cons q t => .cons q (Rls.set r i t)
theorem Rls.take : ∀ {vs : List V} {xs : List Val} (n : Nat), Rls K mg Z vs xs → Rls K mg Z (vs.take n) (xs.take n)
  | _, _, 0, _ => by simp; exact .nil
  | _, _, _ + 1, .nil => .nil
  | _, _, n + 1, .cons r t => .cons r (Rls.take n t)
theorem Rls.drop : ∀ {vs : List V} {xs : List Val} (n : Nat), Rls K mg Z vs xs → Rls K mg Z (vs.drop n) (xs.drop n)
  | _, _, 0, r => r
  | _, _, _ + 1, .nil => .nil
  | _, _, n + 1, .cons _ t => Rls.drop n t
theorem Rls.eraseIdx : ∀ {vs : List V} {xs : List Val} (n : Nat), Rls K mg Z vs xs → Rls K mg Z (vs.eraseIdx n) (xs.eraseIdx n)
  | _, _, _, .nil => .nil
  | _, _, 0, .cons r t => t
  | _, _, n + 1, .cons r t => .cons r (Rls.eraseIdx n t)
theorem Rls.reverse : ∀ {vs : List V} {xs : List Val}, Rls K mg Z vs xs → Rls K mg Z vs.reverse xs.reverse
  | _, _, .nil => .nil
  | _, _, .cons r t => by
    rw [List.reverse_cons, List.reverse_cons]
    exact (Rls.reverse t).append (.one r)
theorem Rls.dropLast {vs : List V} {xs : List Val} (r : Rls K mg Z vs xs) : Rls K mg Z vs.dropLast xs.dropLast := by
  rw [List.dropLast_eq_take, List.dropLast_eq_take, r.length]
  exact r.take _
theorem Rls.ints : ∀ (ns : List Int), Rls K mg Z (ns.map V.int) (ns.map Val.int)
  | [] => .nil
  | n :: ns => .cons (.int n) (Rls.ints ns)
theorem Rls.of_ints : ∀ {vs : List V} {ns : List Int}, Rls K mg Z vs (ns.map Val.int) → vs = ns.map V.int
  | _, [], h => by cases h; rfl
  | _, n :: ns, h => by
    cases h with
    | cons r t =>
      cases r
      rw [Rls.of_ints t]
      rfl
end

/-! ### slots -/
inductive Sl where
  | no
  | fz (x : Val)
  | own (xs : List Val)
  | own2 (xss : List (List Val))
  | odK (kxs : List (Key × Val))
  | odT (kxs : List (List Key × Val))
  | lck (xs : List Val)
  | box (cells : List Int) (d s : Int)
  | par (xs : List Val)
  | pbox (cells : List Int) (d s : Int)

abbrev Env := List Sl
/-- what may not change: things, and the addresses at some slots -/
structure Lk where
  hp : Hp
  fx : Nat → Option Addr
  lk : Nat → Option Addr
  wf : ∀ j a, lk j = some a → hp a ≠ none
instance : CoeFun Lk fun _ => Hp := ⟨Lk.hp⟩
instance : Coe Lk Hp := ⟨Lk.hp⟩
abbrev Lab := Addr → Option (Nat × Nat)

/-- the children of a list of owned lists -/
inductive Own2 (K : PySem.W.Frag) (mg : MG) (Z H : Hp) (O : Lab) (i : Nat) : Nat → List Addr → List (List Val) → Prop
  | nil {k : Nat} : Own2 K mg Z H O i k [] []
  | cons {k : Nat} {b : Addr} {ws : List V} {xs : List Val} {bs : List Addr} {xss : List (List Val)} : O b = some (i, k + 1) → H b = some (.lst ws) → Rls K mg Z ws xs → Own2 K mg Z H O i (k + 1) bs xss → Own2 K mg Z H O i k (b :: bs) (xs :: xss)

def SlotR (K : PySem.W.Frag) (mg : MG) (Z H : Hp) (O : Lab) (C : Lk) (i : Nat) (v : Option (Option V)) : Sl → Prop
  | .no => True
  | .fz x => ∃ u, v = some (some u) ∧ Rl K mg Z u x
  | .own xs => ∃ a vs, v = some (some (.ref a)) ∧ O a = some (i, 0) ∧ H a = some (.lst vs) ∧ Rls K mg Z vs xs
  | .par xs => ∃ a vs, v = some (some (.ref a)) ∧ O a = some (i, 0) ∧ H a = some (.lst vs) ∧ Rls K mg Z vs xs ∧ C.fx i = some a
  | .own2 xss => ∃ a bs, v = some (some (.ref a)) ∧ O a = some (i, 0) ∧ H a = some (.lst (bs.map V.ref)) ∧ Own2 K mg Z H O i 0 bs xss
  | .odK kxs => ∃ a kvs, v = some (some (.ref a)) ∧ O a = some (i, 0) ∧ H a = some (.dK kvs) ∧ kvs.map (·.1) = kxs.map (·.1) ∧ Rls K mg Z (kvs.map (·.2)) (kxs.map (·.2))
  | .odT kxs => ∃ a kvs, v = some (some (.ref a)) ∧ O a = some (i, 0) ∧ H a = some (.dT kvs) ∧ kvs.map (·.1) = kxs.map (·.1) ∧ Rls K mg Z (kvs.map (·.2)) (kxs.map (·.2))
  | .lck xs => ∃ a vs, v = some (some (.ref a)) ∧ C a = some (.lst vs) ∧ Rls K mg Z vs xs ∧ C.lk i = some a
  | .box cells d s => ∃ a c, v = some (some (.ref a)) ∧ O a = some (i, 0) ∧ O c = some (i, 1) ∧ H a = some (.lst [.ref c, .int d, .int s]) ∧ H c = some (.lst (cells.map V.int))
  | .pbox cells d s => ∃ a c, v = some (some (.ref a)) ∧ O a = some (i, 0) ∧ O c = some (i, 1) ∧ H a = some (.lst [.ref c, .int d, .int s]) ∧ H c = some (.lst (cells.map V.int)) ∧ C.fx i = some a

/-- the state bears the environment -/
structure EnvR (K : PySem.W.Frag) (mg : MG) (Z H : Hp) (O : Lab) (C : Lk) (σ : L2.St) (ρ : Env) : Prop where
  len : ρ.length = σ.length
  zh : Same Z H
  ch : Same C H
  oz : ∀ b, O b ≠ none → Z b = none ∧ C b = none ∧ H b ≠ none
  ob : ∀ b i q, O b = some (i, q) → i < ρ.length
  sl : ∀ i s, ρ[i]? = some s → SlotR K mg Z H O C i σ[i]? s

structure Ext (Z H : Hp) (O : Lab) (Z' H' : Hp) (O' : Lab) : Prop where
  z : Same Z Z'
  h : ∀ b o, H b = some o → O b = none → H' b = some o ∧ O' b = none
  t : ∀ b, H b ≠ none → H' b ≠ none
  o : ∀ b i q, O' b = some (i, q) → H b = none ∨ ∃ q', O b = some (i, q')
  zn : ∀ b, Z' b ≠ none → Z b ≠ none ∨ H b = none ∨ O b ≠ none

theorem Ext.refl (Z H : Hp) (O : Lab) : Ext Z H O Z H O := ⟨Same.refl Z, fun _ _ h1 h2 => ⟨h1, h2⟩, fun _ h => h, fun _ _ q h => .inr ⟨q, h⟩, fun _ h => .inl h⟩
theorem Ext.trans {Z H : Hp} {O : Lab} {Z1 H1 : Hp} {O1 : Lab} {Z2 H2 : Hp} {O2 : Lab} (a : Ext Z H O Z1 H1 O1) (b : Ext Z1 H1 O1 Z2 H2 O2) : Ext Z H O Z2 H2 O2 where
  z := a.z.trans b.z
  h := fun c o h1 h2 => let ⟨h3, h4⟩ := a.h c o h1 h2; b.h c o h3 h4
  t := fun c h => b.t c (a.t c h)
  o := fun c i q h => by
    rcases b.o c i q h with h1 | ⟨q', h1⟩
    · left
      cases e : H c with
      | none => rfl
      | some o => exact absurd h1 (a.t c (by rw [e]; simp))
    · exact a.o c i q' h1
  zn := fun c h => by
    rcases b.zn c h with h1 | h1 | h1
    · exact a.zn c h1
    · refine .inr (.inl ?_)
      cases e : H c with
      | none => rfl
      | some o => exact absurd h1 (a.t c (by rw [e]; simp))
    · obtain ⟨⟨i, q⟩, hp⟩ := Option.ne_none_iff_exists'.mp h1
      rcases a.o c i q hp with h2 | ⟨q', h2⟩
      · exact .inr (.inl h2)
      · exact .inr (.inr (by rw [h2]; simp))

/-- nothing but new things -/
structure Grow (Z H Z' H' : Hp) : Prop where
  z : Same Z Z'
  h : Same H H'
  zh : Same Z' H'
  zn : ∀ b, Z' b ≠ none → Z b ≠ none ∨ H b = none
theorem Grow.refl {Z H : Hp} (h : Same Z H) : Grow Z H Z H := ⟨Same.refl Z, Same.refl H, h, fun _ h => .inl h⟩
theorem Grow.trans {Z H Z1 H1 Z2 H2 : Hp} (a : Grow Z H Z1 H1) (b : Grow Z1 H1 Z2 H2) : Grow Z H Z2 H2 where
  z := a.z.trans b.z
  h := a.h.trans b.h
  zh := b.zh
  zn := fun c h => by
    rcases b.zn c h with h1 | h1
    · exact a.zn c h1
    · exact .inr (a.h.free h1)
theorem Grow.ext {Z H Z' H' : Hp} {O : Lab} (g : Grow Z H Z' H') : Ext Z H O Z' H' O :=
  ⟨g.z, fun b o h1 h2 => ⟨g.h b o h1, h2⟩, fun b h => by
    cases e : H b with
    | none => exact absurd e h
    | some o => rw [g.h b o e]; simp, fun _ _ q h => .inr ⟨q, h⟩, fun b h => (g.zn b h).elim .inl fun h => .inr (.inl h)⟩
theorem same_upd {H : Hp} {p : Addr} {o : HO} (h : H p = none) : Same H (upd H p o) := fun b x e => by
  rw [upd_ne (ne_of_none e h)]
  exact e
/-- a new thing, frozen -/
theorem Grow.newZ {Z H : Hp} {p : Addr} {o : HO} (zh : Same Z H) (h : H p = none) : Grow Z H (upd Z p o) (upd H p o) where
  z := same_upd (zh.free h)
  h := same_upd h
  zh := fun b u e => by
    by_cases hb : b = p
    · subst hb; rw [upd_same] at e ⊢; exact e
    · rw [upd_ne hb] at e ⊢; exact zh b u e
  zn := fun b hb => by
    by_cases e : b = p
    · subst e; exact .inr h
    · rw [upd_ne e] at hb; exact .inl hb
/-- a new thing, not frozen -/
theorem Grow.newH {Z H : Hp} {p : Addr} {o : HO} (zh : Same Z H) (h : H p = none) : Grow Z H Z (upd H p o) :=
  ⟨Same.refl Z, same_upd h, zh.trans (same_upd h), fun _ h => .inl h⟩

section
variable {K : PySem.W.Frag} {mg : MG} {Z H Z' H' : Hp} {O O' : Lab} {C : Lk} {σ : L2.St} {ρ : Env}
theorem Own2.mono {i : Nat} : ∀ {k : Nat} {bs : List Addr} {xss : List (List Val)}, Own2 K mg Z H O i k bs xss → Same Z Z' → (∀ b q, O b = some (i, q) → H' b = H b ∧ O' b = some (i, q)) → Own2 K mg Z' H' O' i k bs xss
  | _, _, _, .nil, _, _ => .nil
  | _, _, _, .cons h1 h2 h3 h4, hz, hh => .cons (hh _ _ h1).2 (by rw [(hh _ _ h1).1]; exact h2) (h3.mono hz) (h4.mono hz hh)
/-- a slot whose own things stand -/
theorem SlotR.keep {i : Nat} {v : Option (Option V)} {s : Sl} (h : SlotR K mg Z H O C i v s) (hz : Same Z Z') (hh : ∀ b q, O b = some (i, q) → H' b = H b ∧ O' b = some (i, q)) : SlotR K mg Z' H' O' C i v s := by
  cases s with
  | no => trivial
  | fz x => obtain ⟨u, e, r⟩ := h; exact ⟨u, e, r.mono hz⟩
  | own xs => obtain ⟨a, vs, e, o, m, r⟩ := h; exact ⟨a, vs, e, (hh a 0 o).2, by rw [(hh a 0 o).1]; exact m, r.mono hz⟩
  | par xs => obtain ⟨a, vs, e, o, m, r, fx⟩ := h; exact ⟨a, vs, e, (hh a 0 o).2, by rw [(hh a 0 o).1]; exact m, r.mono hz, fx⟩
  | own2 xss => obtain ⟨a, bs, e, o, m, r⟩ := h; exact ⟨a, bs, e, (hh a 0 o).2, by rw [(hh a 0 o).1]; exact m, r.mono hz hh⟩
  | odK kxs => obtain ⟨a, kvs, e, o, m, k, r⟩ := h; exact ⟨a, kvs, e, (hh a 0 o).2, by rw [(hh a 0 o).1]; exact m, k, r.mono hz⟩
  | odT kxs => obtain ⟨a, kvs, e, o, m, k, r⟩ := h; exact ⟨a, kvs, e, (hh a 0 o).2, by rw [(hh a 0 o).1]; exact m, k, r.mono hz⟩
  | lck xs => obtain ⟨a, vs, e, m, r, fx⟩ := h; exact ⟨a, vs, e, m, r.mono hz, fx⟩
  | box cells d s =>
    obtain ⟨a, c, e, o1, o2, m1, m2⟩ := h
    exact ⟨a, c, e, (hh a 0 o1).2, (hh c 1 o2).2, by rw [(hh a 0 o1).1]; exact m1, by rw [(hh c 1 o2).1]; exact m2⟩
  | pbox cells d s =>
    obtain ⟨a, c, e, o1, o2, m1, m2, fx⟩ := h
    exact ⟨a, c, e, (hh a 0 o1).2, (hh c 1 o2).2, by rw [(hh a 0 o1).1]; exact m1, by rw [(hh c 1 o2).1]; exact m2, fx⟩
theorem EnvR.grow (R : EnvR K mg Z H O C σ ρ) (g : Grow Z H Z' H') : EnvR K mg Z' H' O C σ ρ where
  len := R.len
  zh := g.zh
  ch := R.ch.trans g.h
  oz := fun b hb => by
    obtain ⟨h1, h2, h3⟩ := R.oz b hb
    refine ⟨?_, h2, ?_⟩
    · cases e : Z' b with
      | none => rfl
      | some o =>
        rcases g.zn b (by rw [e]; simp) with h | h
        · exact absurd h1 h
        · exact absurd h h3
    · cases e : H b with
      | none => exact absurd e h3
      | some o => rw [g.h b o e]; simp
  ob := R.ob
  sl := fun i s e => (R.sl i s e).keep g.z fun b q hb => ⟨by
    obtain ⟨_, _, h3⟩ := R.oz b (by rw [hb]; simp)
    cases e : H b with
    | none => exact absurd e h3
    | some o => rw [g.h b o e], hb⟩
theorem EnvR.lt (R : EnvR K mg Z H O C σ ρ) {i : Nat} {s : Sl} (e : ρ[i]? = some s) : i < σ.length := by
  rw [← R.len]; exact (List.getElem?_eq_some_iff.mp e).1
end

/-! ### outcomes -/
inductive Out (α : Type) where
  | ok (a : α)
  | exc (e : Val)
  | bad
def Out.bind {α β : Type} (x : Out α) (f : α → Out β) : Out β := match x with
  | .ok a => f a
  | .exc e => .exc e
  | .bad => .bad
theorem Out.bind_ok {α β : Type} {x : Out α} {f : α → Out β} {b : β} (h : x.bind f = .ok b) : ∃ a, x = .ok a ∧ f a = .ok b := by
  cases x with
  | ok a => exact ⟨a, rfl, h⟩
  | exc e => cases h
  | bad => cases h
def Out.of {α : Type} : Option α → Out α
  | some a => .ok a
  | none => .bad
theorem Out.of_ok {α : Type} {x : Option α} {a : α} (h : Out.of x = .ok a) : x = some a := by
  cases x with
  | none => cases h
  | some b => cases h; rfl

/-- what an operand is: a value, or a slot that is read when the operation comes -/
inductive Hd where
  | val (x : Val)
  | slot (i : Nat)
abbrev DH := Env → Out (Hd × Env)
abbrev DV := Env → Out (Val × Env)
abbrev DT := Env → Out (Bool × Env)
abbrev DA := Env → Out (List Hd × Env)
abbrev DO := Env → Out (Sl × Env)

def Sl.view : Sl → Option Val
  | .fz x => some x
  | .own xs => some (.lst xs)
  | .odK k => some (.dK k)
  | .odT k => some (.dT k)
  | .lck xs => some (.lst xs)
  | .par xs => some (.lst xs)
  | _ => none
def deref (ρ : Env) : Hd → Option Val
  | .val x => some x
  | .slot i => match ρ[i]? with
    | some s => s.view
    | none => none

/-- v may be read as x now: frozen, or its top alone is not -/
inductive BorR (K : PySem.W.Frag) (mg : MG) (Z H : Hp) : V → Val → Prop
  | fz {v : V} {x : Val} : Rl K mg Z v x → BorR K mg Z H v x
  | lst {a : Addr} {vs : List V} {xs : List Val} : H a = some (.lst vs) → Rls K mg Z vs xs → BorR K mg Z H (.ref a) (.lst xs)
  | dK {a : Addr} {kvs : List (Key × V)} {kxs : List (Key × Val)} : H a = some (.dK kvs) → kvs.map (·.1) = kxs.map (·.1) → Rls K mg Z (kvs.map (·.2)) (kxs.map (·.2)) → BorR K mg Z H (.ref a) (.dK kxs)
  | dT {a : Addr} {kvs : List (List Key × V)} {kxs : List (List Key × Val)} : H a = some (.dT kvs) → kvs.map (·.1) = kxs.map (·.1) → Rls K mg Z (kvs.map (·.2)) (kxs.map (·.2)) → BorR K mg Z H (.ref a) (.dT kxs)

def HdR (K : PySem.W.Frag) (mg : MG) (Z : Hp) (σ : L2.St) (v : V) : Hd → Prop
  | .val x => Rl K mg Z v x
  | .slot i => σ[i]? = some (some v)
theorem HdR.mono {K : PySem.W.Frag} {mg : MG} {Z Z' : Hp} {σ : L2.St} {v : V} {h : Hd} (r : HdR K mg Z σ v h) (z : Same Z Z') : HdR K mg Z' σ v h := by
  cases h with
  | val x => exact Rl.mono z r
  | slot i => exact r

theorem deref_bor {K : PySem.W.Frag} {mg : MG} {Z H : Hp} {O : Lab} {C : Lk} {σ : L2.St} {ρ : Env} {v : V} {h : Hd} {x : Val} (R : EnvR K mg Z H O C σ ρ) (r : HdR K mg Z σ v h) (e : deref ρ h = some x) : BorR K mg Z H v x := by
  cases h with
  | val y => cases e; exact .fz r
  | slot i =>
    have r : σ[i]? = some (some v) := r
    unfold deref at e
    cases q : ρ[i]? with
    | none => simp only [q] at e; cases e
    | some s =>
      simp only [q] at e
      have z := R.sl i s q
      rw [r] at z
      cases s with
      | no => cases e
      | fz y => cases e; obtain ⟨u, e1, q⟩ := z; cases e1; exact .fz q
      | own xs => cases e; obtain ⟨a, vs, e1, _, m, q⟩ := z; cases e1; exact .lst m q
      | own2 _ => cases e
      | par xs => cases e; obtain ⟨a, vs, e1, _, m, q, _⟩ := z; cases e1; exact .lst m q
      | odK k => cases e; obtain ⟨a, vs, e1, _, m, q1, q⟩ := z; cases e1; exact .dK m q1 q
      | odT k => cases e; obtain ⟨a, vs, e1, _, m, q1, q⟩ := z; cases e1; exact .dT m q1 q
      | lck xs => cases e; obtain ⟨a, vs, e1, m, q, _⟩ := z; cases e1; exact .lst (R.ch _ _ m) q
      | box _ _ _ => cases e
      | pbox _ _ _ => cases e

/-! ### the judgements' readings -/
def TH (K : PySem.W.Frag) (mg : MG) (d : DH) : TE := fun σ H Q => ∃ Z O C ρ, EnvR K mg Z H O C σ ρ ∧ ∃ h ρ', d ρ = .ok (h, ρ') ∧
  ∀ v H' Z' O', Ext Z H O Z' H' O' → EnvR K mg Z' H' O' C σ ρ' → HdR K mg Z' σ v h → Q v H'
def TV (K : PySem.W.Frag) (mg : MG) (d : DV) : TE := fun σ H Q => ∃ Z O C ρ, EnvR K mg Z H O C σ ρ ∧ ∃ x ρ', d ρ = .ok (x, ρ') ∧
  ∀ v H' Z' O', Ext Z H O Z' H' O' → EnvR K mg Z' H' O' C σ ρ' → Rl K mg Z' v x → Q v H'
def TTt (K : PySem.W.Frag) (mg : MG) (d : DT) : TT := fun σ H Q => ∃ Z O C ρ, EnvR K mg Z H O C σ ρ ∧ ∃ b ρ', d ρ = .ok (b, ρ') ∧
  ∀ H' Z' O', Ext Z H O Z' H' O' → EnvR K mg Z' H' O' C σ ρ' → Q b H'
inductive HdRs (K : PySem.W.Frag) (mg : MG) (Z : Hp) (σ : L2.St) : List V → List Hd → Prop
  | nil : HdRs K mg Z σ [] []
  | cons {v : V} {h : Hd} {vs : List V} {hs : List Hd} : HdR K mg Z σ v h → HdRs K mg Z σ vs hs → HdRs K mg Z σ (v :: vs) (h :: hs)
theorem HdRs.mono {K : PySem.W.Frag} {mg : MG} {Z Z' : Hp} {σ : L2.St} (z : Same Z Z') : ∀ {vs : List V} {hs : List Hd}, HdRs K mg Z σ vs hs → HdRs K mg Z' σ vs hs
  | _, _, .nil => .nil
  | _, _, .cons r t => .cons (r.mono z) (HdRs.mono z t)
def TAs (K : PySem.W.Frag) (mg : MG) (d : DA) : TA := fun σ H Q => ∃ Z O C ρ, EnvR K mg Z H O C σ ρ ∧ ∃ hs ρ', d ρ = .ok (hs, ρ') ∧
  ∀ vs H' Z' O', Ext Z H O Z' H' O' → EnvR K mg Z' H' O' C σ ρ' → HdRs K mg Z' σ vs hs → Q vs H'

theorem PE.imp {X : Cx} {e : Expr} {t t' : TE} (h : PE X e t) (i : ∀ σ H Q, t' σ H Q → t σ H Q) : PE X e t' := ⟨fun pins s σ H Q I q => h.run pins s σ H Q I (i σ H Q q)⟩
theorem PT.imp {X : Cx} {e : Expr} {t t' : TT} (h : PT X e t) (i : ∀ σ H Q, t' σ H Q → t σ H Q) : PT X e t' := ⟨fun pins s σ H Q I q => h.run pins s σ H Q I (i σ H Q q)⟩
theorem PW.imp {X : Cx} {e : Expr} {t t' : TT} (h : PW X e t) (i : ∀ σ H Q, t' σ H Q → t σ H Q) : PW X e t' := ⟨fun wh pins s σ H Q I q => h.run wh pins s σ H Q I (i σ H Q q)⟩
theorem PA.imp {X : Cx} {es : List Expr} {t t' : TA} (h : PA X es t) (i : ∀ σ H Q, t' σ H Q → t σ H Q) : PA X es t' := ⟨fun pos pins s σ H Q I q => h.run pos pins s σ H Q I (i σ H Q q)⟩
theorem PS.imp {X : Cx} {e : Stmt} {t t' : TS} (h : PS X e t) (i : ∀ D σ H, t' D σ H → t D σ H) : PS X e t' := ⟨fun pins s σ H Q I q => h.run pins s σ H Q I (i Q σ H q)⟩
theorem PSs.imp {X : Cx} {e : List Stmt} {t t' : TS} (h : PSs X e t) (i : ∀ D σ H, t' D σ H → t D σ H) : PSs X e t' := ⟨fun pins s σ H Q I q => h.run pins s σ H Q I (i Q σ H q)⟩
theorem OpR.imp {X : Cx} {f : Value → Value → Sem Value} {r r' : R2} (h : OpR X f r) (i : ∀ x y H Q, r' x y H Q → r x y H Q) : OpR X f r' := fun pins s σ H x y v u Q I r1 r2 q => h pins s σ H x y v u Q I r1 r2 (i x y H Q q)
theorem IxR.imp {X : Cx} {r r' : R2} (h : IxR X r) (i : ∀ x y H Q, r' x y H Q → r x y H Q) : IxR X r' := fun va sl pins s σ H x y v u Q I r1 r2 q hs => h va sl pins s σ H x y v u Q I r1 r2 (i x y H Q q) hs
theorem SlR.imp {X : Cx} {r r' : V → Option Int → Option Int → Hp → VK → Prop} (h : SlR X r) (i : ∀ x lo hi H Q, r' x lo hi H Q → r x lo hi H Q) : SlR X r' := fun pins s σ H x v vl vu lo hi sl Q I r1 r2 p1 p2 q => h pins s σ H x v vl vu lo hi sl Q I r1 r2 p1 p2 (i x lo hi H Q q)
theorem MtR.imp {X : Cx} {id : String} {r r' : V → List V → Hp → VK → Prop} (h : MtR X id r) (i : ∀ x xs H Q, r' x xs H Q → r x xs H Q) : MtR X id r' := fun pins s σ H x xs v us Q I r1 r2 q => h pins s σ H x xs v us Q I r1 r2 (i x xs H Q q)
theorem CallR.imp {X : Cx} {f : Value} {r r' : List V → Hp → VK → Prop} (h : CallR X f r) (i : ∀ xs H Q, r' xs H Q → r xs H Q) : CallR X f r' := fun pins s σ H xs us Q I r1 q => h pins s σ H xs us Q I r1 (i xs H Q q)

abbrev PH (X : Cx) (e : Expr) (d : DH) : Prop := PE X e (TH X.K X.mg d)
abbrev PV (X : Cx) (e : Expr) (d : DV) : Prop := PE X e (TV X.K X.mg d)
abbrev PTt (X : Cx) (e : Expr) (d : DT) : Prop := PT X e (TTt X.K X.mg d)
abbrev PWt (X : Cx) (e : Expr) (d : DT) : Prop := PW X e (TTt X.K X.mg d)
abbrev PAs (X : Cx) (es : List Expr) (d : DA) : Prop := PA X es (TAs X.K X.mg d)

/-- a value as an operand -/
def dHV (d : DV) : DH := fun ρ => (d ρ).bind fun p => .ok (.val p.1, p.2)
theorem ph_of {X : Cx} {e : Expr} {d : DV} (h : PV X e d) : PH X e (dHV d) := PE.imp h fun σ H Q ⟨Z, O, C, ρ, R, x, ρ', q, k⟩ => by
  obtain ⟨⟨y, ρ1⟩, e1, e2⟩ := Out.bind_ok q
  cases e2
  exact ⟨Z, O, C, ρ, R, y, ρ1, e1, fun v H' Z' O' ex R' r => k v H' Z' O' ex R' r⟩

/-! ### names, constants -/
def dVar (i : Nat) : DH := fun ρ => match ρ[i]? with
  | some (.fz x) => .ok (.val x, ρ)
  | some (.own _) => .ok (.slot i, ρ)
  | some (.par _) => .ok (.slot i, ρ)
  | some (.odK _) => .ok (.slot i, ρ)
  | some (.odT _) => .ok (.slot i, ρ)
  | some (.lck _) => .ok (.slot i, ρ)
  | some (.box _ _ _) => .ok (.slot i, ρ)
  | some (.pbox _ _ _) => .ok (.slot i, ρ)
  | some (.own2 _) => .ok (.slot i, ρ)
  | _ => .bad
theorem ph_var {X : Cx} {i : Nat} {x : Str} {pos : Pos} (hN : X.N[i]? = some x := by rfl) (hv : Vis X.env.scope x := by first | exact Or.inl rfl | exact Or.inr (Or.inl rfl) | exact Or.inr (Or.inr rfl)) (hd : (x == ("__debug__" : Str)) = false := by decide)
    (hcd : (x == ("__classdict__" : Str)) = false := by decide) : PH X (.Name x pos) (dVar i) := PE.imp (pe_var hN hv hd hcd) fun σ H Q ⟨Z, O, C, ρ, R, h, ρ', q, k⟩ => by
  have key : ∀ v, σ[i]? = some (some v) → h = .slot i → ρ = ρ' → ∃ v, σ[i]? = some (some v) ∧ Q v H := fun v e1 e2 e3 => ⟨v, e1, k v H Z O (Ext.refl _ _ _) (e3 ▸ R) (by rw [e2]; exact e1)⟩
  unfold dVar at q
  cases e : ρ[i]? with
  | none => simp only [e] at q; cases q
  | some s =>
    have z := R.sl i s e
    simp only [e] at q
    cases s with
    | no => cases q
    | fz y =>
      cases q
      obtain ⟨u, e1, r⟩ := z
      exact ⟨u, e1, k u H Z O (Ext.refl _ _ _) R r⟩
    | own _ => cases q; obtain ⟨a, vs, e1, _⟩ := z; exact key _ e1 rfl rfl
    | par _ => cases q; obtain ⟨a, vs, e1, _⟩ := z; exact key _ e1 rfl rfl
    | own2 _ => cases q; obtain ⟨a, vs, e1, _⟩ := z; exact key _ e1 rfl rfl
    | odK _ => cases q; obtain ⟨a, vs, e1, _⟩ := z; exact key _ e1 rfl rfl
    | odT _ => cases q; obtain ⟨a, vs, e1, _⟩ := z; exact key _ e1 rfl rfl
    | lck _ => cases q; obtain ⟨a, vs, e1, _⟩ := z; exact key _ e1 rfl rfl
    | box _ _ _ => cases q; obtain ⟨a, vs, e1, _⟩ := z; exact key _ e1 rfl rfl
    | pbox _ _ _ => cases q; obtain ⟨a, vs, e1, _⟩ := z; exact key _ e1 rfl rfl
def dC (x : Val) : DV := fun ρ => .ok (x, ρ)
theorem pv_con {X : Cx} {e : Expr} {v : V} {x : Val} (h : PE X e (tC v)) (r : ∀ Z, Rl X.K X.mg Z v x) : PV X e (dC x) := PE.imp h fun σ H Q ⟨Z, O, C, ρ, R, y, ρ', q, k⟩ => by
  cases q
  exact k v H Z O (Ext.refl _ _ _) R (r Z)
theorem pv_int {X : Cx} {i j pos} : PV X (.Constant (.int i) j pos) (dC (.int i)) := pv_con pe_int fun _ => .int i
theorem pv_bl {X : Cx} {b j pos} : PV X (.Constant (.bool b) j pos) (dC (.bl b)) := pv_con pe_bl fun _ => .bl b
theorem pv_non {X : Cx} {j pos} : PV X (.Constant .none j pos) (dC .non) := pv_con pe_non fun _ => .non
theorem pv_str {X : Cx} {s j pos} : PV X (.Constant (.str s) j pos) (dC (.str s)) := pv_con pe_str fun _ => .str s
theorem pv_gint {X : Cx} {x : Str} {i : Int} {pos : Pos} (hg : Gl X x) (hm : ∃ t, X.mg x = some (.int i t)) (hd : (x == ("__debug__" : Str)) = false := by decide) : PV X (.Name x pos) (dC (.int i)) := by
  obtain ⟨t, hm⟩ := hm
  exact pv_con (pe_glob (v := .int i) hg hm ⟨t, rfl⟩ hd) fun _ => .int i
theorem pv_gstr {X : Cx} {x : Str} {i : Str} {pos : Pos} (hg : Gl X x) (hm : ∃ t, X.mg x = some (.str i t)) (hd : (x == ("__debug__" : Str)) = false := by decide) : PV X (.Name x pos) (dC (.str i)) := by
  obtain ⟨t, hm⟩ := hm
  exact pv_con (pe_glob (v := .str i) hg hm ⟨t, rfl⟩ hd) fun _ => .str i

/-! ### a slot used as a value: it is frozen -/
def frOf : Sl → Option Val
  | .fz x => some x
  | .own xs => some (.lst xs)
  | .own2 xss => some (.lst (xss.map Val.lst))
  | .odK k => some (.dK k)
  | .odT k => some (.dT k)
  | _ => none
/-- an operand taken as a value -/
def takeV (h : Hd) (ρ : Env) : Option (Val × Env) := match h with
  | .val x => some (x, ρ)
  | .slot i => match ρ[i]? with
    | some s => match frOf s with
      | some x => some (x, ρ.set i (.fz x))
      | none => none
    | none => none
/-- all of slot i is frozen -/
def frZ (i : Nat) (Z H : Hp) (O : Lab) : Hp := fun b => match O b with
  | some (j, _) => if j = i then H b else Z b
  | none => Z b
def frO (i : Nat) (O : Lab) : Lab := fun b => match O b with
  | some (j, q) => if j = i then none else some (j, q)
  | none => none
theorem frZ_at {i : Nat} {Z H : Hp} {O : Lab} {b : Addr} {q : Nat} (h : O b = some (i, q)) : frZ i Z H O b = H b := by unfold frZ; rw [h]; simp
theorem frZ_ne {i : Nat} {Z H : Hp} {O : Lab} {b : Addr} (h : ∀ q, O b ≠ some (i, q)) : frZ i Z H O b = Z b := by
  unfold frZ
  cases e : O b with
  | none => rfl
  | some p =>
    obtain ⟨j, q⟩ := p
    have : j ≠ i := fun z => h q (by rw [e, z])
    simp [this]
theorem frO_some {i : Nat} {O : Lab} {b : Addr} {j q : Nat} (h : frO i O b = some (j, q)) : O b = some (j, q) ∧ j ≠ i := by
  unfold frO at h
  cases e : O b with
  | none => rw [e] at h; cases h
  | some p =>
    obtain ⟨j', q'⟩ := p
    rw [e] at h
    by_cases hj : j' = i
    · simp [hj] at h
    · simp [hj] at h
      obtain ⟨h1, h2⟩ := h
      subst h1 h2
      exact ⟨rfl, hj⟩
theorem frO_ne {i : Nat} {O : Lab} {b : Addr} {j q : Nat} (h : O b = some (j, q)) (hj : j ≠ i) : frO i O b = some (j, q) := by unfold frO; rw [h]; simp [hj]
theorem frO_none {i : Nat} {O : Lab} {b : Addr} (h : O b = none) : frO i O b = none := by unfold frO; rw [h]
theorem frO_at {i : Nat} {O : Lab} {b : Addr} {q : Nat} (h : O b = some (i, q)) : frO i O b = none := by unfold frO; rw [h]; simp

section
variable {K : PySem.W.Frag} {mg : MG} {Z H : Hp} {O : Lab} {C : Lk} {σ : L2.St} {ρ : Env}
theorem frZ_same (oz : ∀ b, O b ≠ none → Z b = none ∧ C b = none ∧ H b ≠ none) (i : Nat) : Same Z (frZ i Z H O) := fun b o e => by
  cases q : O b with
  | none => unfold frZ; rw [q]; exact e
  | some p =>
    have := (oz b (by rw [q]; simp)).1
    rw [this] at e; cases e
theorem frZ_zh (zh : Same Z H) (i : Nat) : Same (frZ i Z H O) H := fun b o e => by
  unfold frZ at e
  cases q : O b with
  | none => rw [q] at e; exact zh b o e
  | some p =>
    rw [q] at e
    simp only at e
    split at e
    · exact e
    · exact zh b o e
theorem Own2.fr {i : Nat} (hz : Same Z (frZ i Z H O)) : ∀ {k : Nat} {bs : List Addr} {xss : List (List Val)}, Own2 K mg Z H O i k bs xss → Rls K mg (frZ i Z H O) (bs.map V.ref) (xss.map Val.lst)
  | _, _, _, .nil => .nil
  | _, _, _, .cons h1 h2 h3 h4 => .cons (.lst (by rw [frZ_at h1]; exact h2) (h3.mono hz)) (Own2.fr hz h4)
/-- slot i is frozen -/
theorem EnvR.freeze (R : EnvR K mg Z H O C σ ρ) {i : Nat} {s : Sl} {x : Val} (e : ρ[i]? = some s) (f : frOf s = some x) :
    ∃ v, σ[i]? = some (some v) ∧ Rl K mg (frZ i Z H O) v x ∧ EnvR K mg (frZ i Z H O) H (frO i O) C σ (ρ.set i (.fz x)) ∧ Ext Z H O (frZ i Z H O) H (frO i O) := by
  have hz := frZ_same R.oz i
  have z := R.sl i s e
  have hi : i < ρ.length := (List.getElem?_eq_some_iff.mp e).1
  have key : ∃ v, σ[i]? = some (some v) ∧ Rl K mg (frZ i Z H O) v x := by
    cases s with
    | no => cases f
    | fz y => cases f; obtain ⟨u, e1, r⟩ := z; exact ⟨u, e1, r.mono hz⟩
    | own xs => cases f; obtain ⟨a, vs, e1, o, m, r⟩ := z; exact ⟨_, e1, .lst (by rw [frZ_at o]; exact m) (r.mono hz)⟩
    | own2 xss => cases f; obtain ⟨a, bs, e1, o, m, r⟩ := z; exact ⟨_, e1, .lst (by rw [frZ_at o]; exact m) (r.fr hz)⟩
    | odK k => cases f; obtain ⟨a, kvs, e1, o, m, q, r⟩ := z; exact ⟨_, e1, .dK (by rw [frZ_at o]; exact m) q (r.mono hz)⟩
    | odT k => cases f; obtain ⟨a, kvs, e1, o, m, q, r⟩ := z; exact ⟨_, e1, .dT (by rw [frZ_at o]; exact m) q (r.mono hz)⟩
    | lck _ => cases f
    | par _ => cases f
    | box _ _ _ => cases f
    | pbox _ _ _ => cases f
  obtain ⟨v, ev, rv⟩ := key
  refine ⟨v, ev, rv, ⟨by rw [List.length_set]; exact R.len, frZ_zh R.zh i, R.ch, fun b hb => ?_, fun b j q h => ?_, fun j t ej => ?_⟩, ⟨hz, fun b o h1 h2 => ⟨h1, frO_none h2⟩, fun _ h => h, fun b j q h => .inr ⟨q, (frO_some h).1⟩, fun b hb => ?_⟩⟩
  rotate_left 3
  · cases q : O b with
    | none => refine .inl fun z => hb ?_; unfold frZ; rw [q]; exact z
    | some p => exact .inr (.inr (by simp))
  · obtain ⟨p, hp⟩ := Option.ne_none_iff_exists'.mp hb
    obtain ⟨j, q⟩ := p
    obtain ⟨h1, h2⟩ := frO_some hp
    obtain ⟨h3, h4, h5⟩ := R.oz b (by rw [h1]; simp)
    exact ⟨by rw [frZ_ne fun q' z => h2 (by rw [h1] at z; cases z; rfl)]; exact h3, h4, h5⟩
  · rw [List.length_set]; exact R.ob b j q (frO_some h).1
  · by_cases hj : j = i
    · subst hj
      rw [List.getElem?_set_self hi] at ej
      cases ej
      exact ⟨v, ev, rv⟩
    · rw [List.getElem?_set_ne (Ne.symm hj)] at ej
      exact (R.sl j t ej).keep hz fun b q hb => ⟨rfl, frO_ne hb hj⟩
theorem takeV_ok (R : EnvR K mg Z H O C σ ρ) {v : V} {h : Hd} {x : Val} {ρ' : Env} (r : HdR K mg Z σ v h) (e : takeV h ρ = some (x, ρ')) :
    ∃ Z' O', Ext Z H O Z' H O' ∧ EnvR K mg Z' H O' C σ ρ' ∧ Rl K mg Z' v x := by
  cases h with
  | val y => cases e; exact ⟨Z, O, Ext.refl _ _ _, R, r⟩
  | slot i =>
    have r : σ[i]? = some (some v) := r
    unfold takeV at e
    cases q : ρ[i]? with
    | none => simp only [q] at e; cases e
    | some s =>
      simp only [q] at e
      cases f : frOf s with
      | none => simp only [f] at e; cases e
      | some y =>
        simp only [f] at e
        cases e
        obtain ⟨w, h1, h2, h3, h4⟩ := R.freeze q f
        rw [r] at h1
        cases h1
        exact ⟨_, _, h4, h3, h2⟩
end
def dVH (d : DH) : DV := fun ρ => (d ρ).bind fun p => Out.of (takeV p.1 p.2)
theorem pv_of {X : Cx} {e : Expr} {d : DH} (h : PH X e d) : PV X e (dVH d) := PE.imp h fun σ H Q ⟨Z, O, C, ρ, R, x, ρ', q, k⟩ => by
  obtain ⟨⟨hd, ρ1⟩, e1, e2⟩ := Out.bind_ok q
  refine ⟨Z, O, C, ρ, R, hd, ρ1, e1, fun v H' Z' O' ex R' r => ?_⟩
  obtain ⟨Z2, O2, ex2, R2, r2⟩ := takeV_ok R' r (Out.of_ok e2)
  exact k v H' Z2 O2 (ex.trans ex2) R2 r2
end Ev

/-! Ev: operations on values. -/
namespace Ev
open PySem PySem.Spec PyProof.Rows L2

/-! ### values as data -/
mutual
def Val.py : Val → PyData
  | .non => .none
  | .bl b => .bool b
  | .int i => .int i
  | .str s => .str s
  | .tup xs => .tuple (pys xs)
  | .lst xs => .list (pys xs)
  | .ktup xs => .tuple (pys xs)
  | _ => .dict []
def pys : List Val → List PyData
  | [] => []
  | x :: xs => x.py :: pys xs
end
theorem pys_map : ∀ xs : List Val, pys xs = xs.map Val.py
  | [] => by simp [pys]
  | x :: xs => by simp [pys, pys_map xs]

section
variable {K : PySem.W.Frag} {mg : MG} {Z H : Hp}
mutual
theorem Rl.dp : ∀ {v : V} {x : Val}, Rl K mg Z v x → x.py.plain = true → Dp K Z v x.py
  | _, _, .non, _ => by simp only [Val.py]; exact .non
  | _, _, .bl b, _ => by simp only [Val.py]; exact .bl b
  | _, _, .int i, _ => by simp only [Val.py]; exact .int i
  | _, _, .str s, _ => by simp only [Val.py]; exact .str s
  | _, _, .tup h r, p => by
    simp only [Val.py] at p ⊢
    exact .tup (SqT.of h) (Rls.dp r (by simpa [PyData.plain] using p))
  | _, _, .ktup h r, p => by
    simp only [Val.py] at p ⊢
    exact .tup h (Rls.dp r (by simpa [PyData.plain] using p))
  | _, _, .lst h r, p => by
    simp only [Val.py] at p ⊢
    exact .lst (SqL.of h) (Rls.dp r (by simpa [PyData.plain] using p))
  | _, _, .dK _ _ _, p => by simp [Val.py, PyData.plain] at p
  | _, _, .dT _ _ _, p => by simp [Val.py, PyData.plain] at p
  | _, _, .scr _, p => by simp [Val.py, PyData.plain] at p
  | _, _, .fn _ _, p => by simp [Val.py, PyData.plain] at p
theorem Rls.dp : ∀ {vs : List V} {xs : List Val}, Rls K mg Z vs xs → PyData.plainAll (pys xs) = true → DpAll K Z vs (pys xs)
  | _, _, .nil, _ => by simp only [pys]; exact .nil
  | _, _, .cons r t, p => by
    simp only [pys] at p ⊢
    have p' := Bool.and_eq_true_iff.mp (show (PyData.plain _ && PyData.plainAll _) = true from p)
    exact .cons (Rl.dp r p'.1) (Rls.dp t p'.2)
end
mutual
theorem Dp.mono {H' : Hp} (e : Same Z H') : ∀ {v : V} {d : PyData}, Dp K Z v d → Dp K H' v d
  | _, _, .non => .non
  | _, _, .bl b => .bl b
  | _, _, .int b => .int b
  | _, _, .str b => .str b
  | _, _, .lst h r => .lst (e.seq h) (DpAll.mono e r)
  | _, _, .tup h r => .tup (seqT_mono e h) (DpAll.mono e r)
theorem DpAll.mono {H' : Hp} (e : Same Z H') : ∀ {v : List V} {d : List PyData}, DpAll K Z v d → DpAll K H' v d
  | _, _, .nil => .nil
  | _, _, .cons h t => .cons (Dp.mono e h) (DpAll.mono e t)
end
theorem BorR.dp (zh : Same Z H) {v : V} {x : Val} (b : BorR K mg Z H v x) (p : x.py.plain = true) : Dp K H v x.py := by
  cases b with
  | fz r => exact Dp.mono zh (r.dp p)
  | lst h r =>
    simp only [Val.py] at p ⊢
    exact .lst (SqL.of h) (DpAll.mono zh (r.dp (by simpa [PyData.plain] using p)))
  | dK _ _ _ => simp [Val.py, PyData.plain] at p
  | dT _ _ _ => simp [Val.py, PyData.plain] at p
/-! what a borrowed value is -/
theorem bor_non {v : V} (b : BorR K mg Z H v .non) : v = .non := by cases b with | fz r => cases r; rfl
theorem bor_bl {v : V} {k : Bool} (b : BorR K mg Z H v (.bl k)) : v = .bl k := by cases b with | fz r => cases r; rfl
theorem bor_int {v : V} {k : Int} (b : BorR K mg Z H v (.int k)) : v = .int k := by cases b with | fz r => cases r; rfl
theorem bor_str {v : V} {k : Str} (b : BorR K mg Z H v (.str k)) : v = .str k := by cases b with | fz r => cases r; rfl
theorem bor_tup {v : V} {xs : List Val} (b : BorR K mg Z H v (.tup xs)) : ∃ a vs, v = .ref a ∧ Z a = some (.tup vs) ∧ Rls K mg Z vs xs := by cases b with | fz r => cases r with | tup h r => exact ⟨_, _, rfl, h, r⟩
theorem bor_ktup {v : V} {xs : List Val} (b : BorR K mg Z H v (.ktup xs)) : ∃ a vs, v = .ref a ∧ SqT K Z a vs ∧ Rls K mg Z vs xs := by cases b with | fz r => cases r with | ktup h r => exact ⟨_, _, rfl, h, r⟩
theorem bor_lst (zh : Same Z H) {v : V} {xs : List Val} (b : BorR K mg Z H v (.lst xs)) : ∃ a vs, v = .ref a ∧ H a = some (.lst vs) ∧ Rls K mg Z vs xs := by
  cases b with
  | fz r => cases r with | lst h r => exact ⟨_, _, rfl, zh _ _ h, r⟩
  | lst h r => exact ⟨_, _, rfl, h, r⟩
theorem bor_scr {v : V} {xs : List Int} (b : BorR K mg Z H v (.scr xs)) : ∃ a, v = .ref a ∧ SqL K Z a (xs.map V.int) := by cases b with | fz r => cases r with | scr h => exact ⟨_, rfl, h⟩
theorem bor_dK (zh : Same Z H) {v : V} {kxs : List (Key × Val)} (b : BorR K mg Z H v (.dK kxs)) : ∃ a kvs, v = .ref a ∧ H a = some (.dK kvs) ∧ kvs.map (·.1) = kxs.map (·.1) ∧ Rls K mg Z (kvs.map (·.2)) (kxs.map (·.2)) := by
  cases b with
  | fz r => cases r with | dK h k r => exact ⟨_, _, rfl, zh _ _ h, k, r⟩
  | dK h k r => exact ⟨_, _, rfl, h, k, r⟩
theorem bor_dT (zh : Same Z H) {v : V} {kxs : List (List Key × Val)} (b : BorR K mg Z H v (.dT kxs)) : ∃ a kvs, v = .ref a ∧ H a = some (.dT kvs) ∧ kvs.map (·.1) = kxs.map (·.1) ∧ Rls K mg Z (kvs.map (·.2)) (kxs.map (·.2)) := by
  cases b with
  | fz r => cases r with | dT h k r => exact ⟨_, _, rfl, zh _ _ h, k, r⟩
  | dT h k r => exact ⟨_, _, rfl, h, k, r⟩
end

/-! ### a pure operation's answer: frozen, beside new things -/
def PQ (K : PySem.W.Frag) (mg : MG) (Z H : Hp) (z : Val) (Q : VK) : Prop := ∀ u Z' H', Grow Z H Z' H' → Rl K mg Z' u z → Q u H'
section
variable {K : PySem.W.Frag} {mg : MG} {Z H : Hp} {Q : VK}
theorem PQ.here {u : V} {z : Val} (zh : Same Z H) (q : PQ K mg Z H z Q) (r : Rl K mg Z u z) : Q u H := q u Z H (Grow.refl zh) r
theorem PQ.newL {vs : List V} {xs : List Val} {p : Addr} (zh : Same Z H) (q : PQ K mg Z H (.lst xs) Q) (hp : H p = none) (r : Rls K mg Z vs xs) : Q (.ref p) (upd H p (.lst vs)) :=
  let g := Grow.newZ (o := .lst vs) zh hp
  q _ _ _ g (.lst upd_same (r.mono g.z))
theorem PQ.newT {vs : List V} {xs : List Val} {p : Addr} (zh : Same Z H) (q : PQ K mg Z H (.tup xs) Q) (hp : H p = none) (r : Rls K mg Z vs xs) : Q (.ref p) (upd H p (.tup vs)) :=
  let g := Grow.newZ (o := .tup vs) zh hp
  q _ _ _ g (.tup upd_same (r.mono g.z))
end

/-- a two-place operation by values -/
def r2 (K : PySem.W.Frag) (mg : MG) (g : Val → Val → Option Val) : R2 := fun v w H Q => ∃ Z x y z, Same Z H ∧ BorR K mg Z H v x ∧ BorR K mg Z H w y ∧ g x y = some z ∧ PQ K mg Z H z Q
def d2 (g : Val → Val → Option Val) (da db : DH) : DV := fun ρ => (da ρ).bind fun p => (db p.2).bind fun q =>
  Out.of ((deref q.2 p.1).bind fun x => (deref q.2 q.1).bind fun y => (g x y).map fun z => (z, q.2))
theorem bind2 {ρ : Env} {h1 h2 : Hd} {g : Val → Val → Option Val} {z : Val} {ρ' : Env} (e : (deref ρ h1).bind (fun x => (deref ρ h2).bind fun y => (g x y).map fun z => (z, ρ)) = some (z, ρ')) :
    ∃ x y, deref ρ h1 = some x ∧ deref ρ h2 = some y ∧ g x y = some z ∧ ρ' = ρ := by
  obtain ⟨x, e1, e⟩ := Option.bind_eq_some_iff.mp e
  obtain ⟨y, e2, e⟩ := Option.bind_eq_some_iff.mp e
  obtain ⟨w, e3, e⟩ := Option.map_eq_some_iff.mp e
  cases e
  exact ⟨x, y, e1, e2, e3, rfl⟩
/-- two operands, then an operation -/
theorem run2 {K : PySem.W.Frag} {mg : MG} {da db : DH} {g : Val → Val → Option Val} {σ : L2.St} {H : Hp} {Q : VK} (h : TV K mg (d2 g da db) σ H Q) : TH K mg da σ H fun v H1 => TH K mg db σ H1 fun w H2 => r2 K mg g v w H2 Q := by
  obtain ⟨Z, O, C, ρ, R, x, ρ', q, k⟩ := h
  obtain ⟨⟨h1, ρ1⟩, e1, q⟩ := Out.bind_ok q
  obtain ⟨⟨h2, ρ2⟩, e2, q⟩ := Out.bind_ok q
  obtain ⟨y1, y2, f1, f2, f3, f4⟩ := bind2 (Out.of_ok q)
  subst f4
  refine ⟨Z, O, C, ρ, R, h1, ρ1, e1, fun v H1 Z1 O1 ex1 R1 r1 => ⟨Z1, O1, C, ρ1, R1, h2, ρ', e2, fun w H2 Z2 O2 ex2 R2 r2 => ?_⟩⟩
  exact ⟨Z2, y1, y2, x, R2.zh, deref_bor R2 (r1.mono ex2.z) f1, deref_bor R2 r2 f2, f3, fun u Z3 H3 gr r => k u H3 Z3 O2 ((ex1.trans ex2).trans gr.ext) (R2.grow gr) r⟩
section
variable {X : Cx} {a b : Expr} {da db : DH} {pos : Pos} {g : Val → Val → Option Val}
theorem pv_op {op : Operator} (ho : OpR X (binaryOp op) (r2 X.K X.mg g)) (ha : PH X a da) (hb : PH X b db) : PV X (.BinOp a op b pos) (d2 g da db) := PE.imp (pe_op ho ha hb) fun _ _ _ => run2
theorem pv_cmp {op : CmpOp} (ho : OpR X (compareOp op) (r2 X.K X.mg g)) (ha : PH X a da) (hb : PH X b db) (hm : behindInMarks op b = false := by first | exact nomark _ | rfl) : PV X (.Compare a [op] [b] pos) (d2 g da db) := PE.imp (pe_cmpR ho ha hb hm) fun _ _ _ => run2
theorem pv_ix (ho : IxR X (r2 X.K X.mg g)) (ha : PH X a da) (hb : PH X b db) (hs : PlainIx b := by intro _ _; rfl) : PV X (.Subscript a b pos) (d2 g da db) := PE.imp (pe_ix ho ha hb hs) fun _ _ _ => run2
end

/-! ### arithmetic -/
def addV : Val → Val → Option Val
  | .int i, .int j => some (.int (i + j))
  | .str s, .str t => if s.length + t.length ≤ sizeLine then some (.str (s ++ t)) else none
  | .tup xs, .tup ys => if xs.length + ys.length ≤ sizeLine then some (.tup (xs ++ ys)) else none
  | .lst xs, .lst ys => if xs.length + ys.length ≤ sizeLine then some (.lst (xs ++ ys)) else none
  | _, _ => none
def subV : Val → Val → Option Val
  | .int i, .int j => some (.int (i - j))
  | _, _ => none
def mulOk (i j : Int) : Bool := (decide (-(2 ^ 64) < i) && decide (i < 2 ^ 64)) || (decide (-(2 ^ 64) < j) && decide (j < 2 ^ 64))
def mulV : Val → Val → Option Val
  | .int i, .int j => if mulOk i j then some (.int (i * j)) else none
  | .lst xs, .int k => if -(2 ^ 63) ≤ k ∧ k < 2 ^ 63 ∧ xs.length * k.toNat ≤ sizeLine then some (.lst (List.replicate k.toNat xs).flatten) else none
  | .tup xs, .int k => if xs ≠ [] ∧ 2 ≤ k ∧ k ≤ 1000 ∧ xs.length ≤ 1000 then some (.tup (List.replicate k.toNat xs).flatten) else none
  | _, _ => none
def divV : Val → Val → Option Val
  | .int i, .int j => if 0 < j ∧ j.natAbs.log2 < 9000 then some (.int (i / j)) else none
  | _, _ => none
def modV : Val → Val → Option Val
  | .int i, .int j => if 0 < j then some (.int (i % j)) else none
  | _, _ => none
def powV : Val → Val → Option Val
  | .int i, .int j => if 0 ≤ j ∧ j ≤ 1000000 ∧ i.natAbs < 2 ^ 64 then some (.int (i ^ j.toNat)) else none
  | _, _ => none
theorem Rls.rep {K : PySem.W.Frag} {mg : MG} {Z : Hp} {vs : List V} {xs : List Val} (h : Rls K mg Z vs xs) : ∀ k : Nat, Rls K mg Z (List.replicate k vs).flatten (List.replicate k xs).flatten
  | 0 => .nil
  | k + 1 => by
    rw [List.replicate_succ, List.replicate_succ, List.flatten_cons, List.flatten_cons]
    exact h.append (h.rep k)
section
variable {X : Cx}
theorem o_add : OpR X (binaryOp .Add) (r2 X.K X.mg addV) := OpR.imp (op_add.or (op_add_str.or (op_catA.or op_cat))) fun v w H Q ⟨Z, x, y, z, zh, b1, b2, e, q⟩ => by
  unfold addV at e
  split at e
  · cases e
    cases bor_int b1
    cases bor_int b2
    exact .inl ⟨_, _, rfl, rfl, q.here zh (.int _)⟩
  · split at e
    · rename_i hl
      cases e
      cases bor_str b1
      cases bor_str b2
      exact .inr (.inl ⟨_, _, rfl, rfl, hl, q.here zh (.str _)⟩)
    · cases e
  · split at e
    · rename_i hl
      cases e
      obtain ⟨a, vs, rfl, h1, r1⟩ := bor_tup b1
      obtain ⟨b, ws, rfl, h2, r2⟩ := bor_tup b2
      refine .inr (.inr (.inl ⟨a, b, vs, ws, rfl, rfl, SqT.of (zh _ _ h1), SqT.of (zh _ _ h2), by rw [r1.length, r2.length]; exact hl, fun e => ?_, fun _ e => ?_, fun _ _ p hp => q.newT zh hp (r1.append r2)⟩))
      · subst e
        cases r1
        exact q.here zh (.tup h2 r2)
      · subst e
        cases r2
        rw [List.append_nil] at q
        exact q.here zh (.tup h1 r1)
    · cases e
  · split at e
    · rename_i hl
      cases e
      obtain ⟨a, vs, rfl, h1, r1⟩ := bor_lst zh b1
      obtain ⟨b, ws, rfl, h2, r2⟩ := bor_lst zh b2
      exact .inr (.inr (.inr ⟨a, b, vs, ws, rfl, rfl, h1, h2, by rw [r1.length, r2.length]; exact hl, fun p hp => q.newL zh hp (r1.append r2)⟩))
    · cases e
  · cases e
theorem o_sub : OpR X (binaryOp .Sub) (r2 X.K X.mg subV) := OpR.imp op_sub fun v w H Q ⟨Z, x, y, z, zh, b1, b2, e, q⟩ => by
  unfold subV at e
  split at e
  · cases e
    cases bor_int b1
    cases bor_int b2
    exact ⟨_, _, rfl, rfl, q.here zh (.int _)⟩
  · cases e
theorem o_mul : OpR X (binaryOp .Mult) (r2 X.K X.mg mulV) := OpR.imp (op_mul.or (op_rep.or op_repT)) fun v w H Q ⟨Z, x, y, z, zh, b1, b2, e, q⟩ => by
  unfold mulV at e
  split at e
  · split at e
    · rename_i hm
      cases e
      cases bor_int b1
      cases bor_int b2
      refine .inl ⟨_, _, rfl, rfl, ?_, q.here zh (.int _)⟩
      unfold mulOk at hm
      simpa [CMul] using hm
    · cases e
  · split at e
    · rename_i hk
      cases e
      obtain ⟨a, vs, rfl, h1, r1⟩ := bor_lst zh b1
      cases bor_int b2
      exact .inr (.inl ⟨a, _, vs, rfl, rfl, h1, hk.1, hk.2.1, by rw [r1.length]; exact hk.2.2, fun p hp => q.newL zh hp (r1.rep _)⟩)
    · cases e
  · split at e
    · rename_i hk
      cases e
      obtain ⟨a, vs, rfl, h1, r1⟩ := bor_tup b1
      cases bor_int b2
      refine .inr (.inr ⟨a, _, vs, rfl, rfl, SqT.of (zh _ _ h1), fun z => hk.1 ?_, hk.2.1, hk.2.2.1, by rw [r1.length]; exact hk.2.2.2, fun p hp => q.newT zh hp (r1.rep _)⟩)
      subst z
      cases r1
      rfl
    · cases e
  · cases e
theorem o_div : OpR X (binaryOp .FloorDiv) (r2 X.K X.mg divV) := OpR.imp op_fdivW fun v w H Q ⟨Z, x, y, z, zh, b1, b2, e, q⟩ => by
  unfold divV at e
  split at e
  · split at e
    · rename_i hk
      cases e
      cases bor_int b1
      cases bor_int b2
      exact ⟨_, _, rfl, rfl, hk, q.here zh (.int _)⟩
    · cases e
  · cases e
theorem o_mod : OpR X (binaryOp .Mod) (r2 X.K X.mg modV) := OpR.imp op_mod fun v w H Q ⟨Z, x, y, z, zh, b1, b2, e, q⟩ => by
  unfold modV at e
  split at e
  · split at e
    · rename_i hk
      cases e
      cases bor_int b1
      cases bor_int b2
      exact ⟨_, _, rfl, rfl, hk, q.here zh (.int _)⟩
    · cases e
  · cases e
theorem o_pow : OpR X (binaryOp .Pow) (r2 X.K X.mg powV) := OpR.imp op_pow fun v w H Q ⟨Z, x, y, z, zh, b1, b2, e, q⟩ => by
  unfold powV at e
  split at e
  · split at e
    · rename_i hk
      cases e
      cases bor_int b1
      cases bor_int b2
      exact ⟨_, _, rfl, rfl, hk, q.here zh (.int _)⟩
    · cases e
  · cases e
end

/-! ### comparisons -/
def small2 (x y : PyData) : Bool := decide (min x.depth y.depth ≤ 64)
def eqB (x y : Val) : Option Bool := if x.py.plain && y.py.plain && small2 x.py y.py then some (PyData.eqv x.py y.py) else none
def eqV (x y : Val) : Option Val := (eqB x y).map .bl
def neV (x y : Val) : Option Val := (eqB x y).map fun b => .bl (!b)
def notNone : PyData → Bool
  | .none => false
  | _ => true
def cmpOk (x y : PyData) : Bool := PySem.W.alike x y && notNone x && small2 x y && x.plain && y.plain
def ltB (x y : Val) : Option Bool := if cmpOk x.py y.py then some (PySem.W.dataLt x.py y.py) else none
def ltV (x y : Val) : Option Val := (ltB x y).map .bl
def gtV (x y : Val) : Option Val := if cmpOk x.py y.py then some (.bl (PySem.W.dataLt y.py x.py)) else none
def leV (x y : Val) : Option Val := if cmpOk x.py y.py then some (.bl (!PySem.W.dataLt y.py x.py)) else none
def geV (x y : Val) : Option Val := (ltB x y).map fun b => .bl (!b)
def keyOf : Val → Option Key
  | .int i => some (.inl i)
  | .str s => some (.inr s)
  | _ => none
def keysOf : List Val → Option (List Key)
  | [] => some []
  | x :: xs => match keyOf x, keysOf xs with
    | some k, some ks => some (k :: ks)
    | _, _ => none
def inB (x : Val) : Val → Option Bool
  | .lst ys => if x.py.plain && PyData.plainAll (pys ys) && decide (min (PyData.depthAll (pys ys)) x.py.depth ≤ 64) then some ((pys ys).any fun y => PyData.eqv y x.py) else none
  | .tup ys => if x.py.plain && PyData.plainAll (pys ys) && decide (min (PyData.depthAll (pys ys)) x.py.depth ≤ 64) then some ((pys ys).any fun y => PyData.eqv y x.py) else none
  | .ktup ys => if x.py.plain && PyData.plainAll (pys ys) && decide (min (PyData.depthAll (pys ys)) x.py.depth ≤ 64) then some ((pys ys).any fun y => PyData.eqv y x.py) else none
  | .dK kxs => (keyOf x).map fun k => kxs.any fun p => decide (p.1 = k)
  | .dT kxs => match x with
    | .tup xs => (keysOf xs).map fun k => kxs.any fun p => decide (p.1 = k)
    | _ => none
  | .str t => match x with
    | .str s => some (!(Builtin.Str.occurrences t s 0 t.length 1).isEmpty)
    | _ => none
  | _ => none
def inV (x y : Val) : Option Val := (inB x y).map .bl
def ninV (x y : Val) : Option Val := (inB x y).map fun b => .bl (!b)

/-- an answer that is a truth value, by a rule over the machine's heap -/
theorem op_raw {X : Cx} {f : Value → Value → Sem Value} {g : Val → Val → Option Val}
    (h : ∀ (pins : List (Addr × Obj)) (s : Shared) (σ : L2.St) (Z H : Hp) (v w : V) (x y z : Val) (u1 u2 : Value) (Q : VK), Inv X pins σ H s → RelV v u1 → RelV w u2 → Same Z H → BorR X.K X.mg Z H v x → BorR X.K X.mg Z H w y → g x y = some z →
      PQ X.K X.mg Z H z Q → wpAny (model X.prog X.w) X.A (f u1 u2) (EP X pins σ Q) X.xe s) : OpR X f (r2 X.K X.mg g) :=
  fun pins s σ H v w u1 u2 Q I r1 r2 ⟨Z, x, y, z, zh, b1, b2, e, q⟩ => h pins s σ Z H v w x y z u1 u2 Q I r1 r2 zh b1 b2 e q
theorem PQ.bl {X : Cx} {pins : List (Addr × Obj)} {σ : L2.St} {Z H : Hp} {s : Shared} {b : Bool} {Q : VK} (I : Inv X pins σ H s) (zh : Same Z H) (q : PQ X.K X.mg Z H (.bl b) Q) : EP X pins σ Q (.bool b) s := ⟨.bl b, H, I, rfl, q.here zh (.bl b)⟩
theorem small2_room {x y : PyData} {A : Around} {k : Nat} (hr : Room k A) (h : small2 x y = true) : A.units + min x.depth y.depth < cLine := by
  have h1 : min x.depth y.depth ≤ 64 := of_decide_eq_true h
  have h2 := hr.un
  omega
theorem reads_of {X : Cx} {pins : List (Addr × Obj)} {σ : L2.St} {Z H : Hp} {s : Shared} {v : V} {x : Val} {u : Value} (I : Inv X pins σ H s) (zh : Same Z H) (b : BorR X.K X.mg Z H v x) (p : x.py.plain = true) (r : RelV v u) : ∃ as, Reads s.heap u x.py as :=
  Dp.reads I x.py v u (b.dp zh p) r
section
variable {X : Cx} {k : Nat}
theorem o_eq (hr : Room k X.A) : OpR X (compareOp .Eq) (r2 X.K X.mg eqV) := op_raw fun pins s σ Z H v w x y z u1 u2 Q I r1 r2 zh b1 b2 e q => by
  obtain ⟨b, e1, rfl⟩ := Option.map_eq_some_iff.mp e
  unfold eqB at e1
  split at e1
  · rename_i hc
    cases e1
    simp only [Bool.and_eq_true] at hc
    obtain ⟨as, ra⟩ := reads_of I zh b1 hc.1.1 r1
    obtain ⟨bs, rb⟩ := reads_of I zh b2 hc.1.2 r2
    exact PySem.SeqAt.eq_plain ra rb hc.1.1 hc.1.2 (small2_room hr hc.2) (q.bl I zh)
  · cases e1
theorem o_ne (hr : Room k X.A) : OpR X (compareOp .NotEq) (r2 X.K X.mg neV) := op_raw fun pins s σ Z H v w x y z u1 u2 Q I r1 r2 zh b1 b2 e q => by
  obtain ⟨b, e1, rfl⟩ := Option.map_eq_some_iff.mp e
  unfold eqB at e1
  split at e1
  · rename_i hc
    cases e1
    simp only [Bool.and_eq_true] at hc
    obtain ⟨as, ra⟩ := reads_of I zh b1 hc.1.1 r1
    obtain ⟨bs, rb⟩ := reads_of I zh b2 hc.1.2 r2
    exact PySem.SeqAt.ne_plain ra rb hc.1.1 hc.1.2 (small2_room hr hc.2) (q.bl I zh)
  · cases e1
theorem cmpOk_out {x y : PyData} (h : cmpOk x y = true) : PySem.W.alike x y = true ∧ x ≠ .none ∧ small2 x y = true ∧ x.plain = true ∧ y.plain = true := by
  unfold cmpOk at h
  simp only [Bool.and_eq_true] at h
  exact ⟨h.1.1.1.1, fun z => (by rw [z] at h; exact absurd h.1.1.1.2 (by simp [notNone])), h.1.1.2, h.1.2, h.2⟩
theorem o_lt (hr : Room k X.A) : OpR X (compareOp .Lt) (r2 X.K X.mg ltV) := op_raw fun pins s σ Z H v w x y z u1 u2 Q I r1 r2 zh b1 b2 e q => by
  obtain ⟨b, e1, rfl⟩ := Option.map_eq_some_iff.mp e
  unfold ltB at e1
  split at e1
  · rename_i hc
    cases e1
    obtain ⟨c1, c2, c3, c4, c5⟩ := cmpOk_out hc
    obtain ⟨as, ra⟩ := reads_of I zh b1 c4 r1
    obtain ⟨bs, rb⟩ := reads_of I zh b2 c5 r2
    exact PySem.W.lt_data ra rb c1 c2 (small2_room hr c3) (q.bl I zh)
  · cases e1
theorem o_ge (hr : Room k X.A) : OpR X (compareOp .GtE) (r2 X.K X.mg geV) := op_raw fun pins s σ Z H v w x y z u1 u2 Q I r1 r2 zh b1 b2 e q => by
  obtain ⟨b, e1, rfl⟩ := Option.map_eq_some_iff.mp e
  unfold ltB at e1
  split at e1
  · rename_i hc
    cases e1
    obtain ⟨c1, c2, c3, c4, c5⟩ := cmpOk_out hc
    obtain ⟨as, ra⟩ := reads_of I zh b1 c4 r1
    obtain ⟨bs, rb⟩ := reads_of I zh b2 c5 r2
    exact PySem.W.ge_data ra rb c1 c2 (small2_room hr c3) (q.bl I zh)
  · cases e1
theorem o_gt (hr : Room k X.A) : OpR X (compareOp .Gt) (r2 X.K X.mg gtV) := op_raw fun pins s σ Z H v w x y z u1 u2 Q I r1 r2 zh b1 b2 e q => by
  unfold gtV at e
  split at e
  · rename_i hc
    cases e
    obtain ⟨c1, c2, c3, c4, c5⟩ := cmpOk_out hc
    obtain ⟨as, ra⟩ := reads_of I zh b1 c4 r1
    obtain ⟨bs, rb⟩ := reads_of I zh b2 c5 r2
    exact PySem.W.gt_data ra rb c1 c2 (small2_room hr c3) (q.bl I zh)
  · cases e
theorem o_le (hr : Room k X.A) : OpR X (compareOp .LtE) (r2 X.K X.mg leV) := op_raw fun pins s σ Z H v w x y z u1 u2 Q I r1 r2 zh b1 b2 e q => by
  unfold leV at e
  split at e
  · rename_i hc
    cases e
    obtain ⟨c1, c2, c3, c4, c5⟩ := cmpOk_out hc
    obtain ⟨as, ra⟩ := reads_of I zh b1 c4 r1
    obtain ⟨bs, rb⟩ := reads_of I zh b2 c5 r2
    exact PySem.W.le_data ra rb c1 c2 (small2_room hr c3) (q.bl I zh)
  · cases e
end
end Ev

/-! Ev: containers: in, subscripts, slices, dicts. -/
namespace Ev
open PySem PySem.Spec PyProof.Rows L2

/-! ### dicts -/
section
variable {κ : Type} [DecidableEq κ]
def dget (kxs : List (κ × Val)) (k : κ) : Option Val := (kxs.find? fun kv => decide (kv.1 = k)).map (·.2)
def dput (kxs : List (κ × Val)) (k : κ) (x : Val) : List (κ × Val) := if kxs.any (fun kv => decide (kv.1 = k)) then kxs.map (fun kv => if kv.1 = k then (kv.1, x) else kv) else kxs ++ [(k, x)]
theorem putK_def (kvs : List (κ × V)) (k : κ) (v : V) : putK kvs k v = if kvs.any (fun kv => decide (kv.1 = k)) then kvs.map (fun kv => if kv.1 = k then (kv.1, v) else kv) else kvs ++ [(k, v)] := rfl
variable {K : PySem.W.Frag} {mg : MG} {Z : Hp}
theorem dr_any (k : κ) : ∀ {kvs : List (κ × V)} {kxs : List (κ × Val)}, kvs.map (·.1) = kxs.map (·.1) → (kvs.any fun kv => decide (kv.1 = k)) = kxs.any fun kv => decide (kv.1 = k)
  | [], [], _ => rfl
  | [], _ :: _, h => by cases h
  | _ :: _, [], h => by cases h
  | p :: r, q :: s, h => by
    simp only [List.map_cons, List.cons.injEq] at h
    rw [List.any_cons, List.any_cons, h.1, dr_any k h.2]
theorem dr_get (k : κ) : ∀ {kvs : List (κ × V)} {kxs : List (κ × Val)}, kvs.map (·.1) = kxs.map (·.1) → Rls K mg Z (kvs.map (·.2)) (kxs.map (·.2)) →
    (dget kxs k = none ∧ valV kvs k = none) ∨ ∃ v x, dget kxs k = some x ∧ valV kvs k = some v ∧ Rl K mg Z v x
  | [], [], _, _ => .inl ⟨rfl, rfl⟩
  | [], _ :: _, h, _ => by cases h
  | _ :: _, [], h, _ => by cases h
  | p :: r, q :: s, h, t => by
    simp only [List.map_cons, List.cons.injEq] at h
    rw [List.map_cons, List.map_cons] at t
    cases t with
    | cons t1 t2 =>
      by_cases e : p.1 = k
      · have e' : q.1 = k := h.1 ▸ e
        exact .inr ⟨p.2, q.2, by simp [dget, List.find?_cons, e'], valV_pos e, t1⟩
      · have e' : ¬ q.1 = k := h.1 ▸ e
        have f : dget (q :: s) k = dget s k := by simp [dget, List.find?_cons, e']
        rw [f, valV_neg e]
        exact dr_get k h.2 t2
theorem dr_put (k : κ) {v : V} {x : Val} (r : Rl K mg Z v x) {kvs : List (κ × V)} {kxs : List (κ × Val)} (h : kvs.map (·.1) = kxs.map (·.1)) (t : Rls K mg Z (kvs.map (·.2)) (kxs.map (·.2))) :
    (putK kvs k v).map (·.1) = (dput kxs k x).map (·.1) ∧ Rls K mg Z ((putK kvs k v).map (·.2)) ((dput kxs k x).map (·.2)) := by
  rw [putK_def]
  unfold dput
  rw [dr_any k h]
  split
  · have go : ∀ {kvs : List (κ × V)} {kxs : List (κ × Val)}, kvs.map (·.1) = kxs.map (·.1) → Rls K mg Z (kvs.map (·.2)) (kxs.map (·.2)) →
        (kvs.map (fun kv => if kv.1 = k then (kv.1, v) else kv)).map (·.1) = (kxs.map (fun kv => if kv.1 = k then (kv.1, x) else kv)).map (·.1) ∧ Rls K mg Z ((kvs.map (fun kv => if kv.1 = k then (kv.1, v) else kv)).map (·.2)) ((kxs.map (fun kv => if kv.1 = k then (kv.1, x) else kv)).map (·.2)) := by
      intro kvs
      induction kvs with
      | nil => intro kxs h t; cases kxs with
        | nil => exact ⟨rfl, .nil⟩
        | cons _ _ => cases h
      | cons p rr ih => intro kxs h t; cases kxs with
        | nil => cases h
        | cons q s =>
          simp only [List.map_cons, List.cons.injEq] at h
          rw [List.map_cons, List.map_cons] at t
          cases t with
          | cons t1 t2 =>
            obtain ⟨i1, i2⟩ := ih h.2 t2
            simp only [List.map_cons, List.cons.injEq]
            by_cases e : p.1 = k
            · have e' : q.1 = k := h.1 ▸ e
              rw [if_pos e, if_pos e']
              exact ⟨⟨h.1, i1⟩, .cons r i2⟩
            · have e' : ¬ q.1 = k := h.1 ▸ e
              rw [if_neg e, if_neg e']
              exact ⟨⟨h.1, i1⟩, .cons t1 i2⟩
    exact go h t
  · rw [List.map_append, List.map_append, List.map_append, List.map_append, h]
    exact ⟨rfl, t.append (.one r)⟩
theorem dr_len {kvs : List (κ × V)} {kxs : List (κ × Val)} (h : kvs.map (·.1) = kxs.map (·.1)) : kvs.length = kxs.length := by
  have := congrArg List.length h
  simpa using this
end
theorem keyOf_rl {K : PySem.W.Frag} {mg : MG} {Z H : Hp} {v : V} {x : Val} {k : Key} (b : BorR K mg Z H v x) (e : keyOf x = some k) : v = kV k := by
  cases x <;> simp only [keyOf] at e <;> cases e
  · exact bor_int b
  · exact bor_str b
theorem keysOf_rl {K : PySem.W.Frag} {mg : MG} {Z : Hp} : ∀ {vs : List V} {xs : List Val} {ks : List Key}, Rls K mg Z vs xs → keysOf xs = some ks → vs = ks.map kV
  | _, _, ks, .nil, e => by cases e; rfl
  | _, _, ks, .cons (x := x) (xs := xs) r t, e => by
    unfold keysOf at e
    cases e1 : keyOf x with
    | none => rw [e1] at e; cases e
    | some k =>
      cases e2 : keysOf xs with
      | none => rw [e1, e2] at e; cases e
      | some ks' =>
        rw [e1, e2] at e
        cases e
        have h1 := keyOf_rl (BorR.fz (H := Z) r) e1
        rw [h1, keysOf_rl t e2]
        rfl
def dkGet (x : Val) : Val → Option (Option Val)
  | .dK kxs => (keyOf x).map fun k => dget kxs k
  | .dT kxs => match x with
    | .tup xs => (keysOf xs).map fun k => dget kxs k
    | _ => none
  | _ => none
/-- what a borrowed dict gives -/
theorem dkGet_ok {K : PySem.W.Frag} {mg : MG} {Z H : Hp} {v w : V} {x y : Val} {o : Option Val} (zh : Same Z H) (b1 : BorR K mg Z H v x) (b2 : BorR K mg Z H w y) (e : dkGet x y = some o) :
    ∃ a r, w = .ref a ∧ DGet H a v r ∧ ((o = none ∧ r = none) ∨ ∃ u z, o = some z ∧ r = some u ∧ Rl K mg Z u z) := by
  cases y with
  | dK kxs =>
    obtain ⟨k, e1, rfl⟩ := Option.map_eq_some_iff.mp e
    obtain ⟨a, kvs, rfl, h, hk, hr⟩ := bor_dK zh b2
    refine ⟨a, valV kvs k, rfl, ?_, ?_⟩
    · rw [keyOf_rl b1 e1]
      exact DGet.k h
    · rcases dr_get k hk hr with ⟨h1, h2⟩ | ⟨u, z, h1, h2, h3⟩
      · exact .inl ⟨h1, h2⟩
      · exact .inr ⟨u, z, h1, h2, h3⟩
  | dT kxs =>
    cases x with
    | tup xs =>
      obtain ⟨k, e1, rfl⟩ := Option.map_eq_some_iff.mp (show (keysOf xs).map _ = some o from e)
      obtain ⟨a, kvs, rfl, h, hk, hr⟩ := bor_dT zh b2
      obtain ⟨b, vs, rfl, hb, rb⟩ := bor_tup b1
      refine ⟨a, _, rfl, DGet.t h (k := k) ?_, ?_⟩
      · rw [← keysOf_rl rb e1]
        exact zh _ _ hb
      · rcases dr_get k hk hr with ⟨h1, h2⟩ | ⟨u, z, h1, h2, h3⟩
        · exact .inl ⟨h1, h2⟩
        · exact .inr ⟨u, z, h1, h2, h3⟩
    | _ => cases e
  | _ => cases e
theorem any_isSome {κ : Type} [DecidableEq κ] (k : κ) : ∀ kxs : List (κ × Val), (kxs.any fun p => decide (p.1 = k)) = (dget kxs k).isSome
  | [] => rfl
  | p :: r => by
    have := any_isSome k r
    by_cases e : p.1 = k
    · simp [dget, List.find?_cons, e]
    · rw [List.any_cons, this]
      simp [dget, List.find?_cons, e]

/-! ### in -/
theorem units_room {A : Around} {k : Nat} (hr : Room k A) : A.units + 1 < cLine := by have := hr.un; omega
theorem in_room {A : Around} {k n : Nat} (hr : Room k A) (h : n ≤ 64) : A.units + 1 + n < cLine := by have := hr.un; omega
theorem inB_dict {x y : Val} {b : Bool} (e : inB x y = some b) (h : (∃ k, y = .dK k) ∨ ∃ k, y = .dT k) : ∃ o, dkGet x y = some o ∧ b = o.isSome := by
  rcases h with ⟨kxs, rfl⟩ | ⟨kxs, rfl⟩
  · obtain ⟨k, e1, rfl⟩ := Option.map_eq_some_iff.mp (show (keyOf x).map _ = some b from e)
    exact ⟨dget kxs k, by simp [dkGet, e1], any_isSome k kxs⟩
  · cases x with
    | tup xs =>
      obtain ⟨k, e1, rfl⟩ := Option.map_eq_some_iff.mp (show (keysOf xs).map _ = some b from e)
      exact ⟨dget kxs k, by simp [dkGet, e1], any_isSome k kxs⟩
    | _ => cases e
section
variable {X : Cx} {k : Nat}
theorem o_in (hr : Room k X.A) : OpR X (compareOp .In) (r2 X.K X.mg inV) := op_raw fun pins s σ Z H v w x y z u1 u2 Q I r1 r2 zh b1 b2 e q => by
  obtain ⟨b, e1, rfl⟩ := Option.map_eq_some_iff.mp e
  have hd : ((∃ k, y = .dK k) ∨ ∃ k, y = .dT k) → wpAny (model X.prog X.w) X.A (compareOp .In u1 u2) (EP X pins σ Q) X.xe s := fun h => by
    obtain ⟨o, e2, rfl⟩ := inB_dict e1 h
    obtain ⟨a, r, rfl, hg, ho⟩ := dkGet_ok zh b1 b2 e2
    cases (show u2 = Value.ref a from r2)
    refine d_in (units_room hr) I hg r1 fun s' I' => ?_
    have : r.isSome = o.isSome := by rcases ho with ⟨h1, h2⟩ | ⟨u, z, h1, h2, _⟩ <;> rw [h1, h2] <;> rfl
    rw [this]
    exact q.bl I' zh
  have hl : ∀ ys, y.py = .list (pys ys) → (x.py.plain && PyData.plainAll (pys ys) && decide (min (PyData.depthAll (pys ys)) x.py.depth ≤ 64)) = true → b = (pys ys).any (fun y => PyData.eqv y x.py) → wpAny (model X.prog X.w) X.A (compareOp .In u1 u2) (EP X pins σ Q) X.xe s := fun ys ey hc eb => by
    subst eb
    simp only [Bool.and_eq_true, decide_eq_true_eq] at hc
    obtain ⟨as, ra⟩ := reads_of I zh b1 hc.1.1 r1
    obtain ⟨bs, rb⟩ := reads_of I zh b2 (by rw [ey]; simpa [PyData.plain] using hc.1.2) r2
    rw [ey] at rb
    exact PySem.SeqAt.in_list_data rb ra hc.1.2 hc.1.1 (in_room hr hc.2) (q.bl I zh)
  have ht : ∀ ys, y.py = .tuple (pys ys) → (x.py.plain && PyData.plainAll (pys ys) && decide (min (PyData.depthAll (pys ys)) x.py.depth ≤ 64)) = true → b = (pys ys).any (fun y => PyData.eqv y x.py) → wpAny (model X.prog X.w) X.A (compareOp .In u1 u2) (EP X pins σ Q) X.xe s := fun ys ey hc eb => by
    subst eb
    simp only [Bool.and_eq_true, decide_eq_true_eq] at hc
    obtain ⟨as, ra⟩ := reads_of I zh b1 hc.1.1 r1
    obtain ⟨bs, rb⟩ := reads_of I zh b2 (by rw [ey]; simpa [PyData.plain] using hc.1.2) r2
    rw [ey] at rb
    exact PySem.SeqAt.in_tuple_data rb ra hc.1.2 hc.1.1 (in_room hr hc.2) (q.bl I zh)
  cases y with
  | dK kxs => exact hd (.inl ⟨_, rfl⟩)
  | dT kxs => exact hd (.inr ⟨_, rfl⟩)
  | lst ys =>
    simp only [inB] at e1
    split at e1
    · rename_i hc; exact hl ys (by simp [Val.py]) hc (Option.some.inj e1).symm
    · cases e1
  | tup ys =>
    simp only [inB] at e1
    split at e1
    · rename_i hc; exact ht ys (by simp [Val.py]) hc (Option.some.inj e1).symm
    · cases e1
  | ktup ys =>
    simp only [inB] at e1
    split at e1
    · rename_i hc; exact ht ys (by simp [Val.py]) hc (Option.some.inj e1).symm
    · cases e1
  | str t =>
    cases x with
    | str s' =>
      cases e1
      cases bor_str b1
      cases bor_str b2
      exact op_in_str pins s σ H _ _ u1 u2 Q I r1 r2 ⟨_, _, rfl, rfl, q.here zh (.bl _)⟩
    | _ => cases e1
  | _ => cases e1
theorem o_nin (hr : Room k X.A) : OpR X (compareOp .NotIn) (r2 X.K X.mg ninV) := op_raw fun pins s σ Z H v w x y z u1 u2 Q I r1 r2 zh b1 b2 e q => by
  obtain ⟨b, e1, rfl⟩ := Option.map_eq_some_iff.mp e
  have hd : ((∃ k, y = .dK k) ∨ ∃ k, y = .dT k) → wpAny (model X.prog X.w) X.A (compareOp .NotIn u1 u2) (EP X pins σ Q) X.xe s := fun h => by
    obtain ⟨o, e2, rfl⟩ := inB_dict e1 h
    obtain ⟨a, r, rfl, hg, ho⟩ := dkGet_ok zh b1 b2 e2
    cases (show u2 = Value.ref a from r2)
    refine d_notIn (units_room hr) I hg r1 fun s' I' => ?_
    have : r.isSome = o.isSome := by rcases ho with ⟨h1, h2⟩ | ⟨u, z, h1, h2, _⟩ <;> rw [h1, h2] <;> rfl
    rw [this]
    exact q.bl I' zh
  have hl : ∀ ys, y.py = .list (pys ys) → (x.py.plain && PyData.plainAll (pys ys) && decide (min (PyData.depthAll (pys ys)) x.py.depth ≤ 64)) = true → b = (pys ys).any (fun y => PyData.eqv y x.py) → wpAny (model X.prog X.w) X.A (compareOp .NotIn u1 u2) (EP X pins σ Q) X.xe s := fun ys ey hc eb => by
    subst eb
    simp only [Bool.and_eq_true, decide_eq_true_eq] at hc
    obtain ⟨as, ra⟩ := reads_of I zh b1 hc.1.1 r1
    obtain ⟨bs, rb⟩ := reads_of I zh b2 (by rw [ey]; simpa [PyData.plain] using hc.1.2) r2
    rw [ey] at rb
    exact PySem.SeqAt.notIn_list_data rb ra hc.1.2 hc.1.1 (in_room hr hc.2) (q.bl I zh)
  have ht : ∀ ys, y.py = .tuple (pys ys) → (x.py.plain && PyData.plainAll (pys ys) && decide (min (PyData.depthAll (pys ys)) x.py.depth ≤ 64)) = true → b = (pys ys).any (fun y => PyData.eqv y x.py) → wpAny (model X.prog X.w) X.A (compareOp .NotIn u1 u2) (EP X pins σ Q) X.xe s := fun ys ey hc eb => by
    subst eb
    simp only [Bool.and_eq_true, decide_eq_true_eq] at hc
    obtain ⟨as, ra⟩ := reads_of I zh b1 hc.1.1 r1
    obtain ⟨bs, rb⟩ := reads_of I zh b2 (by rw [ey]; simpa [PyData.plain] using hc.1.2) r2
    rw [ey] at rb
    exact PySem.SeqAt.notIn_tuple_data rb ra hc.1.2 hc.1.1 (in_room hr hc.2) (q.bl I zh)
  cases y with
  | dK kxs => exact hd (.inl ⟨_, rfl⟩)
  | dT kxs => exact hd (.inr ⟨_, rfl⟩)
  | lst ys =>
    simp only [inB] at e1
    split at e1
    · rename_i hc; exact hl ys (by simp [Val.py]) hc (Option.some.inj e1).symm
    · cases e1
  | tup ys =>
    simp only [inB] at e1
    split at e1
    · rename_i hc; exact ht ys (by simp [Val.py]) hc (Option.some.inj e1).symm
    · cases e1
  | ktup ys =>
    simp only [inB] at e1
    split at e1
    · rename_i hc; exact ht ys (by simp [Val.py]) hc (Option.some.inj e1).symm
    · cases e1
  | str t =>
    cases x with
    | str s' =>
      cases e1
      cases bor_str b1
      cases bor_str b2
      exact op_notin_str pins s σ H _ _ u1 u2 Q I r1 r2 ⟨_, _, rfl, rfl, q.here zh (.bl _)⟩
    | _ => cases e1
  | _ => cases e1

/-! ### subscripts -/
def ixV : Val → Val → Option Val
  | .lst xs, .int i => atI xs i
  | .tup xs, .int i => atI xs i
  | .ktup xs, .int i => atI xs i
  | .scr xs, .int i => (atI xs i).map .int
  | .str z, .int i => if z.length ≤ sizeLine then (atI z.cps.toList i).map fun c => .str ⟨#[c]⟩ else none
  | _, _ => none
def ixD (x y : Val) : Option Val := match dkGet y x with
  | some (some z) => some z
  | _ => none
theorem Rls.atI {K : PySem.W.Frag} {mg : MG} {Z : Hp} {vs : List V} {xs : List Val} {i : Int} {x : Val} (r : Rls K mg Z vs xs) (e : atI xs i = some x) : ∃ v, atI vs i = some v ∧ Rl K mg Z v x := by
  unfold L2.atI at e ⊢
  rw [r.length]
  obtain ⟨j, e1, e2⟩ := Option.bind_eq_some_iff.mp e
  obtain ⟨v, h1, h2⟩ := r.get e2
  exact ⟨v, by rw [e1]; exact h1, h2⟩
theorem i_ix : IxR X (r2 X.K X.mg ixV) := IxR.imp ix_seq fun v w H Q ⟨Z, x, y, z, zh, b1, b2, e, q⟩ => by
  unfold ixV at e
  split at e
  · obtain ⟨a, vs, rfl, h1, r1⟩ := bor_lst zh b1
    cases bor_int b2
    obtain ⟨u, e1, r⟩ := r1.atI e
    exact .inl ⟨a, vs, _, u, rfl, rfl, SqL.of h1, e1, q.here zh r⟩
  · obtain ⟨a, vs, rfl, h1, r1⟩ := bor_tup b1
    cases bor_int b2
    obtain ⟨u, e1, r⟩ := r1.atI e
    exact .inr (.inl ⟨a, vs, _, u, rfl, rfl, SqT.of (zh _ _ h1), e1, q.here zh r⟩)
  · obtain ⟨a, vs, rfl, h1, r1⟩ := bor_ktup b1
    cases bor_int b2
    obtain ⟨u, e1, r⟩ := r1.atI e
    exact .inr (.inl ⟨a, vs, _, u, rfl, rfl, seqT_mono zh h1, e1, q.here zh r⟩)
  · obtain ⟨a, rfl, h1⟩ := bor_scr b1
    cases bor_int b2
    obtain ⟨n, e1, rfl⟩ := Option.map_eq_some_iff.mp e
    refine .inl ⟨a, _, _, .int n, rfl, rfl, zh.seq h1, ?_, q.here zh (.int n)⟩
    unfold atI at e1 ⊢
    rw [List.length_map]
    obtain ⟨j, e2, e3⟩ := Option.bind_eq_some_iff.mp e1
    rw [e2]
    show (List.map V.int _)[j]? = _
    rw [List.getElem?_map, e3]
    rfl
  · split at e
    · rename_i hl
      cases bor_str b1
      cases bor_int b2
      obtain ⟨c, e1, rfl⟩ := Option.map_eq_some_iff.mp e
      exact .inr (.inr ⟨_, _, c, rfl, rfl, hl, e1, q.here zh (.str _)⟩)
    · cases e
  · cases e
end

/-- d[k] -/
theorem pv_ixD {X : Cx} {k : Nat} {a b : Expr} {da db : DH} {pos : Pos} (hr : Room k X.A) (ha : PH X a da) (hb : PH X b db) (hs : NoSl b := by intro _ _; rfl) : PV X (.Subscript a b pos) (d2 ixD da db) := PE.imp (pe_dget (units_room hr) ha hb hs) fun σ H Q h => by
  have h' := run2 h
  refine tmono2 h' fun v w H2 ⟨Z, x, y, z, zh, b1, b2, e, q⟩ => ?_
  unfold ixD at e
  split at e
  · rename_i z' e1
    cases e
    obtain ⟨c, r, rfl, hg, ho⟩ := dkGet_ok zh b2 b1 e1
    rcases ho with ⟨h1, _⟩ | ⟨u, z2, h1, h2, h3⟩
    · cases h1
    · cases h1
      subst h2
      exact ⟨c, u, rfl, hg, q.here zh h3⟩
  · cases e
where
  tmono2 {X : Cx} {da db : DH} {σ : L2.St} {H : Hp} {R R' : V → V → Hp → Prop} (h : TH X.K X.mg da σ H fun v H1 => TH X.K X.mg db σ H1 fun w H2 => R v w H2) (i : ∀ v w H2, R v w H2 → R' v w H2) : TH X.K X.mg da σ H fun v H1 => TH X.K X.mg db σ H1 fun w H2 => R' v w H2 := by
    obtain ⟨Z, O, C, ρ, R0, x, ρ', q, k⟩ := h
    refine ⟨Z, O, C, ρ, R0, x, ρ', q, fun v H' Z' O' ex R' r => ?_⟩
    obtain ⟨Z, O, C, ρ, R0, x, ρ', q, k⟩ := k v H' Z' O' ex R' r
    exact ⟨Z, O, C, ρ, R0, x, ρ', q, fun w H' Z' O' ex R' r => i _ _ _ (k w H' Z' O' ex R' r)⟩
end Ev

/-! Ev: slices, displays, arguments, built-in calls, tests. -/
namespace Ev
open PySem PySem.Spec PyProof.Rows L2

/-! ### what an operand list is -/
inductive BorRs (K : PySem.W.Frag) (mg : MG) (Z H : Hp) : List V → List Val → Prop
  | nil : BorRs K mg Z H [] []
  | cons {v : V} {x : Val} {vs : List V} {xs : List Val} : BorR K mg Z H v x → BorRs K mg Z H vs xs → BorRs K mg Z H (v :: vs) (x :: xs)
def derefs (ρ : Env) : List Hd → Option (List Val)
  | [] => some []
  | h :: hs => (deref ρ h).bind fun x => (derefs ρ hs).map fun xs => x :: xs
theorem derefs_bor {K : PySem.W.Frag} {mg : MG} {Z H : Hp} {O : Lab} {C : Lk} {σ : L2.St} {ρ : Env} (R : EnvR K mg Z H O C σ ρ) : ∀ {vs : List V} {hs : List Hd} {xs : List Val}, HdRs K mg Z σ vs hs → derefs ρ hs = some xs → BorRs K mg Z H vs xs
  | _, _, _, .nil, e => by cases e; exact .nil
  | _, _, _, .cons r t, e => by
    obtain ⟨x, e1, e⟩ := Option.bind_eq_some_iff.mp e
    obtain ⟨xs, e2, rfl⟩ := Option.map_eq_some_iff.mp e
    exact .cons (deref_bor R r e1) (derefs_bor R t e2)
def takes (ρ : Env) : List Hd → Option (List Val × Env)
  | [] => some ([], ρ)
  | h :: hs => (takeV h ρ).bind fun p => (takes p.2 hs).map fun q => (p.1 :: q.1, q.2)
theorem takes_ok {K : PySem.W.Frag} {mg : MG} {H : Hp} {C : Lk} {σ : L2.St} : ∀ {Z : Hp} {O : Lab} {ρ : Env} {vs : List V} {hs : List Hd} {xs : List Val} {ρ' : Env}, EnvR K mg Z H O C σ ρ → HdRs K mg Z σ vs hs → takes ρ hs = some (xs, ρ') →
    ∃ Z' O', Ext Z H O Z' H O' ∧ EnvR K mg Z' H O' C σ ρ' ∧ Rls K mg Z' vs xs
  | Z, O, _, _, _, _, _, R, .nil, e => by cases e; exact ⟨Z, O, Ext.refl _ _ _, R, .nil⟩
  | Z, O, _, _, _, _, _, R, .cons r t, e => by
    obtain ⟨⟨x, ρ1⟩, e1, e⟩ := Option.bind_eq_some_iff.mp e
    obtain ⟨⟨xs, ρ2⟩, e2, e⟩ := Option.map_eq_some_iff.mp e
    cases e
    obtain ⟨Z1, O1, x1, R1, r1⟩ := takeV_ok R r e1
    obtain ⟨Z2, O2, x2, R2, r2⟩ := takes_ok R1 (t.mono x1.z) e2
    exact ⟨Z2, O2, x1.trans x2, R2, .cons (r1.mono x2.z) r2⟩

/-! ### arguments -/
def aNil : DA := fun ρ => .ok ([], ρ)
def aCons (d : DH) (ds : DA) : DA := fun ρ => (d ρ).bind fun p => (ds p.2).bind fun q => .ok (p.1 :: q.1, q.2)
section
variable {X : Cx}
theorem as_nil : PAs X [] aNil := PA.imp pa_nil fun σ H Q ⟨Z, O, C, ρ, R, hs, ρ', q, k⟩ => by
  cases q
  exact k [] H Z O (Ext.refl _ _ _) R .nil
theorem as_cons {e : Expr} {es : List Expr} {d : DH} {ds : DA} (ha : PH X e d) (hr : PAs X es ds) (hs : starEach (e :: es) X.env = (false, eval e X.env) :: starEach es X.env := by rfl) : PAs X (e :: es) (aCons d ds) :=
  PA.imp (pa_cons ha hr hs) fun σ H Q ⟨Z, O, C, ρ, R, hs, ρ', q, k⟩ => by
    obtain ⟨⟨h1, ρ1⟩, e1, q⟩ := Out.bind_ok q
    obtain ⟨⟨h2, ρ2⟩, e2, q⟩ := Out.bind_ok q
    cases q
    refine ⟨Z, O, C, ρ, R, h1, ρ1, e1, fun v H1 Z1 O1 x1 R1 r1 => ⟨Z1, O1, C, ρ1, R1, h2, ρ2, e2, fun vs H2 Z2 O2 x2 R2 r2 => ?_⟩⟩
    exact k (v :: vs) H2 Z2 O2 (x1.trans x2) R2 (.cons (r1.mono x2.z) r2)

/-! ### built-in calls -/
def rN (K : PySem.W.Frag) (mg : MG) (g : List Val → Option Val) : List V → Hp → VK → Prop := fun vs H Q => ∃ Z xs z, Same Z H ∧ BorRs K mg Z H vs xs ∧ g xs = some z ∧ PQ K mg Z H z Q
def dN (g : List Val → Option Val) (d : DA) : DV := fun ρ => (d ρ).bind fun p => Out.of ((derefs p.2 p.1).bind fun xs => (g xs).map fun z => (z, p.2))
theorem runN {K : PySem.W.Frag} {mg : MG} {d : DA} {g : List Val → Option Val} {σ : L2.St} {H : Hp} {Q : VK} (h : TV K mg (dN g d) σ H Q) : TAs K mg d σ H fun vs H1 => rN K mg g vs H1 Q := by
  obtain ⟨Z, O, C, ρ, R, x, ρ', q, k⟩ := h
  obtain ⟨⟨hs, ρ1⟩, e1, q⟩ := Out.bind_ok q
  obtain ⟨xs, e2, q⟩ := Option.bind_eq_some_iff.mp (Out.of_ok q)
  obtain ⟨z, e3, q⟩ := Option.map_eq_some_iff.mp q
  cases q
  exact ⟨Z, O, C, ρ, R, hs, ρ1, e1, fun vs H1 Z1 O1 x1 R1 r1 => ⟨Z1, xs, _, R1.zh, derefs_bor R1 r1 e2, e3, fun u Z3 H3 gr r => k u H3 Z3 O1 (x1.trans gr.ext) (R1.grow gr) r⟩⟩
variable {x : Str} {p pos : Pos} {e : Expr} {es : List Expr} {d : DA} {id T : String} {g : List Val → Option Val}
theorem pv_callB (hc : CallR X (.builtin id) (rN X.K X.mg g)) (hg : Gl X x) (hm : X.mg x = none) (hv : bootBuiltins x = some (.builtin id)) (ha : PAs X (e :: es) d) (hn : x ≠ "__name__" := by decide) (hdb : (x == ("__debug__" : Str)) = false := by decide)
    (he : starEach (e :: es) X.env = (false, eval e X.env) :: starEach es X.env := by rfl) (hpl : (backTo pos (starEach es X.env)).any (·.1) = false := by rfl) : PV X (.Call (.Name x p) (e :: es) [] pos) (dN g d) :=
  PE.imp (pe_callB hc hg hm hv ha hn hdb he hpl) fun _ _ _ => runN
theorem pv_callTy (hc : CallR X (.type T) (rN X.K X.mg g)) (hg : Gl X x) (hm : X.mg x = none) (hv : bootBuiltins x = some (.type T)) (ha : PAs X (e :: es) d) (hn : x ≠ "__name__" := by decide) (hdb : (x == ("__debug__" : Str)) = false := by decide)
    (he : starEach (e :: es) X.env = (false, eval e X.env) :: starEach es X.env := by rfl) (hpl : (backTo pos (starEach es X.env)).any (·.1) = false := by rfl) : PV X (.Call (.Name x p) (e :: es) [] pos) (dN g d) :=
  PE.imp (pe_callTy hc hg hm hv ha hn hdb he hpl) fun _ _ _ => runN
end

/-! ### slices -/
def cutL {α : Type} (xs : List α) (lo hi : Option Int) : List α := (xs.drop (HT.sIx xs.length 0 lo)).take (HT.sIx xs.length xs.length hi - HT.sIx xs.length 0 lo)
def slV (x : Val) (lo hi : Option Int) : Option Val := match x with
  | .lst xs => some (.lst (cutL xs lo hi))
  | .tup xs => some (.tup (cutL xs lo hi))
  | .scr ns => some (.lst ((cutL ns lo hi).map .int))
  | .str z => if z.length ≤ sizeLine then some (.str (cutS z lo hi)) else none
  | _ => none
abbrev DP := Env → Out (Option Int × Env)
def pNone : DP := fun ρ => .ok (none, ρ)
def pSome (d : DV) : DP := fun ρ => (d ρ).bind fun p => match p.1 with
  | .int i => .ok (some i, p.2)
  | _ => .bad
def TPo (K : PySem.W.Frag) (mg : MG) (d : DP) : TO := fun σ H Q => ∃ Z O C ρ, EnvR K mg Z H O C σ ρ ∧ ∃ o ρ', d ρ = .ok (o, ρ') ∧
  ∀ H' Z' O', Ext Z H O Z' H' O' → EnvR K mg Z' H' O' C σ ρ' → Q o H'
abbrev POo (X : Cx) (e : Option Expr) (d : DP) : Prop := PO X e (TPo X.K X.mg d)
theorem PO.imp {X : Cx} {e : Option Expr} {t t' : TO} (h : PO X e t) (i : ∀ σ H Q, t' σ H Q → t σ H Q) : PO X e t' := ⟨fun pins s σ H Q I q => h.run pins s σ H Q I (i σ H Q q)⟩
section
variable {X : Cx}
theorem pp_none : POo X none pNone := PO.imp po_none fun σ H Q ⟨Z, O, C, ρ, R, o, ρ', q, k⟩ => by cases q; exact k H Z O (Ext.refl _ _ _) R
theorem pp_some {e : Expr} {d : DV} (h : PV X e d) : POo X (some e) (pSome d) := PO.imp (po_some h) fun σ H Q ⟨Z, O, C, ρ, R, o, ρ', q, k⟩ => by
  obtain ⟨⟨x, ρ1⟩, e1, q⟩ := Out.bind_ok q
  refine ⟨Z, O, C, ρ, R, x, ρ1, e1, fun v H1 Z1 O1 x1 R1 r1 => ?_⟩
  cases x with
  | int i =>
    cases q
    cases r1
    exact ⟨i, rfl, k H1 Z1 O1 x1 R1⟩
  | _ => cases q
def dSl (da : DH) (dl dh : DP) : DV := fun ρ => (da ρ).bind fun p => (dl p.2).bind fun l => (dh l.2).bind fun h => Out.of ((deref h.2 p.1).bind fun x => (slV x l.1 h.1).map fun z => (z, h.2))
def rSl (K : PySem.W.Frag) (mg : MG) : V → Option Int → Option Int → Hp → VK → Prop := fun v lo hi H Q => ∃ Z x z, Same Z H ∧ BorR K mg Z H v x ∧ slV x lo hi = some z ∧ PQ K mg Z H z Q
theorem sIx_whole {n : Nat} {lo hi : Option Int} {α : Type} {xs : List α} (hn : xs.length = n) (h : HT.sIx n 0 lo = 0 ∧ HT.sIx n n hi = n) : cutL xs lo hi = xs := by
  subst hn
  unfold cutL
  rw [h.1, h.2]
  simp
theorem s_sl : SlR X (rSl X.K X.mg) := SlR.imp (sl_list.or (sl_tupA.or sl_str)) fun v lo hi H Q ⟨Z, x, z, zh, b, e, q⟩ => by
  cases x with
  | lst xs =>
    cases e
    obtain ⟨a, vs, rfl, h1, r1⟩ := bor_lst zh b
    refine .inl ⟨a, vs, rfl, SqL.of h1, fun p hp => q.newL zh hp ?_⟩
    unfold cutV cutL
    rw [r1.length]
    exact (r1.drop _).take _
  | scr ns =>
    cases e
    obtain ⟨a, rfl, h1⟩ := bor_scr b
    refine .inl ⟨a, _, rfl, zh.seq h1, fun p hp => q.newL zh hp ?_⟩
    have : cutV (ns.map V.int) lo hi = (cutL ns lo hi).map V.int := by unfold cutV cutL; rw [List.length_map, ← List.map_drop, ← List.map_take]
    rw [this]
    exact Rls.ints _
  | tup xs =>
    cases e
    obtain ⟨a, vs, rfl, h1, r1⟩ := bor_tup b
    refine .inr (.inl ⟨a, vs, rfl, SqT.of (zh _ _ h1), fun hw => ?_, fun hw p hp => q.newT zh hp ?_⟩)
    · rw [sIx_whole r1.length.symm hw] at q
      exact q.here zh (.tup h1 r1)
    · unfold cutV cutL
      rw [r1.length]
      exact (r1.drop _).take _
  | str z' =>
    simp only [slV] at e
    split at e
    · rename_i hl
      cases e
      cases bor_str b
      exact .inr (.inr ⟨_, rfl, hl, q.here zh (.str _)⟩)
    · cases e
  | _ => cases e
theorem pv_slice {e : Expr} {lo hi : Option Expr} {da : DH} {dl dh : DP} {p2 pos : Pos} (he : PH X e da) (hl : POo X lo dl) (hu : POo X hi dh) : PV X (.Subscript e (.Slice lo hi none p2) pos) (dSl da dl dh) :=
  PE.imp (pe_slice s_sl he hl hu) fun σ H Q ⟨Z, O, C, ρ, R, x, ρ', q, k⟩ => by
    obtain ⟨⟨h1, ρ1⟩, e1, q⟩ := Out.bind_ok q
    obtain ⟨⟨l, ρ2⟩, e2, q⟩ := Out.bind_ok q
    obtain ⟨⟨u, ρ3⟩, e3, q⟩ := Out.bind_ok q
    obtain ⟨y, e4, q⟩ := Option.bind_eq_some_iff.mp (Out.of_ok q)
    obtain ⟨z, e5, q⟩ := Option.map_eq_some_iff.mp q
    cases q
    refine ⟨Z, O, C, ρ, R, h1, ρ1, e1, fun v H1 Z1 O1 x1 R1 r1 => ⟨Z1, O1, C, ρ1, R1, l, ρ2, e2, fun H2 Z2 O2 x2 R2 => ⟨Z2, O2, C, ρ2, R2, u, ρ3, e3, fun H3 Z3 O3 x3 R3 => ?_⟩⟩⟩
    exact ⟨Z3, y, _, R3.zh, deref_bor R3 (r1.mono (x2.z.trans x3.z)) e4, e5, fun w Z4 H4 gr r => k w H4 Z4 O3 ((x1.trans (x2.trans x3)).trans gr.ext) (R3.grow gr) r⟩
end

/-! ### displays -/
def dTup (d : DA) : DV := fun ρ => (d ρ).bind fun p => Out.of ((takes p.2 p.1).bind fun q => if q.1.length ≤ sizeLine then some (.tup q.1, q.2) else none)
section
variable {X : Cx}
theorem pv_tup {es : List Expr} {d : DA} {pos : Pos} {k1} (h : PAs X es d) : PV X (.Tuple es k1 pos) (dTup d) := PE.imp (pe_tup h) fun σ H Q ⟨Z, O, C, ρ, R, x, ρ', q, k⟩ => by
  obtain ⟨⟨hs, ρ1⟩, e1, q⟩ := Out.bind_ok q
  obtain ⟨⟨xs, ρ2⟩, e2, q⟩ := Option.bind_eq_some_iff.mp (Out.of_ok q)
  refine ⟨Z, O, C, ρ, R, hs, ρ1, e1, fun vs H1 Z1 O1 x1 R1 r1 => ?_⟩
  split at q
  · rename_i hl
    cases q
    obtain ⟨Z2, O2, x2, R2, r2⟩ := takes_ok R1 r1 e2
    refine ⟨by rw [r2.length]; exact hl, fun p hp => ?_⟩
    let gr := Grow.newZ (o := .tup vs) R2.zh hp
    exact k _ _ _ O2 ((x1.trans x2).trans gr.ext) (R2.grow gr) (.tup upd_same (r2.mono gr.z))
  · cases q
end

/-! ### owned results -/
/-- v is a new thing, nobody else's -/
def OwR (K : PySem.W.Frag) (mg : MG) (Z H : Hp) (O : Lab) (C : Lk) (H0 : Hp) (v : V) : Sl → Prop
  | .fz x => Rl K mg Z v x
  | .own xs => ∃ a vs, v = .ref a ∧ O a = none ∧ Z a = none ∧ C a = none ∧ H0 a = none ∧ H a = some (.lst vs) ∧ Rls K mg Z vs xs
  | .odK kxs => ∃ a kvs, v = .ref a ∧ O a = none ∧ Z a = none ∧ C a = none ∧ H0 a = none ∧ H a = some (.dK kvs) ∧ kvs.map (·.1) = kxs.map (·.1) ∧ Rls K mg Z (kvs.map (·.2)) (kxs.map (·.2))
  | .odT kxs => ∃ a kvs, v = .ref a ∧ O a = none ∧ Z a = none ∧ C a = none ∧ H0 a = none ∧ H a = some (.dT kvs) ∧ kvs.map (·.1) = kxs.map (·.1) ∧ Rls K mg Z (kvs.map (·.2)) (kxs.map (·.2))
  | .own2 xss => ∃ a bs, v = .ref a ∧ (∀ b ∈ a :: bs, O b = none ∧ Z b = none ∧ C b = none ∧ H0 b = none) ∧ (a :: bs).Nodup ∧ H a = some (.lst (bs.map V.ref)) ∧ Paired (fun b xs => ∃ ws, H b = some (.lst ws) ∧ Rls K mg Z ws xs) bs xss
  | .box cells d s => ∃ a c, v = .ref a ∧ a ≠ c ∧ (∀ b, b = a ∨ b = c → O b = none ∧ Z b = none ∧ C b = none ∧ H0 b = none) ∧ H a = some (.lst [.ref c, .int d, .int s]) ∧ H c = some (.lst (cells.map V.int))
  | _ => False
def TOw (K : PySem.W.Frag) (mg : MG) (d : DO) : TE := fun σ H Q => ∃ Z O C ρ, EnvR K mg Z H O C σ ρ ∧ ∃ s ρ', d ρ = .ok (s, ρ') ∧
  ∀ v H' Z' O', Ext Z H O Z' H' O' → EnvR K mg Z' H' O' C σ ρ' → OwR K mg Z' H' O' C H v s → Q v H'
abbrev POw (X : Cx) (e : Expr) (d : DO) : Prop := PE X e (TOw X.K X.mg d)
def dOV (d : DV) : DO := fun ρ => (d ρ).bind fun p => .ok (.fz p.1, p.2)
theorem pow_of {X : Cx} {e : Expr} {d : DV} (h : PV X e d) : POw X e (dOV d) := PE.imp h fun σ H Q ⟨Z, O, C, ρ, R, s, ρ', q, k⟩ => by
  obtain ⟨⟨x, ρ1⟩, e1, q⟩ := Out.bind_ok q
  cases q
  exact ⟨Z, O, C, ρ, R, x, ρ1, e1, fun v H' Z' O' ex R' r => k v H' Z' O' ex R' r⟩
/-- as a value -/
def dVO (d : DO) : DV := fun ρ => (d ρ).bind fun p => Out.of ((frOf p.1).map fun x => (x, p.2))
theorem EnvR.freezeAll {K : PySem.W.Frag} {mg : MG} {Z H : Hp} {O : Lab} {C : Lk} {σ : L2.St} {ρ : Env} {Z0 H0 : Hp} {O0 : Lab} (x : Ext Z0 H0 O0 Z H O) (R : EnvR K mg Z H O C σ ρ) (A : Addr → Bool) (h : ∀ b, A b = true → O b = none ∧ Z b = none ∧ H0 b = none) :
    let Z' : Hp := fun b => if A b = true then H b else Z b
    Same Z Z' ∧ EnvR K mg Z' H O C σ ρ ∧ Ext Z0 H0 O0 Z' H O := by
  have hz : Same Z (fun b => if A b = true then H b else Z b) := fun b o e => by
    show (if A b = true then H b else Z b) = some o
    split
    · rename_i hb
      rw [(h b hb).2.1] at e; cases e
    · exact e
  refine ⟨hz, ⟨R.len, fun b o e => ?_, R.ch, fun b hb => ?_, R.ob, fun i s e => (R.sl i s e).keep hz fun b q hb => ⟨rfl, hb⟩⟩, ⟨x.z.trans hz, x.h, x.t, x.o, fun b hb => ?_⟩⟩
  · have e : (if A b = true then H b else Z b) = some o := e
    split at e
    · exact e
    · exact R.zh b o e
  · obtain ⟨h1, h2, h3⟩ := R.oz b hb
    refine ⟨?_, h2, h3⟩
    show (if A b = true then H b else Z b) = none
    rw [if_neg]
    · exact h1
    · intro z
      exact hb (h b z).1
  · have hb : (if A b = true then H b else Z b) ≠ none := hb
    split at hb
    · rename_i ha; exact .inr (.inl (h b ha).2.2)
    · exact x.zn b hb
theorem OwR.freeze {K : PySem.W.Frag} {mg : MG} {Z H : Hp} {O : Lab} {C : Lk} {H0 : Hp} {σ : L2.St} {ρ : Env} {v : V} {s : Sl} {x : Val} {Z0 : Hp} {O0 : Lab} (ex : Ext Z0 H0 O0 Z H O) (R : EnvR K mg Z H O C σ ρ) (r : OwR K mg Z H O C H0 v s) (f : frOf s = some x) :
    ∃ Z', Ext Z0 H0 O0 Z' H O ∧ EnvR K mg Z' H O C σ ρ ∧ Rl K mg Z' v x := by
  cases s with
  | no => cases f
  | fz y => cases f; exact ⟨Z, ex, R, r⟩
  | own xs =>
    cases f
    obtain ⟨a, vs, rfl, h1, h2, h3, h4, h5, h6⟩ := r
    obtain ⟨hz, R', ex⟩ := EnvR.freezeAll ex R (fun b => decide (b = a)) fun b hb => by cases of_decide_eq_true hb; exact ⟨h1, h2, h4⟩
    exact ⟨_, ex, R', .lst (by simpa using h5) (h6.mono hz)⟩
  | odK k =>
    cases f
    obtain ⟨a, vs, rfl, h1, h2, h3, h4, h5, h6, h7⟩ := r
    obtain ⟨hz, R', ex⟩ := EnvR.freezeAll ex R (fun b => decide (b = a)) fun b hb => by cases of_decide_eq_true hb; exact ⟨h1, h2, h4⟩
    exact ⟨_, ex, R', .dK (by simpa using h5) h6 (h7.mono hz)⟩
  | odT k =>
    cases f
    obtain ⟨a, vs, rfl, h1, h2, h3, h4, h5, h6, h7⟩ := r
    obtain ⟨hz, R', ex⟩ := EnvR.freezeAll ex R (fun b => decide (b = a)) fun b hb => by cases of_decide_eq_true hb; exact ⟨h1, h2, h4⟩
    exact ⟨_, ex, R', .dT (by simpa using h5) h6 (h7.mono hz)⟩
  | own2 xss =>
    cases f
    obtain ⟨a, bs, rfl, h1, h2, h3, h4⟩ := r
    obtain ⟨hz, R', ex⟩ := EnvR.freezeAll ex R (fun b => decide (b ∈ a :: bs)) fun b hb => by
      obtain ⟨k1, k2, k3, k4⟩ := h1 b (of_decide_eq_true hb)
      exact ⟨k1, k2, k4⟩
    refine ⟨_, ex, R', .lst (vs := bs.map V.ref) (by simpa using h3) ?_⟩
    have go : ∀ {bs' : List Addr} {xss : List (List Val)}, (∀ b ∈ bs', b ∈ a :: bs) → Paired (fun b xs => ∃ ws, H b = some (.lst ws) ∧ Rls K mg Z ws xs) bs' xss → Rls K mg (fun b => if decide (b ∈ a :: bs) = true then H b else Z b) (bs'.map V.ref) (xss.map Val.lst) := by
      intro bs' xss hm hp
      induction hp with
      | nil => exact .nil
      | cons q t ih =>
        obtain ⟨ws, q1, q2⟩ := q
        refine .cons (.lst (vs := ws) ?_ (q2.mono hz)) (ih fun b hb => hm b (List.mem_cons_of_mem _ hb))
        rw [if_pos (decide_eq_true (hm _ List.mem_cons_self))]
        exact q1
    exact go (fun b hb => List.mem_cons_of_mem _ hb) h4
  | lck _ => cases f
  | par _ => cases f
  | box _ _ _ => cases f
  | pbox _ _ _ => cases f
theorem pv_own {X : Cx} {e : Expr} {d : DO} (h : POw X e d) : PV X e (dVO d) := PE.imp h fun σ H Q ⟨Z, O, C, ρ, R, x, ρ', q, k⟩ => by
  obtain ⟨⟨s, ρ1⟩, e1, q⟩ := Out.bind_ok q
  obtain ⟨y, e2, q⟩ := Option.map_eq_some_iff.mp (Out.of_ok q)
  cases q
  refine ⟨Z, O, C, ρ, R, s, ρ1, e1, fun v H' Z' O' ex R' r => ?_⟩
  obtain ⟨Z2, x2, R2, r2⟩ := OwR.freeze ex R' r e2
  exact k v H' Z2 O' x2 R2 r2
/-- a list display, as a new list -/
def dLst (d : DA) : DO := fun ρ => (d ρ).bind fun p => Out.of ((takes p.2 p.1).bind fun q => if q.1.length ≤ sizeLine then some (.own q.1, q.2) else none)
theorem EnvR.fresh {K : PySem.W.Frag} {mg : MG} {Z H : Hp} {O : Lab} {C : Lk} {σ : L2.St} {ρ : Env} (R : EnvR K mg Z H O C σ ρ) {p : Addr} (hp : H p = none) : O p = none ∧ Z p = none ∧ C p = none := by
  refine ⟨?_, R.zh.free hp, R.ch.free hp⟩
  cases e : O p with
  | none => rfl
  | some q => exact absurd hp (R.oz p (by rw [e]; simp)).2.2
theorem Ext.fresh {Z H : Hp} {O : Lab} {Z' H' : Hp} {O' : Lab} (x : Ext Z H O Z' H' O') {p : Addr} (hp : H' p = none) : H p = none := by
  cases e : H p with
  | none => rfl
  | some o => exact absurd hp (x.t p (by rw [e]; simp))
theorem pow_lst {X : Cx} {es : List Expr} {d : DA} {pos : Pos} (h : PAs X es d) : POw X (.List es pos) (dLst d) := PE.imp (pe_lst h) fun σ H Q ⟨Z, O, C, ρ, R, x, ρ', q, k⟩ => by
  obtain ⟨⟨hs, ρ1⟩, e1, q⟩ := Out.bind_ok q
  obtain ⟨⟨xs, ρ2⟩, e2, q⟩ := Option.bind_eq_some_iff.mp (Out.of_ok q)
  refine ⟨Z, O, C, ρ, R, hs, ρ1, e1, fun vs H1 Z1 O1 x1 R1 r1 => ?_⟩
  split at q
  · rename_i hl
    cases q
    obtain ⟨Z2, O2, x2, R2, r2⟩ := takes_ok R1 r1 e2
    refine ⟨by rw [r2.length]; exact hl, fun p hp => ?_⟩
    let gr := Grow.newH (o := .lst vs) R2.zh hp
    obtain ⟨f1, f2, f3⟩ := R2.fresh hp
    exact k _ _ _ O2 ((x1.trans x2).trans gr.ext) (R2.grow gr) ⟨p, vs, rfl, f1, f2, f3, x1.fresh hp, upd_same, r2⟩
  · cases q
end Ev

/-! Ev: tests, and, or, not, chains, conditional expressions, one-place operations, built-in functions. -/
namespace Ev
open PySem PySem.Spec PyProof.Rows L2

/-! ### truth -/
def truth : Val → Option Bool
  | .non => some false
  | .bl b => some b
  | .int i => some (i != 0)
  | .str s => if s.length ≤ sizeLine then some ((s.length : Int) != 0) else none
  | .tup xs => some (!xs.isEmpty)
  | .ktup xs => some (!xs.isEmpty)
  | .lst xs => some (!xs.isEmpty)
  | .scr xs => some (!xs.isEmpty)
  | .dK xs => some (!xs.isEmpty)
  | _ => none
theorem Rls.isEmpty {K : PySem.W.Frag} {mg : MG} {Z : Hp} {vs : List V} {xs : List Val} (r : Rls K mg Z vs xs) : vs.isEmpty = xs.isEmpty := by cases r <;> rfl
theorem truth_ok {K : PySem.W.Frag} {mg : MG} {Z H : Hp} {v : V} {x : Val} {b : Bool} (zh : Same Z H) (r : BorR K mg Z H v x) (e : truth x = some b) : TruV K v H b := by
  cases x with
  | non => cases e; cases bor_non r; rfl
  | bl k => cases e; cases bor_bl r; rfl
  | int k => cases e; cases bor_int r; rfl
  | str k =>
    simp only [truth] at e
    split at e
    · rename_i h; cases e; cases bor_str r; exact ⟨h, rfl⟩
    · cases e
  | tup xs =>
    cases e
    obtain ⟨a, vs, rfl, h1, r1⟩ := bor_tup r
    exact .inr (.inl ⟨vs, SqT.of (zh _ _ h1), by rw [r1.isEmpty]⟩)
  | ktup xs =>
    cases e
    obtain ⟨a, vs, rfl, h1, r1⟩ := bor_ktup r
    exact .inr (.inl ⟨vs, seqT_mono zh h1, by rw [r1.isEmpty]⟩)
  | lst xs =>
    cases e
    obtain ⟨a, vs, rfl, h1, r1⟩ := bor_lst zh r
    exact .inl ⟨vs, SqL.of h1, by rw [r1.isEmpty]⟩
  | scr xs =>
    cases e
    obtain ⟨a, rfl, h1⟩ := bor_scr r
    refine .inl ⟨_, zh.seq h1, ?_⟩
    cases xs <;> rfl
  | dK xs =>
    cases e
    obtain ⟨a, kvs, rfl, h1, r1, _⟩ := bor_dK zh r
    refine .inr (.inr ⟨kvs, h1, ?_⟩)
    cases xs <;> cases kvs <;> first | rfl | cases r1
  | _ => cases e
/-- an operand as a test -/
def tOf (d : DH) : DT := fun ρ => (d ρ).bind fun p => Out.of ((deref p.2 p.1).bind fun x => (truth x).map fun b => (b, p.2))
section
variable {X : Cx}
theorem pt_of {e : Expr} {d : DH} (h : PH X e d) (he : ∀ whole, isTrue e X.env whole = (do let v ← whole; standAt e.pos; holding [v] (truthy v)) := by intro _; rfl) : PTt X e (tOf d) :=
  PT.imp (pt_truth h he) fun σ H Q ⟨Z, O, C, ρ, R, b, ρ', q, k⟩ => by
    obtain ⟨⟨h1, ρ1⟩, e1, q⟩ := Out.bind_ok q
    obtain ⟨y, e4, q⟩ := Option.bind_eq_some_iff.mp (Out.of_ok q)
    obtain ⟨z, e5, q⟩ := Option.map_eq_some_iff.mp q
    cases q
    exact ⟨Z, O, C, ρ, R, h1, ρ1, e1, fun v H1 Z1 O1 x1 R1 r1 => ⟨_, truth_ok R1.zh (deref_bor R1 r1 e4) e5, k H1 Z1 O1 x1 R1⟩⟩
/-- a value that is a bool, as a test -/
def tBl (d : DV) : DT := fun ρ => (d ρ).bind fun p => match p.1 with
  | .bl b => .ok (b, p.2)
  | _ => .bad
theorem pt_cmp' {a b : Expr} {da db : DH} {pos : Pos} {g : Val → Val → Option Val} {op : CmpOp} (ho : OpR X (compareOp op) (r2 X.K X.mg g)) (ha : PH X a da) (hb : PH X b db) (hm : behindInMarks op b = false := by first | exact nomark _ | rfl) :
    PTt X (.Compare a [op] [b] pos) (tBl (d2 g da db)) := PT.imp (pt_cmpR ho ha hb hm) fun σ H Q ⟨Z, O, C, ρ, R, b, ρ', q, k⟩ => by
  obtain ⟨⟨y, ρ1⟩, e1, q⟩ := Out.bind_ok q
  cases y with
  | bl c =>
    cases q
    exact run2 ⟨Z, O, C, ρ, R, .bl b, ρ1, e1, fun v H' Z' O' x R' r => by cases r; exact ⟨b, rfl, k H' Z' O' x R'⟩⟩
  | _ => cases q
/-! a op b op c -/
def dChain (g g' : Val → Val → Option Val) (da db dc : DH) : DV := fun ρ => (da ρ).bind fun p => (db p.2).bind fun q =>
  match (deref q.2 p.1).bind fun x => (deref q.2 q.1).bind fun y => g x y with
  | some (.bl true) => (dc q.2).bind fun r => Out.of ((deref r.2 q.1).bind fun y => (deref r.2 r.1).bind fun w => (g' y w).map fun z => (z, r.2))
  | some (.bl false) => .ok (.bl false, q.2)
  | _ => .bad
theorem runChain {K : PySem.W.Frag} {mg : MG} {da db dc : DH} {g g' : Val → Val → Option Val} {σ : L2.St} {H : Hp} {Q : VK} (h : TV K mg (dChain g g' da db dc) σ H Q) :
    tChain (r2 K mg g) (r2 K mg g') (TH K mg da) (TH K mg db) (TH K mg dc) σ H Q := by
  obtain ⟨Z, O, C, ρ, R, x, ρ', q, k⟩ := h
  obtain ⟨⟨h1, ρ1⟩, e1, q⟩ := Out.bind_ok q
  obtain ⟨⟨h2, ρ2⟩, e2, q⟩ := Out.bind_ok q
  refine ⟨Z, O, C, ρ, R, h1, ρ1, e1, fun v H1 Z1 O1 x1 R1 r1 => ⟨Z1, O1, C, ρ1, R1, h2, ρ2, e2, fun w H2 Z2 O2 x2 R2 r2 => ?_⟩⟩
  cases e3 : ((deref ρ2 h1).bind fun x => (deref ρ2 h2).bind fun y => g x y) with
  | none => simp only [e3] at q; cases q
  | some y =>
    simp only [e3] at q
    obtain ⟨y1, f1, f⟩ := Option.bind_eq_some_iff.mp e3
    obtain ⟨y2, f2, f3⟩ := Option.bind_eq_some_iff.mp f
    refine ⟨Z2, y1, y2, y, R2.zh, deref_bor R2 (r1.mono x2.z) f1, deref_bor R2 r2 f2, f3, fun u Z3 H3 gr r => ?_⟩
    cases y with
    | bl c =>
      cases r
      refine ⟨c, rfl, ?_⟩
      cases c with
      | false =>
        cases q
        rw [if_neg Bool.false_ne_true]
        exact k _ _ _ _ ((x1.trans x2).trans gr.ext) (R2.grow gr) (.bl false)
      | true =>
        rw [if_pos rfl]
        obtain ⟨⟨h3, ρ3⟩, e4, q⟩ := Out.bind_ok q
        obtain ⟨y3, f4, q⟩ := Option.bind_eq_some_iff.mp (Out.of_ok q)
        obtain ⟨y4, f5, q⟩ := Option.bind_eq_some_iff.mp q
        obtain ⟨z, f6, q⟩ := Option.map_eq_some_iff.mp q
        cases q
        refine ⟨Z3, O2, C, ρ2, R2.grow gr, h3, ρ3, e4, fun w' H4 Z4 O4 x4 R4 r4 => ?_⟩
        exact ⟨Z4, y3, y4, x, R4.zh, deref_bor R4 (r2.mono (gr.z.trans x4.z)) f4, deref_bor R4 r4 f5, f6, fun u5 Z5 H5 gr5 r5 => k _ _ _ _ ((((x1.trans x2).trans gr.ext).trans x4).trans gr5.ext) (R4.grow gr5) r5⟩
    | _ => cases q
theorem pv_chain {a b c : Expr} {da db dc : DH} {pos : Pos} {g g' : Val → Val → Option Val} {op op' : CmpOp} (ho : OpR X (compareOp op) (r2 X.K X.mg g)) (ho' : OpR X (compareOp op') (r2 X.K X.mg g')) (ha : PH X a da) (hb : PH X b db) (hc : PH X c dc)
    (hm : lastMarks [op, op'] [b, c] = false := by with_unfolding_all rfl) : PV X (.Compare a [op, op'] [b, c] pos) (dChain g g' da db dc) := PE.imp (pe_chain ho ho' ha hb hc hm) fun _ _ _ => runChain
theorem pt_chain' {a b c : Expr} {da db dc : DH} {pos : Pos} {g g' : Val → Val → Option Val} {op op' : CmpOp} (ho : OpR X (compareOp op) (r2 X.K X.mg g)) (ho' : OpR X (compareOp op') (r2 X.K X.mg g')) (ha : PH X a da) (hb : PH X b db) (hc : PH X c dc)
    (hm : lastMarks [op, op'] [b, c] = false := by with_unfolding_all rfl) : PTt X (.Compare a [op, op'] [b, c] pos) (tBl (dChain g g' da db dc)) := PT.imp (pt_chain ho ho' ha hb hc hm) fun σ H Q ⟨Z, O, C, ρ, R, b, ρ', q, k⟩ => by
  obtain ⟨⟨y, ρ1⟩, e1, q⟩ := Out.bind_ok q
  cases y with
  | bl c =>
    cases q
    exact runChain ⟨Z, O, C, ρ, R, .bl b, ρ1, e1, fun v H' Z' O' x R' r => by cases r; exact ⟨b, rfl, k H' Z' O' x R'⟩⟩
  | _ => cases q
/-! and, or, not as tests -/
def tAndD (a b : DT) : DT := fun ρ => (a ρ).bind fun p => if p.1 = true then b p.2 else .ok (false, p.2)
def tOrD (a b : DT) : DT := fun ρ => (a ρ).bind fun p => if p.1 = true then .ok (true, p.2) else b p.2
def tNotD (a : DT) : DT := fun ρ => (a ρ).bind fun p => .ok (!p.1, p.2)
theorem pw_and1' {a : Expr} {d : DT} {pos : Pos} (ha : PTt X a d) : PWt X (.BoolOp .And [a] pos) d := pw_and1 ha
theorem pw_or1' {a : Expr} {d : DT} {pos : Pos} (ha : PTt X a d) : PWt X (.BoolOp .Or [a] pos) d := pw_or1 ha
theorem pw_and' {a b : Expr} {rest : List Expr} {da db : DT} {pos : Pos} (ha : PTt X a da) (hb : PWt X (.BoolOp .And (b :: rest) pos) db) : PWt X (.BoolOp .And (a :: b :: rest) pos) (tAndD da db) :=
  PW.imp (pw_and ha hb) fun σ H Q ⟨Z, O, C, ρ, R, b, ρ', q, k⟩ => by
    obtain ⟨⟨c, ρ1⟩, e1, q⟩ := Out.bind_ok q
    refine ⟨Z, O, C, ρ, R, c, ρ1, e1, fun H1 Z1 O1 x1 R1 => ?_⟩
    cases c with
    | true => exact ⟨Z1, O1, C, ρ1, R1, b, ρ', q, fun H2 Z2 O2 x2 R2 => k H2 Z2 O2 (x1.trans x2) R2⟩
    | false => cases q; exact k H1 Z1 O1 x1 R1
theorem pw_or' {a b : Expr} {rest : List Expr} {da db : DT} {pos : Pos} (ha : PTt X a da) (hb : PWt X (.BoolOp .Or (b :: rest) pos) db) : PWt X (.BoolOp .Or (a :: b :: rest) pos) (tOrD da db) :=
  PW.imp (pw_or ha hb) fun σ H Q ⟨Z, O, C, ρ, R, b, ρ', q, k⟩ => by
    obtain ⟨⟨c, ρ1⟩, e1, q⟩ := Out.bind_ok q
    refine ⟨Z, O, C, ρ, R, c, ρ1, e1, fun H1 Z1 O1 x1 R1 => ?_⟩
    cases c with
    | false => exact ⟨Z1, O1, C, ρ1, R1, b, ρ', q, fun H2 Z2 O2 x2 R2 => k H2 Z2 O2 (x1.trans x2) R2⟩
    | true => cases q; exact k H1 Z1 O1 x1 R1
theorem pt_w {e : Expr} {d : DT} (h : PWt X e d) : PTt X e d := h.pt
theorem pt_not' {a : Expr} {d : DT} {pos : Pos} (ha : PTt X a d) : PTt X (.UnaryOp .Not a pos) (tNotD d) := PT.imp (pt_not ha) fun σ H Q ⟨Z, O, C, ρ, R, b, ρ', q, k⟩ => by
  obtain ⟨⟨c, ρ1⟩, e1, q⟩ := Out.bind_ok q
  cases q
  exact ⟨Z, O, C, ρ, R, c, ρ1, e1, k⟩
/-! .. as values -/
def vAnd (a b : DV) : DV := fun ρ => (a ρ).bind fun p => match truth p.1 with
  | some true => b p.2
  | some false => .ok p
  | none => .bad
def vOr (a b : DV) : DV := fun ρ => (a ρ).bind fun p => match truth p.1 with
  | some true => .ok p
  | some false => b p.2
  | none => .bad
def vNot (a : DH) : DV := fun ρ => (a ρ).bind fun p => Out.of ((deref p.2 p.1).bind fun x => (truth x).map fun b => (.bl (!b), p.2))
theorem pv_one {a : Expr} {op} {d : DV} {pos : Pos} (h : PV X a d) : PV X (.BoolOp op [a] pos) d := pe_one h
theorem pv_and {a b : Expr} {rest : List Expr} {da db : DV} {pos : Pos} (ha : PV X a da) (hb : PV X (.BoolOp .And (b :: rest) pos) db) : PV X (.BoolOp .And (a :: b :: rest) pos) (vAnd da db) :=
  PE.imp (pe_andT ha hb) fun σ H Q ⟨Z, O, C, ρ, R, z, ρ', q, k⟩ => by
    obtain ⟨⟨y, ρ1⟩, e1, q⟩ := Out.bind_ok q
    refine ⟨Z, O, C, ρ, R, y, ρ1, e1, fun v H1 Z1 O1 x1 R1 r1 => ?_⟩
    cases e : truth y with
    | none => simp only [e] at q; cases q
    | some c =>
      simp only [e] at q
      refine ⟨c, truth_ok R1.zh (.fz r1) e, ?_⟩
      cases c with
      | true => exact ⟨Z1, O1, C, ρ1, R1, z, ρ', q, fun w H2 Z2 O2 x2 R2 r2 => k w H2 Z2 O2 (x1.trans x2) R2 r2⟩
      | false => cases q; exact k v H1 Z1 O1 x1 R1 r1
theorem pv_or {a b : Expr} {rest : List Expr} {da db : DV} {pos : Pos} (ha : PV X a da) (hb : PV X (.BoolOp .Or (b :: rest) pos) db) : PV X (.BoolOp .Or (a :: b :: rest) pos) (vOr da db) :=
  PE.imp (pe_orT ha hb) fun σ H Q ⟨Z, O, C, ρ, R, z, ρ', q, k⟩ => by
    obtain ⟨⟨y, ρ1⟩, e1, q⟩ := Out.bind_ok q
    refine ⟨Z, O, C, ρ, R, y, ρ1, e1, fun v H1 Z1 O1 x1 R1 r1 => ?_⟩
    cases e : truth y with
    | none => simp only [e] at q; cases q
    | some c =>
      simp only [e] at q
      refine ⟨c, truth_ok R1.zh (.fz r1) e, ?_⟩
      cases c with
      | false => exact ⟨Z1, O1, C, ρ1, R1, z, ρ', q, fun w H2 Z2 O2 x2 R2 r2 => k w H2 Z2 O2 (x1.trans x2) R2 r2⟩
      | true => cases q; exact k v H1 Z1 O1 x1 R1 r1
theorem pv_not {a : Expr} {d : DH} {pos : Pos} (ha : PH X a d) : PV X (.UnaryOp .Not a pos) (vNot d) := PE.imp (pe_notT ha) fun σ H Q ⟨Z, O, C, ρ, R, b, ρ', q, k⟩ => by
  obtain ⟨⟨h1, ρ1⟩, e1, q⟩ := Out.bind_ok q
  obtain ⟨y, e4, q⟩ := Option.bind_eq_some_iff.mp (Out.of_ok q)
  obtain ⟨z, e5, q⟩ := Option.map_eq_some_iff.mp q
  cases q
  exact ⟨Z, O, C, ρ, R, h1, ρ1, e1, fun v H1 Z1 O1 x1 R1 r1 => ⟨z, truth_ok R1.zh (deref_bor R1 r1 e4) e5, k (.bl (!z)) H1 Z1 O1 x1 R1 (.bl _)⟩⟩
/-! a if t else b -/
def dIf (t : DT) (a b : DV) : DV := fun ρ => (t ρ).bind fun p => if p.1 = true then a p.2 else b p.2
theorem pv_if {c a b : Expr} {t : DT} {da db : DV} {pos : Pos} (hc : PTt X c t) (ha : PV X a da) (hb : PV X b db) : PV X (.IfExp c a b pos) (dIf t da db) :=
  PE.imp (pe_ifExp hc ha hb) fun σ H Q ⟨Z, O, C, ρ, R, z, ρ', q, k⟩ => by
    obtain ⟨⟨c, ρ1⟩, e1, q⟩ := Out.bind_ok q
    refine ⟨Z, O, C, ρ, R, c, ρ1, e1, fun H1 Z1 O1 x1 R1 => ?_⟩
    cases c with
    | true => exact ⟨Z1, O1, C, ρ1, R1, z, ρ', q, fun w H2 Z2 O2 x2 R2 r2 => k w H2 Z2 O2 (x1.trans x2) R2 r2⟩
    | false => exact ⟨Z1, O1, C, ρ1, R1, z, ρ', q, fun w H2 Z2 O2 x2 R2 r2 => k w H2 Z2 O2 (x1.trans x2) R2 r2⟩
/-! -a -/
def dNeg (a : DV) : DV := fun ρ => (a ρ).bind fun p => match p.1 with
  | .int i => .ok (.int (-i), p.2)
  | _ => .bad
theorem pv_neg {a : Expr} {d : DV} {pos : Pos} (ha : PV X a d) : PV X (.UnaryOp .USub a pos) (dNeg d) := PE.imp (pe_un un_neg ha) fun σ H Q ⟨Z, O, C, ρ, R, z, ρ', q, k⟩ => by
  obtain ⟨⟨y, ρ1⟩, e1, q⟩ := Out.bind_ok q
  refine ⟨Z, O, C, ρ, R, y, ρ1, e1, fun v H1 Z1 O1 x1 R1 r1 => ?_⟩
  cases y with
  | int i => cases q; cases r1; exact ⟨i, rfl, k _ H1 Z1 O1 x1 R1 (.int _)⟩
  | _ => cases q
/-! is None, is True -/
def isNone : Val → Bool
  | .non => true
  | _ => false
theorem Rl.isNone {K : PySem.W.Frag} {mg : MG} {Z : Hp} {v : V} {x : Val} (r : Rl K mg Z v x) : decide (v = .non) = Ev.isNone x := by cases r <;> rfl
def dIsN (d : DV) : DV := fun ρ => (d ρ).bind fun p => .ok (.bl (isNone p.1), p.2)
def dNotN (d : DV) : DV := fun ρ => (d ρ).bind fun p => .ok (.bl (!isNone p.1), p.2)
theorem runIsN {K : PySem.W.Frag} {mg : MG} {d : DV} {σ : L2.St} {H : Hp} {Q : VK} (h : TV K mg (dIsN d) σ H Q) : tIsN (TV K mg d) σ H Q := by
  obtain ⟨Z, O, C, ρ, R, z, ρ', q, k⟩ := h
  obtain ⟨⟨y, ρ1⟩, e1, q⟩ := Out.bind_ok q
  cases q
  refine ⟨Z, O, C, ρ, R, y, ρ1, e1, fun v H1 Z1 O1 x1 R1 r1 => ?_⟩
  show Q (V.bl (decide (v = V.non))) H1
  rw [r1.isNone]
  exact k _ H1 Z1 O1 x1 R1 (.bl _)
theorem runNotN {K : PySem.W.Frag} {mg : MG} {d : DV} {σ : L2.St} {H : Hp} {Q : VK} (h : TV K mg (dNotN d) σ H Q) : tNotN (TV K mg d) σ H Q := by
  obtain ⟨Z, O, C, ρ, R, z, ρ', q, k⟩ := h
  obtain ⟨⟨y, ρ1⟩, e1, q⟩ := Out.bind_ok q
  cases q
  refine ⟨Z, O, C, ρ, R, y, ρ1, e1, fun v H1 Z1 O1 x1 R1 r1 => ?_⟩
  show Q (V.bl (!decide (v = V.non))) H1
  rw [r1.isNone]
  exact k _ H1 Z1 O1 x1 R1 (.bl _)
theorem pv_isN {a : Expr} {d : DV} {pos pos' : Pos} {j} (ha : PV X a d) : PV X (.Compare a [.Is] [.Constant .none j pos'] pos) (dIsN d) := PE.imp (pe_cmp (pc_isN ha)) fun _ _ _ => runIsN
theorem pv_notN {a : Expr} {d : DV} {pos pos' : Pos} {j} (ha : PV X a d) : PV X (.Compare a [.IsNot] [.Constant .none j pos'] pos) (dNotN d) := PE.imp (pe_cmp (pc_notN ha)) fun _ _ _ => runNotN
theorem pt_isN {a : Expr} {d : DV} {pos pos' : Pos} {j} (ha : PV X a d) : PTt X (.Compare a [.Is] [.Constant .none j pos'] pos) (tBl (dIsN d)) := PT.imp (pt_cmp (pc_isN ha)) fun σ H Q ⟨Z, O, C, ρ, R, b, ρ', q, k⟩ => by
  obtain ⟨⟨y, ρ1⟩, e1, q⟩ := Out.bind_ok q
  cases y with
  | bl c => cases q; exact runIsN ⟨Z, O, C, ρ, R, .bl b, ρ1, e1, fun v H' Z' O' x R' r => by cases r; exact ⟨b, rfl, k H' Z' O' x R'⟩⟩
  | _ => cases q
theorem pt_notN {a : Expr} {d : DV} {pos pos' : Pos} {j} (ha : PV X a d) : PTt X (.Compare a [.IsNot] [.Constant .none j pos'] pos) (tBl (dNotN d)) := PT.imp (pt_cmp (pc_notN ha)) fun σ H Q ⟨Z, O, C, ρ, R, b, ρ', q, k⟩ => by
  obtain ⟨⟨y, ρ1⟩, e1, q⟩ := Out.bind_ok q
  cases y with
  | bl c => cases q; exact runNotN ⟨Z, O, C, ρ, R, .bl b, ρ1, e1, fun v H' Z' O' x R' r => by cases r; exact ⟨b, rfl, k H' Z' O' x R'⟩⟩
  | _ => cases q
def isBV : Val → Val → Option Val
  | .bl a, .bl b => some (.bl (decide (a = b)))
  | _, _ => none
def isntBV : Val → Val → Option Val
  | .bl a, .bl b => some (.bl (!decide (a = b)))
  | _, _ => none
theorem o_isB : OpR X (compareOp .Is) (r2 X.K X.mg isBV) := OpR.imp op_isBl fun v w H Q ⟨Z, x, y, z, zh, b1, b2, e, q⟩ => by
  unfold isBV at e
  split at e
  · cases e; cases bor_bl b1; cases bor_bl b2; exact ⟨_, _, rfl, rfl, q.here zh (.bl _)⟩
  · cases e
theorem o_isntB : OpR X (compareOp .IsNot) (r2 X.K X.mg isntBV) := OpR.imp op_notBl fun v w H Q ⟨Z, x, y, z, zh, b1, b2, e, q⟩ => by
  unfold isntBV at e
  split at e
  · cases e; cases bor_bl b1; cases bor_bl b2; exact ⟨_, _, rfl, rfl, q.here zh (.bl _)⟩
  · cases e
end
end Ev

/-! Ev: built-in functions by values. -/
namespace Ev
open PySem PySem.Spec PyProof.Rows L2

theorem rN1 {K : PySem.W.Frag} {mg : MG} {g : Val → Option Val} {vs : List V} {H : Hp} {Q : VK} (h : rN K mg (fun xs => match xs with | [x] => g x | _ => none) vs H Q) :
    ∃ Z v x z, vs = [v] ∧ Same Z H ∧ BorR K mg Z H v x ∧ g x = some z ∧ PQ K mg Z H z Q := by
  obtain ⟨Z, xs, z, zh, b, e, q⟩ := h
  cases b with
  | nil => cases e
  | cons b1 b2 =>
    cases b2 with
    | nil => exact ⟨Z, _, _, z, rfl, zh, b1, e, q⟩
    | cons _ _ => cases e
theorem rN2 {K : PySem.W.Frag} {mg : MG} {g : Val → Val → Option Val} {vs : List V} {H : Hp} {Q : VK} (h : rN K mg (fun xs => match xs with | [x, y] => g x y | _ => none) vs H Q) :
    ∃ Z v w x y z, vs = [v, w] ∧ Same Z H ∧ BorR K mg Z H v x ∧ BorR K mg Z H w y ∧ g x y = some z ∧ PQ K mg Z H z Q := by
  obtain ⟨Z, xs, z, zh, b, e, q⟩ := h
  cases b with
  | nil => cases e
  | cons b1 b2 =>
    cases b2 with
    | nil => cases e
    | cons b2 b3 =>
      cases b3 with
      | nil => exact ⟨Z, _, _, _, _, z, rfl, zh, b1, b2, e, q⟩
      | cons _ _ => cases e
def g1 (g : Val → Option Val) : List Val → Option Val := fun xs => match xs with | [x] => g x | _ => none
def g2 (g : Val → Val → Option Val) : List Val → Option Val := fun xs => match xs with | [x, y] => g x y | _ => none

/-! ### len -/
def lenV : Val → Option Val
  | .str s => if s.length ≤ sizeLine then some (.int s.length) else none
  | .lst xs => some (.int xs.length)
  | .tup xs => some (.int xs.length)
  | .ktup xs => some (.int xs.length)
  | .scr xs => some (.int xs.length)
  | .dK xs => some (.int xs.length)
  | _ => none
section
variable {X : Cx}
theorem call_lenK : CallR X (.builtin "len") (fun xs H Q => ∃ p kvs, xs = [.ref p] ∧ H p = some (.dK kvs) ∧ Q (.int kvs.length) H) := by
  intro pins s σ H xs us Q I r h
  obtain ⟨p, kvs, rfl, hk, q⟩ := h
  obtain ⟨u, rfl, rx⟩ := vals1 r
  cases rx
  exact d_len I (.inl hk) fun t s' I' => ⟨.int kvs.length, H, I', ⟨_, rfl⟩, q⟩
theorem c_len : CallR X (.builtin "len") (rN X.K X.mg (g1 lenV)) := CallR.imp (call_len.or call_lenK) fun vs H Q h => by
  obtain ⟨Z, v, x, z, rfl, zh, b, e, q⟩ := rN1 h
  cases x with
  | str s =>
    simp only [lenV] at e
    split at e
    · rename_i hl; cases e; cases bor_str b; exact .inl ⟨_, _, rfl, ⟨hl, rfl⟩, q.here zh (.int _)⟩
    · cases e
  | lst xs =>
    cases e
    obtain ⟨a, vs, rfl, h1, r1⟩ := bor_lst zh b
    exact .inl ⟨_, _, rfl, .inl ⟨vs, SqL.of h1, r1.length.symm⟩, q.here zh (.int _)⟩
  | tup xs =>
    cases e
    obtain ⟨a, vs, rfl, h1, r1⟩ := bor_tup b
    exact .inl ⟨_, _, rfl, .inr ⟨vs, SqT.of (zh _ _ h1), r1.length.symm⟩, q.here zh (.int _)⟩
  | ktup xs =>
    cases e
    obtain ⟨a, vs, rfl, h1, r1⟩ := bor_ktup b
    exact .inl ⟨_, _, rfl, .inr ⟨vs, seqT_mono zh h1, r1.length.symm⟩, q.here zh (.int _)⟩
  | scr xs =>
    cases e
    obtain ⟨a, rfl, h1⟩ := bor_scr b
    exact .inl ⟨_, _, rfl, .inl ⟨_, zh.seq h1, by rw [List.length_map]⟩, q.here zh (.int _)⟩
  | dK xs =>
    cases e
    obtain ⟨a, kvs, rfl, h1, hk, r1⟩ := bor_dK zh b
    refine .inr ⟨_, kvs, rfl, h1, ?_⟩
    rw [dr_len hk]
    exact q.here zh (.int _)
  | _ => cases e
/-! ### tuple, list -/
def tupV : Val → Option Val
  | .lst xs => some (.tup xs)
  | .tup xs => some (.tup xs)
  | _ => none
theorem c_tuple : CallR X (.type "tuple") (rN X.K X.mg (g1 tupV)) := CallR.imp call_tuple_of fun vs H Q h => by
  obtain ⟨Z, v, x, z, rfl, zh, b, e, q⟩ := rN1 h
  cases x with
  | lst xs =>
    cases e
    obtain ⟨a, vs, rfl, h1, r1⟩ := bor_lst zh b
    exact ⟨a, vs, rfl, .inl ⟨SqL.of h1, fun l hl => q.newT zh hl r1⟩⟩
  | tup xs =>
    cases e
    obtain ⟨a, vs, rfl, h1, r1⟩ := bor_tup b
    exact ⟨a, vs, rfl, .inr ⟨SqT.of (zh _ _ h1), q.here zh (.tup h1 r1)⟩⟩
  | _ => cases e
end
/-! an owned answer: a new list -/
def QO (K : PySem.W.Frag) (mg : MG) (Z H : Hp) (xs : List Val) (Q : VK) : Prop := ∀ p vs, H p = none → Rls K mg Z vs xs → Q (.ref p) (upd H p (.lst vs))
def rNo (K : PySem.W.Frag) (mg : MG) (g : List Val → Option (List Val)) : List V → Hp → VK → Prop := fun vs H Q => ∃ Z xs ys, Same Z H ∧ BorRs K mg Z H vs xs ∧ g xs = some ys ∧ QO K mg Z H ys Q
def dNo (g : List Val → Option (List Val)) (d : DA) : DO := fun ρ => (d ρ).bind fun p => Out.of ((derefs p.2 p.1).bind fun xs => (g xs).map fun ys => (.own ys, p.2))
/-- an answer that is a new list, as an owned result -/
theorem own_new {K : PySem.W.Frag} {mg : MG} {Z H Z1 H1 : Hp} {O O1 : Lab} {C : Lk} {σ : L2.St} {ρ' : Env} {ys : List Val} {Q : VK} (x1 : Ext Z H O Z1 H1 O1) (R1 : EnvR K mg Z1 H1 O1 C σ ρ')
    (k : ∀ v H' Z' O', Ext Z H O Z' H' O' → EnvR K mg Z' H' O' C σ ρ' → OwR K mg Z' H' O' C H v (.own ys) → Q v H') : QO K mg Z1 H1 ys Q := fun p vs hp r => by
  let gr := Grow.newH (o := .lst vs) R1.zh hp
  obtain ⟨f1, f2, f3⟩ := R1.fresh hp
  exact k _ _ _ O1 (x1.trans gr.ext) (R1.grow gr) ⟨p, vs, rfl, f1, f2, f3, x1.fresh hp, upd_same, r⟩
theorem runNo {K : PySem.W.Frag} {mg : MG} {d : DA} {g : List Val → Option (List Val)} {σ : L2.St} {H : Hp} {Q : VK} (h : TOw K mg (dNo g d) σ H Q) : TAs K mg d σ H fun vs H1 => rNo K mg g vs H1 Q := by
  obtain ⟨Z, O, C, ρ, R, x, ρ', q, k⟩ := h
  obtain ⟨⟨hs, ρ1⟩, e1, q⟩ := Out.bind_ok q
  obtain ⟨xs, e2, q⟩ := Option.bind_eq_some_iff.mp (Out.of_ok q)
  obtain ⟨ys, e3, q⟩ := Option.map_eq_some_iff.mp q
  cases q
  exact ⟨Z, O, C, ρ, R, hs, ρ1, e1, fun vs H1 Z1 O1 x1 R1 r1 => ⟨Z1, xs, ys, R1.zh, derefs_bor R1 r1 e2, e3, own_new x1 R1 k⟩⟩
section
variable {X : Cx} {x : Str} {p pos : Pos} {e : Expr} {es : List Expr} {d : DA} {idn T : String} {g : List Val → Option (List Val)}
theorem pow_callB (hc : CallR X (.builtin idn) (rNo X.K X.mg g)) (hg : Gl X x) (hm : X.mg x = none) (hv : bootBuiltins x = some (.builtin idn)) (ha : PAs X (e :: es) d) (hn : x ≠ "__name__" := by decide) (hdb : (x == ("__debug__" : Str)) = false := by decide)
    (he : starEach (e :: es) X.env = (false, eval e X.env) :: starEach es X.env := by rfl) (hpl : (backTo pos (starEach es X.env)).any (·.1) = false := by rfl) : POw X (.Call (.Name x p) (e :: es) [] pos) (dNo g d) :=
  PE.imp (pe_callB hc hg hm hv ha hn hdb he hpl) fun _ _ _ => runNo
theorem pow_callTy (hc : CallR X (.type T) (rNo X.K X.mg g)) (hg : Gl X x) (hm : X.mg x = none) (hv : bootBuiltins x = some (.type T)) (ha : PAs X (e :: es) d) (hn : x ≠ "__name__" := by decide) (hdb : (x == ("__debug__" : Str)) = false := by decide)
    (he : starEach (e :: es) X.env = (false, eval e X.env) :: starEach es X.env := by rfl) (hpl : (backTo pos (starEach es X.env)).any (·.1) = false := by rfl) : POw X (.Call (.Name x p) (e :: es) [] pos) (dNo g d) :=
  PE.imp (pe_callTy hc hg hm hv ha hn hdb he hpl) fun _ _ _ => runNo
theorem rNo1 {K : PySem.W.Frag} {mg : MG} {g : Val → Option (List Val)} {vs : List V} {H : Hp} {Q : VK} (h : rNo K mg (fun xs => match xs with | [x] => g x | _ => none) vs H Q) :
    ∃ Z v x z, vs = [v] ∧ Same Z H ∧ BorR K mg Z H v x ∧ g x = some z ∧ QO K mg Z H z Q := by
  obtain ⟨Z, xs, z, zh, b, e, q⟩ := h
  cases b with
  | nil => cases e
  | cons b1 b2 =>
    cases b2 with
    | nil => exact ⟨Z, _, _, z, rfl, zh, b1, e, q⟩
    | cons _ _ => cases e
def go1 (g : Val → Option (List Val)) : List Val → Option (List Val) := fun xs => match xs with | [x] => g x | _ => none
def itemsV : Val → Option (List Val)
  | .lst xs => some xs
  | .tup xs => some xs
  | .scr ns => some (ns.map .int)
  | _ => none
theorem c_list : CallR X (.type "list") (rNo X.K X.mg (go1 itemsV)) := CallR.imp call_list_of fun vs H Q h => by
  obtain ⟨Z, v, x, z, rfl, zh, b, e, q⟩ := rNo1 h
  cases x with
  | lst xs =>
    cases e
    obtain ⟨a, vs, rfl, h1, r1⟩ := bor_lst zh b
    exact ⟨a, vs, rfl, .inl (SqL.of h1), fun l hl => q l vs hl r1⟩
  | tup xs =>
    cases e
    obtain ⟨a, vs, rfl, h1, r1⟩ := bor_tup b
    exact ⟨a, vs, rfl, .inr (SqT.of (zh _ _ h1)), fun l hl => q l vs hl r1⟩
  | scr ns =>
    cases e
    obtain ⟨a, rfl, h1⟩ := bor_scr b
    exact ⟨a, _, rfl, .inl (zh.seq h1), fun l hl => q l _ hl (Rls.ints ns)⟩
  | _ => cases e
/-! ### list(range(..)) -/
abbrev DR := Env → Out ((Int × Int) × Env)
def TR (K : PySem.W.Frag) (mg : MG) (d : DR) : L2.St → Hp → (Int → Int → Hp → Prop) → Prop := fun σ H Q => ∃ Z O C ρ, EnvR K mg Z H O C σ ρ ∧ ∃ r ρ', d ρ = .ok (r, ρ') ∧
  ∀ H' Z' O', Ext Z H O Z' H' O' → EnvR K mg Z' H' O' C σ ρ' → Q r.1 r.2 H'
def PRv (X : Cx) (e : Expr) (d : DR) : Prop := PRg X e (TR X.K X.mg d)
def dR1 (d : DV) : DR := fun ρ => (d ρ).bind fun p => match p.1 with
  | .int n => .ok ((0, n), p.2)
  | _ => .bad
def dR2 (a b : DV) : DR := fun ρ => (a ρ).bind fun p => (b p.2).bind fun q => match p.1, q.1 with
  | .int i, .int j => .ok ((i, j), q.2)
  | _, _ => .bad
theorem pr_1 {a : Expr} {d : DV} {p pos : Pos} (hg : Gl X "range") (hm : X.mg "range" = none) (ha : PV X a d) (na : starEach [a] X.env = (false, eval a X.env) :: starEach [] X.env := by rfl) : PRv X (.Call (.Name "range" p) [a] [] pos) (dR1 d) :=
  fun pins s σ H Q I h => prg_1 (p := p) (pos := pos) hg hm ha na pins s σ H Q I (by
    obtain ⟨Z, O, C, ρ, R, r, ρ', q, k⟩ := h
    obtain ⟨⟨y, ρ1⟩, e1, q⟩ := Out.bind_ok q
    refine ⟨Z, O, C, ρ, R, y, ρ1, e1, fun v H1 Z1 O1 x1 R1 r1 => ?_⟩
    cases y with
    | int n => cases q; cases r1; exact ⟨n, rfl, k H1 Z1 O1 x1 R1⟩
    | _ => cases q)
theorem pr_2 {a b : Expr} {da db : DV} {p pos : Pos} (hg : Gl X "range") (hm : X.mg "range" = none) (ha : PV X a da) (hb : PV X b db) (na : starEach [a, b] X.env = (false, eval a X.env) :: starEach [b] X.env := by rfl)
    (nb : starEach [b] X.env = (false, eval b X.env) :: starEach [] X.env := by rfl) (hp : (backTo pos (starEach [b] X.env)).any (·.1) = false := by rfl) : PRv X (.Call (.Name "range" p) [a, b] [] pos) (dR2 da db) :=
  fun pins s σ H Q I h => prg_2 (p := p) (pos := pos) hg hm ha hb na nb hp pins s σ H Q I (by
    obtain ⟨Z, O, C, ρ, R, r, ρ', q, k⟩ := h
    obtain ⟨⟨y1, ρ1⟩, e1, q⟩ := Out.bind_ok q
    obtain ⟨⟨y2, ρ2⟩, e2, q⟩ := Out.bind_ok q
    refine ⟨Z, O, C, ρ, R, y1, ρ1, e1, fun v H1 Z1 O1 x1 R1 r1 => ⟨Z1, O1, C, ρ1, R1, y2, ρ2, e2, fun w H2 Z2 O2 x2 R2 r2 => ?_⟩⟩
    cases y1 with
    | int i =>
      cases y2 with
      | int j => cases q; cases r1; cases r2; exact ⟨i, j, rfl, rfl, k H2 Z2 O2 (x1.trans x2) R2⟩
      | _ => cases q
    | _ => cases q)
def rangeI (a b : Int) : List Int := (List.range (b - a).toNat).map fun i => a + (i : Nat)
def rgOk (a b : Int) : Bool := decide (-(2 ^ 62) ≤ a ∧ a < 2 ^ 62 ∧ -(2 ^ 62) ≤ b ∧ b < 2 ^ 62 ∧ (b - a).toNat ≤ 2 ^ 24)
def dLR (d : DR) : DO := fun ρ => (d ρ).bind fun p => if rgOk p.1.1 p.1.2 then .ok (.own ((rangeI p.1.1 p.1.2).map .int), p.2) else .bad
theorem rgV_ints (a b : Int) : rgV a b = (rangeI a b).map V.int := by unfold rgV rangeI; rw [List.map_map]; rfl
theorem pow_listRg {e : Expr} {d : DR} {p pos : Pos} (hc : X.calm = true) (hg : Gl X "list") (hm : X.mg "list" = none) (he : PRv X e d) (na : starEach [e] X.env = (false, eval e X.env) :: starEach [] X.env := by rfl) : POw X (.Call (.Name "list" p) [e] [] pos) (dLR d) :=
  PE.imp (pe_listRg hc hg hm he na) fun σ H Q ⟨Z, O, C, ρ, R, x, ρ', q, k⟩ => by
    obtain ⟨⟨⟨a, b⟩, ρ1⟩, e1, q⟩ := Out.bind_ok q
    refine ⟨Z, O, C, ρ, R, (a, b), ρ1, e1, fun H1 Z1 O1 x1 R1 => ?_⟩
    split at q
    · rename_i hr
      cases q
      refine ⟨by simpa [rgOk, RgOk] using hr, fun p hp => ?_⟩
      rw [rgV_ints]
      exact own_new x1 R1 k p _ hp (Rls.ints _)
    · cases q
/-! ### all, any, sum, min, max, abs, int, str -/
def boolsOf : List Val → Option (List Bool)
  | [] => some []
  | .bl b :: xs => (boolsOf xs).map (b :: ·)
  | _ => none
def intsOf : List Val → Option (List Int)
  | [] => some []
  | .int b :: xs => (intsOf xs).map (b :: ·)
  | _ => none
theorem boolsOf_eq : ∀ {xs : List Val} {bs : List Bool}, boolsOf xs = some bs → xs = bs.map .bl
  | [], bs, h => by cases h; rfl
  | x :: xs, bs, h => by
    cases x <;> try (cases h)
    obtain ⟨r, e, rfl⟩ := Option.map_eq_some_iff.mp h
    rw [boolsOf_eq e]
    rfl
theorem intsOf_eq : ∀ {xs : List Val} {bs : List Int}, intsOf xs = some bs → xs = bs.map .int
  | [], bs, h => by cases h; rfl
  | x :: xs, bs, h => by
    cases x <;> try (cases h)
    obtain ⟨r, e, rfl⟩ := Option.map_eq_some_iff.mp h
    rw [intsOf_eq e]
    rfl
theorem boolsOf_map : ∀ bs : List Bool, boolsOf (bs.map .bl) = some bs
  | [] => rfl
  | b :: bs => by simp [boolsOf, boolsOf_map bs]
theorem intsOf_map : ∀ bs : List Int, intsOf (bs.map .int) = some bs
  | [] => rfl
  | b :: bs => by simp [intsOf, intsOf_map bs]
theorem Rls.of_bools {K : PySem.W.Frag} {mg : MG} {Z : Hp} : ∀ {vs : List V} {bs : List Bool}, Rls K mg Z vs (bs.map Val.bl) → vs = bs.map V.bl
  | _, [], h => by cases h; rfl
  | _, n :: ns, h => by
    cases h with
    | cons r t => cases r; rw [Rls.of_bools t]; rfl
def allV : Val → Option Val
  | .lst xs => (boolsOf xs).map fun bs => .bl (bs.all id)
  | _ => none
def anyV : Val → Option Val
  | .lst xs => (boolsOf xs).map fun bs => .bl (bs.any id)
  | _ => none
def sumV : Val → Option Val
  | .lst xs => (intsOf xs).map fun ns => .int ns.sum
  | _ => none
theorem c_all (hc : X.calm = true) : CallR X (.builtin "all") (rN X.K X.mg (g1 allV)) := CallR.imp (cr_all hc) fun vs H Q h => by
  obtain ⟨Z, v, x, z, rfl, zh, b, e, q⟩ := rN1 h
  cases x with
  | lst xs =>
    obtain ⟨bs, e1, rfl⟩ := Option.map_eq_some_iff.mp e
    obtain ⟨a, vs, rfl, h1, r1⟩ := bor_lst zh b
    rw [boolsOf_eq e1] at r1
    rw [r1.of_bools] at h1
    exact ⟨a, bs, rfl, SqL.of h1, q.here zh (.bl _)⟩
  | _ => cases e
theorem c_any (hc : X.calm = true) : CallR X (.builtin "any") (rN X.K X.mg (g1 anyV)) := CallR.imp (cr_any hc) fun vs H Q h => by
  obtain ⟨Z, v, x, z, rfl, zh, b, e, q⟩ := rN1 h
  cases x with
  | lst xs =>
    obtain ⟨bs, e1, rfl⟩ := Option.map_eq_some_iff.mp e
    obtain ⟨a, vs, rfl, h1, r1⟩ := bor_lst zh b
    rw [boolsOf_eq e1] at r1
    rw [r1.of_bools] at h1
    exact ⟨a, bs, rfl, SqL.of h1, q.here zh (.bl _)⟩
  | _ => cases e
theorem c_sum (hc : X.calm = true) : CallR X (.builtin "sum") (rN X.K X.mg (g1 sumV)) := CallR.imp (cr_sum hc) fun vs H Q h => by
  obtain ⟨Z, v, x, z, rfl, zh, b, e, q⟩ := rN1 h
  cases x with
  | lst xs =>
    obtain ⟨bs, e1, rfl⟩ := Option.map_eq_some_iff.mp e
    obtain ⟨a, vs, rfl, h1, r1⟩ := bor_lst zh b
    rw [intsOf_eq e1] at r1
    rw [r1.of_ints] at h1
    exact ⟨a, bs, rfl, SqL.of h1, q.here zh (.int _)⟩
  | _ => cases e
def max2V : Val → Val → Option Val
  | .int i, .int j => some (.int (if j > i then j else i))
  | _, _ => none
def min2V : Val → Val → Option Val
  | .int i, .int j => some (.int (if j < i then j else i))
  | _, _ => none
theorem c_max2 (hc : X.calm = true) : CallR X (.builtin "max") (rN X.K X.mg (g2 max2V)) := CallR.imp (call_max2 hc) fun vs H Q h => by
  obtain ⟨Z, v, w, x, y, z, rfl, zh, b1, b2, e, q⟩ := rN2 h
  unfold max2V at e
  split at e
  · cases e; cases bor_int b1; cases bor_int b2; exact ⟨_, _, rfl, q.here zh (.int _)⟩
  · cases e
theorem c_min2 (hc : X.calm = true) : CallR X (.builtin "min") (rN X.K X.mg (g2 min2V)) := CallR.imp (call_min2 hc) fun vs H Q h => by
  obtain ⟨Z, v, w, x, y, z, rfl, zh, b1, b2, e, q⟩ := rN2 h
  unfold min2V at e
  split at e
  · cases e; cases bor_int b1; cases bor_int b2; exact ⟨_, _, rfl, q.here zh (.int _)⟩
  · cases e
def maxLV : Val → Option Val
  | .lst xs => (intsOf xs).bind fun ns => match ns with
    | [] => none
    | n :: r => some (.int (r.foldl max n))
  | _ => none
def minLV : Val → Option Val
  | .lst xs => (intsOf xs).bind fun ns => match ns with
    | [] => none
    | n :: r => some (.int (r.foldl min n))
  | _ => none
theorem foldl_max (r : List Int) : ∀ (n m : Int), m ∈ n :: r → (∀ y, y ∈ n :: r → y ≤ m) → r.foldl max n = m := by
  induction r with
  | nil => intro n m h1 h2; exact (List.mem_singleton.mp h1).symm
  | cons x r ih =>
    intro n m h1 h2
    rw [List.foldl_cons]
    refine ih _ _ ?_ fun y hy => ?_
    · rcases List.mem_cons.mp h1 with e | h1
      · subst e
        have := h2 x (by simp)
        rw [Int.max_eq_left this]
        exact List.mem_cons_self
      · rcases List.mem_cons.mp h1 with e | h1
        · subst e
          have := h2 n (by simp)
          rw [Int.max_eq_right this]
          exact List.mem_cons_self
        · exact List.mem_cons_of_mem _ h1
    · rcases List.mem_cons.mp hy with e | hy
      · subst e
        have a := h2 x (by simp)
        have b := h2 n (by simp)
        omega
      · exact h2 y (by simp [hy])
theorem foldl_min (r : List Int) : ∀ (n m : Int), m ∈ n :: r → (∀ y, y ∈ n :: r → m ≤ y) → r.foldl min n = m := by
  induction r with
  | nil => intro n m h1 h2; exact (List.mem_singleton.mp h1).symm
  | cons x r ih =>
    intro n m h1 h2
    rw [List.foldl_cons]
    refine ih _ _ ?_ fun y hy => ?_
    · rcases List.mem_cons.mp h1 with e | h1
      · subst e
        have := h2 x (by simp)
        rw [Int.min_eq_left this]
        exact List.mem_cons_self
      · rcases List.mem_cons.mp h1 with e | h1
        · subst e
          have := h2 n (by simp)
          rw [Int.min_eq_right this]
          exact List.mem_cons_self
        · exact List.mem_cons_of_mem _ h1
    · rcases List.mem_cons.mp hy with e | hy
      · subst e
        have a := h2 x (by simp)
        have b := h2 n (by simp)
        omega
      · exact h2 y (by simp [hy])
theorem c_maxL (hc : X.calm = true) : CallR X (.builtin "max") (rN X.K X.mg (g1 maxLV)) := CallR.imp (cr_max hc) fun vs H Q h => by
  obtain ⟨Z, v, x, z, rfl, zh, b, e, q⟩ := rN1 h
  cases x with
  | lst xs =>
    obtain ⟨ns, e1, e⟩ := Option.bind_eq_some_iff.mp e
    obtain ⟨a, vs, rfl, h1, r1⟩ := bor_lst zh b
    rw [intsOf_eq e1] at r1
    rw [r1.of_ints] at h1
    cases ns with
    | nil => cases e
    | cons n r =>
      cases e
      exact ⟨a, _, rfl, SqL.of h1, Nat.succ_pos _, fun m i1 i2 => by rw [← foldl_max r n m i1 i2]; exact q.here zh (.int _)⟩
  | _ => cases e
theorem c_minL (hc : X.calm = true) : CallR X (.builtin "min") (rN X.K X.mg (g1 minLV)) := CallR.imp (cr_min hc) fun vs H Q h => by
  obtain ⟨Z, v, x, z, rfl, zh, b, e, q⟩ := rN1 h
  cases x with
  | lst xs =>
    obtain ⟨ns, e1, e⟩ := Option.bind_eq_some_iff.mp e
    obtain ⟨a, vs, rfl, h1, r1⟩ := bor_lst zh b
    rw [intsOf_eq e1] at r1
    rw [r1.of_ints] at h1
    cases ns with
    | nil => cases e
    | cons n r =>
      cases e
      exact ⟨a, _, rfl, SqL.of h1, Nat.succ_pos _, fun m i1 i2 => by rw [← foldl_min r n m i1 i2]; exact q.here zh (.int _)⟩
  | _ => cases e
def absV : Val → Option Val
  | .int i => some (.int (if i < 0 then -i else i))
  | _ => none
theorem c_abs : CallR X (.builtin "abs") (rN X.K X.mg (g1 absV)) := CallR.imp call_abs fun vs H Q h => by
  obtain ⟨Z, v, x, z, rfl, zh, b, e, q⟩ := rN1 h
  cases x with
  | int i => cases e; cases bor_int b; exact ⟨_, rfl, q.here zh (.int _)⟩
  | _ => cases e
def intV : Val → Option Val
  | .int i => some (.int i)
  | .bl b => some (.int (if b then 1 else 0))
  | _ => none
theorem c_int : CallR X (.type "int") (rN X.K X.mg (g1 intV)) := CallR.imp call_int1 fun vs H Q h => by
  obtain ⟨Z, v, x, z, rfl, zh, b, e, q⟩ := rN1 h
  cases x with
  | int i => cases e; cases bor_int b; exact .inl ⟨_, rfl, q.here zh (.int _)⟩
  | bl i => cases e; cases bor_bl b; exact .inr ⟨_, rfl, q.here zh (.int _)⟩
  | _ => cases e
def strV : Val → Option Val
  | .int i => if i.natAbs.log2 < 1920 then some (.str (toString i)) else none
  | _ => none
theorem c_str : CallR X (.type "str") (rN X.K X.mg (g1 strV)) := CallR.imp call_str_int fun vs H Q h => by
  obtain ⟨Z, v, x, z, rfl, zh, b, e, q⟩ := rN1 h
  cases x with
  | int i =>
    simp only [strV] at e
    split at e
    · rename_i hl; cases e; cases bor_int b; exact ⟨_, rfl, hl, q.here zh (.str _)⟩
    · cases e
  | _ => cases e
/-! ### isinstance -/
def tyName : Val → Option String
  | .non => some "NoneType"
  | .bl _ => some "bool"
  | .int _ => some "int"
  | .str _ => some "str"
  | .tup _ => some "tuple"
  | .lst _ => some "list"
  | .dK _ => some "dict"
  | .dT _ => some "dict"
  | _ => none
def isiB (t T : String) : Bool := t == T || (t == "bool" && T == "int")
def isiV (T : String) (x : Val) : Option Val := (tyName x).map fun t => .bl (isiB t T)
def stdTy (T : String) : Bool := T == "int" || T == "bool" || T == "str" || T == "tuple" || T == "list"
theorem kit_std {t T : String} (ht : t = "NoneType" ∨ t = "bool" ∨ t = "int" ∨ t = "str" ∨ t = "tuple" ∨ t = "list" ∨ t = "dict") (hT : T = "int" ∨ T = "bool" ∨ T = "str" ∨ T = "tuple" ∨ T = "list") : kitB t T = some (isiB t T) := by
  rcases ht with rfl | rfl | rfl | rfl | rfl | rfl | rfl <;> rcases hT with rfl | rfl | rfl | rfl | rfl <;> decide +kernel
theorem tyX_of {K : PySem.W.Frag} {mg : MG} {Z H : Hp} {v : V} {x : Val} {t : String} (zh : Same Z H) (b : BorR K mg Z H v x) (e : tyName x = some t) : TyX K H v (.type t) := by
  cases x with
  | non => cases e; cases bor_non b; exact .base .non
  | bl _ => cases e; cases bor_bl b; exact .base (.bl _)
  | int _ => cases e; cases bor_int b; exact .base (.int _)
  | str _ => cases e; cases bor_str b; exact .base (.str _)
  | tup _ => cases e; obtain ⟨a, vs, rfl, h1, _⟩ := bor_tup b; exact .base (.tup (zh _ _ h1))
  | lst _ => cases e; obtain ⟨a, vs, rfl, h1, _⟩ := bor_lst zh b; exact .base (.lst h1)
  | dK _ => cases e; obtain ⟨a, vs, rfl, h1, _⟩ := bor_dK zh b; exact .base (.dK h1)
  | dT _ => cases e; obtain ⟨a, vs, rfl, h1, _⟩ := bor_dT zh b; exact .base (.dT h1)
  | _ => cases e
def dIsi (T : String) (d : DH) : DV := fun ρ => (d ρ).bind fun p => Out.of ((deref p.2 p.1).bind fun x => (isiV T x).map fun z => (z, p.2))
theorem pv_isi {e : Expr} {d : DH} {T : String} {TT' : Str} {p p2 pos : Pos} (he : PH X e d) (hg : Gl X "isinstance") (hm : X.mg "isinstance" = none) (hgT : Gl X TT') (hmT : X.mg TT' = none) (hvT : bootBuiltins TT' = some (.type T)) (hT : T = "int" ∨ T = "bool" ∨ T = "str" ∨ T = "tuple" ∨ T = "list")
    (hnT : TT' ≠ "__name__" := by decide) (hdT : (TT' == ("__debug__" : Str)) = false := by decide) (hs : starEach [e, .Name TT' p2] X.env = (false, eval e X.env) :: starEach [.Name TT' p2] X.env := by rfl)
    (hpl : (backTo pos (starEach [.Name TT' p2] X.env)).any (·.1) = false := by rfl) :
    PV X (.Call (.Name "isinstance" p) [e, .Name TT' p2] [] pos) (dIsi T d) :=
  PE.imp (pe_callB call_isi hg hm (by decide +kernel) (pa_cons he (pa_cons (pe_bltn (v := .ty T) hgT hmT hvT rfl hnT hdT) pa_nil (by rfl)) hs) (by decide) (by decide) hs hpl) fun σ H Q ⟨Z, O, C, ρ, R, z, ρ', q, k⟩ => by
    obtain ⟨⟨h1, ρ1⟩, e1, q⟩ := Out.bind_ok q
    obtain ⟨y, e4, q⟩ := Option.bind_eq_some_iff.mp (Out.of_ok q)
    obtain ⟨w, e5, q⟩ := Option.map_eq_some_iff.mp q
    cases q
    obtain ⟨t, e6, rfl⟩ := Option.map_eq_some_iff.mp e5
    refine ⟨Z, O, C, ρ, R, h1, ρ1, e1, fun v H1 Z1 O1 x1 R1 r1 => ⟨v, .ty T, _, _, _, rfl, .ty T, tyX_of R1.zh (deref_bor R1 r1 e4) e6, kit_ty (kit_std ?_ hT), k _ H1 Z1 O1 x1 R1 (.bl _)⟩⟩
    cases y <;> cases e6 <;> simp
end
end Ev

/-! Ev: stores, calls of the program's own defs. -/
namespace Ev
open PySem PySem.Spec PyProof.Rows L2
section
variable {K : PySem.W.Frag} {mg : MG} {Z H : Hp} {O : Lab} {C : Lk} {σ : L2.St} {ρ : Env}

def mapLab (O : Lab) (g : Nat → Option Nat) : Lab := fun b => match O b with
  | some (i, q) => match g i with
    | some j => some (j, q)
    | none => none
  | none => none
theorem mapLab_some {O : Lab} {g : Nat → Option Nat} {b : Addr} {j q : Nat} (h : mapLab O g b = some (j, q)) : ∃ i, O b = some (i, q) ∧ g i = some j := by
  unfold mapLab at h
  cases e : O b with
  | none => rw [e] at h; cases h
  | some p =>
    obtain ⟨i, q'⟩ := p
    rw [e] at h
    cases e2 : g i with
    | none => simp only [e2] at h; cases h
    | some j' => simp only [e2] at h; cases h; exact ⟨i, rfl, e2⟩
theorem mapLab_of {O : Lab} {g : Nat → Option Nat} {b : Addr} {i j q : Nat} (h : O b = some (i, q)) (e : g i = some j) : mapLab O g b = some (j, q) := by
  unfold mapLab
  rw [h]
  simp only [e]
theorem mapLab_none {O : Lab} {g : Nat → Option Nat} {b : Addr} (h : O b = none) : mapLab O g b = none := by
  unfold mapLab
  rw [h]
def notLck : Sl → Bool
  | .lck _ => false
  | .par _ => false
  | .pbox _ _ _ => false
  | _ => true
theorem Own2.rename {i j : Nat} {O' : Lab} : ∀ {k : Nat} {bs : List Addr} {xss : List (List Val)}, Own2 K mg Z H O i k bs xss → (∀ b q, O b = some (i, q) → O' b = some (j, q)) → Own2 K mg Z H O' j k bs xss
  | _, _, _, .nil, _ => .nil
  | _, _, _, .cons h1 h2 h3 h4, hh => .cons (hh _ _ h1) h2 h3 (h4.rename hh)
/-- how a slot's word may change from one table to another -/
inductive Conv (v : Option (Option V)) (C' : Lk) (j : Nat) : Sl → Sl → Prop
  | same {s : Sl} : notLck s = true → Conv v C' j s s
  | own {xs : List Val} : Conv v C' j (.par xs) (.own xs)
  | par {xs : List Val} : (∀ a, v = some (some (.ref a)) → C'.fx j = some a) → Conv v C' j (.own xs) (.par xs)
  | pp {xs : List Val} : (∀ a, v = some (some (.ref a)) → C'.fx j = some a) → Conv v C' j (.par xs) (.par xs)
  | bo {c : List Int} {d s : Int} : Conv v C' j (.pbox c d s) (.box c d s)
  | ob {c : List Int} {d s : Int} : (∀ a, v = some (some (.ref a)) → C'.fx j = some a) → Conv v C' j (.box c d s) (.pbox c d s)
  | bb {c : List Int} {d s : Int} : (∀ a, v = some (some (.ref a)) → C'.fx j = some a) → Conv v C' j (.pbox c d s) (.pbox c d s)
theorem SlotR.rename {i j : Nat} {O' : Lab} {C' : Lk} {v : Option (Option V)} {s s2 : Sl} (h : SlotR K mg Z H O C i v s) (nl : Conv v C' j s s2) (hh : ∀ b q, O b = some (i, q) → O' b = some (j, q)) : SlotR K mg Z H O' C' j v s2 := by
  cases nl with
  | own => obtain ⟨a, vs, e, o, m, r, _⟩ := h; exact ⟨a, vs, e, hh _ _ o, m, r⟩
  | par c => obtain ⟨a, vs, e, o, m, r⟩ := h; exact ⟨a, vs, e, hh _ _ o, m, r, c a e⟩
  | pp c => obtain ⟨a, vs, e, o, m, r, _⟩ := h; exact ⟨a, vs, e, hh _ _ o, m, r, c a e⟩
  | bo => obtain ⟨a, c, e, o1, o2, m1, m2, _⟩ := h; exact ⟨a, c, e, hh _ _ o1, hh _ _ o2, m1, m2⟩
  | ob k => obtain ⟨a, c, e, o1, o2, m1, m2⟩ := h; exact ⟨a, c, e, hh _ _ o1, hh _ _ o2, m1, m2, k a e⟩
  | bb k => obtain ⟨a, c, e, o1, o2, m1, m2, _⟩ := h; exact ⟨a, c, e, hh _ _ o1, hh _ _ o2, m1, m2, k a e⟩
  | same nl =>
    cases s with
    | no => trivial
    | fz x => exact h
    | own xs => obtain ⟨a, vs, e, o, m, r⟩ := h; exact ⟨a, vs, e, hh _ _ o, m, r⟩
    | own2 xss => obtain ⟨a, bs, e, o, m, r⟩ := h; exact ⟨a, bs, e, hh _ _ o, m, r.rename hh⟩
    | odK kxs => obtain ⟨a, kvs, e, o, m, k, r⟩ := h; exact ⟨a, kvs, e, hh _ _ o, m, k, r⟩
    | odT kxs => obtain ⟨a, kvs, e, o, m, k, r⟩ := h; exact ⟨a, kvs, e, hh _ _ o, m, k, r⟩
    | lck xs => cases nl
    | par xs => cases nl
    | pbox _ _ _ => cases nl
    | box cells d s => obtain ⟨a, c, e, o1, o2, m1, m2⟩ := h; exact ⟨a, c, e, hh _ _ o1, hh _ _ o2, m1, m2⟩
/-- the same state under another order of slots -/
theorem EnvR.reindex (R : EnvR K mg Z H O C σ ρ) {C' : Lk} (ch : Same C' H) (co : ∀ b, O b ≠ none → C' b = none) {σ2 : L2.St} {ρ2 : Env} (hl : ρ2.length = σ2.length) (g : Nat → Option Nat) (gl : ∀ i j, g i = some j → j < ρ2.length)
    (gi : ∀ i i' j, g i = some j → g i' = some j → i = i')
    (hs : ∀ j s, ρ2[j]? = some s → SlotR K mg Z H (fun _ => none) C' j σ2[j]? s ∨ ∃ i s0, g i = some j ∧ ρ[i]? = some s0 ∧ σ2[j]? = σ[i]? ∧ Conv σ[i]? C' j s0 s) : EnvR K mg Z H (mapLab O g) C' σ2 ρ2 where
  len := hl
  zh := R.zh
  ch := ch
  oz := fun b hb => by
    have hb' : O b ≠ none := fun z => hb (mapLab_none z)
    exact ⟨(R.oz b hb').1, co b hb', (R.oz b hb').2.2⟩
  ob := fun b j q h => by
    obtain ⟨i, _, e⟩ := mapLab_some h
    exact gl i j e
  sl := fun j s e => by
    rcases hs j s e with h | ⟨i, s0, h1, h2, h3, h4⟩
    · cases s with
      | no => trivial
      | fz x => exact h
      | own xs => obtain ⟨a, vs, e, o, _⟩ := h; cases o
      | own2 xss => obtain ⟨a, vs, e, o, _⟩ := h; cases o
      | odK xs => obtain ⟨a, vs, e, o, _⟩ := h; cases o
      | odT xs => obtain ⟨a, vs, e, o, _⟩ := h; cases o
      | lck xs => exact h
      | par xs => obtain ⟨a, vs, e, o, _⟩ := h; cases o
      | box _ _ _ => obtain ⟨a, vs, e, o, _⟩ := h; cases o
      | pbox _ _ _ => obtain ⟨a, vs, e, o, _⟩ := h; cases o
    · rw [h3]
      exact (R.sl i s0 h2).rename h4 fun b q hb => mapLab_of hb h1

/-! ### a store -/
def inList (b : Addr) : List Addr → Nat → Option Nat
  | [], _ => none
  | x :: xs, k => if b = x then some k else inList b xs (k + 1)
theorem inList_mem {b : Addr} : ∀ {xs : List Addr} {k j : Nat}, inList b xs k = some j → b ∈ xs
  | x :: xs, k, j, h => by
    unfold inList at h
    split at h
    · rename_i e; rw [e]; exact List.mem_cons_self
    · exact List.mem_cons_of_mem _ (inList_mem h)
theorem inList_not {b : Addr} : ∀ {xs : List Addr} {k : Nat}, b ∉ xs → inList b xs k = none
  | [], _, _ => rfl
  | x :: xs, k, h => by
    unfold inList
    rw [if_neg fun e => h (by rw [e]; exact List.mem_cons_self), inList_not fun z => h (List.mem_cons_of_mem _ z)]
/-- the things of a new value -/
def things : Sl → V → Hp → List Addr
  | .own _, .ref a, _ => [a]
  | .odK _, .ref a, _ => [a]
  | .odT _, .ref a, _ => [a]
  | .own2 _, .ref a, H => a :: (match H a with
    | some (.lst vs) => vs.filterMap fun v => match v with
      | .ref b => some b
      | _ => none
    | _ => [])
  | .box _ _ _, .ref a, H => a :: (match H a with
    | some (.lst (.ref c :: _)) => [c]
    | _ => [])
  | _, _, _ => []
def placeO (i : Nat) (as : List Addr) (O : Lab) : Lab := fun b => match inList b as 0 with
  | some k => some (i, k)
  | none => match O b with
    | some (j, q) => if j = i then none else some (j, q)
    | none => none
theorem placeO_out {i : Nat} {as : List Addr} {O : Lab} {b : Addr} {j q : Nat} (hb : b ∉ as) (h : O b = some (j, q)) (hj : j ≠ i) : placeO i as O b = some (j, q) := by
  unfold placeO
  rw [inList_not hb, h]
  simp [hj]
theorem placeO_some {i : Nat} {as : List Addr} {O : Lab} {b : Addr} {j q : Nat} (h : placeO i as O b = some (j, q)) : (b ∈ as ∧ j = i) ∨ (O b = some (j, q) ∧ j ≠ i) := by
  unfold placeO at h
  cases e : inList b as 0 with
  | some k => rw [e] at h; cases h; exact .inl ⟨inList_mem e, rfl⟩
  | none =>
    rw [e] at h
    cases e2 : O b with
    | none => rw [e2] at h; cases h
    | some p =>
      obtain ⟨j', q'⟩ := p
      rw [e2] at h
      by_cases hj : j' = i
      · simp [hj] at h
      · simp [hj] at h
        obtain ⟨h1, h2⟩ := h
        subst h1 h2
        exact .inr ⟨rfl, hj⟩
theorem placeO_none {i : Nat} {as : List Addr} {O : Lab} {b : Addr} (hb : b ∉ as) (h : O b = none) : placeO i as O b = none := by
  unfold placeO
  rw [inList_not hb, h]
theorem Paired.memL {α β : Type} {F : α → β → Prop} : ∀ {xs : List α} {ys : List β}, Paired F xs ys → xs.length = ys.length
  | _, _, .nil => rfl
  | _, _, .cons _ t => by rw [List.length_cons, List.length_cons, Paired.memL t]
theorem own2_place {i : Nat} {a : Addr} {O' : Lab} : ∀ {bs : List Addr} {xss : List (List Val)} {k : Nat}, bs.Nodup → Paired (fun b xs => ∃ ws, H b = some (.lst ws) ∧ Rls K mg Z ws xs) bs xss → (∀ (j : Nat) b, bs[j]? = some b → O' b = some (i, k + j + 1)) → Own2 K mg Z H O' i k bs xss
  | _, _, _, _, .nil, _ => .nil
  | _, _, k, nd, .cons h t, hh => by
    obtain ⟨ws, h1, h2⟩ := h
    refine .cons (hh 0 _ rfl) h1 h2 (own2_place (a := a) (List.nodup_cons.mp nd).2 t fun j b hb => ?_)
    have := hh (j + 1) b (by simpa using hb)
    rw [this]
    congr 2
    omega
theorem inList_at : ∀ {xs : List Addr} {k j : Nat} {b : Addr}, xs.Nodup → xs[j]? = some b → inList b xs k = some (k + j)
  | x :: xs, k, 0, b, _, h => by
    simp at h
    subst h
    unfold inList
    simp
  | x :: xs, k, j + 1, b, nd, h => by
    have h' : xs[j]? = some b := by simpa using h
    unfold inList
    rw [if_neg, inList_at (List.nodup_cons.mp nd).2 h']
    · congr 1; omega
    · intro e
      subst e
      exact (List.nodup_cons.mp nd).1 (List.mem_of_getElem? h')
theorem refs_back : ∀ bs : List Addr, ((bs.map V.ref).filterMap fun v => match v with | .ref b => some b | _ => none) = bs
  | [] => rfl
  | b :: bs => by simp [refs_back bs]
/-- a new value comes to a slot -/
theorem EnvR.place {H0 : Hp} (R : EnvR K mg Z H O C σ ρ) {i : Nat} {v : V} {s : Sl} (hi : i < ρ.length) (r : OwR K mg Z H O C H0 v s) :
    EnvR K mg Z H (placeO i (things s v H) O) C (σ.set i (some v)) (ρ.set i s) ∧ (∀ b ∈ things s v H, H0 b = none ∧ O b = none) := by
  have hiσ : i < σ.length := by rw [← R.len]; exact hi
  -- what the things are
  have new : (∀ b ∈ things s v H, O b = none ∧ Z b = none ∧ C b = none ∧ H0 b = none ∧ H b ≠ none) ∧ (things s v H).Nodup ∧
      (∀ O' : Lab, (∀ (j : Nat) b, (things s v H)[j]? = some b → O' b = some (i, j)) → SlotR K mg Z H O' C i (some (some v)) s) := by
    cases s with
    | no => exact r.elim
    | fz x => exact ⟨fun b hb => by simp [things] at hb, List.nodup_nil, fun _ _ => ⟨v, rfl, r⟩⟩
    | own xs =>
      obtain ⟨a, vs, rfl, h1, h2, h3, h4, h5, h6⟩ := r
      refine ⟨fun b hb => ?_, by simp [things], fun O' hO => ⟨a, vs, rfl, hO 0 a rfl, h5, h6⟩⟩
      have e : b = a := by simpa [things] using hb
      subst e
      exact ⟨h1, h2, h3, h4, by rw [h5]; simp⟩
    | odK xs =>
      obtain ⟨a, vs, rfl, h1, h2, h3, h4, h5, h6, h7⟩ := r
      refine ⟨fun b hb => ?_, by simp [things], fun O' hO => ⟨a, vs, rfl, hO 0 a rfl, h5, h6, h7⟩⟩
      have e : b = a := by simpa [things] using hb
      subst e
      exact ⟨h1, h2, h3, h4, by rw [h5]; simp⟩
    | odT xs =>
      obtain ⟨a, vs, rfl, h1, h2, h3, h4, h5, h6, h7⟩ := r
      refine ⟨fun b hb => ?_, by simp [things], fun O' hO => ⟨a, vs, rfl, hO 0 a rfl, h5, h6, h7⟩⟩
      have e : b = a := by simpa [things] using hb
      subst e
      exact ⟨h1, h2, h3, h4, by rw [h5]; simp⟩
    | own2 xss =>
      obtain ⟨a, bs, rfl, h1, h2, h3, h4⟩ := r
      have et : things (.own2 xss) (.ref a) H = a :: bs := by simp only [things, h3]; rw [refs_back]
      rw [et]
      refine ⟨fun b hb => ?_, h2, fun O' hO => ⟨a, bs, rfl, hO 0 a rfl, h3, own2_place (a := a) (List.nodup_cons.mp h2).2 h4 fun j b hb => by rw [hO (j + 1) b (by simpa using hb)]; simp⟩⟩
      obtain ⟨k1, k2, k3, k4⟩ := h1 b hb
      refine ⟨k1, k2, k3, k4, ?_⟩
      rcases List.mem_cons.mp hb with e | hb
      · subst e; rw [h3]; simp
      · have go : ∀ {bs : List Addr} {xss : List (List Val)}, Paired (fun b xs => ∃ ws, H b = some (.lst ws) ∧ Rls K mg Z ws xs) bs xss → b ∈ bs → H b ≠ none := by
          intro bs xss hp
          induction hp with
          | nil => intro hb; cases hb
          | cons q t ih =>
            intro hb
            rcases List.mem_cons.mp hb with e | hb
            · subst e; obtain ⟨ws, q1, _⟩ := q; rw [q1]; simp
            · exact ih hb
        exact go h4 hb
    | lck _ => exact r.elim
    | par _ => exact r.elim
    | pbox _ _ _ => exact r.elim
    | box cells d s =>
      obtain ⟨a, c, rfl, ne, h1, h2, h3⟩ := r
      have et : things (.box cells d s) (.ref a) H = [a, c] := by simp only [things, h2]
      rw [et]
      refine ⟨fun b hb => ?_, by simp [ne], fun O' hO => ⟨a, c, rfl, hO 0 a rfl, hO 1 c rfl, h2, h3⟩⟩
      have hb' : b = a ∨ b = c := by simpa using hb
      obtain ⟨k1, k2, k3, k4⟩ := h1 b hb'
      refine ⟨k1, k2, k3, k4, ?_⟩
      rcases hb' with e | e
      · subst e; rw [h2]; simp
      · subst e; rw [h3]; simp
  obtain ⟨n1, n2, n3⟩ := new
  refine ⟨⟨by rw [List.length_set, List.length_set]; exact R.len, R.zh, R.ch, fun b hb => ?_, fun b j q h => ?_, fun j t ej => ?_⟩, fun b hb => ⟨(n1 b hb).2.2.2.1, (n1 b hb).1⟩⟩
  · obtain ⟨⟨j, q⟩, hp⟩ := Option.ne_none_iff_exists'.mp hb
    rcases placeO_some hp with ⟨h1, _⟩ | ⟨h1, _⟩
    · obtain ⟨k1, k2, k3, k4, k5⟩ := n1 b h1
      exact ⟨k2, k3, k5⟩
    · exact R.oz b (by rw [h1]; simp)
  · rw [List.length_set]
    rcases placeO_some h with ⟨_, e⟩ | ⟨h1, _⟩
    · rw [e]; exact hi
    · exact R.ob b j q h1
  · by_cases hj : j = i
    · subst hj
      rw [List.getElem?_set_self hi] at ej
      cases ej
      rw [List.getElem?_set_self hiσ]
      refine n3 _ fun k b hb => ?_
      unfold placeO
      rw [inList_at n2 hb]
      simp
    · rw [List.getElem?_set_ne (Ne.symm hj)] at ej
      rw [List.getElem?_set_ne (Ne.symm hj)]
      refine (R.sl j t ej).keep (Same.refl Z) fun b q hb => ⟨rfl, placeO_out (fun z => ?_) hb hj⟩
      rw [(n1 b z).1] at hb
      cases hb
theorem Ext.place {Z0 H0 : Hp} {O0 : Lab} (x : Ext Z0 H0 O0 Z H O) {i : Nat} {as : List Addr} (h : ∀ b ∈ as, H0 b = none ∧ O b = none) : Ext Z0 H0 O0 Z H (placeO i as O) where
  z := x.z
  h := fun b o h1 h2 => by
    obtain ⟨h3, h4⟩ := x.h b o h1 h2
    exact ⟨h3, placeO_none (fun z => by rw [(h b z).1] at h1; cases h1) h4⟩
  t := x.t
  o := fun b j q hq => by
    rcases placeO_some hq with ⟨h1, _⟩ | ⟨h1, _⟩
    · exact .inl (h b h1).1
    · exact x.o b j q h1
  zn := x.zn
end
end Ev

/-! Ev: the program's own defs: what one is worth, its call, its body. -/
namespace Ev
open PySem PySem.Spec PyProof.Rows L2

/-- a def's worth: its level, its parameters, the one that it changes (if any), what it does: from the slots of its parameters, the answer and what has become of that one -/
structure FnE where
  lv : Nat
  np : Nat
  rf : Option Nat
  sem : List Sl → Out (Sl × Sl)

/-- within a call: nothing is locked; the parameters' addresses are held -/
def parL (vs : List V) : Lk := ⟨fun _ => none, fun j => match vs[j]? with
  | some (.ref a) => some a
  | _ => none, fun _ => none, fun _ _ h => nomatch h⟩
def outEnv (n : Nat) (rf : Option Nat) (s r : Sl) : Env := (match rf with
  | none => List.replicate n .no
  | some k => (List.replicate n .no).set k s) ++ [r]
theorem outEnv_length (n : Nat) (rf : Option Nat) (s r : Sl) : (outEnv n rf s r).length = n + 1 := by
  unfold outEnv
  cases rf <;> simp
def spF (K : PySem.W.Frag) (mg : MG) (e : FnE) : Sp := fun vs H Q _ => vs.length = e.np ∧ ∃ Z O args, EnvR K mg Z H O (parL vs) (vs.map some) args ∧ ∃ r s, e.sem args = .ok (r, s) ∧
  ∀ v H' Z' O', Ext Z H O Z' H' O' → EnvR K mg Z' H' O' (parL vs) (vs.map some ++ [some v]) (outEnv e.np e.rf s r) → Q v H'

/-- a def that stands at the module's name x -/
structure Cal (P : Program) (w : World) (K : PySem.W.Frag) (mg : MG) (base : Heap) (CX : CXT) (x : Str) (e : FnE) : Prop where
  ex : ∃ f fd ps, FnOk P w K mg base CX e.lv f fd ps (spF K mg e) ∧ mg x = some (.ref f) ∧ PySem.W.keepIn K (.ref f) = true ∧ Binds K fd ps []
abbrev CalX (X : Cx) (CX : CXT) (x : Str) (e : FnE) : Prop := Cal X.prog X.w X.K X.mg X.base CX x e

theorem Rls.slots {K : PySem.W.Frag} {mg : MG} {Z H : Hp} {O : Lab} {C : Lk} : ∀ {vs : List V} {xs : List Val}, Rls K mg Z vs xs → ∀ (j : Nat) (s : Sl), (xs.map Sl.fz)[j]? = some s → SlotR K mg Z H O C j (vs.map some)[j]? s
  | _, _, .nil, j, s, h => by simp at h
  | _, _, .cons r t, 0, s, h => by
    simp at h
    subst h
    exact ⟨_, rfl, r⟩
  | _, _, .cons r t, j + 1, s, h => by
    have q := Rls.slots (H := H) (O := O) (C := C) t j s (by simpa using h)
    rw [List.map_cons, List.getElem?_cons_succ]
    cases s with
    | no => trivial
    | fz x => exact q
    | _ => simp at h

def notNo : Sl → Bool
  | .no => false
  | .par _ => false
  | .pbox _ _ _ => false
  | .lck _ => false
  | _ => true
def callD0 (e : FnE) (d : DA) : DO := fun ρ => (d ρ).bind fun p => match takes p.2 p.1 with
  | some q => if q.1.length = e.np then (e.sem (q.1.map .fz)).bind fun r => if notNo r.1 = true then .ok (r.1, q.2) else .bad else .bad
  | none => .bad
section
variable {K : PySem.W.Frag} {mg : MG} {Z H : Hp} {O : Lab} {C : Lk} {σ : L2.St} {ρ : Env}
/-- the answer of a call, to the caller: what it hands back is a new thing -/
theorem result_own {Ck : Lk} {n : Nat} {Z' H' H0 : Hp} {O' : Lab} {vs : List V} {v : V} {ρ2 : Env} {r : Sl} {O2 : Lab} (R : EnvR K mg Z' H' O' Ck (vs.map some ++ [some v]) ρ2) (hr : ρ2[n]? = some r) (nn : notNo r = true) (hn : vs.length = n)
    (hO : ∀ b q, O' b = some (n, q) → O2 b = none ∧ C b = none ∧ H0 b = none) : OwR K mg Z' H' O2 C H0 v r := by
  have h := R.sl n r hr
  have ev : (vs.map some ++ [some v])[n]? = some (some v) := by rw [List.getElem?_append_right (by simp [hn])]; simp [hn]
  rw [ev] at h
  cases r with
  | no => cases nn
  | par _ => cases nn
  | pbox _ _ _ => cases nn
  | fz x => obtain ⟨u, e, q⟩ := h; cases e; exact q
  | own xs =>
    obtain ⟨a, ws, e, o, m, q⟩ := h
    cases e
    obtain ⟨k1, k2, k3⟩ := hO a 0 o
    exact ⟨a, ws, rfl, k1, (R.oz a (by rw [o]; simp)).1, k2, k3, m, q⟩
  | odK xs =>
    obtain ⟨a, ws, e, o, m, q⟩ := h
    cases e
    obtain ⟨k1, k2, k3⟩ := hO a 0 o
    exact ⟨a, ws, rfl, k1, (R.oz a (by rw [o]; simp)).1, k2, k3, m, q⟩
  | odT xs =>
    obtain ⟨a, ws, e, o, m, q⟩ := h
    cases e
    obtain ⟨k1, k2, k3⟩ := hO a 0 o
    exact ⟨a, ws, rfl, k1, (R.oz a (by rw [o]; simp)).1, k2, k3, m, q⟩
  | lck xs => cases nn
  | own2 xss =>
    obtain ⟨a, bs, e, o, m, q⟩ := h
    cases e
    have lab : ∀ {k : Nat} {bs : List Addr} {xss : List (List Val)}, Own2 K mg Z' H' O' n k bs xss → (∀ b ∈ bs, ∃ j, k ≤ j ∧ O' b = some (n, j + 1)) ∧ bs.Nodup ∧ Paired (fun b xs => ∃ ws, H' b = some (.lst ws) ∧ Rls K mg Z' ws xs) bs xss := by
      intro k bs xss h
      induction h with
      | nil => exact ⟨fun b hb => (by cases hb), List.nodup_nil, .nil⟩
      | @cons k b ws xs bs xss h1 h2 h3 _ ih =>
        obtain ⟨i1, i2, i3⟩ := ih
        refine ⟨fun c hc => ?_, List.nodup_cons.mpr ⟨fun hb => ?_, i2⟩, .cons ⟨ws, h2, h3⟩ i3⟩
        · rcases List.mem_cons.mp hc with e | hc
          · subst e; exact ⟨k, Nat.le_refl _, h1⟩
          · obtain ⟨j, h5, h6⟩ := i1 c hc
            exact ⟨j, by omega, h6⟩
        · obtain ⟨j, h5, h6⟩ := i1 _ hb
          rw [h1] at h6
          cases h6
          omega
    obtain ⟨l1, l2, l3⟩ := lab q
    refine ⟨a, bs, rfl, fun b hb => ?_, List.nodup_cons.mpr ⟨fun hb => ?_, l2⟩, m, l3⟩
    · have : ∃ j, O' b = some (n, j) := by
        rcases List.mem_cons.mp hb with e | hb
        · subst e; exact ⟨0, o⟩
        · obtain ⟨j, _, e⟩ := l1 b hb
          exact ⟨_, e⟩
      obtain ⟨j, e⟩ := this
      obtain ⟨k1, k2, k3⟩ := hO b j e
      exact ⟨k1, (R.oz b (by rw [e]; simp)).1, k2, k3⟩
    · obtain ⟨j, _, e⟩ := l1 a hb
      rw [o] at e
      cases e
  | box cells d s =>
    obtain ⟨a, c, e, o1, o2, m1, m2⟩ := h
    cases e
    refine ⟨a, c, rfl, fun z => ?_, fun b hb => ?_, m1, m2⟩
    · subst z; rw [o1] at o2; cases o2
    · have : ∃ j, O' b = some (n, j) := by
        rcases hb with e | e
        · subst e; exact ⟨0, o1⟩
        · subst e; exact ⟨1, o2⟩
      obtain ⟨j, e⟩ := this
      obtain ⟨k1, k2, k3⟩ := hO b j e
      exact ⟨k1, (R.oz b (by rw [e]; simp)).1, k2, k3⟩
theorem OwR.older {Z' H' H0 : Hp} {O' : Lab} {v : V} {r : Sl} {Z0 H00 : Hp} {O0 : Lab} {Z1 : Hp} {O1 : Lab} (h : OwR K mg Z' H' O' C H0 v r) (x : Ext Z0 H00 O0 Z1 H0 O1) : OwR K mg Z' H' O' C H00 v r := by
  cases r with
  | no => exact h
  | fz x => exact h
  | own xs => obtain ⟨a, ws, e, k1, k2, k3, k4, m⟩ := h; exact ⟨a, ws, e, k1, k2, k3, x.fresh k4, m⟩
  | odK xs => obtain ⟨a, ws, e, k1, k2, k3, k4, m⟩ := h; exact ⟨a, ws, e, k1, k2, k3, x.fresh k4, m⟩
  | odT xs => obtain ⟨a, ws, e, k1, k2, k3, k4, m⟩ := h; exact ⟨a, ws, e, k1, k2, k3, x.fresh k4, m⟩
  | own2 xs =>
    obtain ⟨a, ws, e, k1, m⟩ := h
    exact ⟨a, ws, e, fun b hb => ⟨(k1 b hb).1, (k1 b hb).2.1, (k1 b hb).2.2.1, x.fresh (k1 b hb).2.2.2⟩, m⟩
  | lck xs => exact h
  | par xs => exact h
  | pbox _ _ _ => exact h
  | box _ _ _ =>
    obtain ⟨a, ws, e, ne, k1, m⟩ := h
    exact ⟨a, ws, e, ne, fun b hb => ⟨(k1 b hb).1, (k1 b hb).2.1, (k1 b hb).2.2.1, x.fresh (k1 b hb).2.2.2⟩, m⟩
theorem outEnv_last (n : Nat) (rf : Option Nat) (s r : Sl) : (outEnv n rf s r)[n]? = some r := by
  unfold outEnv
  cases rf <;> simp
end
theorem mapLab_id (O : Lab) : mapLab O (fun i => some i) = O := by
  funext b
  unfold mapLab
  cases O b with
  | none => rfl
  | some p => rfl
section
variable {K : PySem.W.Frag} {mg : MG} {Z H Z' H' : Hp} {O Oc O' : Lab} {C : Lk} {σ : L2.St} {ρ : Env}
def backO (m : Option (Nat × Nat)) (O O' : Lab) : Lab := fun b => match m with
  | none => O b
  | some (k, i) => match O' b with
    | some (k', q) => if k' = k then some (i, q) else (match O b with
      | some (j, q) => if j = i then none else some (j, q)
      | none => none)
    | none => match O b with
      | some (j, q) => if j = i then none else some (j, q)
      | none => none
def backEnv (m : Option (Nat × Nat)) (ρ : Env) (s : Sl) : Env := match m with
  | some (_, i) => ρ.set i s
  | none => ρ
theorem backEnv_length (m : Option (Nat × Nat)) (ρ : Env) (s : Sl) : (backEnv m ρ s).length = ρ.length := by
  cases m with
  | none => rfl
  | some p => simp [backEnv]
theorem backO_none (O O' : Lab) : backO none O O' = O := by funext b; rfl
theorem backO_some (k i : Nat) (O O' : Lab) (b : Addr) (j q : Nat) : backO (some (k, i)) O O' b = some (j, q) ↔ (j = i ∧ O' b = some (k, q)) ∨ (j ≠ i ∧ O b = some (j, q) ∧ ∀ q', O' b ≠ some (k, q')) := by
  unfold backO
  cases e : O' b with
  | none =>
    cases e2 : O b with
    | none => simp
    | some p =>
      obtain ⟨j', q'⟩ := p
      by_cases hj : j' = i
      · subst hj; simp; rintro h1 h2; exact absurd h2.symm h1
      · simp [hj]; rintro rfl rfl; exact hj
  | some p =>
    obtain ⟨k', q'⟩ := p
    by_cases hk : k' = k
    · subst hk
      simp
      rintro _; exact ⟨Eq.symm, Eq.symm⟩
    · cases e2 : O b with
      | none => simp [hk]
      | some p =>
        obtain ⟨j', q2⟩ := p
        by_cases hj : j' = i
        · subst hj; simp [hk]; rintro h1 h2; exact absurd h2.symm h1
        · simp [hk, hj]; rintro rfl rfl; exact hj
/-- behind a call, the caller: c tells its slot for a changed parameter -/
theorem EnvR.back (R : EnvR K mg Z H O C σ ρ) (x : Ext Z H Oc Z' H' O') (zh : Same Z' H') (m : Option (Nat × Nat))
    (oc : ∀ b k q, Oc b = some (k, q) ↔ ∃ i, m = some (k, i) ∧ O b = some (i, q))
    (oz' : ∀ b k q, O' b = some (k, q) → ∀ i, m = some (k, i) → Z' b = none ∧ H' b ≠ none)
    (s0 s : Sl) (Ck : Lk) (hi : ∀ k i, m = some (k, i) → i < ρ.length)
    (hs : ∀ k i, m = some (k, i) → SlotR K mg Z' H' O' Ck k σ[i]? s0 ∧ Conv σ[i]? C i s0 s) :
    ∃ O2, (∀ b j q, O2 b = some (j, q) → H b = none ∧ (∃ k, m = some (k, j) ∧ O' b = some (k, q)) ∨ ∃ q', O b = some (j, q')) ∧ Ext Z H O Z' H' O2 ∧
      EnvR K mg Z' H' O2 C σ (backEnv m ρ s) := by
  obtain ⟨O2, hO2⟩ : ∃ O2, O2 = backO m O O' := ⟨_, rfl⟩
  have o2none : m = none → O2 = O := fun h => by rw [hO2, h, backO_none]
  have o2some : ∀ {k i : Nat}, m = some (k, i) → ∀ b j q, O2 b = some (j, q) ↔ (j = i ∧ O' b = some (k, q)) ∨ (j ≠ i ∧ O b = some (j, q) ∧ ∀ q', O' b ≠ some (k, q')) := by
    intro k i h b j q
    rw [hO2, h]
    exact backO_some k i O O' b j q
  have ocnone : ∀ b, O b = none → Oc b = none := fun b h => by
    cases e : Oc b with
    | none => rfl
    | some p =>
      obtain ⟨k, q⟩ := p
      obtain ⟨i, _, h2⟩ := (oc b k q).mp e
      rw [h] at h2; cases h2
  -- others of the caller's own stand
  have other : ∀ {b j q}, O b = some (j, q) → (∀ k, m ≠ some (k, j)) → H' b = H b ∧ O' b = none := fun {b j q} h hm => by
    have hc : Oc b = none := by
      cases e : Oc b with
      | none => rfl
      | some p =>
        obtain ⟨k, q'⟩ := p
        obtain ⟨i, h1, h2⟩ := (oc b k q').mp e
        rw [h] at h2
        cases h2
        exact absurd h1 (hm k)
    obtain ⟨_, _, h3⟩ := R.oz b (by rw [h]; simp)
    obtain ⟨o, ho⟩ := Option.ne_none_iff_exists'.mp h3
    obtain ⟨h4, h5⟩ := x.h b o ho hc
    exact ⟨by rw [h4, ho], h5⟩
  have keyO : ∀ b j q, O2 b = some (j, q) → H b = none ∧ (∃ k, m = some (k, j) ∧ O' b = some (k, q)) ∨ ∃ q', O b = some (j, q') := fun b j q h => by
    cases hm : m with
    | none => rw [o2none hm] at h; exact .inr ⟨q, h⟩
    | some p =>
      obtain ⟨k, i⟩ := p
      rcases (o2some hm b j q).mp h with ⟨rfl, h1⟩ | ⟨_, h1, _⟩
      · rcases x.o b k q h1 with h2 | ⟨q', h2⟩
        · exact .inl ⟨h2, k, rfl, h1⟩
        · obtain ⟨i', h3, h4⟩ := (oc b k q').mp h2
          rw [hm] at h3
          cases h3
          exact .inr ⟨q', h4⟩
      · exact .inr ⟨q, h1⟩
  refine ⟨O2, keyO, ⟨x.z, fun b o h1 h2 => ?_, x.t, fun b j q h => (keyO b j q h).elim (fun z => .inl z.1) .inr, fun b h => ?_⟩, ?_⟩
  · obtain ⟨h3, h4⟩ := x.h b o h1 (ocnone b h2)
    refine ⟨h3, ?_⟩
    cases e : O2 b with
    | none => rfl
    | some p =>
      obtain ⟨j, q⟩ := p
      rcases keyO b j q e with ⟨h5, _⟩ | ⟨q', h5⟩
      · rw [h1] at h5; cases h5
      · rw [h2] at h5; cases h5
  · rcases x.zn b h with h1 | h1 | h1
    · exact .inl h1
    · exact .inr (.inl h1)
    · exact .inr (.inr fun z => h1 (ocnone b z))
  · have hlen := backEnv_length m ρ s
    have cz : ∀ b, C b ≠ none → ∀ j q, O2 b ≠ some (j, q) := fun b hb j q h => by
      rcases keyO b j q h with ⟨h1, _⟩ | ⟨q', h1⟩
      · exact hb (R.ch.free h1)
      · exact hb (R.oz b (by rw [h1]; simp)).2.1
    refine ⟨by rw [hlen]; exact R.len, zh, fun b o h => ?_, fun b hb => ?_, fun b j q h => ?_, fun j t ej => ?_⟩
    · have h1 := R.ch b o h
      have h2 : O b = none := by
        cases e : O b with
        | none => rfl
        | some p => have := (R.oz b (by rw [e]; simp)).2.1; rw [h] at this; cases this
      exact (x.h b o h1 (ocnone b h2)).1
    · obtain ⟨⟨j, q⟩, hp⟩ := Option.ne_none_iff_exists'.mp hb
      refine ⟨?_, ?_, ?_⟩
      · cases hm : m with
        | none =>
          rw [o2none hm] at hp
          obtain ⟨h1, h2, h3⟩ := R.oz b (by rw [hp]; simp)
          cases e : Z' b with
          | none => rfl
          | some o =>
            rcases x.zn b (by rw [e]; simp) with h4 | h4 | h4
            · exact absurd h1 h4
            · exact absurd h4 h3
            · obtain ⟨⟨k, q'⟩, hp'⟩ := Option.ne_none_iff_exists'.mp h4
              obtain ⟨i, h5, _⟩ := (oc b k q').mp hp'
              rw [hm] at h5; cases h5
        | some p =>
          obtain ⟨k, i⟩ := p
          rcases (o2some hm b j q).mp hp with ⟨rfl, h1⟩ | ⟨hj, h1, _⟩
          · exact (oz' b k q h1 _ hm).1
          · obtain ⟨h2, _, h3⟩ := R.oz b (by rw [h1]; simp)
            cases e : Z' b with
            | none => rfl
            | some o =>
              rcases x.zn b (by rw [e]; simp) with h4 | h4 | h4
              · exact absurd h2 h4
              · exact absurd h4 h3
              · obtain ⟨⟨k', q'⟩, hp'⟩ := Option.ne_none_iff_exists'.mp h4
                obtain ⟨i', h5, h6⟩ := (oc b k' q').mp hp'
                rw [hm] at h5
                cases h5
                rw [h1] at h6
                cases h6
                exact absurd rfl hj
      · cases e : C b with
        | none => rfl
        | some o => exact absurd hp (cz b (by rw [e]; simp) j q)
      · rcases keyO b j q hp with ⟨_, k, h1, h2⟩ | ⟨q', h1⟩
        · exact (oz' b k q h2 j h1).2
        · exact x.t b (R.oz b (by rw [h1]; simp)).2.2
    · rw [hlen]
      rcases keyO b j q h with ⟨_, k, h1, h2⟩ | ⟨q', h1⟩
      · exact hi k j h1
      · exact R.ob b j q' h1
    · cases hm : m with
      | none =>
        rw [hm] at ej
        have ej : ρ[j]? = some t := ej
        rw [o2none hm]
        exact (R.sl j t ej).keep x.z fun b q hb => ⟨(other hb fun k z => by rw [hm] at z; cases z).1, hb⟩
      | some p =>
        obtain ⟨k, i⟩ := p
        rw [hm] at ej
        have ej : (ρ.set i s)[j]? = some t := ej
        have hi' := hi k i hm
        by_cases hj : j = i
        · subst hj
          rw [List.getElem?_set_self hi'] at ej
          cases ej
          obtain ⟨h1, nl⟩ := hs k j hm
          exact h1.rename nl fun b q hb => (o2some hm b j q).mpr (.inl ⟨rfl, hb⟩)
        · rw [List.getElem?_set_ne (Ne.symm hj)] at ej
          refine (R.sl j t ej).keep x.z fun b q hb => ?_
          obtain ⟨h1, h2⟩ := other hb fun k' z => by rw [hm] at z; cases z; exact hj rfl
          exact ⟨h1, (o2some hm b j q).mpr (.inr ⟨hj, hb, fun q' z => by rw [h2] at z; cases z⟩)⟩
end

theorem mapLab_iff {O : Lab} {k i : Nat} (b : Addr) (k' q : Nat) : mapLab O (fun j => if j = i then some k else none) b = some (k', q) ↔ ∃ j, some (k, i) = some (k', j) ∧ O b = some (j, q) := by
  constructor
  · intro h
    obtain ⟨j, h1, h2⟩ := mapLab_some h
    by_cases hj : j = i
    · subst hj
      simp at h2
      subst h2
      exact ⟨j, rfl, h1⟩
    · simp [hj] at h2
  · rintro ⟨j, h1, h2⟩
    cases h1
    exact mapLab_of h2 (by simp)
section
variable {X : Cx} {CX : CXT} {e : FnE}
/-- f(..): nothing of the caller's is changed -/
theorem pow_call0 {k : Nat} {x : Str} {a : Expr} {es : List Expr} {d : DA} {p pos : Pos} (F : CalX X CX x e) (hrf : e.rf = none) (hr : Room k X.A) (hk : e.lv ≤ k) (hx : Passes CX X E0) (hg : Gl X x) (ha : PAs X (a :: es) d)
    (hdb : (x == ("__debug__" : Str)) = false := by decide) (he : starEach (a :: es) X.env = (false, eval a X.env) :: starEach es X.env := by rfl) (hpl : (backTo pos (starEach es X.env)).any (·.1) = false := by rfl) :
    POw X (.Call (.Name x p) (a :: es) [] pos) (callD0 e d) := by
  obtain ⟨f, fd, ps, G, hm, hkp, hb⟩ := F.ex
  refine PE.imp (pe_call G (hr.mono hk) hg hm hkp hb .nil hx ha hdb he hpl) fun σ H Q ⟨Z, O, C, ρ, R, s, ρ', q, kk⟩ => ?_
  obtain ⟨⟨hs, ρ1⟩, e1, q⟩ := Out.bind_ok q
  cases e2 : takes ρ1 hs with
  | none => simp only [e2] at q; cases q
  | some t =>
    obtain ⟨xs, ρ2⟩ := t
    simp only [e2] at q
    split at q
    · rename_i hlen
      obtain ⟨⟨r, s'⟩, e3, q⟩ := Out.bind_ok q
      split at q
      rotate_left
      · cases q
      rename_i hno
      cases q
      refine ⟨Z, O, C, ρ, R, hs, ρ1, e1, fun vs H1 Z1 O1 x1 R1 r1 => ?_⟩
      obtain ⟨Z2, O2, x2, R2, r2⟩ := takes_ok R1 r1 e2
      rw [List.append_nil]
      refine ⟨by rw [r2.length]; exact hlen, Z2, fun _ => none, xs.map .fz, ⟨?_, R2.zh, fun b o h => (by cases h), fun b h => absurd rfl h, fun b i q h => (by cases h), fun j s h => Rls.slots r2 j s h⟩, r, s', e3, fun v H3 Z3 O3 x3 R3 => ?_⟩
      · rw [List.length_map, List.length_map, r2.length]
      · have same : Same H1 H3 := fun b o h => (x3.h b o h rfl).1
        obtain ⟨O4, k1, x4, R4⟩ := R2.back x3 R3.zh none (fun b k q => ⟨fun h => (by cases h), fun ⟨_, h, _⟩ => (by cases h)⟩) (fun _ _ _ _ _ h => (by cases h)) .no .no (parL vs) (fun _ _ h => (by cases h)) (fun _ _ h => (by cases h))
        have hn : vs.length = e.np := by rw [r2.length]; exact hlen
        have hO : ∀ b q, O3 b = some (e.np, q) → O4 b = none ∧ C b = none ∧ H1 b = none := fun b q hb => by
          have hH : H1 b = none := by
            rcases x3.o b e.np q hb with h | ⟨_, h⟩
            · exact h
            · cases h
          refine ⟨?_, R2.ch.free hH, hH⟩
          cases e5 : O4 b with
          | none => rfl
          | some p =>
            obtain ⟨j, q'⟩ := p
            rcases k1 b j q' e5 with ⟨_, _, h, _⟩ | ⟨q'', h⟩
            · cases h
            · exact absurd hH (R2.oz b (by rw [h]; simp)).2.2
        have h5 := result_own (O2 := O4) (C := C) (H0 := H1) R3 (outEnv_last _ _ _ _) hno hn hO
        have xx := (x1.trans x2).trans x4
        exact kk v H3 Z3 O4 xx R4 (OwR.older h5 x1)
    · cases q
/-- a slot handed over to be changed -/
def parIn : Sl → Option Sl
  | .own ys => some (.par ys)
  | .par ys => some (.par ys)
  | .box c d s => some (.pbox c d s)
  | .pbox c d s => some (.pbox c d s)
  | _ => none
/-- the caller's slot behind the call: what it was, what the def left -/
def parBack : Sl → Sl → Option Sl
  | .own _, .par zs => some (.own zs)
  | .par _, .par zs => some (.par zs)
  | .box _ _ _, .pbox c d s => some (.box c d s)
  | .pbox _ _ _, .pbox c d s => some (.pbox c d s)
  | _, _ => none
def callD1 (e : FnE) (k : Nat) (d : DA) : DO := fun ρ => (d ρ).bind fun p => match p.1[k]? with
  | some (.slot i) => match takes p.2 (p.1.set k (.val .non)) with
    | some q => match q.2[i]? with
      | some s0 => match parIn s0 with
        | some p0 => if q.1.length = e.np then (e.sem ((q.1.map .fz).set k p0)).bind fun r => match parBack s0 r.2 with
          | some sR => if notNo r.1 = true then .ok (r.1, q.2.set i sR) else .bad
          | none => .bad
          else .bad
        | none => .bad
      | none => .bad
    | none => .bad
  | _ => .bad
theorem HdRs.get {K : PySem.W.Frag} {mg : MG} {Z : Hp} {σ : L2.St} : ∀ {vs : List V} {hs : List Hd} {k : Nat} {h : Hd}, HdRs K mg Z σ vs hs → hs[k]? = some h → ∃ v, vs[k]? = some v ∧ HdR K mg Z σ v h
  | _, _, _, _, .nil, e => by simp at e
  | _, _, 0, _, .cons r t, e => by simp at e; subst e; exact ⟨_, rfl, r⟩
  | _, _, k + 1, h, .cons r t, e => by
    obtain ⟨v, h1, h2⟩ := HdRs.get (k := k) (h := h) t (by simpa using e)
    exact ⟨v, by simpa using h1, h2⟩
theorem HdRs.setNon {K : PySem.W.Frag} {mg : MG} {Z : Hp} {σ : L2.St} : ∀ {vs : List V} {hs : List Hd} (k : Nat), HdRs K mg Z σ vs hs → HdRs K mg Z σ (vs.set k .non) (hs.set k (.val .non))
  | _, _, _, .nil => .nil
  | _, _, 0, .cons r t => .cons (show Rl K mg Z V.non Val.non from .non) t
  | _, _, k + 1, .cons r t => .cons r (HdRs.setNon k t)
/-- what call1 needs, of the slot's kind -/
theorem call1_core {K : PySem.W.Frag} {mg : MG} {Z H : Hp} {O : Lab} {C : Lk} {σ : L2.St} {ρ : Env} {vs : List V} {xs : List Val} {k i : Nat} {p0 p1 s0 sR r : Sl} {n : Nat} {Q : VK}
    (R : EnvR K mg Z H O C σ ρ) (r2 : Rls K mg Z (vs.set k .non) xs) (hlen : xs.length = n) (hk : k < n) (hv : ∃ v, vs[k]? = some v ∧ σ[i]? = some (some v)) (hi : ρ[i]? = some s0)
    (h0 : parIn s0 = some p0) (h0' : parBack s0 p1 = some sR) (nn : notNo r = true) :
    (∃ O', EnvR K mg Z H O' (parL vs) (vs.map some) ((xs.map .fz).set k p0) ∧
      ((∀ v H' Z' O2, Ext Z H O' Z' H' O2 → EnvR K mg Z' H' O2 (parL vs) (vs.map some ++ [some v]) (outEnv n (some k) p1 r) →
        ∃ O4, Ext Z H O Z' H' O4 ∧ EnvR K mg Z' H' O4 C σ (ρ.set i sR) ∧ OwR K mg Z' H' O4 C H v r))) := by
  obtain ⟨vk, e1, e2⟩ := hv
  have hvl : vs.length = n := by have := r2.length; rw [List.length_set] at this; rw [this]; exact hlen
  have hiR := (List.getElem?_eq_some_iff.mp hi).1
  have oc := fun b k' q => mapLab_iff (O := O) (k := k) (i := i) b k' q
  refine ⟨mapLab O (fun j => if j = i then some k else none), ?_, ?_⟩
  · refine R.reindex (fun b o h => (by cases h)) (fun b _ => rfl) (by simp [hvl, hlen]) _ (fun j j' h => ?_) (fun j j' j2 h h' => ?_) fun j s e => ?_
    · by_cases hj : j = i
      · simp [hj] at h; subst h; simp [hlen]; exact hk
      · simp [hj] at h
    · by_cases hj : j = i
      · by_cases hj' : j' = i
        · rw [hj, hj']
        · simp [hj'] at h'
      · simp [hj] at h
    · by_cases hj : j = k
      · subst hj
        right
        rw [List.getElem?_set_self (by simp [hlen]; exact hk)] at e
        cases e
        refine ⟨i, s0, by simp, hi, by rw [List.getElem?_map, e1, e2]; rfl, ?_⟩
        have fx : ∀ a, σ[i]? = some (some (.ref a)) → (parL vs).fx j = some a := fun a h => by
          rw [e2] at h
          cases h
          show (match vs[j]? with | some (.ref a) => some a | _ => none) = some a
          rw [e1]
        cases s0 <;> cases h0
        · exact .par fx
        · exact .ob fx
        · exact .pp fx
        · exact .bb fx
      · left
        rw [List.getElem?_set_ne (Ne.symm hj)] at e
        have q := Rls.slots (H := H) (O := fun _ => none) (C := parL vs) r2 j s e
        have : ((vs.set k V.non).map some)[j]? = (vs.map some)[j]? := by rw [List.getElem?_map, List.getElem?_map, List.getElem?_set_ne (Ne.symm hj)]
        rw [this] at q
        exact q
  · intro v H' Z' O2 x3 R3
    have hk' : (outEnv n (some k) p1 r)[k]? = some p1 := by
      unfold outEnv
      simp only
      rw [List.getElem?_append_left (by simp [hk]), List.getElem?_set_self (by simp [hk])]
    have slk := R3.sl k _ hk'
    have ek : (vs.map some ++ [some v])[k]? = some (some vk) := by
      rw [List.getElem?_append_left (by simp [hvl, hk]), List.getElem?_map, e1]; rfl
    rw [ek] at slk
    obtain ⟨O4, k1, x4, R4⟩ := R.back x3 R3.zh (some (k, i)) oc (fun b k' q h i' e => by
        obtain ⟨h1, _, h3⟩ := R3.oz b (by rw [h]; simp)
        exact ⟨h1, h3⟩) p1 sR (parL vs) (fun k' i' e => by cases e; exact hiR) fun k' i' e => by
      cases e
      rw [e2]
      refine ⟨slk, ?_⟩
      have fxi : ∀ (s1 : Sl), s0 = s1 → (match s1 with | .par _ => True | .pbox _ _ _ => True | _ => False) → ∀ a, some (some vk) = some (some (V.ref a)) → C.fx i = some a := fun s1 h hs a ha => by
        subst h
        have := R.sl i s0 hi
        rw [e2] at this
        cases ha
        cases s0 with
        | par _ => obtain ⟨a', _, e', _, _, _, fx⟩ := this; cases e'; exact fx
        | pbox _ _ _ => obtain ⟨a', _, e', _, _, _, _, fx⟩ := this; cases e'; exact fx
        | _ => exact hs.elim
      cases s0 with
      | own _ => cases p1 with
        | par _ => cases h0'; exact .own
        | _ => cases h0'
      | par _ => cases p1 with
        | par _ => cases h0'; exact .pp (fxi _ rfl trivial)
        | _ => cases h0'
      | box _ _ _ => cases p1 with
        | pbox _ _ _ => cases h0'; exact .bo
        | _ => cases h0'
      | pbox _ _ _ => cases p1 with
        | pbox _ _ _ => cases h0'; exact .bb (fxi _ rfl trivial)
        | _ => cases h0'
      | _ => cases h0
    refine ⟨O4, x4, R4, result_own (O2 := O4) (C := C) (H0 := H) R3 (outEnv_last _ _ _ _) nn hvl fun b q hb => ?_⟩
    have hH : H b = none := by
      rcases x3.o b n q hb with h | ⟨q', h⟩
      · exact h
      · obtain ⟨j, h1, _⟩ := (oc b n q').mp h
        cases h1
        omega
    refine ⟨?_, R.ch.free hH, hH⟩
    cases e5 : O4 b with
    | none => rfl
    | some p =>
      obtain ⟨j, q'⟩ := p
      rcases k1 b j q' e5 with ⟨_, k', h1, h2⟩ | ⟨q'', h⟩
      · cases h1
        rw [hb] at h2
        cases h2
        omega
      · exact absurd hH (R.oz b (by rw [h]; simp)).2.2
theorem pow_call1 {k kr : Nat} {x : Str} {a : Expr} {es : List Expr} {d : DA} {p pos : Pos} (F : CalX X CX x e) (hrf : e.rf = some kr) (hkr : kr < e.np) (hr : Room k X.A) (hk : e.lv ≤ k) (hx : Passes CX X E0) (hg : Gl X x) (ha : PAs X (a :: es) d)
    (hdb : (x == ("__debug__" : Str)) = false := by decide) (he : starEach (a :: es) X.env = (false, eval a X.env) :: starEach es X.env := by rfl) (hpl : (backTo pos (starEach es X.env)).any (·.1) = false := by rfl) :
    POw X (.Call (.Name x p) (a :: es) [] pos) (callD1 e kr d) := by
  obtain ⟨f, fd, ps, G, hm, hkp, hb⟩ := F.ex
  refine PE.imp (pe_call G (hr.mono hk) hg hm hkp hb .nil hx ha hdb he hpl) fun σ H Q ⟨Z, O, C, ρ, R, s, ρ', q, kk⟩ => ?_
  obtain ⟨⟨hs, ρ1⟩, e1, q⟩ := Out.bind_ok q
  have main : ∀ (i : Nat) (xs : List Val) (ρ2 : Env) (p0 p1 s0 sR : Sl) (r : Sl), hs[kr]? = some (.slot i) → takes ρ1 (hs.set kr (.val .non)) = some (xs, ρ2) → ρ2[i]? = some s0 → xs.length = e.np → e.sem ((xs.map .fz).set kr p0) = .ok (r, p1) →
      parIn s0 = some p0 → parBack s0 p1 = some sR → notNo r = true → s = r → ρ' = ρ2.set i sR → tCall (spF X.K X.mg e) [] E0 (TAs X.K X.mg d) σ H Q := by
    intro i xs ρ2 p0 p1 s0 sR r h1 h2 h3 hlen h4 h5 h5' h6 h7 h8
    subst h7 h8
    refine ⟨Z, O, C, ρ, R, hs, ρ1, e1, fun vs H1 Z1 O1 x1 R1 r1 => ?_⟩
    obtain ⟨Z2, O2, x2, R2, r2⟩ := takes_ok R1 (r1.setNon kr) h2
    obtain ⟨v, hv1, hv2⟩ := r1.get h1
    obtain ⟨O3, R3, back⟩ := call1_core (n := e.np) (Q := Q) R2 r2 hlen hkr ⟨v, hv1, hv2⟩ h3 h5 h5' h6
    rw [List.append_nil]
    refine ⟨?_, Z2, O3, _, R3, _, _, h4, fun v H4 Z4 O4 x4 R4 => ?_⟩
    · have := r2.length; rw [List.length_set] at this; rw [this]; exact hlen
    · rw [hrf] at R4
      obtain ⟨O5, x5, R5, ow⟩ := back v H4 Z4 O4 x4 R4
      exact kk v H4 Z4 O5 ((x1.trans x2).trans x5) R5 (OwR.older ow x1)
  cases h1 : hs[kr]? with
  | none => simp only [h1] at q; cases q
  | some h =>
    cases h with
    | val _ => simp only [h1] at q; cases q
    | slot i =>
      simp only [h1] at q
      cases h2 : takes ρ1 (hs.set kr (.val .non)) with
      | none => simp only [h2] at q; cases q
      | some t =>
        obtain ⟨xs, ρ2⟩ := t
        simp only [h2] at q
        cases h3 : ρ2[i]? with
        | none => simp only [h3] at q; cases q
        | some s0 =>
          simp only [h3] at q
          cases h4 : parIn s0 with
          | none => simp only [h4] at q; cases q
          | some p0 =>
            simp only [h4] at q
            split at q
            · rename_i hlen
              obtain ⟨⟨r, s'⟩, e3, q⟩ := Out.bind_ok q
              cases h5 : parBack s0 s' with
              | none => simp only [h5] at q; cases q
              | some sR =>
                simp only [h5] at q
                split at q
                · rename_i hno
                  cases q
                  exact main i xs ρ2 p0 s' s0 _ _ h1 h2 h3 hlen e3 h4 h5 hno rfl rfl
                · cases q
            · cases q
end
end Ev

/-! Ev: statements, a def's promise. -/
namespace Ev
open PySem PySem.Spec PyProof.Rows L2

inductive Fl where
  | nx (ρ : Env)
  | bk (ρ : Env)
  | ct (ρ : Env)
  | rt (s : Sl) (ρ : Env)
  | bad
abbrev DS := Env → Fl
def FlR (K : PySem.W.Frag) (mg : MG) (Z H : Hp) (O : Lab) (C : Lk) (D : Ends) : Fl → Prop
  | .nx ρ' => ∀ σ' H' Z' O', Ext Z H O Z' H' O' → EnvR K mg Z' H' O' C σ' ρ' → D.nx σ' H'
  | .bk ρ' => ∀ σ' H' Z' O', Ext Z H O Z' H' O' → EnvR K mg Z' H' O' C σ' ρ' → D.bk σ' H'
  | .ct ρ' => ∀ σ' H' Z' O', Ext Z H O Z' H' O' → EnvR K mg Z' H' O' C σ' ρ' → D.ct σ' H'
  | .rt s ρ' => ∀ v σ' H' Z' O', Ext Z H O Z' H' O' → EnvR K mg Z' H' O' C (σ' ++ [some v]) (ρ' ++ [s]) → D.rt v H'
  | .bad => False
def TSt (K : PySem.W.Frag) (mg : MG) (d : DS) : TS := fun D σ H => ∃ Z O C ρ, EnvR K mg Z H O C σ ρ ∧ FlR K mg Z H O C D (d ρ)
abbrev PSt (X : Cx) (st : Stmt) (d : DS) : Prop := PS X st (TSt X.K X.mg d)
abbrev PSSt (X : Cx) (st : List Stmt) (d : DS) : Prop := PSs X st (TSt X.K X.mg d)
section
variable {K : PySem.W.Frag} {mg : MG} {Z H Z1 H1 : Hp} {O O1 : Lab} {C : Lk} {σ : L2.St} {ρ : Env} {D : Ends}
theorem FlR.ext {f : Fl} (h : FlR K mg Z H O C D f) (x : Ext Z H O Z1 H1 O1) : FlR K mg Z1 H1 O1 C D f := by
  cases f with
  | nx ρ' => exact fun σ' H' Z' O' e => h σ' H' Z' O' (x.trans e)
  | bk ρ' => exact fun σ' H' Z' O' e => h σ' H' Z' O' (x.trans e)
  | ct ρ' => exact fun σ' H' Z' O' e => h σ' H' Z' O' (x.trans e)
  | rt s ρ' => exact fun v σ' H' Z' O' e => h v σ' H' Z' O' (x.trans e)
  | bad => exact h
/-- another end, by the flow's kinds -/
theorem FlR.ends {D' : Ends} {f : Fl} (h : FlR K mg Z H O C D f) (h1 : ∀ ρ', f = .nx ρ' → FlR K mg Z H O C D' (.nx ρ')) (h2 : ∀ ρ', f = .bk ρ' → FlR K mg Z H O C D' (.bk ρ')) (h3 : ∀ ρ', f = .ct ρ' → FlR K mg Z H O C D' (.ct ρ')) (h4 : ∀ s ρ', f = .rt s ρ' → FlR K mg Z H O C D' (.rt s ρ')) : FlR K mg Z H O C D' f := by
  cases f with
  | nx ρ' => exact h1 ρ' rfl
  | bk ρ' => exact h2 ρ' rfl
  | ct ρ' => exact h3 ρ' rfl
  | rt s ρ' => exact h4 s ρ' rfl
  | bad => exact h
end
def sSkip : DS := .nx
def sBreak : DS := .bk
def sCont : DS := .ct
def sSeq (a b : DS) : DS := fun ρ => match a ρ with
  | .nx ρ' => b ρ'
  | f => f
def sIf (c : DT) (a b : DS) : DS := fun ρ => match c ρ with
  | .ok (true, ρ') => a ρ'
  | .ok (false, ρ') => b ρ'
  | _ => .bad
def sDrop (d : DO) : DS := fun ρ => match d ρ with
  | .ok (_, ρ') => .nx ρ'
  | _ => .bad
def sRet (d : DO) : DS := fun ρ => match d ρ with
  | .ok (s, ρ') => .rt s ρ'
  | _ => .bad
def asg (i : Nat) (s : Sl) (ρ : Env) : Fl := if i < ρ.length then .nx (ρ.set i s) else .bad
def sSet (i : Nat) (d : DO) : DS := fun ρ => match d ρ with
  | .ok (s, ρ') => asg i s ρ'
  | _ => .bad

section
variable {K : PySem.W.Frag} {mg : MG} {Z H : Hp} {O : Lab} {C : Lk} {σ : L2.St} {ρ : Env}
/-- one more slot -/
theorem EnvR.more (R : EnvR K mg Z H O C σ ρ) : EnvR K mg Z H O C (σ ++ [none]) (ρ ++ [.no]) where
  len := by simp [R.len]
  zh := R.zh
  ch := R.ch
  oz := R.oz
  ob := fun b i q h => by have := R.ob b i q h; simp; omega
  sl := fun i s e => by
    by_cases hi : i < ρ.length
    · rw [List.getElem?_append_left hi] at e
      rw [List.getElem?_append_left (by rw [← R.len]; exact hi)]
      exact R.sl i s e
    · by_cases h2 : i = ρ.length
      · subst h2
        simp at e
        subst e
        trivial
      · rw [List.getElem?_eq_none (by simp; omega)] at e
        cases e
theorem EnvR.mores (R : EnvR K mg Z H O C σ ρ) : ∀ n : Nat, EnvR K mg Z H O C (σ ++ List.replicate n none) (ρ ++ List.replicate n .no)
  | 0 => by simpa using R
  | n + 1 => by
    have := (R.mores n).more
    rw [List.append_assoc, List.append_assoc, ← List.replicate_succ', ← List.replicate_succ'] at this
    exact this
/-- an answer, behind the slots -/
theorem EnvR.push (R : EnvR K mg Z H O C σ ρ) {H0 : Hp} {v : V} {s : Sl} (r : OwR K mg Z H O C H0 v s) :
    EnvR K mg Z H (placeO ρ.length (things s v H) O) C (σ ++ [some v]) (ρ ++ [s]) ∧ (∀ b ∈ things s v H, H0 b = none ∧ O b = none) := by
  obtain ⟨h1, h2⟩ := R.more.place (i := ρ.length) (by simp) r
  refine ⟨?_, h2⟩
  rw [List.set_append_right _ _ (by rw [R.len]; exact Nat.le_refl _), List.set_append_right _ _ (Nat.le_refl _)] at h1
  simpa [R.len] using h1
end

section
variable {X : Cx}
theorem pst_nil : PSSt X [] sSkip := PSs.imp pss_nil fun D σ H ⟨Z, O, C, ρ, R, h⟩ => h σ H Z O (Ext.refl _ _ _) R
theorem runSeq {K : PySem.W.Frag} {mg : MG} {a b : DS} {D : Ends} {σ : L2.St} {H : Hp} (h : TSt K mg (sSeq a b) D σ H) : TSt K mg a { D with nx := TSt K mg b D } σ H := by
  obtain ⟨Z, O, C, ρ, R, h⟩ := h
  refine ⟨Z, O, C, ρ, R, ?_⟩
  unfold sSeq at h
  cases e : a ρ with
  | nx ρ' =>
    rw [e] at h
    exact fun σ' H' Z' O' x R' => ⟨Z', O', C, ρ', R', h.ext x⟩
  | bk ρ' => rw [e] at h; exact h
  | ct ρ' => rw [e] at h; exact h
  | rt s ρ' => rw [e] at h; exact h
  | bad => rw [e] at h; exact h.elim
theorem pst_cons {st : Stmt} {rest : List Stmt} {a b : DS} (h1 : PSt X st a) (h2 : PSSt X rest b) : PSSt X (st :: rest) (sSeq a b) := PSs.imp (pss_cons h1 h2) fun _ _ _ => runSeq
theorem pst_one {st : Stmt} {a : DS} (h1 : PSt X st a) : PSSt X [st] a := pss_one h1
theorem st_pass {pos : Pos} : PSt X (.Pass pos) sSkip := PS.imp ps_pass fun D σ H ⟨Z, O, C, ρ, R, h⟩ => h σ H Z O (Ext.refl _ _ _) R
theorem st_break {pos : Pos} : PSt X (.Break pos) sBreak := PS.imp ps_break fun D σ H ⟨Z, O, C, ρ, R, h⟩ => h σ H Z O (Ext.refl _ _ _) R
theorem st_cont {pos : Pos} : PSt X (.Continue pos) sCont := PS.imp ps_continue fun D σ H ⟨Z, O, C, ρ, R, h⟩ => h σ H Z O (Ext.refl _ _ _) R
theorem st_doc {x j pos pos'} : PSt X (.Expr (.Constant (.str x) j pos) pos') sSkip := PS.imp ps_doc fun D σ H ⟨Z, O, C, ρ, R, h⟩ => h σ H Z O (Ext.refl _ _ _) R
theorem runIf {K : PySem.W.Frag} {mg : MG} {c : DT} {a b : DS} {D : Ends} {σ : L2.St} {H : Hp} (h : TSt K mg (sIf c a b) D σ H) : tIfS (TTt K mg c) (TSt K mg a) (TSt K mg b) D σ H := by
  obtain ⟨Z, O, C, ρ, R, h⟩ := h
  unfold sIf at h
  cases e : c ρ with
  | ok p =>
    obtain ⟨k, ρ'⟩ := p
    rw [e] at h
    refine ⟨Z, O, C, ρ, R, k, ρ', e, fun H' Z' O' x R' => ?_⟩
    cases k with
    | true => exact ⟨Z', O', C, ρ', R', h.ext x⟩
    | false => exact ⟨Z', O', C, ρ', R', h.ext x⟩
  | exc _ => rw [e] at h; exact h.elim
  | bad => rw [e] at h; exact h.elim
theorem st_if {c : Expr} {a b : List Stmt} {dc : DT} {da db : DS} {pos : Pos} (hc : PTt X c dc) (ha : PSSt X a da) (hb : PSSt X b db) : PSt X (.If c a b pos) (sIf dc da db) := PS.imp (ps_if hc ha hb) fun _ _ _ => runIf
theorem st_expr {e : Expr} {d : DO} {pos : Pos} (he : POw X e d) (hs : swapsWith e none pos.line X.env = pure false := by rfl) : PSt X (.Expr e pos) (sDrop d) := PS.imp (ps_expr he hs) fun D σ H ⟨Z, O, C, ρ, R, h⟩ => by
  unfold sDrop at h
  cases e : d ρ with
  | ok p => rw [e] at h; exact ⟨Z, O, C, ρ, R, p.1, p.2, e, fun v H' Z' O' x R' _ => h σ H' Z' O' x R'⟩
  | exc _ => rw [e] at h; exact h.elim
  | bad => rw [e] at h; exact h.elim
theorem st_ret {e : Expr} {d : DO} {pos : Pos} (he : POw X e d) : PSt X (.Return (some e) pos) (sRet d) := PS.imp (ps_ret he) fun D σ H ⟨Z, O, C, ρ, R, h⟩ => by
  unfold sRet at h
  cases e : d ρ with
  | ok p =>
    rw [e] at h
    refine ⟨Z, O, C, ρ, R, p.1, p.2, e, fun v H' Z' O' x R' r => ?_⟩
    obtain ⟨R2, n2⟩ := R'.push r
    exact h v σ H' Z' _ (x.place n2) R2
  | exc _ => rw [e] at h; exact h.elim
  | bad => rw [e] at h; exact h.elim
theorem st_retN {pos : Pos} : PSt X (.Return none pos) (sRet (dOV (dC .non))) := PS.imp ps_retN fun D σ H ⟨Z, O, C, ρ, R, h⟩ => by
  obtain ⟨R2, n2⟩ := R.push (H0 := H) (v := .non) (s := .fz .non) (show Rl X.K X.mg Z V.non Val.non from .non)
  exact h .non σ H Z _ ((Ext.refl _ _ _).place n2) R2
theorem st_set {i : Nat} {x : Str} {e : Expr} {d : DO} {pos' pos : Pos} (hN : X.N.Nodup) (hi : X.N[i]? = some x) (hx : Loc X.env.scope x) (he : POw X e d) (hs : swapsWith e (some (.Name x pos')) pos.line X.env = pure false := by rfl) (hf : X.fn x = true ∨ X.env.scope.names.lookup x = some .local := by first | exact .inl rfl | exact .inr rfl | assumption) :
    PSt X (.Assign [.Name x pos'] e pos) (sSet i d) := PS.imp (ps_set hN hi hx he hs hf) fun D σ H ⟨Z, O, C, ρ, R, h⟩ => by
  unfold sSet at h
  cases e : d ρ with
  | ok p =>
    rw [e] at h
    unfold asg at h
    refine ⟨Z, O, C, ρ, R, p.1, p.2, e, fun v H' Z' O' x R' r => ?_⟩
    simp only at h
    split at h
    · rename_i hl
      obtain ⟨R2, n2⟩ := R'.place hl r
      exact h _ H' Z' _ (x.place n2) R2
    · exact h.elim
  | exc _ => rw [e] at h; exact h.elim
  | bad => rw [e] at h; exact h.elim
end

/-! ### targets -/
abbrev DG := Val → Env → Option Env
abbrev DGs := List Val → Env → Option Env
def off (ws : List Nat) (σ σ' : L2.St) : Prop := σ'.length = σ.length ∧ ∀ j, j ∉ ws → σ'[j]? = σ[j]?
theorem off.refl {ws : List Nat} (σ : L2.St) : off ws σ σ := ⟨rfl, fun _ _ => rfl⟩
theorem off.trans {ws ws' : List Nat} {σ σ1 σ2 : L2.St} (a : off ws σ σ1) (b : off ws' σ1 σ2) : off (ws ++ ws') σ σ2 :=
  ⟨b.1.trans a.1, fun j hj => (b.2 j fun h => hj (List.mem_append_right _ h)).trans (a.2 j fun h => hj (List.mem_append_left _ h))⟩
def TGt (K : PySem.W.Frag) (mg : MG) (g : DG) (ws : List Nat) : TG := fun v σ H Q => ∃ Z O C ρ, EnvR K mg Z H O C σ ρ ∧ ∃ x ρ', Rl K mg Z v x ∧ g x ρ = some ρ' ∧
  ∀ σ' O', Ext Z H O Z H O' → off ws σ σ' → EnvR K mg Z H O' C σ' ρ' → Q σ' H
def TGts (K : PySem.W.Frag) (mg : MG) (g : DGs) (ws : List Nat) : TGs := fun vs σ H Q => ∃ Z O C ρ, EnvR K mg Z H O C σ ρ ∧ ∃ xs ρ', Rls K mg Z vs xs ∧ g xs ρ = some ρ' ∧
  ∀ σ' O', Ext Z H O Z H O' → off ws σ σ' → EnvR K mg Z H O' C σ' ρ' → Q σ' H
theorem PG.imp {X : Cx} {e : Expr} {t t' : TG} (h : PG X e t) (i : ∀ v σ H Q, t' v σ H Q → t v σ H Q) : PG X e t' := ⟨fun pins s σ H v u Q I r q => h.run pins s σ H v u Q I r (i v σ H Q q)⟩
theorem PGs.imp {X : Cx} {e : List Expr} {t t' : TGs} (h : PGs X e t) (i : ∀ v σ H Q, t' v σ H Q → t v σ H Q) : PGs X e t' := ⟨fun pins s σ H v u Q I r q => h.run pins s σ H v u Q I r (i v σ H Q q)⟩
abbrev PGt (X : Cx) (tg : Expr) (g : DG) (ws : List Nat) : Prop := PG X tg (TGt X.K X.mg g ws)
abbrev PGts (X : Cx) (tgs : List Expr) (g : DGs) (ws : List Nat) : Prop := PGs X tgs (TGts X.K X.mg g ws)
def gNm (i : Nat) : DG := fun x ρ => if i < ρ.length then some (ρ.set i (.fz x)) else none
def gN : DGs := fun xs ρ => match xs with
  | [] => some ρ
  | _ => none
def gC (g : DG) (gs : DGs) : DGs := fun xs ρ => match xs with
  | x :: xs => (g x ρ).bind fun ρ' => gs xs ρ'
  | [] => none
def tupOf : Val → Option (List Val)
  | .tup xs => some xs
  | .ktup xs => some xs
  | .lst xs => some xs
  | _ => none
def gTp (n : Nat) (gs : DGs) : DG := fun x ρ => (tupOf x).bind fun xs => if xs.length = n then gs xs ρ else none
theorem PG.or {X : Cx} {e : Expr} {t t' : TG} (h : PG X e t) (h' : PG X e t') : PG X e (fun v σ H Q => t v σ H Q ∨ t' v σ H Q) := ⟨fun pins s σ H v u Q I r q => q.elim (h.run pins s σ H v u Q I r) (h'.run pins s σ H v u Q I r)⟩
section
variable {X : Cx}
theorem gt_name {i : Nat} {x : Str} {pos : Pos} (hN : X.N.Nodup) (hi : X.N[i]? = some x) (hx : Loc X.env.scope x) (hf : X.fn x = true ∨ X.env.scope.names.lookup x = some .local := by first | exact .inl rfl | exact .inr rfl | assumption) : PGt X (.Name x pos) (gNm i) [i] :=
  PG.imp (pg_name hN hi hx hf) fun v σ H Q ⟨Z, O, C, ρ, R, y, ρ', r, e, k⟩ => by
    unfold gNm at e
    split at e
    · rename_i hl
      cases e
      obtain ⟨R2, n2⟩ := R.place (H0 := H) (s := .fz y) (v := v) hl r
      exact k _ _ ((Ext.refl _ _ _).place n2) ⟨by rw [List.length_set], fun j hj => by rw [List.getElem?_set_ne fun z => hj (by simp [z])]⟩ R2
    · cases e
theorem gt_nil : PGts X [] gN [] := PGs.imp pgs_nil fun vs σ H Q ⟨Z, O, C, ρ, R, xs, ρ', r, e, k⟩ => by
  cases r with
  | nil => cases e; exact ⟨rfl, k σ O (Ext.refl _ _ _) (off.refl σ) R⟩
  | cons _ _ => cases e
theorem gt_cons {e : Expr} {es : List Expr} {g : DG} {gs : DGs} {ws ws' : List Nat} (h1 : PGt X e g ws) (h2 : PGts X es gs ws')
    (hs : (assignEach (e :: es) X.env).map (·.2) = assign e X.env :: (assignEach es X.env).map (·.2) := by rfl) : PGts X (e :: es) (gC g gs) (ws ++ ws') := PGs.imp (pgs_cons h1 h2 hs) fun vs σ H Q ⟨Z, O, C, ρ, R, xs, ρ', r, e, k⟩ => by
  cases r with
  | nil => cases e
  | cons r rr =>
    obtain ⟨ρ1, e1, e⟩ := Option.bind_eq_some_iff.mp e
    exact ⟨_, _, rfl, Z, O, C, ρ, R, _, ρ1, r, e1, fun σ1 O1 x1 f1 R1 => ⟨Z, O1, C, ρ1, R1, _, ρ', rr, e, fun σ2 O2 x2 f2 R2 => k σ2 O2 (x1.trans x2) (f1.trans f2) R2⟩⟩
theorem gt_tup {es : List Expr} {k : Nat} {gs : DGs} {n : Nat} {ws : List Nat} {pos : Pos} (hc : X.calm = true) (h : PGts X es gs ws)
    (hn : (assignEach es X.env).length = n := by rfl) (hst : (assignEach es X.env).findIdx? (·.1) = none := by rfl) : PGt X (.Tuple es k pos) (gTp n gs) ws := PG.imp (PG.or (pg_tup hc h hn hst) (pg_lst hc h hn hst)) fun v σ H Q ⟨Z, O, C, ρ, R, x, ρ', r, e, k⟩ => by
  obtain ⟨xs, e1, e2⟩ := Option.bind_eq_some_iff.mp e
  clear e
  split at e2
  · rename_i hl
    cases r with
    | tup m r => cases e1; exact .inl ⟨_, _, rfl, SqT.of (R.zh _ _ m), by rw [r.length]; exact hl, Z, O, C, ρ, R, _, ρ', r, e2, k⟩
    | ktup m r => cases e1; exact .inl ⟨_, _, rfl, seqT_mono R.zh m, by rw [r.length]; exact hl, Z, O, C, ρ, R, _, ρ', r, e2, k⟩
    | lst m r => cases e1; exact .inr ⟨_, _, rfl, SqL.of (R.zh _ _ m), by rw [r.length]; exact hl, Z, O, C, ρ, R, _, ρ', r, e2, k⟩
    | _ => cases e1
  · cases e2
def sAsg (d : DV) (g : DG) : DS := fun ρ => match d ρ with
  | .ok (x, ρ') => match g x ρ' with
    | some ρ2 => .nx ρ2
    | none => .bad
  | _ => .bad
theorem st_asg {tg e : Expr} {d : DV} {g : DG} {ws : List Nat} {pos : Pos} (he : PV X e d) (hg : PGt X tg g ws) (hs : swapsWithSole [tg] e pos.line X.env = pure false := by rfl) (hw : swappedStores [tg] e X.env = pure none := by rfl)
    (h1 : (assignEach [tg] X.env).map (·.2) = [assign tg X.env] := by rfl) : PSt X (.Assign [tg] e pos) (sAsg d g) := PS.imp (ps_asg he hg hs hw h1) fun D σ H ⟨Z, O, C, ρ, R, h⟩ => by
  unfold sAsg at h
  cases e : d ρ with
  | ok p =>
    obtain ⟨x, ρ'⟩ := p
    rw [e] at h
    simp only at h
    cases e2 : g x ρ' with
    | none => rw [e2] at h; exact h.elim
    | some ρ2 =>
      rw [e2] at h
      exact ⟨Z, O, C, ρ, R, x, ρ', e, fun v H' Z' O' ex R' r => ⟨Z', O', C, ρ', R', x, ρ2, r, e2, fun σ' O2 x2 _ R2 => h σ' H' Z' O2 (ex.trans x2) R2⟩⟩
  | exc _ => rw [e] at h; exact h.elim
  | bad => rw [e] at h; exact h.elim
/-- a, b = x, y -/
def sPar (i j : Nat) (d : DA) : DS := fun ρ => match d ρ with
  | .ok (hs, ρ1) => match takes ρ1 hs with
    | some ([x, y], ρ2) => if i < ρ2.length ∧ j < ρ2.length then .nx ((ρ2.set i (.fz x)).set j (.fz y)) else .bad
    | _ => .bad
  | _ => .bad
theorem st_par {i j : Nat} {x y : Str} {a b : Expr} {d : DA} {px py pt pos : Pos} {kt k2 pt2} (hc : X.calm = true) (hN : X.N.Nodup) (hi : X.N[i]? = some x) (hj : X.N[j]? = some y) (hij : i ≠ j)
    (hx : X.env.scope.names.lookup x = some .local) (hy : X.env.scope.names.lookup y = some .local) (ha : PAs X [a, b] d)
    (hw : swappedStores [.Tuple [.Name x px, .Name y py] kt pt] (.Tuple [a, b] k2 pt2) X.env = pure (some [x, y]))
    (hs : swapsWithSole [.Tuple [.Name x px, .Name y py] kt pt] (.Tuple [a, b] k2 pt2) pos.line X.env = pure false := by rfl) :
    PSt X (.Assign [.Tuple [.Name x px, .Name y py] kt pt] (.Tuple [a, b] k2 pt2) pos) (sPar i j d) := PS.imp (ps_par hc hN hi hj hij hx hy ha hw hs) fun D σ H ⟨Z, O, C, ρ, R, h⟩ => by
  unfold sPar at h
  cases e : d ρ with
  | ok p =>
    obtain ⟨hs, ρ1⟩ := p
    rw [e] at h
    simp only at h
    refine ⟨Z, O, C, ρ, R, hs, ρ1, e, fun vs H1 Z1 O1 x1 R1 r1 => ?_⟩
    cases e2 : takes ρ1 hs with
    | none => rw [e2] at h; exact h.elim
    | some t =>
      obtain ⟨xs, ρ2⟩ := t
      rw [e2] at h
      obtain ⟨Z2, O2, x2, R2, r2⟩ := takes_ok R1 r1 e2
      cases r2 with
      | nil => exact h.elim
      | cons ra r2 =>
        cases r2 with
        | nil => exact h.elim
        | cons rb r2 =>
          cases r2 with
          | cons _ _ => exact h.elim
          | nil =>
            simp only at h
            split at h
            · rename_i hl
              obtain ⟨R3, n3⟩ := R2.place (H0 := H1) (s := .fz _) hl.1 ra
              obtain ⟨R4, n4⟩ := R3.place (H0 := H1) (s := .fz _) (i := j) (by rw [List.length_set]; exact hl.2) rb
              exact ⟨_, _, rfl, h _ H1 Z2 _ ((x1.trans x2).trans (((Ext.refl _ _ _).place n3).place n4)) R4⟩
            · exact h.elim
  | exc _ => rw [e] at h; exact h.elim
  | bad => rw [e] at h; exact h.elim
end

/-! ### a def's promise -/
def parOf (np : Nat) (rf : Option Nat) (ρ : Env) : Option Sl := if ρ.length < np then none else match rf with
  | none => some .no
  | some k => match ρ[k]? with
    | some (.par xs) => if k < np then some (.par xs) else none
    | some (.pbox c d s) => if k < np then some (.pbox c d s) else none
    | _ => none
def flRes (np : Nat) (rf : Option Nat) : Fl → Out (Sl × Sl)
  | .rt s ρ => match parOf np rf ρ with
    | some t => if notNo s then .ok (s, t) else .bad
    | none => .bad
  | .nx ρ => match parOf np rf ρ with
    | some t => .ok (.fz .non, t)
    | none => .bad
  | _ => .bad
/-- n: all its slots -/
def fnE (lv np n : Nat) (rf : Option Nat) (d : DS) : FnE := ⟨lv, np, rf, fun args => flRes np rf (d (args ++ List.replicate (n - np) .no))⟩
theorem start_eq (N : List Str) (vs : List V) : start N vs = vs.map some ++ List.replicate (N.length - vs.length) none := by
  first | rfl | (unfold start; simp)

theorem getElem?_snoc {α : Type} (xs : List α) (x : α) : (xs ++ [x])[xs.length]? = some x := by simp
/-- the end of a body, as the caller sees it -/
theorem body_end {K : PySem.W.Frag} {mg : MG} {Z H : Hp} {O : Lab} {vs : List V} {v : V} {σ' : L2.St} {ρ' : Env} {s t : Sl} {np : Nat} {rf : Option Nat} (R : EnvR K mg Z H O (parL vs) (σ' ++ [some v]) (ρ' ++ [s])) (hp : parOf np rf ρ' = some t) (nn : notNo s = true) (hvs : vs.length = np) :
    ∃ O2, EnvR K mg Z H O2 (parL vs) (vs.map some ++ [some v]) (outEnv np rf t s) ∧ (∀ b, O b = none → O2 b = none) ∧ np ≤ ρ'.length ∧ (∀ b i q, O2 b = some (i, q) → (∃ q', O b = some (ρ'.length, q') ∧ i = np) ∨ (rf = some i ∧ O b = some (i, q))) := by
  have hl : ρ'.length = σ'.length := by have := R.len; simp at this; exact this
  let g : Nat → Option Nat := fun i => if i = ρ'.length then some np else if rf = some i ∧ i < ρ'.length then some i else none
  have hpl : np ≤ ρ'.length := by
    unfold parOf at hp
    split at hp
    · cases hp
    · omega
  have par : ∀ k, rf = some k → ∃ p, ρ'[k]? = some p ∧ t = p ∧ k < np ∧ ((∃ xs, p = .par xs) ∨ ∃ c d s, p = .pbox c d s) := fun k hk => by
    subst hk
    unfold parOf at hp
    rw [if_neg (Nat.not_lt.mpr hpl)] at hp
    simp only at hp
    cases e : ρ'[k]? with
    | none => rw [e] at hp; cases hp
    | some s0 =>
      rw [e] at hp
      cases s0 with
      | par xs =>
        simp only at hp
        split at hp
        · rename_i hk
          cases hp
          exact ⟨_, rfl, rfl, hk, .inl ⟨_, rfl⟩⟩
        · cases hp
      | pbox c d s =>
        simp only at hp
        split at hp
        · rename_i hk
          cases hp
          exact ⟨_, rfl, rfl, hk, .inr ⟨_, _, _, rfl⟩⟩
        · cases hp
      | _ => cases hp
  have hnl : notLck s = true := by cases s <;> first | rfl | cases nn
  refine ⟨mapLab O g, R.reindex (C' := parL vs) (fun b o h => (by cases h)) (fun b _ => rfl) (by rw [outEnv_length]; simp [hvs]) g (fun i j h => ?_) (fun i i' j h h' => ?_) fun j s2 e => ?_, fun b h => mapLab_none h, hpl, fun b i q h => ?_⟩
  · rw [outEnv_length]
    show j < np + 1
    simp only [g] at h
    split at h
    · cases h; omega
    · split at h
      · rename_i h2
        cases h
        obtain ⟨_, _, _, h3, _⟩ := par i h2.1
        omega
      · cases h
  · simp only [g] at h h'
    split at h
    · rename_i h1
      split at h'
      · rename_i h2; rw [h1, h2]
      · split at h'
        · rename_i h3
          obtain ⟨_, _, _, h4, _⟩ := par i' h3.1
          cases h
          cases h'
          omega
        · cases h'
    · split at h
      · rename_i h1
        split at h'
        · rename_i h3
          obtain ⟨_, _, _, h4, _⟩ := par i h1.1
          cases h
          cases h'
          omega
        · split at h'
          · rename_i h3
            have := h1.1
            rw [h3.1] at this
            cases this
            rfl
          · cases h'
      · cases h
  · by_cases hj : j = np
    · subst hj
      rw [outEnv_last] at e
      cases e
      right
      refine ⟨ρ'.length, s, by simp [g], getElem?_snoc _ _, ?_, .same hnl⟩
      rw [hl, getElem?_snoc]
      have := getElem?_snoc (vs.map some) (some v)
      rw [List.length_map, hvs] at this
      exact this
    · by_cases hk : rf = some j
      · obtain ⟨p, h1, h2, h3, hpin⟩ := par j hk
        have hjl := (List.getElem?_eq_some_iff.mp h1).1
        have e2 : s2 = p := by
          rw [hk] at e
          unfold outEnv at e
          simp only at e
          rw [List.getElem?_append_left (by simp [h3]), List.getElem?_set_self (by simp [h3])] at e
          rw [← h2]; exact (Option.some.inj e).symm
        subst e2
        have sl := R.sl j s2 (by rw [List.getElem?_append_left hjl]; exact h1)
        have pin : ∃ a, (σ' ++ [some v])[j]? = some (some (.ref a)) ∧ (parL vs).fx j = some a := by
          rcases hpin with ⟨xs, rfl⟩ | ⟨c, d, s, rfl⟩
          · obtain ⟨a, ws, ea, _, _, _, fx⟩ := sl; exact ⟨a, ea, fx⟩
          · obtain ⟨a, ws, ea, _, _, _, _, fx⟩ := sl; exact ⟨a, ea, fx⟩
        obtain ⟨a, ea, fx⟩ := pin
        have hv : (vs.map some)[j]? = some (some (.ref a)) := by
          have fx : (match vs[j]? with | some (.ref a) => some a | _ => none) = some a := fx
          rw [List.getElem?_map]
          cases e3 : vs[j]? with
          | none => rw [e3] at fx; cases fx
          | some w =>
            rw [e3] at fx
            cases w with
            | ref a' => cases fx; rfl
            | _ => cases fx
        right
        refine ⟨j, s2, ?_, by rw [List.getElem?_append_left hjl]; exact h1, ?_, ?_⟩
        · simp only [g]
          rw [if_neg (by omega), if_pos ⟨hk, hjl⟩]
        · rw [ea, List.getElem?_append_left (by simp [hvs, h3]), hv]
        · rcases hpin with ⟨xs, rfl⟩ | ⟨c, d, s, rfl⟩
          · exact .pp fun a' h => by rw [ea] at h; cases h; exact fx
          · exact .bb fun a' h => by rw [ea] at h; cases h; exact fx
      · left
        have e2 : s2 = .no := by
          have hlt : j < np := by
            have := (List.getElem?_eq_some_iff.mp e).1
            rw [outEnv_length] at this
            omega
          unfold outEnv at e
          cases hrf : rf with
          | none => rw [hrf] at e; simp only at e; rw [List.getElem?_append_left (by simp [hlt])] at e; simp [hlt] at e; exact e.symm
          | some k =>
            rw [hrf] at e
            simp only at e
            have hne : k ≠ j := fun z => hk (by rw [hrf, z])
            rw [List.getElem?_append_left (by simp [hlt]), List.getElem?_set_ne hne] at e
            simp [hlt] at e
            exact e.symm
        subst e2
        trivial
  · obtain ⟨i', h1, h2⟩ := mapLab_some h
    simp only [g] at h2
    split at h2
    · rename_i h3
      cases h2
      subst h3
      exact .inl ⟨q, h1, rfl⟩
    · split at h2
      · rename_i h3
        cases h2
        exact .inr ⟨h3.1, h1⟩
      · cases h2

theorem body_ext {Z H Z0 H0 : Hp} {O O0 O2 : Lab} {np n : Nat} {rf : Option Nat} (x : Ext Z0 H0 O0 Z H O) (h0 : ∀ b i q, O0 b = some (i, q) → i < np) (h1 : ∀ b, O b = none → O2 b = none) (hn : np ≤ n)
    (h2 : ∀ b i q, O2 b = some (i, q) → (∃ q', O b = some (n, q') ∧ i = np) ∨ (rf = some i ∧ O b = some (i, q))) : Ext Z0 H0 O0 Z H O2 where
  z := x.z
  h := fun b o e1 e2 => let ⟨a, c⟩ := x.h b o e1 e2; ⟨a, h1 b c⟩
  t := x.t
  o := fun b i q e => by
    rcases h2 b i q e with ⟨q', e1, e2⟩ | ⟨_, e1⟩
    · rcases x.o b n q' e1 with h | ⟨q2, h⟩
      · exact .inl h
      · have := h0 b n q2 h; omega
    · exact x.o b i q e1
  zn := x.zn
/-- a def of the text: its body's worth is its own -/
theorem fn_ok {P : Program} {w : World} {K : PySem.W.Frag} {mg : MG} {base : Heap} {x x0 qual : Str} {st : Stmt} {f : Addr} {fd : FuncData} {N ps : List Str} {k np n : Nat} {rf : Option Nat} {D : DS}
    (F : Fun K x0 qual st f fd) (S : FnScope N ps (defScope st)) (hnp : ps.length = np) (hn : N.length = n) (hm : mg x = some (.ref f)) (hb : Binds K fd ps [])
    (body : ∀ (cdv : Value) (A : Around) (outer : List PySem.Env) (s : Shared) (H : Hp) (E : XK), Room k (A.deeper (envOfC qual (defScope st) s.heap.objs.size f cdv)) →
      PSSt (cxOf CX0 P w K mg base N qual (defScope st) f cdv A outer s H E).nox (defBody st) D) : Cal P w K mg base CX0 x (fnE (k + 1) np n rf D) := by
  refine ⟨f, fd, ps, ?_, hm, F.kp, hb⟩
  refine F.ok S (fun vs H Q E h => by rw [h.1, hnp]; rfl) fun cdv A outer s H vs Q E hr h => ⟨_, body cdv A outer s H E hr, ?_⟩
  obtain ⟨hvs, Z, O, args, R, r, t, e, kk⟩ := h
  have hvs : vs.length = np := hvs
  have hargs : args.length = np := by have := R.len; rw [List.length_map] at this; omega
  have R0 := R.mores (n - np)
  have fin : ∀ v σ' H' Z' O' ρ' s', parOf np rf ρ' = some t → notNo s' = true → s' = r → Ext Z H O Z' H' O' → EnvR K mg Z' H' O' (parL vs) (σ' ++ [some v]) (ρ' ++ [s']) → Q v H' := fun v σ' H' Z' O' ρ' s' hp nn es x R' => by
    subst es
    obtain ⟨O2, R2, n1, n2, n3⟩ := body_end R' hp nn hvs
    exact kk v H' Z' O2 (body_ext x (fun b i q h => by have := R.ob b i q h; omega) n1 n2 n3) R2
  refine ⟨Z, O, parL vs, args ++ List.replicate (n - np) .no, ?_, ?_⟩
  · rw [start_eq, hn, hvs]; exact R0
  · have e : flRes np rf (D (args ++ List.replicate (n - np) .no)) = .ok (r, t) := e
    generalize D (args ++ List.replicate (n - np) .no) = fl at e ⊢
    cases fl with
    | rt s' ρ' =>
      unfold flRes at e
      simp only at e
      cases hp : parOf np rf ρ' with
      | none => rw [hp] at e; cases e
      | some t' =>
        rw [hp] at e
        simp only at e
        split at e
        · rename_i nn
          cases e
          exact fun v σ' H' Z' O' x R' => fin v σ' H' Z' O' ρ' _ hp nn rfl x R'
        · cases e
    | nx ρ' =>
      unfold flRes at e
      simp only at e
      cases hp : parOf np rf ρ' with
      | none => rw [hp] at e; cases e
      | some t' =>
        rw [hp] at e
        cases e
        refine fun σ' H' Z' O' x R' => ?_
        obtain ⟨R2, n2⟩ := R'.push (H0 := H) (v := .non) (s := .fz .non) (show Rl K mg Z' V.non Val.non from .non)
        exact fin .non σ' H' Z' _ ρ' _ hp rfl rfl (x.place n2) R2
    | bk _ => cases e
    | ct _ => cases e
    | bad => cases e

theorem body_run {K : PySem.W.Frag} {mg : MG} {N : List Str} {ps : List Str} {np n : Nat} {lv : Nat} {rf : Option Nat} {D : DS} {vs : List V} {H : Hp} {Q : VK} {E : XK} (hnp : ps.length = np) (hn : N.length = n) (h : spF K mg (fnE lv np n rf D) vs H Q E) :
    TSt K mg D { nx := fun _ H' => Q .non H', rt := Q } (start N vs) H := by
  obtain ⟨hvs, Z, O, args, R, r, t, e, kk⟩ := h
  have hvs : vs.length = np := hvs
  have hargs : args.length = np := by have := R.len; rw [List.length_map] at this; omega
  have R0 := R.mores (n - np)
  have fin : ∀ v σ' H' Z' O' ρ' s', parOf np rf ρ' = some t → notNo s' = true → s' = r → Ext Z H O Z' H' O' → EnvR K mg Z' H' O' (parL vs) (σ' ++ [some v]) (ρ' ++ [s']) → Q v H' := fun v σ' H' Z' O' ρ' s' hp nn es x R' => by
    subst es
    obtain ⟨O2, R2, n1, n2, n3⟩ := body_end R' hp nn hvs
    exact kk v H' Z' O2 (body_ext x (fun b i q h => by have := R.ob b i q h; omega) n1 n2 n3) R2
  refine ⟨Z, O, parL vs, args ++ List.replicate (n - np) .no, ?_, ?_⟩
  · rw [start_eq, hn, hvs]; exact R0
  · have e : flRes np rf (D (args ++ List.replicate (n - np) .no)) = .ok (r, t) := e
    generalize D (args ++ List.replicate (n - np) .no) = fl at e ⊢
    cases fl with
    | rt s' ρ' =>
      unfold flRes at e
      simp only at e
      cases hp : parOf np rf ρ' with
      | none => rw [hp] at e; cases e
      | some t' =>
        rw [hp] at e
        simp only at e
        split at e
        · rename_i nn
          cases e
          exact fun v σ' H' Z' O' x R' => fin v σ' H' Z' O' ρ' _ hp nn rfl x R'
        · cases e
    | nx ρ' =>
      unfold flRes at e
      simp only at e
      cases hp : parOf np rf ρ' with
      | none => rw [hp] at e; cases e
      | some t' =>
        rw [hp] at e
        cases e
        refine fun σ' H' Z' O' x R' => ?_
        obtain ⟨R2, n2⟩ := R'.push (H0 := H) (v := .non) (s := .fz .non) (show Rl K mg Z' V.non Val.non from .non)
        exact fin .non σ' H' Z' _ ρ' _ hp rfl rfl (x.place n2) R2
    | bk _ => cases e
    | ct _ => cases e
    | bad => cases e
/-- the same of a def as a head tells it -/
theorem fn_okD {P : Program} {w : World} {K : PySem.W.Frag} {mg : MG} {base : Heap} {x x0 qual : Str} {params : Arguments} {sts : List Stmt} {scope : Scope} {f : Addr} {fd : FuncData} {N ps : List Str} {k np n : Nat} {rf : Option Nat} {D : DS}
    (F : FunD K x0 qual params sts scope [] [] f fd) (S : FnScope N ps scope) (hnp : ps.length = np) (hn : N.length = n) (hm : mg x = some (.ref f))
    (hb : ∀ (kV doc pm : Value) (an : Option Addr) (cdv ct : Value) (us : List Value), us.length = ps.length → bindArgs (PySem.W.fnOf x0 qual params sts scope .none kV doc pm an cdv ct) ⟨us, []⟩ = pure (ps.zip us))
    (body : ∀ (cdv : Value) (A : Around) (outer : List PySem.Env) (s : Shared) (H : Hp) (E : XK), Room k (A.deeper (envOfC qual scope s.heap.objs.size f cdv)) →
      PSSt (cxOf CX0 P w K mg base N qual scope f cdv A outer s H E).nox sts D) : Cal P w K mg base CX0 x (fnE (k + 1) np n rf D) := by
  refine ⟨f, fd, ps, ?_, hm, F.kp, F.bindsN hb⟩
  exact F.ok S (fun vs H Q E h => by rw [h.1, hnp]; rfl) fun cdv A outer s H vs Q E hr h => ⟨_, PSs.nox (body cdv A outer s H E hr), body_run hnp hn h⟩
/-- the law's own def -/
theorem fn_okW {P : Program} {w : World} {K : PySem.W.Frag} {mg : MG} {base : Heap} {x0 qual : Str} {params : Arguments} {sts : List Stmt} {scope : Scope} {f : Addr} {fd : FuncData} {N ps : List Str} {k np n : Nat} {rf : Option Nat} {D : DS}
    (F : FunD K x0 qual params sts scope [] [] f fd) (S : FnScope N ps scope) (hnp : ps.length = np) (hn : N.length = n)
    (body : ∀ (cdv : Value) (A : Around) (outer : List PySem.Env) (s : Shared) (H : Hp) (E : XK), Room k (A.deeper (envOfC qual scope s.heap.objs.size f cdv)) →
      PSSt (cxOf CX0 P w K mg base N qual scope f cdv A outer s H E).nox sts D) : FnOk P w K mg base CX0 (k + 1) f fd ps (spF K mg (fnE (k + 1) np n rf D)) :=
  F.ok S (fun vs H Q E h => by rw [h.1, hnp]; rfl) fun cdv A outer s H vs Q E hr h => ⟨_, PSs.nox (body cdv A outer s H E hr), body_run hnp hn h⟩
theorem sp_script {K : PySem.W.Frag} {mg : MG} {e : FnE} {H : Hp} {a : Addr} {ns : List Int} {E : XK} (hnp : e.np = 1) (hrf : e.rf = none) (hS : SqL K H a (ns.map V.int)) (h : e.sem [.fz (.scr ns)] = .ok (.fz (.bl true), .no)) :
    spF K mg e [.ref a] H (fun v _ => v = .bl true) E := by
  refine ⟨by rw [hnp]; rfl, H, fun _ => none, [.fz (.scr ns)], ⟨rfl, Same.refl H, fun b o h => (by cases h), fun b h => absurd rfl h, fun b i q h => (by cases h), fun i s e => ?_⟩, .fz (.bl true), .no, h, fun v H' Z' O' _ R => ?_⟩
  · cases i with
    | zero => cases e; exact ⟨.ref a, rfl, .scr hS⟩
    | succ i => simp at e
  · have := R.sl 1 (.fz (.bl true)) (by rw [hnp, hrf]; rfl)
    obtain ⟨u, e1, r⟩ := this
    cases e1
    cases r
    rfl
theorem cal_bad {P : Program} {w : World} {K : PySem.W.Frag} {mg : MG} {base : Heap} {x x0 qual : Str} {params : Arguments} {sts : List Stmt} {scope : Scope} {f : Addr} {fd : FuncData} {ps : List Str} {k np : Nat} {rf : Option Nat}
    (F : FunD K x0 qual params sts scope [] [] f fd) (hnp : ps.length = np) (hm : mg x = some (.ref f))
    (hb : ∀ (kV doc pm : Value) (an : Option Addr) (cdv ct : Value) (us : List Value), us.length = ps.length → bindArgs (PySem.W.fnOf x0 qual params sts scope .none kV doc pm an cdv ct) ⟨us, []⟩ = pure (ps.zip us)) : Cal P w K mg base CX0 x ⟨k, np, rf, fun _ => .bad⟩ := by
  refine ⟨f, fd, ps, ⟨fun vs H Q E h => by rw [h.1, hnp], fun A outer s H args us vs Q E hr he hb hv h => ?_⟩, hm, F.kp, F.bindsN hb⟩
  obtain ⟨_, _, _, _, _, _, _, e, _⟩ := h
  cases e
end Ev
namespace Ev
theorem fnE_sem (lv np n : Nat) (rf : Option Nat) (d : DS) (args : List Sl) : (fnE lv np n rf d).sem args = flRes np rf (d (args ++ List.replicate (n - np) .no)) := rfl
end Ev

/-! Ev: loops, list comprehensions. -/
namespace Ev
open PySem PySem.Spec PyProof.Rows L2

/-- J goes through xs, over what stands at Z and what is locked -/
structure Walk (K : PySem.W.Frag) (mg : MG) (J : It) (Z : Hp) (C : Lk) (xs : List Val) : Prop where
  go : ∀ i Zc H, Same Z Zc → Same Zc H → Same C H → i < xs.length → J.go i H
  yld : ∀ i Zc H v H', Same Z Zc → Same Zc H → Same C H → i < xs.length → J.yld i H v H' → ∃ Zc' y, Grow Zc H Zc' H' ∧ xs[i]? = some y ∧ Rl K mg Zc' v y
  stop : ∀ i Zc H, Same Z Zc → Same Zc H → Same C H → xs.length ≤ i → J.stop i H
abbrev DI := Env → Out (List Val × Env)
def TIt (K : PySem.W.Frag) (mg : MG) (d : DI) : TI := fun σ H R => ∃ Z O C ρ, EnvR K mg Z H O C σ ρ ∧ ∃ xs ρ', d ρ = .ok (xs, ρ') ∧
  ∀ J H' Z' O', Ext Z H O Z' H' O' → EnvR K mg Z' H' O' C σ ρ' → Walk K mg J Z' C xs → R J H'
abbrev PIt (X : Cx) (tg iter : Expr) (d : DI) : Prop := PI X tg iter (TIt X.K X.mg d)
theorem PI.imp {X : Cx} {tg e : Expr} {t t' : TI} (h : PI X tg e t) (i : ∀ σ H Q, t' σ H Q → t σ H Q) : PI X tg e t' := ⟨fun pins s σ H Q I q => h.run pins s σ H Q I (i σ H Q q)⟩
theorem PI.or {X : Cx} {tg e : Expr} {t t' : TI} (h : PI X tg e t) (h' : PI X tg e t') : PI X tg e (fun σ H R => t σ H R ∨ t' σ H R) := ⟨fun pins s σ H Q I q => q.elim (h.run pins s σ H Q I) (h'.run pins s σ H Q I)⟩


theorem Rls.getI {K : PySem.W.Frag} {mg : MG} {Z : Hp} {vs : List V} {xs : List Val} {i : Nat} {v : V} (r : Rls K mg Z vs xs) (h : vs[i]? = some v) : ∃ x, xs[i]? = some x ∧ Rl K mg Z v x := r.get' h
theorem walk_l {K : PySem.W.Frag} {mg : MG} {Z : Hp} {C : Lk} {a : Addr} {vs : List V} {xs : List Val} (r : Rls K mg Z vs xs) (h : ∀ Zc H, Same Z Zc → Same Zc H → Same C H → SqL K H a vs) : Walk K mg (Itl K a) Z C xs where
  go := fun i Zc H z zh c hi => by
    have hi' : i < vs.length := by rw [r.length]; exact hi
    exact ⟨vs, vs[i], h Zc H z zh c, by simp [hi']⟩
  yld := fun i Zc H v H' z zh c hi y => by
    obtain ⟨rfl, y⟩ := y
    obtain ⟨x, h1, h2⟩ := r.get' (y vs (h Zc _ z zh c))
    exact ⟨Zc, x, Grow.refl zh, h1, h2.mono z⟩
  stop := fun i Zc H z zh c hi => ⟨vs, h Zc H z zh c, by rw [r.length]; exact hi⟩
theorem walk_t {K : PySem.W.Frag} {mg : MG} {Z : Hp} {C : Lk} {a : Addr} {vs : List V} {xs : List Val} (r : Rls K mg Z vs xs) (h : ∀ Zc H, Same Z Zc → Same Zc H → Same C H → SqT K H a vs) : Walk K mg (Itt K a) Z C xs where
  go := fun i Zc H z zh c hi => by
    have hi' : i < vs.length := by rw [r.length]; exact hi
    exact ⟨vs, vs[i], h Zc H z zh c, by simp [hi']⟩
  yld := fun i Zc H v H' z zh c hi y => by
    obtain ⟨rfl, y⟩ := y
    obtain ⟨x, h1, h2⟩ := r.get' (y vs (h Zc _ z zh c))
    exact ⟨Zc, x, Grow.refl zh, h1, h2.mono z⟩
  stop := fun i Zc H z zh c hi => ⟨vs, h Zc H z zh c, by rw [r.length]; exact hi⟩
theorem walk_r {K : PySem.W.Frag} {mg : MG} {Z : Hp} {C : Lk} {lo : Int} {n : Nat} : Walk K mg (Itr lo n) Z C ((List.range n).map fun i => .int (lo + (i : Nat))) where
  go := fun i Zc H z zh c hi => by simpa [Itr] using hi
  yld := fun i Zc H v H' z zh c hi y => by
    obtain ⟨rfl, rfl⟩ := y
    have hi : i < n := by simpa using hi
    exact ⟨Zc, .int (lo + i), Grow.refl zh, by simp [hi], .int _⟩
  stop := fun i Zc H z zh c hi => by simpa [Itr] using hi
def chars (z : Str) : List Val := z.cps.toList.map fun c => .str ⟨#[c]⟩
theorem walk_s {K : PySem.W.Frag} {mg : MG} {Z : Hp} {C : Lk} {x : Str} : Walk K mg (Its x) Z C (chars x) where
  go := fun i Zc H z zh c hi => by simpa [Its, chars] using hi
  yld := fun i Zc H v H' z zh c hi y => by
    obtain ⟨rfl, k, h, rfl⟩ := y
    refine ⟨Zc, .str ⟨#[k]⟩, Grow.refl zh, ?_, .str _⟩
    unfold chars
    rw [List.getElem?_map, Array.getElem?_toList, h]
    rfl
  stop := fun i Zc H z zh c hi => by simpa [Its, chars] using hi

/-- what a for goes through -/
def goesV : Val → Option (List Val)
  | .lst xs => some xs
  | .tup xs => some xs
  | .ktup xs => some xs
  | .scr ns => some (ns.map .int)
  | .str z => some (chars z)
  | _ => none
def dIt (d : DV) : DI := fun ρ => (d ρ).bind fun p => Out.of ((goesV p.1).map fun xs => (xs, p.2))
section
variable {X : Cx} {tg : Expr}
theorem it_val {e : Expr} {d : DV} (h : PV X e d) : PIt X tg e (dIt d) := PI.imp (Ev.PI.or (pi_list h) (Ev.PI.or (pi_tup h) (pi_str h))) fun σ H R ⟨Z, O, C, ρ, R0, xs, ρ', q, k⟩ => by
  obtain ⟨⟨x, ρ1⟩, e1, q⟩ := Out.bind_ok q
  obtain ⟨ys, e2, q⟩ := Option.map_eq_some_iff.mp (Out.of_ok q)
  cases q
  cases x with
  | lst zs =>
    cases e2
    refine .inl ⟨Z, O, C, ρ, R0, _, ρ1, e1, fun v H' Z' O' x R' r => ?_⟩
    cases r with
    | lst m r => exact ⟨_, rfl, ⟨_, SqL.of (R'.zh _ _ m)⟩, k _ H' Z' O' x R' (walk_l r fun Zc H z zh _ => SqL.of (zh _ _ (z _ _ m)))⟩
  | scr ns =>
    cases e2
    refine .inl ⟨Z, O, C, ρ, R0, _, ρ1, e1, fun v H' Z' O' x R' r => ?_⟩
    cases r with
    | scr m => exact ⟨_, rfl, ⟨_, R'.zh.seq m⟩, k _ H' Z' O' x R' (walk_l (Rls.ints ns) fun Zc H z zh _ => zh.seq (z.seq m))⟩
  | tup zs =>
    cases e2
    refine .inr (.inl ⟨Z, O, C, ρ, R0, _, ρ1, e1, fun v H' Z' O' x R' r => ?_⟩)
    cases r with
    | tup m r => exact ⟨_, rfl, ⟨_, SqT.of (R'.zh _ _ m)⟩, k _ H' Z' O' x R' (walk_t r fun Zc H z zh _ => SqT.of (zh _ _ (z _ _ m)))⟩
  | ktup zs =>
    cases e2
    refine .inr (.inl ⟨Z, O, C, ρ, R0, _, ρ1, e1, fun v H' Z' O' x R' r => ?_⟩)
    cases r with
    | ktup m r => exact ⟨_, rfl, ⟨_, seqT_mono R'.zh m⟩, k _ H' Z' O' x R' (walk_t r fun Zc H z zh _ => seqT_mono zh (seqT_mono z m))⟩
  | str z =>
    cases e2
    refine .inr (.inr ⟨Z, O, C, ρ, R0, _, ρ1, e1, fun v H' Z' O' x R' r => ?_⟩)
    cases r
    exact ⟨z, rfl, k _ H' Z' O' x R' walk_s⟩
  | _ => cases e2
def rOk (i : Int) : Bool := decide (-(2 ^ 62) ≤ i ∧ i < 2 ^ 62)
/-- range(..) in a for -/
def dRg (d : DR) : DI := fun ρ => (d ρ).bind fun p => if rOk p.1.1 && rOk p.1.2 then .ok ((rangeI p.1.1 p.1.2).map .int, p.2) else .bad
theorem it_r1 {a : Expr} {d : DV} {p pos : Pos} (hg : Gl X "range") (hm : X.mg "range" = none) (ha : PV X a d) (hs : starEach [a] X.env = [(false, eval a X.env)] := by rfl) : PIt X tg (.Call (.Name "range" p) [a] [] pos) (dRg (dR1 d)) :=
  PI.imp (pi_range1 hg hm (pa_cons ha pa_nil hs) hs) fun σ H R ⟨Z, O, C, ρ, R0, xs, ρ', q, k⟩ => by
    obtain ⟨⟨rg, ρ1⟩, e1, q⟩ := Out.bind_ok q
    obtain ⟨⟨x, ρ2⟩, e2, e1⟩ := Out.bind_ok e1
    split at q
    · rename_i hk
      cases q
      refine ⟨Z, O, C, ρ, R0, x, ρ2, e2, fun v H' Z' O' ex R' r => ?_⟩
      cases x with
      | int n =>
        cases e1
        cases r
        have hk : (rOk 0 && rOk n) = true := hk
        simp only [rOk, Bool.and_eq_true, decide_eq_true_eq] at hk
        have w := walk_r (K := X.K) (mg := X.mg) (Z := Z') (C := C) (lo := 0) (n := n.toNat)
        refine ⟨n, rfl, hk.2.1, hk.2.2, k _ H' Z' O' ex R' ?_⟩
        have : (rangeI 0 n).map Val.int = (List.range n.toNat).map fun i => .int ((0 : Int) + (i : Nat)) := by unfold rangeI; rw [List.map_map]; simp
        rw [this]
        exact w
      | _ => cases e1
    · cases q
theorem it_r2 {a b : Expr} {da db : DV} {p pos : Pos} (hg : Gl X "range") (hm : X.mg "range" = none) (ha : PV X a da) (hb : PV X b db) (hs : starEach [a, b] X.env = [(false, eval a X.env), (false, eval b X.env)] := by rfl) (hs2 : starEach [b] X.env = [(false, eval b X.env)] := by rfl) :
    PIt X tg (.Call (.Name "range" p) [a, b] [] pos) (dRg (dR2 da db)) :=
  PI.imp (pi_range2 hg hm (pa_cons ha (pa_cons hb pa_nil hs2) (by rw [hs, hs2])) hs hs2) fun σ H R ⟨Z, O, C, ρ, R0, xs, ρ', q, k⟩ => by
    obtain ⟨⟨rg, ρ1⟩, e1, q⟩ := Out.bind_ok q
    obtain ⟨⟨x, ρ2⟩, e2, e1⟩ := Out.bind_ok e1
    obtain ⟨⟨y, ρ3⟩, e3, e1⟩ := Out.bind_ok e1
    split at q
    · rename_i hk
      cases q
      refine ⟨Z, O, C, ρ, R0, x, ρ2, e2, fun v H1 Z1 O1 ex1 R1 r1 => ⟨Z1, O1, C, ρ2, R1, y, ρ3, e3, fun u H' Z' O' ex2 R' r2 => ?_⟩⟩
      cases x with
      | int m =>
        cases y with
        | int n =>
          cases e1
          cases r1
          cases r2
          have hk : (rOk m && rOk n) = true := hk
          simp only [rOk, Bool.and_eq_true, decide_eq_true_eq] at hk
          have w := walk_r (K := X.K) (mg := X.mg) (Z := Z') (C := C) (lo := m) (n := (n - m).toNat)
          refine ⟨m, n, rfl, ⟨hk.1.1, hk.1.2, hk.2.1, hk.2.2⟩, k _ H' Z' O' (ex1.trans ex2) R' ?_⟩
          have : (rangeI m n).map Val.int = (List.range (n - m).toNat).map fun i => .int (m + (i : Nat)) := by unfold rangeI; rw [List.map_map]; rfl
          rw [this]
          exact w
        | _ => cases e1
      | _ => cases e1
    · cases q
end

/-! ### for -/
def forL (g : DG) (b : DS) : List Val → Env → Fl
  | [], ρ => .nx ρ
  | x :: xs, ρ => match g x ρ with
    | some ρ1 => match b ρ1 with
      | .nx ρ2 => forL g b xs ρ2
      | .ct ρ2 => forL g b xs ρ2
      | .bk ρ2 => .nx ρ2
      | .rt s ρ2 => .rt s ρ2
      | .bad => .bad
    | none => .bad
def sFor (it : DI) (g : DG) (b : DS) : DS := fun ρ => match it ρ with
  | .ok (xs, ρ') => forL g b xs ρ'
  | _ => .bad
section
variable {K : PySem.W.Frag} {mg : MG} {Z H : Hp} {O : Lab} {C : Lk} {σ : L2.St} {ρ : Env} {D : Ends} {g : DG} {b : DS} {ws : List Nat} {xs : List Val}
theorem for_run {J : It} (R : EnvR K mg Z H O C σ ρ) (w : Walk K mg J Z C xs) (h : FlR K mg Z H O C D (forL g b xs ρ)) :
    ∃ W : Nat → Nat → L2.St → Hp → Prop, (∃ m, W 0 m σ H) ∧ ∀ i m σ H, W i m σ H →
      (J.stop i H ∧ D.nx σ H) ∨ (J.go i H ∧ ∃ N : L2.St → Hp → Prop, (∀ σ' H', N σ' H' → ∃ m', m' < m ∧ W (i + 1) m' σ' H') ∧ ∀ x H', J.yld i H x H' → TGt K mg g ws x σ H' fun σ2 H2 => TSt K mg b { D with nx := N, ct := N, bk := D.nx } σ2 H2) := by
  refine ⟨fun i m σ1 H1 => m = xs.length - i ∧ i ≤ xs.length ∧ ∃ Z1 O1 ρ1, Ext Z H O Z1 H1 O1 ∧ EnvR K mg Z1 H1 O1 C σ1 ρ1 ∧ FlR K mg Z1 H1 O1 C D (forL g b (xs.drop i) ρ1), ⟨_, rfl, Nat.zero_le _, Z, O, ρ, Ext.refl _ _ _, R, by simpa using h⟩, ?_⟩
  rintro i m σ1 H1 ⟨rfl, hi, Z1, O1, ρ1, x1, R1, f1⟩
  by_cases hlt : i < xs.length
  · refine .inr ⟨w.go i Z1 H1 x1.z R1.zh R1.ch hlt, fun σ' H' => ∃ Z2 O2 ρ2, Ext Z H O Z2 H' O2 ∧ EnvR K mg Z2 H' O2 C σ' ρ2 ∧ FlR K mg Z2 H' O2 C D (forL g b (xs.drop (i + 1)) ρ2), fun σ' H' hN => ⟨_, by omega, rfl, hlt, hN⟩, fun v H' y => ?_⟩
    obtain ⟨Zc, z, gr, hz, rz⟩ := w.yld i Z1 H1 v H' x1.z R1.zh R1.ch hlt y
    have ed : xs.drop i = z :: xs.drop (i + 1) := by
      rw [List.drop_eq_getElem_cons hlt]
      have : xs[i] = z := by rw [List.getElem?_eq_getElem hlt] at hz; exact Option.some.inj hz
      rw [this]
    rw [ed] at f1
    unfold forL at f1
    cases eg : g z ρ1 with
    | none => rw [eg] at f1; exact f1.elim
    | some ρ2 =>
      rw [eg] at f1
      simp only at f1
      refine ⟨Zc, O1, C, ρ1, R1.grow gr, z, ρ2, rz, eg, fun σ2 O2 x2 _ R2 => ⟨Zc, O2, C, ρ2, R2, ?_⟩⟩
      have xx : Ext Z1 H1 O1 Zc H' O2 := gr.ext.trans x2
      have x3 : Ext Z H O Zc H' O2 := x1.trans xx
      cases eb : b ρ2 with
      | nx ρ3 => rw [eb] at f1; exact fun σ' H2 Z2 O3 y2 R3 => ⟨Z2, O3, ρ3, x3.trans y2, R3, f1.ext (xx.trans y2)⟩
      | ct ρ3 => rw [eb] at f1; exact fun σ' H2 Z2 O3 y2 R3 => ⟨Z2, O3, ρ3, x3.trans y2, R3, f1.ext (xx.trans y2)⟩
      | bk ρ3 => rw [eb] at f1; exact fun σ' H2 Z2 O3 y2 R3 => f1 σ' H2 Z2 O3 (xx.trans y2) R3
      | rt s ρ3 => rw [eb] at f1; exact fun u σ' H2 Z2 O3 y2 R3 => f1 u σ' H2 Z2 O3 (xx.trans y2) R3
      | bad => rw [eb] at f1; exact f1.elim
  · have e : i = xs.length := by omega
    subst e
    rw [List.drop_length] at f1
    exact .inl ⟨w.stop _ Z1 H1 x1.z R1.zh R1.ch (Nat.le_refl _), f1 σ1 H1 Z1 O1 (Ext.refl _ _ _) R1⟩
end
section
variable {X : Cx}
theorem st_for {tg iter : Expr} {body : List Stmt} {it : DI} {g : DG} {b : DS} {ws : List Nat} {pos : Pos} (hp : PassesOwn (model X.prog X.w) X.A X.env X.xe) (hc : X.calm = true) (hi : PIt X tg iter it) (hg : PGt X tg g ws) (hb : PSSt X body b)
    (hs : ∀ x, foldedSetIterable iter X.env x = pure x := by intro _; rfl) : PSt X (.For tg iter body [] pos) (sFor it g b) := PS.imp (ps_for hp hc hi hg hb hs) fun D σ H ⟨Z, O, C, ρ, R, h⟩ => by
  unfold sFor at h
  cases e : it ρ with
  | ok p =>
    obtain ⟨xs, ρ'⟩ := p
    rw [e] at h
    exact ⟨Z, O, C, ρ, R, xs, ρ', e, fun J H' Z' O' x R' w => for_run R' w (h.ext x)⟩
  | exc _ => rw [e] at h; exact h.elim
  | bad => rw [e] at h; exact h.elim
end

/-! ### while -/
def whileN (c : DT) (b : DS) : Nat → DS
  | 0, _ => .bad
  | n + 1, ρ => match c ρ with
    | .ok (true, ρ1) => match b ρ1 with
      | .nx ρ2 => whileN c b n ρ2
      | .ct ρ2 => whileN c b n ρ2
      | .bk ρ2 => .nx ρ2
      | .rt s ρ2 => .rt s ρ2
      | .bad => .bad
    | .ok (false, ρ1) => .nx ρ1
    | _ => .bad
open Classical in
noncomputable def sWhile (c : DT) (b : DS) : DS := fun ρ => if h : ∃ n, whileN c b n ρ ≠ .bad then whileN c b h.choose ρ else .bad
theorem whileN_mono {c : DT} {b : DS} : ∀ {n m : Nat} {ρ : Env}, whileN c b n ρ ≠ .bad → n ≤ m → whileN c b m ρ = whileN c b n ρ
  | 0, _, _, h, _ => absurd rfl h
  | n + 1, 0, _, _, h => by omega
  | n + 1, m + 1, ρ, h, hm => by
    unfold whileN at h ⊢
    cases e : c ρ with
    | ok p =>
      obtain ⟨k, ρ1⟩ := p
      rw [e] at h
      cases k with
      | true =>
        simp only at h ⊢
        cases e2 : b ρ1 with
        | nx ρ2 => rw [e2] at h; exact whileN_mono h (by omega)
        | ct ρ2 => rw [e2] at h; exact whileN_mono h (by omega)
        | bk _ => rfl
        | rt _ _ => rfl
        | bad => rfl
      | false => rfl
    | exc _ => rfl
    | bad => rfl
theorem sWhile_eq {c : DT} {b : DS} {n : Nat} {ρ : Env} {f : Fl} (h : whileN c b n ρ = f) (hf : f ≠ .bad) : sWhile c b ρ = f := by
  have ex : ∃ n, whileN c b n ρ ≠ .bad := ⟨n, by rw [h]; exact hf⟩
  unfold sWhile
  rw [dif_pos ex]
  have h1 := ex.choose_spec
  rcases Nat.le_total n ex.choose with q | q
  · rw [whileN_mono (by rw [h]; exact hf) q, h]
  · rw [← h]; exact (whileN_mono h1 q).symm
section
variable {X : Cx}
theorem st_while {c : Expr} {body : List Stmt} {dc : DT} {b : DS} {pos : Pos} (hp : PassesOwn (model X.prog X.w) X.A X.env X.xe) (hc : PTt X c dc) (hb : PSSt X body b) : PSt X (.While c body [] pos) (sWhile dc b) := PS.imp (ps_while hp hc hb) fun D σ H ⟨Z, O, C, ρ, R, h⟩ => by
  unfold sWhile at h
  split at h
  · rename_i hex
    refine ⟨fun n σ1 H1 => ∃ Z1 O1 ρ1, Ext Z H O Z1 H1 O1 ∧ EnvR X.K X.mg Z1 H1 O1 C σ1 ρ1 ∧ FlR X.K X.mg Z1 H1 O1 C D (whileN dc b n ρ1), ⟨hex.choose, Z, O, ρ, Ext.refl _ _ _, R, h⟩, ?_⟩
    rintro n σ1 H1 ⟨Z1, O1, ρ1, x1, R1, f1⟩
    cases n with
    | zero => exact f1.elim
    | succ n =>
      unfold whileN at f1
      cases e : dc ρ1 with
      | ok p =>
        obtain ⟨k, ρ2⟩ := p
        rw [e] at f1
        refine ⟨Z1, O1, C, ρ1, R1, k, ρ2, e, fun H2 Z2 O2 x2 R2 => ?_⟩
        cases k with
        | true =>
          simp only at f1
          rw [if_pos rfl]
          refine ⟨fun σ' H' => ∃ Z3 O3 ρ3, Ext Z H O Z3 H' O3 ∧ EnvR X.K X.mg Z3 H' O3 C σ' ρ3 ∧ FlR X.K X.mg Z3 H' O3 C D (whileN dc b n ρ3), fun σ' H' hN => ⟨n, Nat.lt_succ_self _, hN⟩, Z2, O2, C, ρ2, R2, ?_⟩
          cases eb : b ρ2 with
          | nx ρ3 => rw [eb] at f1; exact fun σ' H3 Z3 O3 y2 R3 => ⟨Z3, O3, ρ3, (x1.trans x2).trans y2, R3, f1.ext (x2.trans y2)⟩
          | ct ρ3 => rw [eb] at f1; exact fun σ' H3 Z3 O3 y2 R3 => ⟨Z3, O3, ρ3, (x1.trans x2).trans y2, R3, f1.ext (x2.trans y2)⟩
          | bk ρ3 => rw [eb] at f1; exact fun σ' H3 Z3 O3 y2 R3 => f1 σ' H3 Z3 O3 (x2.trans y2) R3
          | rt s ρ3 => rw [eb] at f1; exact fun u σ' H3 Z3 O3 y2 R3 => f1 u σ' H3 Z3 O3 (x2.trans y2) R3
          | bad => rw [eb] at f1; exact f1.elim
        | false =>
          rw [if_neg (by decide)]
          exact f1 σ1 H2 Z2 O2 x2 R2
      | exc _ => rw [e] at f1; exact f1.elim
      | bad => rw [e] at f1; exact f1.elim
  · exact h.elim
end
end Ev

/-! Ev: list comprehensions. -/
namespace Ev
open PySem PySem.Spec PyProof.Rows L2

def wipeE (ρ : Env) : List Nat → Env
  | [] => ρ
  | v :: vs => (wipeE ρ vs).set v .no
theorem wipeE_length (ρ : Env) : ∀ vs : List Nat, (wipeE ρ vs).length = ρ.length
  | [] => rfl
  | v :: vs => by unfold wipeE; rw [List.length_set, wipeE_length ρ vs]
theorem wipeE_get {ρ : Env} {i : Nat} {s : Sl} : ∀ {vs : List Nat}, (wipeE ρ vs)[i]? = some s → (i ∈ vs ∧ s = .no) ∨ (i ∉ vs ∧ ρ[i]? = some s)
  | [], h => .inr ⟨by simp, h⟩
  | v :: vs, h => by
    unfold wipeE at h
    by_cases hi : v = i
    · subst hi
      by_cases hv : v < (wipeE ρ vs).length
      · rw [List.getElem?_set_self hv] at h; cases h; exact .inl ⟨List.mem_cons_self, rfl⟩
      · rw [List.getElem?_eq_none (by simpa using hv)] at h; cases h
    · rw [List.getElem?_set_ne hi] at h
      rcases wipeE_get h with ⟨h1, h2⟩ | ⟨h1, h2⟩
      · exact .inl ⟨List.mem_cons_of_mem _ h1, h2⟩
      · exact .inr ⟨fun m => (List.mem_cons.mp m).elim (fun e => hi e.symm) h1, h2⟩
theorem wipe_get {σ : L2.St} {i : Nat} : ∀ {vs : List Nat}, i ∈ vs → i < σ.length → (wipe σ vs)[i]? = some none
  | v :: vs, h, hl => by
    unfold wipe
    by_cases hi : v = i
    · subst hi
      rw [List.getElem?_set_self (by rw [wipe_length]; exact hl)]
    · rw [List.getElem?_set_ne hi]
      exact wipe_get ((List.mem_cons.mp h).elim (fun e => absurd e.symm hi) id) hl
theorem wipe_eq {σ σ' : L2.St} {vs ws : List Nat} (h : off ws σ σ') (hw : ∀ i ∈ ws, i ∈ vs) : wipe σ' vs = wipe σ vs := by
  refine List.ext_getElem? fun i => ?_
  by_cases hi : i ∈ vs
  · by_cases hl : i < σ.length
    · rw [wipe_get hi hl, wipe_get hi (by rw [h.1]; exact hl)]
    · rw [List.getElem?_eq_none (by rw [wipe_length, h.1]; omega), List.getElem?_eq_none (by rw [wipe_length]; omega)]
  · rw [wipe_out hi, wipe_out hi]
    exact h.2 i fun z => hi (hw i z)
theorem wipe_twice (σ : L2.St) (vs : List Nat) : wipe (wipe σ vs) vs = wipe σ vs := by
  refine List.ext_getElem? fun i => ?_
  by_cases hi : i ∈ vs
  · by_cases hl : i < σ.length
    · rw [wipe_get hi hl, wipe_get hi (by rw [wipe_length]; exact hl)]
    · rw [List.getElem?_eq_none (by rw [wipe_length, wipe_length]; omega), List.getElem?_eq_none (by rw [wipe_length]; omega)]
  · rw [wipe_out hi]
section
variable {K : PySem.W.Frag} {mg : MG} {Z H Z1 H1 : Hp} {O O1 : Lab} {C : Lk} {σ : L2.St} {ρ : Env}
theorem EnvR.wipe (R : EnvR K mg Z H O C σ ρ) (vs : List Nat) : EnvR K mg Z H O C (L2.wipe σ vs) (wipeE ρ vs) where
  len := by rw [wipeE_length, wipe_length]; exact R.len
  zh := R.zh
  ch := R.ch
  oz := R.oz
  ob := fun b i q h => by rw [wipeE_length]; exact R.ob b i q h
  sl := fun i s e => by
    rcases wipeE_get e with ⟨_, rfl⟩ | ⟨h1, h2⟩
    · trivial
    · rw [wipe_out h1]; exact R.sl i s h2
def keepFz : Option Sl → Sl
  | some (.fz x) => .fz x
  | _ => .no
def rest (ρ1 : Env) : List Nat → Env → Env
  | [], ρ2 => ρ2
  | v :: vs, ρ2 => (rest ρ1 vs ρ2).set v (keepFz ρ1[v]?)
theorem rest_length (ρ1 : Env) : ∀ (vs : List Nat) (ρ2 : Env), (rest ρ1 vs ρ2).length = ρ2.length
  | [], _ => rfl
  | v :: vs, ρ2 => by unfold rest; rw [List.length_set, rest_length ρ1 vs ρ2]
theorem rest_get {ρ1 ρ2 : Env} {i : Nat} {s : Sl} : ∀ {vs : List Nat}, (rest ρ1 vs ρ2)[i]? = some s → (i ∈ vs ∧ s = keepFz ρ1[i]?) ∨ (i ∉ vs ∧ ρ2[i]? = some s)
  | [], h => .inr ⟨by simp, h⟩
  | v :: vs, h => by
    unfold rest at h
    by_cases hi : v = i
    · subst hi
      by_cases hv : v < (rest ρ1 vs ρ2).length
      · rw [List.getElem?_set_self hv] at h; cases h; exact .inl ⟨List.mem_cons_self, rfl⟩
      · rw [List.getElem?_eq_none (by simpa using hv)] at h; cases h
    · rw [List.getElem?_set_ne hi] at h
      rcases rest_get h with ⟨h1, h2⟩ | ⟨h1, h2⟩
      · exact .inl ⟨List.mem_cons_of_mem _ h1, h2⟩
      · exact .inr ⟨fun m => (List.mem_cons.mp m).elim (fun e => hi e.symm) h1, h2⟩
/-- the block is left -/
theorem EnvR.unwipe {ρ2 : Env} {vs : List Nat} (R1 : EnvR K mg Z1 H1 O1 C σ ρ) (z : Same Z1 Z) (R2 : EnvR K mg Z H O C (L2.wipe σ vs) ρ2) : EnvR K mg Z H O C σ (rest ρ vs ρ2) where
  len := by rw [rest_length, R2.len, wipe_length]
  zh := R2.zh
  ch := R2.ch
  oz := R2.oz
  ob := fun b i q h => by rw [rest_length]; exact R2.ob b i q h
  sl := fun i s e => by
    rcases rest_get e with ⟨_, rfl⟩ | ⟨h1, h2⟩
    · cases q : ρ[i]? with
      | none => trivial
      | some s =>
        have := R1.sl i s q
        cases s with
        | fz x => obtain ⟨u, e1, r⟩ := this; exact ⟨u, e1, r.mono z⟩
        | _ => trivial
    · have := R2.sl i s h2
      rw [wipe_out h1] at this
      exact this
/-- a thing of nobody's is changed -/
theorem same_updF {H : Hp} {Zx : Hp} {p : Addr} {o : HO} (zh : Same Zx H) (hz : Zx p = none) : Same Zx (upd H p o) := fun b x e => by
  rw [upd_ne fun h => by rw [h, hz] at e; cases e]
  exact zh b x e
theorem EnvR.free {p : Addr} {o : HO} (R : EnvR K mg Z H O C σ ρ) (ho : O p = none) (hz : Z p = none) (hc : C p = none) : EnvR K mg Z (upd H p o) O C σ ρ where
  len := R.len
  zh := same_updF R.zh hz
  ch := same_updF R.ch hc
  oz := fun b hb => by
    obtain ⟨h1, h2, h3⟩ := R.oz b hb
    refine ⟨h1, h2, ?_⟩
    rw [upd_ne fun e => by rw [e, ho] at hb; exact hb rfl]
    exact h3
  ob := R.ob
  sl := fun i s e => (R.sl i s e).keep (Same.refl Z) fun b q hb => ⟨upd_ne (fun z => by rw [z, ho] at hb; cases hb), hb⟩
theorem Ext.free {p : Addr} {o : HO} (x : Ext Z1 H1 O1 Z H O) (h1 : H1 p = none) : Ext Z1 H1 O1 Z (upd H p o) O where
  z := x.z
  h := fun b u e1 e2 => by
    rw [upd_ne fun z => by rw [z, h1] at e1; cases e1]
    exact x.h b u e1 e2
  t := fun b e => by
    by_cases hb : b = p
    · rw [hb, upd_same]; simp
    · rw [upd_ne hb]; exact x.t b e
  o := x.o
  zn := x.zn
/-- a thing of nobody's, that stands -/
theorem Ext.nobody {p : Addr} {u : HO} (x : Ext Z1 H1 O1 Z H O) (h : H1 p = some u) (ho : O1 p = none) (hz : Z1 p = none) (hc : C p = none) (R : EnvR K mg Z H O C σ ρ) : H p = some u ∧ O p = none ∧ Z p = none := by
  obtain ⟨h2, h3⟩ := x.h p u h ho
  refine ⟨h2, h3, ?_⟩
  cases e : Z p with
  | none => rfl
  | some w =>
    rcases x.zn p (by rw [e]; simp) with h4 | h4 | h4
    · exact absurd hz h4
    · rw [h] at h4; cases h4
    · exact absurd ho h4
end

def tYesD : DT := fun ρ => .ok (true, ρ)
abbrev PTts (X : Cx) (ifs : List Expr) (d : DT) : Prop := PTs X ifs (TTt X.K X.mg d)
theorem PTs.imp {X : Cx} {e : List Expr} {t t' : TT} (h : PTs X e t) (i : ∀ σ H Q, t' σ H Q → t σ H Q) : PTs X e t' := ⟨fun pins s σ H Q I q => h.run pins s σ H Q I (i σ H Q q)⟩
theorem ts_nil {X : Cx} : PTts X [] tYesD := PTs.imp pts_nil fun σ H Q ⟨Z, O, C, ρ, R, b, ρ', q, k⟩ => by cases q; exact k H Z O (Ext.refl _ _ _) R
theorem ts_one {X : Cx} {c : Expr} {d : DT} (h : PTt X c d) : PTts X [c] d := pts_one h

def lcL (g : DG) (t : DT) (e : DV) (vs : List Nat) : List Val → Env → Option (List Val × Env)
  | [], ρ => some ([], ρ)
  | x :: xs, ρ => match g x ρ with
    | some ρ1 => match t ρ1 with
      | .ok (true, ρ2) => match e ρ2 with
        | .ok (y, ρ3) => (lcL g t e vs xs (wipeE ρ3 vs)).map fun p => (y :: p.1, p.2)
        | _ => none
      | .ok (false, ρ2) => lcL g t e vs xs (wipeE ρ2 vs)
      | _ => none
    | none => none
def dLc (it : DI) (g : DG) (t : DT) (e : DV) (vs : List Nat) : DO := fun ρ => match it ρ with
  | .ok (xs, ρ1) => if xs.length ≤ sizeLine then match lcL g t e vs xs (wipeE ρ1 vs) with
    | some (ys, ρ2) => .ok (.own ys, rest ρ1 vs ρ2)
    | none => .bad
    else .bad
  | _ => .bad
theorem lc_run {K : PySem.W.Frag} {mg : MG} {it : DI} {g : DG} {t : DT} {e : DV} {vs ws : List Nat} (hw : ∀ i ∈ ws, i ∈ vs) {σ : L2.St} {H : Hp} {Q : VK} (h : TOw K mg (dLc it g t e vs) σ H Q) :
    tLc (TIt K mg it) (TGt K mg g ws) (TTt K mg t) (TV K mg e) vs σ H Q := by
  obtain ⟨Z, O, C, ρ, R, s, ρ', q, k⟩ := h
  unfold dLc at q
  cases ei : it ρ with
  | exc _ => rw [ei] at q; cases q
  | bad => rw [ei] at q; cases q
  | ok p =>
    obtain ⟨xs, ρ1⟩ := p
    rw [ei] at q
    simp only at q
    split at q
    case isFalse => cases q
    rename_i hz
    cases el : lcL g t e vs xs (wipeE ρ1 vs) with
    | none => rw [el] at q; cases q
    | some p2 =>
      obtain ⟨ys, ρ2⟩ := p2
      rw [el] at q
      cases q
      refine ⟨Z, O, C, ρ, R, xs, ρ1, ei, fun J H1 Z1 O1 x1 R1 w => fun D hD => ?_⟩
      obtain ⟨f1, f2, f3⟩ := R1.fresh hD
      refine ⟨fun i m H2 => m = xs.length - i ∧ i ≤ xs.length ∧ ∃ Z2 O2 ρa ac acc yr, Ext Z1 H1 O1 Z2 H2 O2 ∧ EnvR K mg Z2 H2 O2 C (wipe σ vs) ρa ∧ H2 D = some (.lst ac) ∧ Rls K mg Z2 ac acc ∧ O2 D = none ∧ Z2 D = none ∧ acc.length ≤ i ∧ lcL g t e vs (xs.drop i) ρa = some (yr, ρ2) ∧ ys = acc ++ yr, ⟨_, rfl, Nat.zero_le _, Z1, O1, wipeE ρ1 vs, [], [], ys, (Ext.refl Z1 H1 O1).free hD, (R1.wipe vs).free f1 f2 f3, upd_same, .nil, f1, f2, Nat.zero_le _, by simpa using el, rfl⟩, ?_⟩
      rintro i m H2 ⟨rfl, hi, Z2, O2, ρa, ac, acc, yr, x2, R2, hd, ra, o2, z2, al, el2, ey⟩
      by_cases hlt : i < xs.length
      · refine .inr ⟨w.go i Z2 H2 x2.z R2.zh R2.ch hlt, _, fun H' hN => ⟨_, Nat.sub_lt_sub_left hlt (Nat.lt_succ_self i), rfl, hlt, hN⟩, fun v H3 y => ?_⟩
        obtain ⟨Z3, z, gr, hz2, rz⟩ := w.yld i Z2 H2 v H3 x2.z R2.zh R2.ch hlt y
        have ed : xs.drop i = z :: xs.drop (i + 1) := by
          rw [List.drop_eq_getElem_cons hlt]
          have : xs[i] = z := by rw [List.getElem?_eq_getElem hlt] at hz2; exact Option.some.inj hz2
          rw [this]
        rw [ed] at el2
        unfold lcL at el2
        cases eg : g z ρa with
        | none => rw [eg] at el2; cases el2
        | some ρb =>
          rw [eg] at el2
          simp only at el2
          have R3 := R2.grow gr
          refine ⟨Z3, O2, C, ρa, R3, z, ρb, rz, eg, fun σ4 O4 x4 hoff R4 => ?_⟩
          have hwp : wipe σ4 vs = wipe σ vs := by rw [wipe_eq hoff hw, wipe_twice]
          refine ⟨hwp, ?_⟩
          have x14 : Ext Z1 H1 O1 Z3 H3 O4 := (x2.trans gr.ext).trans x4
          have x24 : Ext Z2 H2 O2 Z3 H3 O4 := gr.ext.trans x4
          cases et : t ρb with
          | exc _ => rw [et] at el2; cases el2
          | bad => rw [et] at el2; cases el2
          | ok p3 =>
            obtain ⟨b, ρc⟩ := p3
            rw [et] at el2
            refine ⟨Z3, O4, C, ρb, R4, b, ρc, et, fun H5 Z5 O5 x5 R5 => ?_⟩
            cases b with
            | false =>
              simp only at el2
              rw [if_neg (by decide)]
              obtain ⟨n1, n2, n3⟩ := (x24.trans x5).nobody hd o2 z2 f3 R5
              have R6 := R5.wipe vs
              rw [hwp] at R6
              exact ⟨Z5, O5, _, ac, acc, yr, x14.trans x5, R6, n1, ra.mono (x24.z.trans x5.z), n2, n3, by omega, el2, ey⟩
            | true =>
              simp only at el2
              rw [if_pos rfl]
              cases ee : e ρc with
              | exc _ => rw [ee] at el2; cases el2
              | bad => rw [ee] at el2; cases el2
              | ok p4 =>
                obtain ⟨yv, ρd⟩ := p4
                rw [ee] at el2
                obtain ⟨⟨yr', ρf⟩, el3, e3⟩ := Option.map_eq_some_iff.mp el2
                cases e3
                refine ⟨Z5, O5, C, ρc, R5, yv, ρd, ee, fun u H6 Z6 O6 x6 R6 r6 => ?_⟩
                obtain ⟨n1, n2, n3⟩ := ((x24.trans x5).trans x6).nobody hd o2 z2 f3 R6
                have R7 := (R6.wipe vs).free (o := .lst (ac ++ [u])) n2 n3 f3
                rw [hwp] at R7
                exact ⟨ac, n1, by rw [ra.length]; omega, Z6, O6, _, ac ++ [u], acc ++ [yv], yr', ((x14.trans x5).trans x6).free hD, R7, upd_same, (ra.mono ((x24.z.trans x5.z).trans x6.z)).append (.one r6), n2, n3, by simp; omega, el3, by rw [ey]; simp⟩
      · have e1 : i = xs.length := by omega
        subst e1
        rw [List.drop_length] at el2
        cases el2
        refine .inl ⟨w.stop _ Z2 H2 x2.z R2.zh R2.ch (Nat.le_refl _), ?_⟩
        have R3 := EnvR.unwipe R1 x2.z R2
        subst ey
        rw [List.append_nil] at k
        exact k (.ref D) H2 Z2 O2 (x1.trans x2) R3 ⟨D, ac, rfl, o2, z2, f3, x1.fresh hD, hd, ra⟩

theorem runSet {K : PySem.W.Frag} {mg : MG} {i : Nat} {d : DO} {D : Ends} {σ : L2.St} {H : Hp} (h : TSt K mg (sSet i d) D σ H) : TOw K mg d σ H fun v H1 => gName i v σ H1 D.nx := by
  obtain ⟨Z, O, C, ρ, R, h⟩ := h
  unfold sSet at h
  cases e : d ρ with
  | ok p =>
    rw [e] at h
    unfold asg at h
    refine ⟨Z, O, C, ρ, R, p.1, p.2, e, fun v H' Z' O' x R' r => ?_⟩
    simp only at h
    split at h
    · rename_i hl
      obtain ⟨R2, n2⟩ := R'.place hl r
      exact h _ H' Z' _ (x.place n2) R2
    · exact h.elim
  | exc _ => rw [e] at h; exact h.elim
  | bad => rw [e] at h; exact h.elim
section
variable {X : Cx} {elt tg iter : Expr} {ifs : List Expr} {scope : Scope} {own : List (Str × Nat)} {pos : Pos} {it : DI} {g : DG} {t : DT} {e : DV} {ws : List Nat}
theorem pow_lc (hc : X.calm = true) (hN : X.N.Nodup) (hi : PIt X tg iter it) (ok : BlkOk X.N X.env.scope scope own)
    (hg : ∀ (s : Shared) (H : Hp) (C : Addr) (cl : List (Str × Addr)) (fp : List Addr), PGt (X.blk s H scope (compEnvC scope cl C X.env) fp) tg g ws) (ht : ∀ (s : Shared) (H : Hp) (C : Addr) (cl : List (Str × Addr)) (fp : List Addr), PTts (X.blk s H scope (compEnvC scope cl C X.env) fp) ifs t)
    (he : ∀ (s : Shared) (H : Hp) (C : Addr) (cl : List (Str × Addr)) (fp : List Addr), PV (X.blk s H scope (compEnvC scope cl C X.env) fp) elt e) (hw : ∀ i ∈ ws, i ∈ own.map (·.2)) (hs : ∀ x, foldedSetIterable iter X.env x = pure x := by intro _; rfl) :
    POw X (.ListComp elt [⟨tg, iter, ifs, 0⟩] scope pos) (dLc it g t e (own.map (·.2))) := PE.imp (pe_lc hc hN hi ok hg ht he hs) fun _ _ _ => lc_run hw
theorem st_setLc {i : Nat} {y : Str} {py spos : Pos} (hc : X.calm = true) (hN : X.N.Nodup) (hy : X.N[i]? = some y) (hyl : X.env.scope.names.lookup y = some .local)
    (hsw : swapsWith (.ListComp elt [⟨tg, iter, ifs, 0⟩] scope pos) (some (.Name y py)) spos.line X.env = pure true) (hi : PIt X tg iter it) (ok : BlkOk X.N X.env.scope scope own)
    (hg : ∀ (s : Shared) (H : Hp) (C : Addr) (cl : List (Str × Addr)) (fp : List Addr), PGt (X.blk s H scope (compEnvC scope cl C X.env) fp) tg g ws) (ht : ∀ (s : Shared) (H : Hp) (C : Addr) (cl : List (Str × Addr)) (fp : List Addr), PTts (X.blk s H scope (compEnvC scope cl C X.env) fp) ifs t)
    (he : ∀ (s : Shared) (H : Hp) (C : Addr) (cl : List (Str × Addr)) (fp : List Addr), PV (X.blk s H scope (compEnvC scope cl C X.env) fp) elt e) (hw : ∀ i ∈ ws, i ∈ own.map (·.2)) (hs : ∀ x, foldedSetIterable iter X.env x = pure x := by intro _; rfl) :
    PSt X (.Assign [.Name y py] (.ListComp elt [⟨tg, iter, ifs, 0⟩] scope pos) spos) (sSet i (dLc it g t e (own.map (·.2)))) := PS.imp (ps_setLc hc hN hy hyl hsw hi ok hg ht he hs) fun D σ H h => lc_run hw (runSet h)
end

/-! ### two clauses -/
/-- the second clause's turns, for one item of the first -/
def lcL2 (it1 : DI) (g1 : DG) (t1 : DT) (e : DV) (vs1 : List Nat) (ρ : Env) : Option (List Val × Env) := match it1 ρ with
  | .ok (xs, ρ1) => if xs.length ≤ sizeLine then (lcL g1 t1 e vs1 xs (wipeE ρ1 vs1)).map fun p => (p.1, rest ρ1 vs1 p.2) else none
  | _ => none
def lcO (g : DG) (t : DT) (f : Env → Option (List Val × Env)) (vs : List Nat) : List Val → Env → Option (List Val × Env)
  | [], ρ => some ([], ρ)
  | x :: xs, ρ => match g x ρ with
    | some ρ1 => match t ρ1 with
      | .ok (true, ρ2) => match f ρ2 with
        | some (ys, ρ3) => (lcO g t f vs xs (wipeE ρ3 vs)).map fun p => (ys ++ p.1, p.2)
        | none => none
      | .ok (false, ρ2) => lcO g t f vs xs (wipeE ρ2 vs)
      | _ => none
    | none => none
def dLc2 (it : DI) (g : DG) (t : DT) (it1 : DI) (g1 : DG) (t1 : DT) (e : DV) (vs vs1 : List Nat) : DO := fun ρ => match it ρ with
  | .ok (xs, ρ1) => match lcO g t (lcL2 it1 g1 t1 e vs1) vs xs (wipeE ρ1 vs) with
    | some (ys, ρ2) => if ys.length ≤ sizeLine then .ok (.own ys, rest ρ1 vs ρ2) else .bad
    | none => .bad
  | _ => .bad

/-- where the new list is, and what it holds -/
structure Acc (K : PySem.W.Frag) (mg : MG) (Z H : Hp) (O : Lab) (D : Addr) (acc : List Val) : Prop where
  ex : ∃ ac, H D = some (.lst ac) ∧ Rls K mg Z ac acc
  o : O D = none
  z : Z D = none
theorem Acc.step {K : PySem.W.Frag} {mg : MG} {Z H Z1 H1 : Hp} {O O1 : Lab} {C : Lk} {σ : L2.St} {ρ : Env} {D : Addr} {acc : List Val} (a : Acc K mg Z H O D acc) (x : Ext Z H O Z1 H1 O1) (hc : C D = none) (R : EnvR K mg Z1 H1 O1 C σ ρ) : Acc K mg Z1 H1 O1 D acc := by
  obtain ⟨ac, h1, h2⟩ := a.ex
  obtain ⟨n1, n2, n3⟩ := x.nobody h1 a.o a.z hc R
  exact ⟨⟨ac, n1, h2.mono x.z⟩, n2, n3⟩
theorem lc_inner {K : PySem.W.Frag} {mg : MG} {it : DI} {g : DG} {t : DT} {e : DV} {vs ws : List Nat} (hw : ∀ i ∈ ws, i ∈ vs) {σ : L2.St} {Z0 H0 Z H : Hp} {O0 O : Lab} {C : Lk} {ρ ρ3 : Env} {D : Addr} {acc ys : List Val} {Nx : Hp → Prop}
    (R : EnvR K mg Z H O C σ ρ) (x0 : Ext Z0 H0 O0 Z H O) (h0 : H0 D = none) (hc : C D = none) (A : Acc K mg Z H O D acc) (hl : lcL2 it g t e vs ρ = some (ys, ρ3)) (hz : (acc ++ ys).length ≤ sizeLine)
    (hN : ∀ Z' H' O', Ext Z0 H0 O0 Z' H' O' → EnvR K mg Z' H' O' C σ ρ3 → Acc K mg Z' H' O' D (acc ++ ys) → Nx H') :
    TIt K mg it σ H fun J1 H4 => ∃ W1 : Nat → Nat → Hp → Prop, (∃ m, W1 0 m H4) ∧ ∀ j k H, W1 j k H →
      (J1.stop j H ∧ Nx H) ∨ (J1.go j H ∧ ∃ Nx1 : Hp → Prop, (∀ H', Nx1 H' → ∃ k', k' < k ∧ W1 (j + 1) k' H') ∧ ∀ x H', J1.yld j H x H' → TGt K mg g ws x (wipe σ vs) H' fun σ3 H5 => wipe σ3 vs = wipe σ vs ∧ TTt K mg t σ3 H5 fun b H6 =>
        if b = true then TV K mg e σ3 H6 fun y H7 => ∃ acc, H7 D = some (.lst acc) ∧ acc.length < sizeLine ∧ Nx1 (upd H7 D (.lst (acc ++ [y]))) else Nx1 H6) := by
  unfold lcL2 at hl
  cases ei : it ρ with
  | exc _ => rw [ei] at hl; cases hl
  | bad => rw [ei] at hl; cases hl
  | ok p =>
    obtain ⟨xs, ρ1⟩ := p
    rw [ei] at hl
    simp only at hl
    split at hl
    case isFalse => cases hl
    obtain ⟨⟨ys', ρ2⟩, el, e0⟩ := Option.map_eq_some_iff.mp hl
    cases e0
    refine ⟨Z, O, C, ρ, R, xs, ρ1, ei, fun J H1 Z1 O1 x1 R1 w => ?_⟩
    have A1 := A.step x1 hc R1
    refine ⟨fun i m H2 => m = xs.length - i ∧ i ≤ xs.length ∧ ∃ Z2 O2 ρa ac yr, Ext Z0 H0 O0 Z2 H2 O2 ∧ Same Z1 Z2 ∧ EnvR K mg Z2 H2 O2 C (wipe σ vs) ρa ∧ Acc K mg Z2 H2 O2 D ac ∧ lcL g t e vs (xs.drop i) ρa = some (yr, ρ2) ∧ acc ++ ys' = ac ++ yr, ⟨_, rfl, Nat.zero_le _, Z1, O1, wipeE ρ1 vs, acc, ys', x0.trans x1, Same.refl _, R1.wipe vs, A1, by simpa using el, rfl⟩, ?_⟩
    rintro i m H2 ⟨rfl, hi, Z2, O2, ρa, ac, yr, x2, z12, R2, A2, el2, ey⟩
    by_cases hlt : i < xs.length
    · refine .inr ⟨w.go i Z2 H2 z12 R2.zh R2.ch hlt, _, fun H' hN => ⟨_, Nat.sub_lt_sub_left hlt (Nat.lt_succ_self i), rfl, hlt, hN⟩, fun v H3 y => ?_⟩
      obtain ⟨Z3, z, gr, hz2, rz⟩ := w.yld i Z2 H2 v H3 z12 R2.zh R2.ch hlt y
      have ed : xs.drop i = z :: xs.drop (i + 1) := by
        rw [List.drop_eq_getElem_cons hlt]
        have : xs[i] = z := by rw [List.getElem?_eq_getElem hlt] at hz2; exact Option.some.inj hz2
        rw [this]
      rw [ed] at el2
      unfold lcL at el2
      cases eg : g z ρa with
      | none => rw [eg] at el2; cases el2
      | some ρb =>
        rw [eg] at el2
        simp only at el2
        have R3 := R2.grow gr
        refine ⟨Z3, O2, C, ρa, R3, z, ρb, rz, eg, fun σ4 O4 x4 hoff R4 => ?_⟩
        have hwp : wipe σ4 vs = wipe σ vs := by rw [wipe_eq hoff hw, wipe_twice]
        refine ⟨hwp, ?_⟩
        have x24 : Ext Z2 H2 O2 Z3 H3 O4 := gr.ext.trans x4
        cases et : t ρb with
        | exc _ => rw [et] at el2; cases el2
        | bad => rw [et] at el2; cases el2
        | ok p3 =>
          obtain ⟨b, ρc⟩ := p3
          rw [et] at el2
          refine ⟨Z3, O4, C, ρb, R4, b, ρc, et, fun H5 Z5 O5 x5 R5 => ?_⟩
          cases b with
          | false =>
            simp only at el2
            rw [if_neg (by decide)]
            have R6 := R5.wipe vs
            rw [hwp] at R6
            exact ⟨Z5, O5, _, ac, yr, x2.trans (x24.trans x5), z12.trans (x24.trans x5).z, R6, A2.step (x24.trans x5) hc R5, el2, ey⟩
          | true =>
            simp only at el2
            rw [if_pos rfl]
            cases ee : e ρc with
            | exc _ => rw [ee] at el2; cases el2
            | bad => rw [ee] at el2; cases el2
            | ok p4 =>
              obtain ⟨yv, ρd⟩ := p4
              rw [ee] at el2
              obtain ⟨⟨yr', ρf⟩, el3, e3⟩ := Option.map_eq_some_iff.mp el2
              cases e3
              refine ⟨Z5, O5, C, ρc, R5, yv, ρd, ee, fun u H6 Z6 O6 x6 R6 r6 => ?_⟩
              have x26 := (x24.trans x5).trans x6
              obtain ⟨⟨aw, n1, ra⟩, n2, n3⟩ := A2.step x26 hc R6
              have R7 := (R6.wipe vs).free (o := .lst (aw ++ [u])) n2 n3 hc
              rw [hwp] at R7
              refine ⟨aw, n1, ?_, Z6, O6, _, ac ++ [yv], yr', (x2.trans x26).free h0, z12.trans x26.z, R7, ⟨⟨_, upd_same, ra.append (.one r6)⟩, n2, n3⟩, el3, by rw [ey]; simp⟩
              rw [ra.length]
              rw [ey] at hz
              simp at hz
              omega
    · have e1 : i = xs.length := by omega
      subst e1
      rw [List.drop_length] at el2
      cases el2
      refine .inl ⟨w.stop _ Z2 H2 z12 R2.zh R2.ch (Nat.le_refl _), hN Z2 H2 O2 x2 (EnvR.unwipe R1 z12 R2) ?_⟩
      rw [ey, List.append_nil]
      exact A2
theorem lc2_run {K : PySem.W.Frag} {mg : MG} {it it1 : DI} {g g1 : DG} {t t1 : DT} {e : DV} {vs vs1 ws ws1 : List Nat} (hw : ∀ i ∈ ws, i ∈ vs) (hw1 : ∀ i ∈ ws1, i ∈ vs1) {σ : L2.St} {H : Hp} {Q : VK} (h : TOw K mg (dLc2 it g t it1 g1 t1 e vs vs1) σ H Q) :
    tLc2 (TIt K mg it) (TGt K mg g ws) (TTt K mg t) (TIt K mg it1) (TGt K mg g1 ws1) (TTt K mg t1) (TV K mg e) vs vs1 σ H Q := by
  obtain ⟨Z, O, C, ρ, R, s, ρ', q, k⟩ := h
  unfold dLc2 at q
  cases ei : it ρ with
  | exc _ => rw [ei] at q; cases q
  | bad => rw [ei] at q; cases q
  | ok p =>
    obtain ⟨xs, ρ1⟩ := p
    rw [ei] at q
    simp only at q
    cases el : lcO g t (lcL2 it1 g1 t1 e vs1) vs xs (wipeE ρ1 vs) with
    | none => rw [el] at q; cases q
    | some p2 =>
      obtain ⟨ys, ρ2⟩ := p2
      rw [el] at q
      simp only at q
      split at q
      case isFalse => cases q
      rename_i hz
      cases q
      refine ⟨Z, O, C, ρ, R, xs, ρ1, ei, fun J H1 Z1 O1 x1 R1 w => fun D hD => ?_⟩
      obtain ⟨f1, f2, f3⟩ := R1.fresh hD
      refine ⟨fun i m H2 => m = xs.length - i ∧ i ≤ xs.length ∧ ∃ Z2 O2 ρa acc yr, Ext Z1 H1 O1 Z2 H2 O2 ∧ EnvR K mg Z2 H2 O2 C (wipe σ vs) ρa ∧ Acc K mg Z2 H2 O2 D acc ∧ lcO g t (lcL2 it1 g1 t1 e vs1) vs (xs.drop i) ρa = some (yr, ρ2) ∧ ys = acc ++ yr, ⟨_, rfl, Nat.zero_le _, Z1, O1, wipeE ρ1 vs, [], ys, (Ext.refl Z1 H1 O1).free hD, (R1.wipe vs).free f1 f2 f3, ⟨⟨[], upd_same, .nil⟩, f1, f2⟩, by simpa using el, rfl⟩, ?_⟩
      rintro i m H2 ⟨rfl, hi, Z2, O2, ρa, acc, yr, x2, R2, A2, el2, ey⟩
      by_cases hlt : i < xs.length
      · refine .inr ⟨w.go i Z2 H2 x2.z R2.zh R2.ch hlt, _, fun H' hN => ⟨_, Nat.sub_lt_sub_left hlt (Nat.lt_succ_self i), rfl, hlt, hN⟩, fun v H3 y => ?_⟩
        obtain ⟨Z3, z, gr, hz2, rz⟩ := w.yld i Z2 H2 v H3 x2.z R2.zh R2.ch hlt y
        have ed : xs.drop i = z :: xs.drop (i + 1) := by
          rw [List.drop_eq_getElem_cons hlt]
          have : xs[i] = z := by rw [List.getElem?_eq_getElem hlt] at hz2; exact Option.some.inj hz2
          rw [this]
        rw [ed] at el2
        unfold lcO at el2
        cases eg : g z ρa with
        | none => rw [eg] at el2; cases el2
        | some ρb =>
          rw [eg] at el2
          simp only at el2
          have R3 := R2.grow gr
          refine ⟨Z3, O2, C, ρa, R3, z, ρb, rz, eg, fun σ4 O4 x4 hoff R4 => ?_⟩
          have hwp : wipe σ4 vs = wipe σ vs := by rw [wipe_eq hoff hw, wipe_twice]
          refine ⟨hwp, ?_⟩
          have x24 : Ext Z2 H2 O2 Z3 H3 O4 := gr.ext.trans x4
          cases et : t ρb with
          | exc _ => rw [et] at el2; cases el2
          | bad => rw [et] at el2; cases el2
          | ok p3 =>
            obtain ⟨b, ρc⟩ := p3
            rw [et] at el2
            refine ⟨Z3, O4, C, ρb, R4, b, ρc, et, fun H5 Z5 O5 x5 R5 => ?_⟩
            cases b with
            | false =>
              simp only at el2
              rw [if_neg (by decide)]
              have R6 := R5.wipe vs
              rw [hwp] at R6
              exact ⟨Z5, O5, _, acc, yr, x2.trans (x24.trans x5), R6, A2.step (x24.trans x5) f3 R5, el2, ey⟩
            | true =>
              simp only at el2
              rw [if_pos rfl]
              cases ef : lcL2 it1 g1 t1 e vs1 ρc with
              | none => rw [ef] at el2; cases el2
              | some p4 =>
                obtain ⟨yi, ρd⟩ := p4
                rw [ef] at el2
                obtain ⟨⟨yr', ρf⟩, el3, e3⟩ := Option.map_eq_some_iff.mp el2
                cases e3
                refine lc_inner hw1 R5 (x2.trans (x24.trans x5)) hD f3 (A2.step (x24.trans x5) f3 R5) ef ?_ fun Z6 H6 O6 x6 R6 A6 => ?_
                · rw [ey] at hz
                  simp at hz ⊢
                  omega
                · have R7 := R6.wipe vs
                  rw [hwp] at R7
                  exact ⟨Z6, O6, _, acc ++ yi, yr', x6, R7, A6, el3, by rw [ey]; simp⟩
      · have e1 : i = xs.length := by omega
        subst e1
        rw [List.drop_length] at el2
        cases el2
        refine .inl ⟨w.stop _ Z2 H2 x2.z R2.zh R2.ch (Nat.le_refl _), ?_⟩
        have R3 := EnvR.unwipe R1 x2.z R2
        obtain ⟨⟨ac, hd, ra⟩, o2, z2⟩ := A2
        subst ey
        rw [List.append_nil] at k
        exact k (.ref D) H2 Z2 O2 (x1.trans x2) R3 ⟨D, ac, rfl, o2, z2, f3, x1.fresh hD, hd, ra⟩
section
variable {X : Cx} {elt tg iter tg1 iter1 : Expr} {ifs ifs1 : List Expr} {scope : Scope} {own : List (Str × Nat)} {vs1 : List Nat} {pos : Pos} {it it1 : DI} {g g1 : DG} {t t1 : DT} {e : DV} {ws ws1 : List Nat}
theorem pow_lc2 (hc : X.calm = true) (hN : X.N.Nodup) (hi : PIt X tg iter it) (ok : BlkOk X.N X.env.scope scope own) (hv : ∀ i ∈ vs1, i ∈ own.map (·.2))
    (hg : ∀ (s : Shared) (H : Hp) (C : Addr) (cl : List (Str × Addr)) (fp : List Addr), PGt (X.blk s H scope (compEnvC scope cl C X.env) fp) tg g ws) (ht : ∀ (s : Shared) (H : Hp) (C : Addr) (cl : List (Str × Addr)) (fp : List Addr), PTts (X.blk s H scope (compEnvC scope cl C X.env) fp) ifs t)
    (hi1 : ∀ (s : Shared) (H : Hp) (C : Addr) (cl : List (Str × Addr)) (fp : List Addr), PIt (X.blk s H scope (compEnvC scope cl C X.env) fp) tg1 iter1 it1)
    (hg1 : ∀ (s : Shared) (H : Hp) (C : Addr) (cl : List (Str × Addr)) (fp : List Addr), PGt (X.blk s H scope (compEnvC scope cl C X.env) fp) tg1 g1 ws1) (ht1 : ∀ (s : Shared) (H : Hp) (C : Addr) (cl : List (Str × Addr)) (fp : List Addr), PTts (X.blk s H scope (compEnvC scope cl C X.env) fp) ifs1 t1)
    (he : ∀ (s : Shared) (H : Hp) (C : Addr) (cl : List (Str × Addr)) (fp : List Addr), PV (X.blk s H scope (compEnvC scope cl C X.env) fp) elt e) (hw : ∀ i ∈ ws, i ∈ own.map (·.2)) (hw1 : ∀ i ∈ ws1, i ∈ vs1) (hs : ∀ x, foldedSetIterable iter X.env x = pure x := by intro _; rfl) (hs1 : ∀ env x, foldedSetIterable iter1 env x = pure x := by intro _ _; rfl) :
    POw X (.ListComp elt [⟨tg, iter, ifs, 0⟩, ⟨tg1, iter1, ifs1, 0⟩] scope pos) (dLc2 it g t it1 g1 t1 e (own.map (·.2)) vs1) := PE.imp (pe_lc2 hc hN hi ok hv hg ht hi1 hg1 ht1 he hs hs1) fun _ _ _ => lc2_run hw hw1
theorem st_setLc2 {i : Nat} {y : Str} {py spos : Pos} (hc : X.calm = true) (hN : X.N.Nodup) (hy : X.N[i]? = some y) (hyl : X.env.scope.names.lookup y = some .local)
    (hsw : swapsWith (.ListComp elt [⟨tg, iter, ifs, 0⟩, ⟨tg1, iter1, ifs1, 0⟩] scope pos) (some (.Name y py)) spos.line X.env = pure true) (hi : PIt X tg iter it) (ok : BlkOk X.N X.env.scope scope own) (hv : ∀ i ∈ vs1, i ∈ own.map (·.2))
    (hg : ∀ (s : Shared) (H : Hp) (C : Addr) (cl : List (Str × Addr)) (fp : List Addr), PGt (X.blk s H scope (compEnvC scope cl C X.env) fp) tg g ws) (ht : ∀ (s : Shared) (H : Hp) (C : Addr) (cl : List (Str × Addr)) (fp : List Addr), PTts (X.blk s H scope (compEnvC scope cl C X.env) fp) ifs t)
    (hi1 : ∀ (s : Shared) (H : Hp) (C : Addr) (cl : List (Str × Addr)) (fp : List Addr), PIt (X.blk s H scope (compEnvC scope cl C X.env) fp) tg1 iter1 it1)
    (hg1 : ∀ (s : Shared) (H : Hp) (C : Addr) (cl : List (Str × Addr)) (fp : List Addr), PGt (X.blk s H scope (compEnvC scope cl C X.env) fp) tg1 g1 ws1) (ht1 : ∀ (s : Shared) (H : Hp) (C : Addr) (cl : List (Str × Addr)) (fp : List Addr), PTts (X.blk s H scope (compEnvC scope cl C X.env) fp) ifs1 t1)
    (he : ∀ (s : Shared) (H : Hp) (C : Addr) (cl : List (Str × Addr)) (fp : List Addr), PV (X.blk s H scope (compEnvC scope cl C X.env) fp) elt e) (hw : ∀ i ∈ ws, i ∈ own.map (·.2)) (hw1 : ∀ i ∈ ws1, i ∈ vs1) (hs : ∀ x, foldedSetIterable iter X.env x = pure x := by intro _; rfl) (hs1 : ∀ env x, foldedSetIterable iter1 env x = pure x := by intro _ _; rfl) :
    PSt X (.Assign [.Name y py] (.ListComp elt [⟨tg, iter, ifs, 0⟩, ⟨tg1, iter1, ifs1, 0⟩] scope pos) spos) (sSet i (dLc2 it g t it1 g1 t1 e (own.map (·.2)) vs1)) := PS.imp (ps_setLc2 hc hN hy hyl hsw hi ok hv hg ht hi1 hg1 ht1 he hs hs1) fun D σ H h => lc2_run hw hw1 (runSet h)
end
end Ev

/-! Ev: lists that change, methods, sorted. -/
namespace Ev
open PySem PySem.Spec PyProof.Rows L2

theorem list_extend_tupAt (l : Addr) (items : Array Value) (n : Nat) (b : Addr) (items2 : Array Value) (n2 : Nat) (dd : Option Addr) (sl : Array (Option Value)) (hs0 : ¬(!items.isEmpty && Builtin.List.listTooLong (items.size + items2.size)) = true) (hs1 : items.size ≤ sizeLine) (hs2 : items.size + items2.size ≤ sizeLine + 1) :
    Meets (Builtin.«list.extend» ⟨[.ref l, .ref b], []⟩) (fun _ R s => s.heap.get? l = some { cls := .type "list", dict := none, data := .seq items n, slots := #[] } ∧ s.heap.get? b = some { cls := .type "tuple", dict := dd, data := .seq items2 n2, slots := sl } ∧ R (.ok (.ret Value.none)) { s with heap := s.heap.update l (Obj.mapSeq fun x => x ++ items2), toks := s.toks }) :=
  .of_wp fun prog w A R s h => by
    obtain ⟨hp, g, d, tk, os⟩ := s; obtain ⟨hl, hb, h⟩ := h; have f1 := AutoSeq1.idx_int; have f2 := AutoSeq1.sub_tuple_tuple; have f3 := AutoSeq1.sub_list_list; have f4 := AutoSeq1.sub_tuple_list; have f5 := AutoSeq1.sub_list_tuple;
    have hz' : (items ++ items2).size ≤ sizeLine + 1 := by rw [Array.size_append]; exact hs2
    wp_walk using (wpAny_updateSeq hl rfl (hz := hs1) (_hz' := hz')), AutoSeq1.wpAny_loadPart' hl, AutoSeq1.wpAny_loadPart' hb; exact ⟨_, rfl, h⟩
def lstOf : Sl → Option (List Val)
  | .own xs => some xs
  | .par xs => some xs
  | _ => none
def setL : Sl → List Val → Sl
  | .own _, ys => .own ys
  | .par _, ys => .par ys
  | s, _ => s
section
variable {K : PySem.W.Frag} {mg : MG} {Z H : Hp} {O : Lab} {C : Lk} {σ : L2.St} {ρ : Env}
/-- a thing of a slot's is changed -/
theorem EnvR.chg (R : EnvR K mg Z H O C σ ρ) {a : Addr} {i q : Nat} {o : HO} {s : Sl} (ho : O a = some (i, q)) (hs : SlotR K mg Z (upd H a o) O C i σ[i]? s) :
    EnvR K mg Z (upd H a o) O C σ (ρ.set i s) ∧ Ext Z H O Z (upd H a o) O := by
  obtain ⟨h1, h2, h3⟩ := R.oz a (by rw [ho]; simp)
  refine ⟨⟨by rw [List.length_set]; exact R.len, same_updF R.zh h1, same_updF R.ch h2, fun b hb => ?_, fun b j q' h => by rw [List.length_set]; exact R.ob b j q' h, fun j t ej => ?_⟩, ⟨Same.refl Z, fun b u e1 e2 => ⟨?_, e2⟩, fun b e => ?_, fun b j q' h => .inr ⟨q', h⟩, fun b h => .inl h⟩⟩
  · obtain ⟨k1, k2, k3⟩ := R.oz b hb
    refine ⟨k1, k2, ?_⟩
    by_cases e : b = a
    · rw [e, upd_same]; simp
    · rw [upd_ne e]; exact k3
  · by_cases hj : j = i
    · subst hj
      by_cases hl : j < ρ.length
      · rw [List.getElem?_set_self hl] at ej; cases ej; exact hs
      · rw [List.getElem?_eq_none (by simpa using hl)] at ej; cases ej
    · rw [List.getElem?_set_ne (Ne.symm hj)] at ej
      exact (R.sl j t ej).keep (Same.refl Z) fun b q' hb => ⟨upd_ne (fun z => by rw [z, ho] at hb; cases hb; exact hj rfl), hb⟩
  · rw [upd_ne (fun z => by rw [z, ho] at e2; cases e2)]; exact e1
  · by_cases h : b = a
    · rw [h, upd_same]; simp
    · rw [upd_ne h]; exact e
theorem EnvR.lst (R : EnvR K mg Z H O C σ ρ) {i : Nat} {s0 : Sl} {ys : List Val} (e : ρ[i]? = some s0) (hl : lstOf s0 = some ys) :
    ∃ a ws, σ[i]? = some (some (.ref a)) ∧ H a = some (.lst ws) ∧ Rls K mg Z ws ys ∧
      ∀ ws' ys', Rls K mg Z ws' ys' → EnvR K mg Z (upd H a (.lst ws')) O C σ (ρ.set i (setL s0 ys')) ∧ Ext Z H O Z (upd H a (.lst ws')) O := by
  have z := R.sl i s0 e
  cases s0 with
  | own xs =>
    cases hl
    obtain ⟨a, ws, ea, o, m, r⟩ := z
    exact ⟨a, ws, ea, m, r, fun ws' ys' r' => R.chg o ⟨a, ws', ea, o, upd_same, r'⟩⟩
  | par xs =>
    cases hl
    obtain ⟨a, ws, ea, o, m, r, fx⟩ := z
    exact ⟨a, ws, ea, m, r, fun ws' ys' r' => R.chg o ⟨a, ws', ea, o, upd_same, r', fx⟩⟩
  | _ => cases hl
end

/-! ### a method that changes its list -/
def rU (K : PySem.W.Frag) (mg : MG) (g : List Val → List Val → Option (Val × List Val)) : V → List V → Hp → VK → Prop := fun x vs H Q => ∃ Z a ws ys xs z ys', Same Z H ∧ x = .ref a ∧ H a = some (.lst ws) ∧ Rls K mg Z ws ys ∧ Rls K mg Z vs xs ∧ g ys xs = some (z, ys') ∧
  ∀ u ws', Rl K mg Z u z → Rls K mg Z ws' ys' → Q u (upd H a (.lst ws'))
def dU (g : List Val → List Val → Option (Val × List Val)) (i : Nat) (d : DA) : DV := fun ρ => match (ρ[i]?).bind lstOf with
  | some _ => (d ρ).bind fun p => Out.of ((takes p.2 p.1).bind fun q => (q.2[i]?).bind fun s => (lstOf s).bind fun ys => (g ys q.1).map fun r => (r.1, q.2.set i (setL s r.2)))
  | none => .bad
section
variable {X : Cx} {o e : Expr} {es : List Expr} {name : Str} {apos cpos : Pos} {id : String} {g : List Val → List Val → Option (Val × List Val)} {i : Nat} {d : DA}
theorem runU {K : PySem.W.Frag} {mg : MG} {σ : L2.St} {H : Hp} {Q : VK} (h : TV K mg (dU g i d) σ H Q) : tBM K "list" (rU K mg g) (tVar i) (TAs K mg d) σ H Q := by
  obtain ⟨Z, O, C, ρ, R, x, ρ', q, k⟩ := h
  unfold dU at q
  cases e0 : (ρ[i]?).bind lstOf with
  | none => rw [e0] at q; cases q
  | some ys0 =>
    rw [e0] at q
    obtain ⟨s0, e1, e2⟩ := Option.bind_eq_some_iff.mp e0
    obtain ⟨a, ws, ea, m, r, _⟩ := R.lst e1 e2
    obtain ⟨⟨hs, ρ1⟩, e3, q⟩ := Out.bind_ok q
    obtain ⟨⟨xs, ρ2⟩, e4, q⟩ := Option.bind_eq_some_iff.mp (Out.of_ok q)
    obtain ⟨s, e5, q⟩ := Option.bind_eq_some_iff.mp q
    obtain ⟨ys, e6, q⟩ := Option.bind_eq_some_iff.mp q
    obtain ⟨⟨z, ys'⟩, e7, q⟩ := Option.map_eq_some_iff.mp q
    cases q
    refine ⟨.ref a, ea, .inl ⟨rfl, _, SqL.of m⟩, Z, O, C, ρ, R, hs, ρ1, e3, fun vs H1 Z1 O1 x1 R1 r1 => ?_⟩
    obtain ⟨Z2, O2, x2, R2, r2⟩ := takes_ok R1 r1 e4
    obtain ⟨a2, ws2, ea2, m2, rr, nx⟩ := R2.lst e5 e6
    rw [ea] at ea2
    cases ea2
    refine ⟨Z2, a, ws2, ys, xs, z, ys', R2.zh, rfl, m2, rr, r2, e7, fun u ws' ru rw' => ?_⟩
    obtain ⟨R3, x3⟩ := nx ws' ys' rw'
    exact k u _ Z2 O2 ((x1.trans x2).trans x3) R3 ru
theorem pv_bmU (slot : Slot "list" name id) (hty : typeOf (.builtin id) = pure (.type "method_descriptor")) (hm : MtR X id (rU X.K X.mg g)) (ho : PE X o (tVar i)) (ha : PAs X (e :: es) d)
    (hbase : attributeBase o name X.env (eval o X.env) = eval o X.env := by rfl)
    (hfew : ((backTo cpos (starEach (e :: es) X.env)).all (fun x => !x.1) && (backToKw cpos (keywordEach [] X.env)).all (fun x => x.1.isSome)
      && decide ((e :: es).length + ([] : List Keyword).length + (if ([] : List Keyword).isEmpty then 0 else 1) < 30)) = true := by rfl)
    (hline : (apos.endLine == cpos.line) = true := by rfl) (hs : starEach (e :: es) X.env = (false, eval e X.env) :: starEach es X.env := by rfl) (hplain : (backTo cpos (starEach es X.env)).any (·.1) = false := by rfl) :
    PV X (.Call (.Attribute o name apos) (e :: es) [] cpos) (dU g i d) := PE.imp (pe_bm PySem.F.plainAttrs_list slot hty hm ho ha hbase hfew hline hs hplain) fun _ _ _ => runU
theorem pv_bmU0 (slot : Slot "list" name id) (hty : typeOf (.builtin id) = pure (.type "method_descriptor")) (hm : MtR X id (rU X.K X.mg g)) (ho : PE X o (tVar i))
    (hbase : attributeBase o name X.env (eval o X.env) = eval o X.env := by rfl) (hline : (apos.endLine == cpos.line) = true := by rfl) :
    PV X (.Call (.Attribute o name apos) [] [] cpos) (dU g i aNil) := PE.imp (pe_bm0 PySem.F.plainAttrs_list slot hty hm ho hbase hline) fun σ H Q h => by
  obtain ⟨v, e1, e2, Z, O, C, ρ, R, hs, ρ', e3, k⟩ := runU h
  cases e3
  exact ⟨v, e1, e2, k [] H Z O (Ext.refl _ _ _) R .nil⟩
def appV (ys xs : List Val) : Option (Val × List Val) := match xs with
  | [x] => if ys.length < sizeLine then some (.non, ys ++ [x]) else none
  | _ => none
theorem m_append : MtR X "list.append" (rU X.K X.mg appV) := MtR.imp mt_append fun v vs H Q ⟨Z, a, ws, ys, xs, z, ys', zh, e1, m, r, rx, e, q⟩ => by
  cases rx with
  | nil => cases e
  | cons r1 t =>
    cases t with
    | cons _ _ => cases e
    | nil =>
      unfold appV at e
      simp only at e
      split at e
      · rename_i hl
        cases e
        exact ⟨a, ws, _, e1, rfl, m, by rw [r.length]; exact hl, q _ _ .non (r.append (.one r1))⟩
      · cases e
def extV (ys xs : List Val) : Option (Val × List Val) := match xs with
  | [.lst zs] => if ys.length + zs.length ≤ sizeLine then some (.non, ys ++ zs) else none
  | [.tup zs] => if ys.length + zs.length ≤ sizeLine then some (.non, ys ++ zs) else none
  | _ => none
def rExtendT : V → List V → Hp → VK → Prop := fun x vs H Q => ∃ l b xs zs, x = .ref l ∧ vs = [.ref b] ∧ H l = some (.lst xs) ∧ H b = some (.tup zs) ∧ xs.length + zs.length ≤ sizeLine ∧ Q .non (upd H l (.lst (xs ++ zs)))
theorem mt_extendT : MtR X "list.extend" rExtendT := by
  intro pins s σ H x vs v us Q I rx rv h
  obtain ⟨l, b, xs, zs, rfl, rfl, hH, hB, hz, q⟩ := h
  cases rx
  obtain ⟨u, rfl, ru⟩ := rv.one
  cases ru
  obtain ⟨z, its, n, r, hl, e⟩ := I.lstM hH
  obtain ⟨hz2, its2, r2, ⟨cls, dd, data, sl⟩, e2, hc2, n2, hd2⟩ := I.hok b _ hB
  simp only at hc2 hd2
  subst hc2 hd2
  have hl2 := r2.length
  obtain ⟨z, its, n, r, hl, e⟩ := I.lstM hH
  have hsz : its.toArray.size + its2.toArray.size ≤ sizeLine := by rw [List.size_toArray, List.size_toArray]; omega
  have hlong : ¬ (!its.toArray.isEmpty && Builtin.List.listTooLong (its.toArray.size + its2.toArray.size)) = true := by
    rw [notLongL hsz, Bool.and_false]
    exact Bool.false_ne_true
  refine call_meets F.slot_list_extend ⟨_, e, rfl⟩ F.entry_list_extend (F.args_list_extend_2 _ _)
    (list_extend_tupAt l its.toArray n b its2.toArray n2 dd sl hlong (by rw [List.size_toArray]; omega) (by omega)) ⟨e, e2, ?_⟩
  refine ⟨.non, _, I.lset (its' := its ++ its2) hH e (by simp) (r.append r2) ?_, rfl, q⟩
  rw [List.length_append]
  omega
theorem Rls.two {K : PySem.W.Frag} {mg : MG} {Z : Hp} {vs : List V} {x y : Val} (h : Rls K mg Z vs [x, y]) : ∃ u v, vs = [u, v] ∧ Rl K mg Z u x ∧ Rl K mg Z v y := by
  cases h with
  | cons a t =>
    cases t with
    | cons b t => cases t; exact ⟨_, _, rfl, a, b⟩
theorem Rls.only {K : PySem.W.Frag} {mg : MG} {Z : Hp} {vs : List V} {x : Val} (h : Rls K mg Z vs [x]) : ∃ u, vs = [u] ∧ Rl K mg Z u x := by
  cases h with
  | cons a t => cases t; exact ⟨_, rfl, a⟩
theorem m_extend : MtR X "list.extend" (rU X.K X.mg extV) := MtR.imp (MtR.or mt_extend mt_extendT) fun v vs H Q ⟨Z, a, ws, ys, xs, z, ys', zh, e1, m, r, rx, e, q⟩ => by
  unfold extV at e
  split at e
  · split at e
    · rename_i zs hl
      cases e
      obtain ⟨u, rfl, ru⟩ := rx.only
      cases ru with
      | lst mb rb => exact .inl ⟨a, _, ws, _, e1, rfl, m, zh _ _ mb, by rw [r.length, rb.length]; exact hl, q _ _ .non (r.append rb)⟩
    · cases e
  · split at e
    · rename_i zs hl
      cases e
      obtain ⟨u, rfl, ru⟩ := rx.only
      cases ru with
      | tup mb rb => exact .inr ⟨a, _, ws, _, e1, rfl, m, zh _ _ mb, by rw [r.length, rb.length]; exact hl, q _ _ .non (r.append rb)⟩
    · cases e
  · cases e
def popV (ys xs : List Val) : Option (Val × List Val) := match xs with
  | [] => (ys[ys.length - 1]?).map fun y => (y, ys.dropLast)
  | [.int i] => if -(2 ^ 63) ≤ i ∧ i < 2 ^ 63 then (seqIndex? i ys.length).bind fun k => (ys[k]?).map fun y => (y, ys.eraseIdx k) else none
  | _ => none
theorem m_pop : MtR X "list.pop" (rU X.K X.mg popV) := MtR.imp (MtR.or mt_pop mt_popAt) fun v vs H Q ⟨Z, a, ws, ys, xs, z, ys', zh, e1, m, r, rx, e, q⟩ => by
  unfold popV at e
  split at e
  · cases rx
    obtain ⟨y, h1, h2⟩ := Option.map_eq_some_iff.mp e
    cases h2
    obtain ⟨u, h3, h4⟩ := r.get h1
    exact .inl ⟨a, ws, u, e1, rfl, m, by rw [r.length]; exact h3, q _ _ h4 r.dropLast⟩
  · rename_i i
    split at e
    · rename_i hi
      obtain ⟨k, h1, e⟩ := Option.bind_eq_some_iff.mp e
      obtain ⟨y, h2, h3⟩ := Option.map_eq_some_iff.mp e
      cases h3
      obtain ⟨u, rfl, ru⟩ := rx.only
      cases ru
      obtain ⟨w, h3, h4⟩ := r.get h2
      exact .inr ⟨a, ws, i, k, w, e1, rfl, m, hi.1, hi.2, by rw [r.length]; exact h1, h3, q _ _ h4 (r.eraseIdx k)⟩
    · cases e
  · cases e
def insV (ys xs : List Val) : Option (Val × List Val) := match xs with
  | [.int i, y] => if ys.length < sizeLine ∧ 0 ≤ i ∧ i < 2 ^ 63 then some (.non, ys.take i.toNat ++ [y] ++ ys.drop i.toNat) else none
  | _ => none
theorem m_insert : MtR X "list.insert" (rU X.K X.mg insV) := MtR.imp mt_insert fun v vs H Q ⟨Z, a, ws, ys, xs, z, ys', zh, e1, m, r, rx, e, q⟩ => by
  unfold insV at e
  split at e
  · rename_i i y
    split at e
    · rename_i hi
      cases e
      obtain ⟨u, w, rfl, ru, rw'⟩ := rx.two
      cases ru
      exact ⟨a, ws, i, w, e1, rfl, m, by rw [r.length]; exact hi.1, hi.2.1, hi.2.2, q _ _ .non (((r.take _).append (.one rw')).append (r.drop _))⟩
    · cases e
  · cases e
def remV (ys xs : List Val) : Option (Val × List Val) := match xs with
  | [.int k] => (intsOf ys).bind fun ns => if k ∈ ns then some (.non, (ns.erase k).map .int) else none
  | _ => none
end
end Ev

/-! Ev: stores into lists, sorted, loops over a slot. -/
namespace Ev
open PySem PySem.Spec PyProof.Rows L2

/-! ### xs[i] = e -/
def putV (ys : List Val) (i x : Val) : Option (List Val) := match i with
  | .int k => (ixN ys.length k).map fun j => ys.set j x
  | _ => none
def sPut (i : Nat) (di dv : DV) : DS := fun ρ => match dv ρ with
  | .ok (x, ρ1) => match (ρ1[i]?).bind lstOf with
    | some _ => match di ρ1 with
      | .ok (k, ρ2) => match ρ2[i]? with
        | some s => match (lstOf s).bind fun ys => putV ys k x with
          | some ys' => .nx (ρ2.set i (setL s ys'))
          | none => .bad
        | none => .bad
      | _ => .bad
    | none => .bad
  | _ => .bad
theorem PS.or {X : Cx} {st : Stmt} {t t' : TS} (h : PS X st t) (h' : PS X st t') : PS X st (fun D σ H => t D σ H ∨ t' D σ H) := ⟨fun pins s σ H D I q => q.elim (h.run pins s σ H D I) (h'.run pins s σ H D I)⟩
section
variable {X : Cx}
theorem runPut {K : PySem.W.Frag} {mg : MG} {i : Nat} {di dv : DV} {D : Ends} {σ : L2.St} {H : Hp} (h : TSt K mg (sPut i di dv) D σ H) :
    tAsg (TV K mg dv) (gSub (tVar i) (TV K mg di) rSetL) D σ H := by
  obtain ⟨Z, O, C, ρ, R, h⟩ := h
  unfold sPut at h
  cases e1 : dv ρ with
  | exc _ => rw [e1] at h; exact h.elim
  | bad => rw [e1] at h; exact h.elim
  | ok p =>
    obtain ⟨x, ρ1⟩ := p
    rw [e1] at h
    simp only at h
    refine ⟨Z, O, C, ρ, R, x, ρ1, e1, fun v H1 Z1 O1 x1 R1 r1 => ?_⟩
    cases e0 : (ρ1[i]?).bind lstOf with
    | none => rw [e0] at h; exact h.elim
    | some ys0 =>
      rw [e0] at h
      simp only at h
      obtain ⟨s0, e2, e3⟩ := Option.bind_eq_some_iff.mp e0
      obtain ⟨a, ws, ea, m, r, _⟩ := R1.lst e2 e3
      refine ⟨.ref a, ea, ?_⟩
      cases e4 : di ρ1 with
      | exc _ => rw [e4] at h; exact h.elim
      | bad => rw [e4] at h; exact h.elim
      | ok p =>
        obtain ⟨k, ρ2⟩ := p
        rw [e4] at h
        simp only at h
        refine ⟨Z1, O1, C, ρ1, R1, k, ρ2, e4, fun u H2 Z2 O2 x2 R2 r2 => ?_⟩
        cases e5 : ρ2[i]? with
        | none => rw [e5] at h; exact h.elim
        | some s =>
          rw [e5] at h
          simp only at h
          cases e6 : (lstOf s).bind fun ys => putV ys k x with
          | none => rw [e6] at h; exact h.elim
          | some ys' =>
            rw [e6] at h
            obtain ⟨ys, e7, e8⟩ := Option.bind_eq_some_iff.mp e6
            obtain ⟨a2, ws2, ea2, m2, rr, nx⟩ := R2.lst e5 e7
            rw [ea] at ea2
            cases ea2
            unfold putV at e8
            cases k with
            | int k =>
              obtain ⟨j, e9, e10⟩ := Option.map_eq_some_iff.mp e8
              cases r2
              refine ⟨a, ws2, k, j, rfl, rfl, m2, by rw [rr.length]; exact e9, ?_⟩
              obtain ⟨R3, x3⟩ := nx (ws2.set j v) ys' (by rw [← e10]; exact Rls.set (r1.mono x2.z) j rr)
              exact h σ _ Z2 O2 ((x1.trans x2).trans x3) R3
            | _ => cases e8
theorem st_put {i : Nat} {x : Str} {e ix : Expr} {di dv : DV} {p pos pos2 : Pos} (ho : PE X (.Name x p) (tVar i)) (hi : PV X ix di) (he : PV X e dv)
    (ha : ∀ v, assign (.Subscript (.Name x p) ix pos2) X.env v = (do
      let ov ← holding [v] (eval (.Name x p) X.env)
      let iv ← holding [v, ov] (eval ix X.env)
      standAt pos2
      holding [v, ov, iv] (setItem ov iv v)
      release [v, ov, iv] []) := by intro _; rfl)
    (hs : swapsWithSole [.Subscript (.Name x p) ix pos2] e pos.line X.env = pure false := by rfl) (hw : swappedStores [.Subscript (.Name x p) ix pos2] e X.env = pure none := by rfl)
    (h1 : (assignEach [.Subscript (.Name x p) ix pos2] X.env).map (·.2) = [assign (.Subscript (.Name x p) ix pos2) X.env] := by rfl) :
    PSt X (.Assign [.Subscript (.Name x p) ix pos2] e pos) (sPut i di dv) := PS.imp (ps_asg he (pg_sub ho hi set_list ha) hs hw h1) fun _ _ _ => runPut
end

/-! ### sorted -/
def alikeOk (ds : List PyData) : Bool := ds.all fun d => ds.all fun d' => PySem.W.alike d d'
def isTupD : PyData → Bool
  | .tuple (_ :: _) => true
  | _ => false
def isOthD : PyData → Bool
  | .none => false
  | .tuple _ => false
  | _ => true
def sortOk (xs : List Val) : Bool := xs.all (fun x => x.py.plain && decide (x.py.depth ≤ 64)) && alikeOk (xs.map Val.py) && ((xs.map Val.py).all isTupD || (xs.map Val.py).all isOthD) && decide (xs.length ≤ sizeLine)
def sortedL (xs : List Val) : List Val := xs.mergeSort (PySem.W.dataLe false Val.py)
def sortV : Val → Option (List Val)
  | .lst xs => if sortOk xs then some (sortedL xs) else none
  | .scr ns => if sortOk (ns.map .int) then some (sortedL (ns.map .int)) else none
  | _ => none
theorem alikeOk_out {ds : List PyData} (h : alikeOk ds = true) : PySem.W.AllAlike ds := fun d hd d' hd' => List.all_eq_true.mp (List.all_eq_true.mp h d hd) d' hd'
theorem sortable_out {ds : List PyData} (h : (ds.all isTupD || ds.all isOthD) = true) : PySem.W.Sortable ds := by
  rcases Bool.or_eq_true_iff.mp h with h | h
  · refine .inl fun d hd => ?_
    have := List.all_eq_true.mp h d hd
    cases d with
    | tuple xs =>
      cases xs with
      | nil => cases this
      | cons x r => exact ⟨x, r, rfl⟩
    | _ => cases this
  · refine .inr fun d hd => ?_
    have := List.all_eq_true.mp h d hd
    cases d <;> first | (cases this; done) | exact ⟨(by intro h; cases h), (by intro _ h; cases h)⟩
/-- items and what they are -/
theorem each_rls {K : PySem.W.Frag} {mg : MG} {Z : Hp} : ∀ {vs : List V} {xs : List Val} {us : List Value}, Rls K mg Z vs xs → Vals vs us → PySem.W.EachIs (fun u x => ∃ v, RelV v u ∧ Rl K mg Z v x) us xs
  | _, _, _, .nil, .nil => .nil
  | _, _, _, .cons r t, .cons q u => .cons ⟨_, q, r⟩ (each_rls t u)
theorem each_back {K : PySem.W.Frag} {mg : MG} {Z : Hp} : ∀ {us : List Value} {xs : List Val}, PySem.W.EachIs (fun u x => ∃ v, RelV v u ∧ Rl K mg Z v x) us xs → ∃ vs, Rls K mg Z vs xs ∧ Vals vs us
  | _, _, .nil => ⟨[], .nil, .nil⟩
  | _, _, .cons ⟨v, q, r⟩ t => by
    obtain ⟨vs, h1, h2⟩ := each_back t
    exact ⟨v :: vs, .cons r h1, .cons q h2⟩
section
variable {X : Cx}
theorem each_reads {pins : List (Addr × Obj)} {σ : L2.St} {Z H : Hp} {s : Shared} (I : Inv X pins σ H s) (zh : Same Z H) : ∀ {us : List Value} {xs : List Val}, PySem.W.EachIs (fun u x => ∃ v, RelV v u ∧ Rl X.K X.mg Z v x) us xs → (∀ x ∈ xs, x.py.plain = true) →
    PySem.W.EachIs (fun u x => ∃ as, Reads s.heap u (Val.py x) as) us xs
  | _, _, .nil, _ => .nil
  | _, _, .cons ⟨v, q, r⟩ t, h => .cons (reads_of I zh (.fz r) (h _ List.mem_cons_self) q) (each_reads I zh t fun x hx => h x (List.mem_cons_of_mem _ hx))
theorem sorted_core {k : Nat} (hr : Room k X.A) {pins : List (Addr × Obj)} {σ : L2.St} {Z H : Hp} {s : Shared} {a : Addr} {vs : List V} {xs : List Val} {Q : VK} (I : Inv X pins σ H s) (zh : Same Z H) (hl : SqL X.K H a vs) (r : Rls X.K X.mg Z vs xs) (hok : sortOk xs = true) (q : QO X.K X.mg Z H (sortedL xs) Q) :
    wpAny (model X.prog X.w) X.A (call (.builtin "sorted") [.ref a]) (EP X pins σ Q) X.xe s := by
  simp only [sortOk, Bool.and_eq_true, decide_eq_true_eq] at hok
  obtain ⟨⟨⟨h1, h2⟩, h3⟩, h4⟩ := hok
  have hp : ∀ x ∈ xs, x.py.plain = true ∧ x.py.depth ≤ 64 := fun x hx => by
    have := List.all_eq_true.mp h1 x hx
    simpa using this
  obtain ⟨its, rv, pl, hz⟩ := I.list hl
  have e := each_rls r rv
  refine PySem.W.sorted_data (enc := Val.py) (R := fun u x => ∃ v, RelV v u ∧ Rl X.K X.mg Z v x) (bs := xs) pl.isList e (each_reads I zh e fun x hx => (hp x hx).1) (alikeOk_out h2) (sortable_out h3) h4 (fun b hb => ?_) fun out ho eo => ?_
  · have := (hp b hb).2
    have := hr.un
    omega
  · obtain ⟨ws, rw', vo⟩ := each_back eo
    obtain ⟨ep, he'⟩ := PyProof.Rows.sortedAll_at s.heap its out.toArray
    have hlen : ws.length ≤ sizeLine := by rw [rw'.length, List.length_mergeSort]; exact h4
    exact ⟨.ref _, upd H (s.heap.objs.size + 1) (.lst ws), I.laid (t' := s.toks) (fun _ _ => PyProof.Rows.sortedAll_old) (Nat.le_succ _) ⟨hlen, out, ep, vo, he'⟩, rfl, q _ ws (I.hok.fresh (Nat.le_succ _)) rw'⟩
theorem c_sorted {k : Nat} (hr : Room k X.A) : CallR X (.builtin "sorted") (rNo X.K X.mg (go1 sortV)) := by
  intro pins s σ H vs us Q I r h
  obtain ⟨Z, v, x, z, rfl, zh, b, e, q⟩ := rNo1 h
  cases x with
  | lst xs =>
    obtain ⟨a, vs, rfl, h1, r1⟩ := bor_lst zh b
    unfold sortV at e
    simp only at e
    split at e
    · rename_i hok
      cases e
      rw [Vals.ref1 r]
      exact sorted_core hr I zh (SqL.of h1) r1 hok q
    · cases e
  | scr ns =>
    obtain ⟨a, rfl, h1⟩ := bor_scr b
    unfold sortV at e
    simp only at e
    split at e
    · rename_i hok
      cases e
      rw [Vals.ref1 r]
      exact sorted_core hr I zh (zh.seq h1) (Rls.ints ns) hok q
    · cases e
  | _ => cases e
end
end Ev

/-! Ev: loops over a slot's own list, which is locked meanwhile. -/
namespace Ev
open PySem PySem.Spec PyProof.Rows L2
section
variable {K : PySem.W.Frag} {mg : MG} {Z H : Hp} {O : Lab} {C : Lk} {σ : L2.St} {ρ : Env}
def lockC (C : Lk) (i : Nat) (a : Addr) (ws : List V) : Lk := ⟨fun b => if b = a then some (.lst ws) else C b, C.fx, fun j => if j = i then some a else C.lk j, fun j b h => by
  by_cases hb : b = a
  · rw [if_pos hb]; simp
  · rw [if_neg hb]
    by_cases hj : j = i
    · rw [if_pos hj] at h; cases h; exact absurd rfl hb
    · rw [if_neg hj] at h; exact C.wf j b h⟩
def unO (O : Lab) (i : Nat) (a : Addr) : Lab := fun b => if b = a then some (i, 0) else O b
theorem EnvR.lock (R : EnvR K mg Z H O C σ ρ) {i : Nat} {s0 : Sl} {ys : List Val} (e : ρ[i]? = some s0) (hl : lstOf s0 = some ys) :
    ∃ a ws, σ[i]? = some (some (.ref a)) ∧ Rls K mg Z ws ys ∧ EnvR K mg Z H (frO i O) (lockC C i a ws) σ (ρ.set i (.lck ys)) ∧
      ∀ Z' H' O' σ' ρ' ys', Ext Z H (frO i O) Z' H' O' → EnvR K mg Z' H' O' (lockC C i a ws) σ' ρ' → ρ'[i]? = some (.lck ys') →
        Ext Z H O Z' H' (unO O' i a) ∧ EnvR K mg Z' H' (unO O' i a) C σ' (ρ'.set i (setL s0 ys')) := by
  have hi : i < ρ.length := (List.getElem?_eq_some_iff.mp e).1
  obtain ⟨a, ws, ea, o, m, r, fx⟩ : ∃ a ws, σ[i]? = some (some (.ref a)) ∧ O a = some (i, 0) ∧ H a = some (.lst ws) ∧ Rls K mg Z ws ys ∧ ((∃ zs, s0 = .own zs) ∨ (∃ zs, s0 = .par zs) ∧ C.fx i = some a) := by
    have z := R.sl i s0 e
    cases s0 with
    | own xs => cases hl; obtain ⟨a, ws, ea, o, m, r⟩ := z; exact ⟨a, ws, ea, o, m, r, .inl ⟨_, rfl⟩⟩
    | par xs => cases hl; obtain ⟨a, ws, ea, o, m, r, fx⟩ := z; exact ⟨a, ws, ea, o, m, r, .inr ⟨⟨_, rfl⟩, fx⟩⟩
    | _ => cases hl
  obtain ⟨za, ca, _⟩ := R.oz a (by rw [o]; simp)
  refine ⟨a, ws, ea, r, ⟨by rw [List.length_set]; exact R.len, R.zh, fun b x hb => ?_, fun b hb => ?_, fun b j q h => by rw [List.length_set]; exact R.ob b j q (frO_some h).1, fun j t ej => ?_⟩, fun Z' H' O' σ' ρ' ys' x R' e' => ?_⟩
  · have hb : (if b = a then some (HO.lst ws) else C b) = some x := hb
    split at hb
    · rename_i h; rw [h, m]; exact hb
    · exact R.ch b x hb
  · obtain ⟨⟨j, q⟩, hp⟩ := Option.ne_none_iff_exists'.mp hb
    obtain ⟨h1, h2⟩ := frO_some hp
    obtain ⟨k1, k2, k3⟩ := R.oz b (by rw [h1]; simp)
    refine ⟨k1, ?_, k3⟩
    show (if b = a then some (HO.lst ws) else C b) = none
    rw [if_neg (fun z => by rw [z, o] at h1; cases h1; exact h2 rfl)]
    exact k2
  · by_cases hj : j = i
    · subst hj
      rw [List.getElem?_set_self hi] at ej
      cases ej
      exact ⟨a, ws, ea, by show (if a = a then some (HO.lst ws) else C a) = _; rw [if_pos rfl], r, by show (if j = j then some a else C.lk j) = _; rw [if_pos rfl]⟩
    · rw [List.getElem?_set_ne (Ne.symm hj)] at ej
      have h := (R.sl j t ej).keep (Same.refl Z) (O' := frO i O) (H' := H) fun b q hb => ⟨rfl, frO_ne hb hj⟩
      have hfx : (lockC C i a ws).lk j = C.lk j := by show (if j = i then some a else C.lk j) = _; rw [if_neg hj]
      have hhp : ∀ b o', C b = some o' → (lockC C i a ws) b = some o' := fun b o' hb => by
        show (if b = a then some (HO.lst ws) else C b) = _
        rw [if_neg (fun z => by rw [z, ca] at hb; cases hb)]; exact hb
      cases t with
      | par xs => exact h
      | lck xs => obtain ⟨a', vs, e1, m1, r1, f1⟩ := h; exact ⟨a', vs, e1, hhp _ _ m1, r1, by rw [hfx]; exact f1⟩
      | _ => exact h
  · have hi' : i < ρ'.length := (List.getElem?_eq_some_iff.mp e').1
    have z := R'.sl i _ e'
    obtain ⟨a', ws', ea', m', r', f'⟩ := z
    have f' : (if i = i then some a else C.lk i) = some a' := f'
    rw [if_pos rfl] at f'
    cases f'
    have m' : (if a = a then some (HO.lst ws) else C a) = some (.lst ws') := m'
    rw [if_pos rfl] at m'
    cases m'
    have oa' : O' a = none := by
      cases q : O' a with
      | none => rfl
      | some p =>
        have := (R'.oz a (by rw [q]; simp)).2.1
        have this : (if a = a then some (HO.lst ws) else C a) = none := this
        rw [if_pos rfl] at this
        cases this
    have ha' : H' a = some (.lst ws) := R'.ch a _ (by show (if a = a then some (HO.lst ws) else C a) = _; rw [if_pos rfl])
    have za' : Z' a = none := by
      cases q : Z' a with
      | none => rfl
      | some w =>
        rcases x.zn a (by rw [q]; simp) with h | h | h
        · exact absurd za h
        · rw [m] at h; cases h
        · rw [frO_at o] at h; exact absurd rfl h
    have cC : ∀ b u, C b = some u → (lockC C i a ws) b = some u := fun b u h => by
      show (if b = a then some (HO.lst ws) else C b) = _
      rw [if_neg (fun z => by rw [z, ca] at h; cases h)]; exact h
    refine ⟨⟨x.z, fun b u h1 h2 => ?_, x.t, fun b j q h => ?_, fun b h => ?_⟩, ⟨by rw [List.length_set]; exact R'.len, R'.zh, fun b u h => R'.ch b u (cC b u h), fun b hb => ?_, fun b j q h => ?_, fun j t ej => ?_⟩⟩
    · have hb : b ≠ a := fun z => by rw [z, o] at h2; cases h2
      obtain ⟨k1, k2⟩ := x.h b u h1 (frO_none h2)
      exact ⟨k1, by unfold unO; rw [if_neg hb]; exact k2⟩
    · unfold unO at h
      split at h
      · rename_i hb
        cases h
        exact .inr ⟨0, by rw [hb]; exact o⟩
      · rcases x.o b j q h with h | ⟨q', h⟩
        · exact .inl h
        · exact .inr ⟨q', (frO_some h).1⟩
    · rcases x.zn b h with h | h | h
      · exact .inl h
      · exact .inr (.inl h)
      · refine .inr (.inr fun z => h (frO_none z))
    · by_cases h : b = a
      · rw [h]
        exact ⟨za', ca, by rw [ha']; simp⟩
      · have hb' : O' b ≠ none := by unfold unO at hb; rw [if_neg h] at hb; exact hb
        obtain ⟨k1, k2, k3⟩ := R'.oz b hb'
        have k2 : (if b = a then some (HO.lst ws) else C b) = none := k2
        rw [if_neg h] at k2
        exact ⟨k1, k2, k3⟩
    · rw [List.length_set]
      unfold unO at h
      split at h
      · cases h; exact hi'
      · exact R'.ob b j q h
    · by_cases hj : j = i
      · subst hj
        rw [List.getElem?_set_self hi'] at ej
        cases ej
        rcases fx with ⟨zs, rfl⟩ | ⟨⟨zs, rfl⟩, fx⟩
        · exact ⟨a, ws, ea', by unfold unO; rw [if_pos rfl], ha', r'⟩
        · exact ⟨a, ws, ea', by unfold unO; rw [if_pos rfl], ha', r', fx⟩
      · rw [List.getElem?_set_ne (Ne.symm hj)] at ej
        have h := (R'.sl j t ej).keep (Same.refl Z') (O' := unO O' i a) (H' := H') fun b q hb => ⟨rfl, by unfold unO; rw [if_neg (fun z => by rw [z, oa'] at hb; cases hb)]; exact hb⟩
        have hfx : (lockC C i a ws).lk j = C.lk j := by show (if j = i then some a else C.lk j) = _; rw [if_neg hj]
        cases t with
        | par xs => exact h
        | lck xs =>
          obtain ⟨a', vs, e1, m1, r1, f1⟩ := h
          rw [hfx] at f1
          refine ⟨a', vs, e1, ?_, r1, f1⟩
          have m1 : (if a' = a then some (HO.lst ws) else C a') = some (.lst vs) := m1
          split at m1
          · rename_i h; rw [h] at f1; exact absurd ca (C.wf j a f1)
          · exact m1
        | _ => exact h

def unlk (i : Nat) (s0 : Sl) : Fl → Fl
  | .nx ρ => match ρ[i]? with
    | some (.lck ys) => .nx (ρ.set i (setL s0 ys))
    | _ => .bad
  | .bk ρ => match ρ[i]? with
    | some (.lck ys) => .bk (ρ.set i (setL s0 ys))
    | _ => .bad
  | .ct ρ => match ρ[i]? with
    | some (.lck ys) => .ct (ρ.set i (setL s0 ys))
    | _ => .bad
  | .rt s ρ => match ρ[i]? with
    | some (.lck ys) => .rt s (ρ.set i (setL s0 ys))
    | _ => .bad
  | .bad => .bad
theorem unlk_run {D : Ends} {i : Nat} {s0 : Sl} {a : Addr} {ws : List V}
    (un : ∀ Z' H' O' σ' ρ' ys', Ext Z H (frO i O) Z' H' O' → EnvR K mg Z' H' O' (lockC C i a ws) σ' ρ' → ρ'[i]? = some (.lck ys') →
        Ext Z H O Z' H' (unO O' i a) ∧ EnvR K mg Z' H' (unO O' i a) C σ' (ρ'.set i (setL s0 ys'))) {f : Fl} (h : FlR K mg Z H O C D (unlk i s0 f)) : FlR K mg Z H (frO i O) (lockC C i a ws) D f := by
  cases f with
  | nx ρ =>
    unfold unlk at h
    simp only at h
    split at h
    · rename_i ys e
      exact fun σ' H' Z' O' x R' => let ⟨x2, R2⟩ := un Z' H' O' σ' ρ ys x R' e; h σ' H' Z' _ x2 R2
    · exact h.elim
  | bk ρ =>
    unfold unlk at h
    simp only at h
    split at h
    · rename_i ys e
      exact fun σ' H' Z' O' x R' => let ⟨x2, R2⟩ := un Z' H' O' σ' ρ ys x R' e; h σ' H' Z' _ x2 R2
    · exact h.elim
  | ct ρ =>
    unfold unlk at h
    simp only at h
    split at h
    · rename_i ys e
      exact fun σ' H' Z' O' x R' => let ⟨x2, R2⟩ := un Z' H' O' σ' ρ ys x R' e; h σ' H' Z' _ x2 R2
    · exact h.elim
  | rt s ρ =>
    unfold unlk at h
    simp only at h
    split at h
    · rename_i ys e
      refine fun v σ' H' Z' O' x R' => ?_
      have hi := (List.getElem?_eq_some_iff.mp e).1
      obtain ⟨x2, R2⟩ := un Z' H' O' _ _ ys x R' (by rw [List.getElem?_append_left hi]; exact e)
      rw [List.set_append_left _ _ hi] at R2
      exact h v σ' H' Z' _ x2 R2
    · exact h.elim
  | bad => exact h
end
/-- for g in xs: .., xs a name: its own list is locked meanwhile -/
def sForV (i : Nat) (g : DG) (b : DS) : DS := fun ρ => match ρ[i]? with
  | some s => match lstOf s with
    | some xs => unlk i s (forL g b xs (ρ.set i (.lck xs)))
    | none => sFor (dIt (dVH (dVar i))) g b ρ
  | none => .bad
section
variable {X : Cx}
theorem st_forV {tg : Expr} {x : Str} {p : Pos} {body : List Stmt} {i : Nat} {g : DG} {b : DS} {ws : List Nat} {pos : Pos} (hp : PassesOwn (model X.prog X.w) X.A X.env X.xe) (hc : X.calm = true) (h0 : PH X (.Name x p) (dVar i)) (hv : PE X (.Name x p) (tVar i)) (hg : PGt X tg g ws) (hb : PSSt X body b)
    (hs : ∀ y, foldedSetIterable (.Name x p) X.env y = pure y := by intro _; rfl) : PSt X (.For tg (.Name x p) body [] pos) (sForV i g b) := PS.imp (PS.or (st_for hp hc (it_val (pv_of h0)) hg hb hs) (ps_for hp hc (pi_list hv) hg hb hs)) fun D σ H ⟨Z, O, C, ρ, R, h⟩ => by
  unfold sForV at h
  cases e : ρ[i]? with
  | none => rw [e] at h; exact h.elim
  | some s =>
    rw [e] at h
    simp only at h
    cases e2 : lstOf s with
    | none => rw [e2] at h; exact .inl ⟨Z, O, C, ρ, R, h⟩
    | some xs =>
      rw [e2] at h
      simp only at h
      right
      obtain ⟨a, vs, ea, r, R2, un⟩ := R.lock e e2
      have hH : H a = some (.lst vs) := R2.ch a _ (by show (if a = a then some (HO.lst vs) else C a) = _; rw [if_pos rfl])
      refine ⟨.ref a, ea, a, rfl, ⟨vs, SqL.of hH⟩, for_run (xs := xs) R2 (walk_l r fun Zc H' z zh c => SqL.of (c a _ (by show (if a = a then some (HO.lst vs) else C a) = _; rw [if_pos rfl]))) (unlk_run un h)⟩
end
end Ev

/-! Ev: what the operations give, on good data (no bools within, ints, texts, None, tuples, lists). -/
namespace Ev
open PySem PySem.Spec PyProof.Rows L2

theorem mulOk_l {i j : Int} (h : -(2 ^ 64) < i ∧ i < 2 ^ 64) : mulOk i j = true := by unfold mulOk; rw [decide_eq_true h.1, decide_eq_true h.2]; rfl
theorem mulOk_r {i j : Int} (h : -(2 ^ 64) < j ∧ j < 2 ^ 64) : mulOk i j = true := by unfold mulOk; rw [decide_eq_true h.1, decide_eq_true h.2, Bool.and_self, Bool.or_true]
theorem mul_l {i j : Int} (h : -(2 ^ 64) < i ∧ i < 2 ^ 64) : mulV (.int i) (.int j) = some (.int (i * j)) := by show (if mulOk i j = true then _ else _) = _; rw [if_pos (mulOk_l h)]
theorem mul_r {i j : Int} (h : -(2 ^ 64) < j ∧ j < 2 ^ 64) : mulV (.int i) (.int j) = some (.int (i * j)) := by show (if mulOk i j = true then _ else _) = _; rw [if_pos (mulOk_r h)]
theorem div_of {i j : Int} (h : 0 < j) (h2 : j < 2 ^ 200) : divV (.int i) (.int j) = some (.int (i / j)) := by
  unfold divV
  have : j.natAbs.log2 < 9000 := by
    have h3 : j.natAbs < 2 ^ 200 := by omega
    have h4 : j.natAbs ≠ 0 := by omega
    have := (Nat.log2_lt h4).mpr h3
    omega
  simp [h, this]
theorem mod_of {i j : Int} (h : 0 < j) : modV (.int i) (.int j) = some (.int (i % j)) := by
  unfold modV
  simp [h]

/-! ### good data -/
mutual
def gd : Val → Bool
  | .non => true
  | .int _ => true
  | .str _ => true
  | .tup xs => gds xs
  | .lst xs => gds xs
  | _ => false
def gds : List Val → Bool
  | [] => true
  | x :: xs => gd x && gds xs
end
mutual
theorem gd_plain : ∀ {x : Val}, gd x = true → x.py.plain = true
  | .non, _ => by simp [Val.py, PyData.plain]
  | .int _, _ => by simp [Val.py, PyData.plain]
  | .str _, _ => by simp [Val.py, PyData.plain]
  | .tup xs, h => by simp only [Val.py, PyData.plain]; exact gds_plain (by simpa [gd] using h)
  | .lst xs, h => by simp only [Val.py, PyData.plain]; exact gds_plain (by simpa [gd] using h)
  | .bl _, h => by simp [gd] at h
  | .ktup _, h => by simp [gd] at h
  | .dK _, h => by simp [gd] at h
  | .dT _, h => by simp [gd] at h
  | .scr _, h => by simp [gd] at h
  | .fn _, h => by simp [gd] at h
theorem gds_plain : ∀ {xs : List Val}, gds xs = true → PyData.plainAll (pys xs) = true
  | [], _ => by simp [pys, PyData.plainAll]
  | x :: xs, h => by
    simp only [gds, Bool.and_eq_true] at h
    simp only [pys, PyData.plainAll, Bool.and_eq_true]
    exact ⟨gd_plain h.1, gds_plain h.2⟩
end
mutual
theorem gd_eqv : ∀ {x y : Val}, gd x = true → gd y = true → (PyData.eqv x.py y.py = true ↔ x = y)
  | .non, y, _, h => by cases y <;> simp [gd] at h <;> simp [Val.py, PyData.eqv]
  | .int i, y, _, h => by cases y <;> simp [gd] at h <;> simp [Val.py, PyData.eqv]
  | .str s, y, _, h => by cases y <;> simp [gd] at h <;> simp [Val.py, PyData.eqv]
  | .tup xs, y, h1, h => by
    cases y <;> simp [gd] at h <;> simp [Val.py, PyData.eqv]
    exact gds_eqv (by simpa [gd] using h1) h
  | .lst xs, y, h1, h => by
    cases y <;> simp [gd] at h <;> simp [Val.py, PyData.eqv]
    exact gds_eqv (by simpa [gd] using h1) h
  | .bl _, _, h, _ => by simp [gd] at h
  | .ktup _, _, h, _ => by simp [gd] at h
  | .dK _, _, h, _ => by simp [gd] at h
  | .dT _, _, h, _ => by simp [gd] at h
  | .scr _, _, h, _ => by simp [gd] at h
  | .fn _, _, h, _ => by simp [gd] at h
theorem gds_eqv : ∀ {xs ys : List Val}, gds xs = true → gds ys = true → (PyData.eqvAll (pys xs) (pys ys) = true ↔ xs = ys)
  | [], [], _, _ => by simp [pys, PyData.eqvAll]
  | [], y :: ys, _, _ => by simp [pys, PyData.eqvAll]
  | x :: xs, [], _, _ => by simp [pys, PyData.eqvAll]
  | x :: xs, y :: ys, h1, h2 => by
    simp only [gds, Bool.and_eq_true] at h1 h2
    simp only [pys, PyData.eqvAll, Bool.and_eq_true, List.cons.injEq, gd_eqv h1.1 h2.1, gds_eqv h1.2 h2.2]
end
open Classical in
theorem gd_eqb {x y : Val} (h1 : gd x = true) (h2 : gd y = true) : PyData.eqv x.py y.py = decide (x = y) := by
  by_cases e : x = y
  · rw [decide_eq_true e, (gd_eqv h1 h2).mpr e]
  · rw [decide_eq_false e]
    cases q : PyData.eqv x.py y.py with
    | false => rfl
    | true => exact absurd ((gd_eqv h1 h2).mp q) e
/-- the depth of a value -/
def dp (x : Val) : Nat := x.py.depth
open Classical in
theorem eqB_gd {x y : Val} (h1 : gd x = true) (h2 : gd y = true) (hd : dp x ≤ 64 ∨ dp y ≤ 64) : eqB x y = some (decide (x = y)) := by
  unfold eqB small2
  have : min x.py.depth y.py.depth ≤ 64 := by unfold dp at hd; omega
  rw [gd_plain h1, gd_plain h2, decide_eq_true this, gd_eqb h1 h2]
  rfl
theorem dp_int (i : Int) : dp (.int i) = 0 := by simp [dp, Val.py, PyData.depth]
theorem dp_str (i : Str) : dp (.str i) = 0 := by simp [dp, Val.py, PyData.depth]
theorem dp_non : dp .non = 0 := by simp [dp, Val.py, PyData.depth]
theorem dp_bl (b : Bool) : dp (.bl b) = 0 := by simp [dp, Val.py, PyData.depth]
theorem depthAll_le {n : Nat} : ∀ {xs : List Val}, (∀ x ∈ xs, dp x ≤ n) → PyData.depthAll (pys xs) ≤ n
  | [], _ => by simp [pys, PyData.depthAll]
  | x :: xs, h => by
    simp only [pys, PyData.depthAll]
    have a := h x List.mem_cons_self
    have b := depthAll_le fun y hy => h y (List.mem_cons_of_mem _ hy)
    unfold dp at a
    omega
theorem dp_tup {n : Nat} {xs : List Val} (h : ∀ x ∈ xs, dp x ≤ n) : dp (.tup xs) ≤ n + 1 := by
  have := depthAll_le h
  simp only [dp, Val.py, PyData.depth]
  omega
theorem dp_lst {n : Nat} {xs : List Val} (h : ∀ x ∈ xs, dp x ≤ n) : dp (.lst xs) ≤ n + 1 := by
  have := depthAll_le h
  simp only [dp, Val.py, PyData.depth]
  omega
/-! comparisons -/
theorem eq_int (i j : Int) : eqV (.int i) (.int j) = some (.bl (decide (i = j))) := by
  simp [eqV, eqB, small2, Val.py, PyData.plain, PyData.depth, PyData.eqv]
  by_cases h : i = j <;> simp [h]
theorem ne_int (i j : Int) : neV (.int i) (.int j) = some (.bl (!decide (i = j))) := by
  simp [neV, eqB, small2, Val.py, PyData.plain, PyData.depth, PyData.eqv]
  by_cases h : i = j <;> simp [h]
theorem cmp_int (i j : Int) : cmpOk (.int i) (.int j) = true := by simp [cmpOk, PySem.W.alike, notNone, small2, PyData.plain, PyData.depth]
theorem lt_int (i j : Int) : ltV (.int i) (.int j) = some (.bl (decide (i < j))) := by simp [ltV, ltB, Val.py, cmp_int, PySem.W.dataLt_int]
theorem gt_int (i j : Int) : gtV (.int i) (.int j) = some (.bl (decide (j < i))) := by simp [gtV, Val.py, cmp_int, PySem.W.dataLt_int]
theorem le_int (i j : Int) : leV (.int i) (.int j) = some (.bl (decide (i ≤ j))) := by
  simp [leV, Val.py, cmp_int, PySem.W.dataLt_int]
  by_cases h : i ≤ j
  · simp [h]
  · simp [h]; omega
theorem ge_int (i j : Int) : geV (.int i) (.int j) = some (.bl (decide (j ≤ i))) := by
  simp [geV, ltB, Val.py, cmp_int, PySem.W.dataLt_int]
  by_cases h : j ≤ i
  · simp [h]
  · simp [h]; omega
open Classical in
theorem eq_gd {x y : Val} (h1 : gd x = true) (h2 : gd y = true) (hd : dp x ≤ 64 ∨ dp y ≤ 64) : eqV x y = some (.bl (decide (x = y))) := by unfold eqV; rw [eqB_gd h1 h2 hd]; rfl
open Classical in
theorem ne_gd {x y : Val} (h1 : gd x = true) (h2 : gd y = true) (hd : dp x ≤ 64 ∨ dp y ≤ 64) : neV x y = some (.bl (!decide (x = y))) := by unfold neV; rw [eqB_gd h1 h2 hd]; rfl

/-! ### places -/
theorem ixN_nat {n i : Nat} (h : i < n) : ixN n (i : Int) = some i := by
  unfold ixN
  rw [if_pos (by omega), if_pos (by omega)]
  simp
theorem atI_nat {α : Type} {xs : List α} {i : Nat} (h : i < xs.length) : atI xs (i : Int) = xs[i]? := by
  unfold atI
  rw [ixN_nat h]
  rfl
theorem atI_int {α : Type} {xs : List α} {i : Int} (h0 : 0 ≤ i) (h : i < xs.length) : atI xs i = xs[i.toNat]? := by
  obtain ⟨k, rfl⟩ := Int.eq_ofNat_of_zero_le h0
  rw [atI_nat (by omega)]
  rfl

/-! ### loops -/
theorem forL_inv {α : Type} {g : DG} {b : DS} (enc : α → Val) (xs : List α) (I : List α → Env → Prop) : ∀ (pre post : List α) (ρ : Env), xs = pre ++ post → I pre ρ →
    (∀ pre a post ρ, xs = pre ++ a :: post → I pre ρ → ∃ ρ1 ρ2, g (enc a) ρ = some ρ1 ∧ (b ρ1 = .nx ρ2 ∨ b ρ1 = .ct ρ2) ∧ I (pre ++ [a]) ρ2) → ∃ ρ', forL g b (post.map enc) ρ = .nx ρ' ∧ I xs ρ'
  | pre, [], ρ, e, h, _ => ⟨ρ, rfl, by rw [e, List.append_nil]; exact h⟩
  | pre, a :: post, ρ, e, h, st => by
    obtain ⟨ρ1, ρ2, h1, h2, h3⟩ := st pre a post ρ e h
    obtain ⟨ρ', h4, h5⟩ := forL_inv enc xs I (pre ++ [a]) post ρ2 (by rw [e]; simp) h3 st
    refine ⟨ρ', ?_, h5⟩
    rw [List.map_cons]
    unfold forL
    rw [h1]
    rcases h2 with h2 | h2 <;> (simp only [h2]; exact h4)
/-- a for that comes to its end -/
theorem forL_all {α : Type} {g : DG} {b : DS} (enc : α → Val) (xs : List α) (I : List α → Env → Prop) {ρ : Env} (h0 : I [] ρ)
    (st : ∀ pre a post ρ, xs = pre ++ a :: post → I pre ρ → ∃ ρ1 ρ2, g (enc a) ρ = some ρ1 ∧ (b ρ1 = .nx ρ2 ∨ b ρ1 = .ct ρ2) ∧ I (pre ++ [a]) ρ2) : ∃ ρ', forL g b (xs.map enc) ρ = .nx ρ' ∧ I xs ρ' :=
  forL_inv enc xs I [] xs ρ rfl h0 st
/-- a for that may answer -/
theorem forL_ret {α : Type} {g : DG} {b : DS} (enc : α → Val) (xs : List α) (I : List α → Env → Prop) (F : Sl → Env → Prop) : ∀ (pre post : List α) (ρ : Env), xs = pre ++ post → I pre ρ →
    (∀ pre a post ρ, xs = pre ++ a :: post → I pre ρ → ∃ ρ1, g (enc a) ρ = some ρ1 ∧ ((∃ ρ2, (b ρ1 = .nx ρ2 ∨ b ρ1 = .ct ρ2) ∧ I (pre ++ [a]) ρ2) ∨ ∃ s ρ2, b ρ1 = .rt s ρ2 ∧ F s ρ2)) →
    (∃ ρ', forL g b (post.map enc) ρ = .nx ρ' ∧ I xs ρ') ∨ ∃ s ρ', forL g b (post.map enc) ρ = .rt s ρ' ∧ F s ρ'
  | pre, [], ρ, e, h, _ => .inl ⟨ρ, rfl, by rw [e, List.append_nil]; exact h⟩
  | pre, a :: post, ρ, e, h, st => by
    obtain ⟨ρ1, h1, h2⟩ := st pre a post ρ e h
    rw [List.map_cons]
    unfold forL
    rw [h1]
    rcases h2 with ⟨ρ2, h2, h3⟩ | ⟨s, ρ2, h2, h3⟩
    · have := forL_ret enc xs I F (pre ++ [a]) post ρ2 (by rw [e]; simp) h3 st
      rcases h2 with h2 | h2 <;> (simp only [h2]; exact this)
    · simp only [h2]
      exact .inr ⟨s, ρ2, rfl, h3⟩
/-- a comprehension's turns, each of which leaves the environment's word true: the items that come are told by F -/
theorem lcL_inv {α : Type} {g : DG} {t : DT} {e : DV} {vs : List Nat} (enc : α → Val) (I : Env → Prop) (F : α → List Val → Prop) : ∀ (xs : List α) (ρ : Env), I ρ →
    (∀ a, a ∈ xs → ∀ ρ, I ρ → ∃ ρ1 b ρ2, g (enc a) ρ = some ρ1 ∧ t ρ1 = .ok (b, ρ2) ∧ ((b = true ∧ ∃ y ρ3, e ρ2 = .ok (y, ρ3) ∧ I (wipeE ρ3 vs) ∧ F a [y]) ∨ (b = false ∧ I (wipeE ρ2 vs) ∧ F a []))) →
    ∃ yss ρ', lcL g t e vs (xs.map enc) ρ = some (yss.flatten, ρ') ∧ I ρ' ∧ Paired F xs yss
  | [], ρ, h, _ => ⟨[], ρ, rfl, h, .nil⟩
  | a :: xs, ρ, h, st => by
    obtain ⟨ρ1, b, ρ2, h1, h2, h3⟩ := st a List.mem_cons_self ρ h
    rw [List.map_cons]
    unfold lcL
    rw [h1]
    simp only [h2]
    rcases h3 with ⟨rfl, y, ρ3, h4, h5, h6⟩ | ⟨rfl, h5, h6⟩
    · obtain ⟨yss, ρ', k1, k2, k3⟩ := lcL_inv enc I F xs (wipeE ρ3 vs) h5 fun c hc => st c (List.mem_cons_of_mem _ hc)
      refine ⟨[y] :: yss, ρ', ?_, k2, .cons h6 k3⟩
      simp only [h4, k1]
      rfl
    · obtain ⟨yss, ρ', k1, k2, k3⟩ := lcL_inv enc I F xs (wipeE ρ2 vs) h5 fun c hc => st c (List.mem_cons_of_mem _ hc)
      exact ⟨[] :: yss, ρ', by simp only [k1]; rfl, k2, .cons h6 k3⟩
/-- .. that leaves the environment as it is -/
theorem lcL_map {α : Type} {g : DG} {t : DT} {e : DV} {vs : List Nat} (enc : α → Val) (p : α → Bool) (f : α → Val) (ρ : Env) : ∀ (xs : List α),
    (∀ a, a ∈ xs → ∃ ρ1 ρ2, g (enc a) ρ = some ρ1 ∧ t ρ1 = .ok (p a, ρ2) ∧ (if p a = true then ∃ ρ3, e ρ2 = .ok (f a, ρ3) ∧ wipeE ρ3 vs = ρ else wipeE ρ2 vs = ρ)) →
    lcL g t e vs (xs.map enc) ρ = some ((xs.filter p).map f, ρ)
  | [], _ => rfl
  | a :: xs, st => by
    obtain ⟨ρ1, ρ2, h1, h2, h3⟩ := st a List.mem_cons_self
    have ih := lcL_map enc p f ρ xs fun c hc => st c (List.mem_cons_of_mem _ hc)
    rw [List.map_cons]
    unfold lcL
    rw [h1]
    simp only [h2]
    cases hp : p a with
    | true =>
      rw [hp, if_pos rfl] at h3
      obtain ⟨ρ3, h4, h5⟩ := h3
      simp only [h4, h5, ih, List.filter_cons, hp]
      rfl
    | false =>
      rw [hp, if_neg (by decide)] at h3
      simp only [h3, ih, List.filter_cons, hp]
      rfl
end Ev
namespace Ev
open PySem PySem.Spec PyProof.Rows L2
theorem add_int (i j : Int) : addV (.int i) (.int j) = some (.int (i + j)) := rfl
theorem sub_int (i j : Int) : subV (.int i) (.int j) = some (.int (i - j)) := rfl
theorem ixl (xs : List Val) (i : Int) : ixV (.lst xs) (.int i) = atI xs i := rfl
theorem ixt (xs : List Val) (i : Int) : ixV (.tup xs) (.int i) = atI xs i := rfl
theorem len_lst (xs : List Val) : lenV (.lst xs) = some (.int xs.length) := rfl
theorem len_tup (xs : List Val) : lenV (.tup xs) = some (.int xs.length) := rfl
theorem len_scr (xs : List Int) : lenV (.scr xs) = some (.int xs.length) := by first | rfl | simp [lenV]
theorem int_int (i : Int) : intV (.int i) = some (.int i) := rfl
theorem at0 {α : Type} (a : α) (xs : List α) : atI (a :: xs) (0 : Int) = some a := by rw [atI_int (by decide) (by simp)]; rfl
theorem at1 {α : Type} (a b : α) (xs : List α) : atI (a :: b :: xs) (1 : Int) = some b := by rw [atI_int (by decide) (by simp; omega)]; rfl
theorem at2 {α : Type} (a b c : α) (xs : List α) : atI (a :: b :: c :: xs) (2 : Int) = some c := by rw [atI_int (by decide) (by simp; omega)]; rfl
theorem at3 {α : Type} (a b c d : α) (xs : List α) : atI (a :: b :: c :: d :: xs) (3 : Int) = some d := by rw [atI_int (by decide) (by simp; omega)]; rfl
end Ev

/-! Ev: comprehensions with their environment, membership, sorted lists. -/
namespace Ev
open PySem PySem.Spec PyProof.Rows L2

theorem seq_nx {a b : DS} {ρ ρ' : Env} (h : a ρ = .nx ρ') : sSeq a b ρ = b ρ' := by unfold sSeq; rw [h]
theorem seq_rt {a b : DS} {ρ ρ' : Env} {s : Sl} (h : a ρ = .rt s ρ') : sSeq a b ρ = .rt s ρ' := by unfold sSeq; rw [h]
theorem if_t {c : DT} {a b : DS} {ρ ρ' : Env} (h : c ρ = .ok (true, ρ')) : sIf c a b ρ = a ρ' := by unfold sIf; rw [h]
theorem if_f {c : DT} {a b : DS} {ρ ρ' : Env} (h : c ρ = .ok (false, ρ')) : sIf c a b ρ = b ρ' := by unfold sIf; rw [h]
theorem for_eq {it : DI} {g : DG} {b : DS} {ρ ρ' : Env} {xs : List Val} (h : it ρ = .ok (xs, ρ')) : sFor it g b ρ = forL g b xs ρ' := by unfold sFor; rw [h]
theorem lc_eq {it : DI} {g : DG} {t : DT} {e : DV} {vs : List Nat} {ρ ρ1 ρ2 : Env} {xs ys : List Val} (h : it ρ = .ok (xs, ρ1)) (hl : xs.length ≤ sizeLine) (h2 : lcL g t e vs xs (wipeE ρ1 vs) = some (ys, ρ2)) : dLc it g t e vs ρ = .ok (.own ys, rest ρ1 vs ρ2) := by
  unfold dLc
  rw [h]
  simp only [h2, if_pos hl]

/-- a comprehension's turns with a word of what was gone through, what came and the environment -/
theorem lcL_go {α : Type} {g : DG} {t : DT} {e : DV} {vs : List Nat} (enc : α → Val) (xs : List α) (I : List α → List Val → Env → Prop) : ∀ (pre post : List α) (out : List Val) (ρ : Env), xs = pre ++ post → I pre out ρ →
    (∀ pre a post out ρ, xs = pre ++ a :: post → I pre out ρ → ∃ ρ1 b ρ2, g (enc a) ρ = some ρ1 ∧ t ρ1 = .ok (b, ρ2) ∧ ((b = true ∧ ∃ y ρ3, e ρ2 = .ok (y, ρ3) ∧ I (pre ++ [a]) (out ++ [y]) (wipeE ρ3 vs)) ∨ (b = false ∧ I (pre ++ [a]) out (wipeE ρ2 vs)))) →
    ∃ ys ρ', lcL g t e vs (post.map enc) ρ = some (ys, ρ') ∧ I xs (out ++ ys) ρ'
  | pre, [], out, ρ, e, h, _ => ⟨[], ρ, rfl, by rw [e, List.append_nil, List.append_nil]; exact h⟩
  | pre, a :: post, out, ρ, e, h, st => by
    obtain ⟨ρ1, b, ρ2, h1, h2, h3⟩ := st pre a post out ρ e h
    rw [List.map_cons]
    unfold lcL
    rw [h1]
    simp only [h2]
    rcases h3 with ⟨rfl, y, ρ3, h4, h5⟩ | ⟨rfl, h5⟩
    · obtain ⟨ys, ρ', k1, k2⟩ := lcL_go enc xs I (pre ++ [a]) post (out ++ [y]) (wipeE ρ3 vs) (by rw [e]; simp) h5 st
      refine ⟨y :: ys, ρ', by simp only [h4, k1]; rfl, ?_⟩
      rw [List.append_assoc] at k2
      exact k2
    · obtain ⟨ys, ρ', k1, k2⟩ := lcL_go enc xs I (pre ++ [a]) post out (wipeE ρ2 vs) (by rw [e]; simp) h5 st
      exact ⟨ys, ρ', by simp only [k1], k2⟩
theorem lcL_all {α : Type} {g : DG} {t : DT} {e : DV} {vs : List Nat} (enc : α → Val) (xs : List α) (I : List α → List Val → Env → Prop) {ρ : Env} (h0 : I [] [] ρ)
    (st : ∀ pre a post out ρ, xs = pre ++ a :: post → I pre out ρ → ∃ ρ1 b ρ2, g (enc a) ρ = some ρ1 ∧ t ρ1 = .ok (b, ρ2) ∧ ((b = true ∧ ∃ y ρ3, e ρ2 = .ok (y, ρ3) ∧ I (pre ++ [a]) (out ++ [y]) (wipeE ρ3 vs)) ∨ (b = false ∧ I (pre ++ [a]) out (wipeE ρ2 vs)))) :
    ∃ ys ρ', lcL g t e vs (xs.map enc) ρ = some (ys, ρ') ∧ I xs ys ρ' := by
  obtain ⟨ys, ρ', h1, h2⟩ := lcL_go enc xs I [] xs [] ρ rfl h0 st
  exact ⟨ys, ρ', h1, by simpa using h2⟩

/-! ### membership -/
def eqvs (x : Val) (ys : List Val) : Bool := (pys ys).any fun d => PyData.eqv d x.py
open Classical in
theorem any_eqv {x : Val} (hx : gd x = true) : ∀ {ys : List Val}, gds ys = true → ((ys.map Val.py).any fun d => PyData.eqv x.py d) = decide (x ∈ ys)
  | [], _ => by simp
  | y :: ys, h => by
    simp only [gds, Bool.and_eq_true] at h
    rw [List.map_cons, List.any_cons, any_eqv hx h.2, gd_eqb hx h.1]
    by_cases e : x = y <;> simp [e]
open Classical in
theorem any_eqv' {x : Val} (hx : gd x = true) : ∀ {ys : List Val}, gds ys = true → ((ys.map Val.py).any fun d => PyData.eqv d x.py) = decide (x ∈ ys)
  | [], _ => by simp
  | y :: ys, h => by
    simp only [gds, Bool.and_eq_true] at h
    rw [List.map_cons, List.any_cons, any_eqv' hx h.2, gd_eqb h.1 hx]
    by_cases e : y = x
    · subst e; simp
    · simp [e, Ne.symm e]
theorem gds_all {xs : List Val} : gds xs = true ↔ ∀ x ∈ xs, gd x = true := by
  induction xs with
  | nil => simp [gds]
  | cons x xs ih => simp [gds, ih]
/-! ### sorted -/
def srt {α : Type} (f : α → Val) (xs : List α) : List α := xs.mergeSort fun a b => PySem.W.dataLe false Val.py (f a) (f b)
theorem sortedL_map {α : Type} (f : α → Val) (xs : List α) : sortedL (xs.map f) = (srt f xs).map f := by
  unfold sortedL srt
  rw [List.map_mergeSort]
  intro a _ b _
  rfl
theorem srt_perm {α : Type} (f : α → Val) (xs : List α) : (srt f xs).Perm xs := List.mergeSort_perm _ _
theorem alikeOk_map {α : Type} (f : α → Val) (xs : List α) (h : ∀ a b, PySem.W.alike (f a).py (f b).py = true) : alikeOk ((xs.map f).map Val.py) = true := by
  refine List.all_eq_true.mpr fun d hd => List.all_eq_true.mpr fun d' hd' => ?_
  obtain ⟨y, hy, rfl⟩ := List.mem_map.mp hd
  obtain ⟨a, _, rfl⟩ := List.mem_map.mp hy
  obtain ⟨y', hy', rfl⟩ := List.mem_map.mp hd'
  obtain ⟨b, _, rfl⟩ := List.mem_map.mp hy'
  exact h a b
theorem sortOk_map {α : Type} (f : α → Val) (xs : List α) (h : ∀ a b, PySem.W.alike (f a).py (f b).py = true) (hp : ∀ a, (f a).py.plain = true ∧ (f a).py.depth ≤ 64) (hk : (∀ a, isTupD (f a).py = true) ∨ ∀ a, isOthD (f a).py = true) (hl : xs.length ≤ sizeLine) : sortOk (xs.map f) = true := by
  unfold sortOk
  rw [alikeOk_map f xs h, Bool.and_true, List.length_map, decide_eq_true hl, Bool.and_true]
  rw [Bool.and_eq_true]
  refine ⟨List.all_eq_true.mpr fun y hy => ?_, ?_⟩
  · obtain ⟨a, _, rfl⟩ := List.mem_map.mp hy
    rw [(hp a).1, decide_eq_true (hp a).2]
    rfl
  · rw [Bool.or_eq_true]
    rcases hk with hk | hk
    · refine .inl (List.all_eq_true.mpr fun d hd => ?_)
      obtain ⟨y, hy, rfl⟩ := List.mem_map.mp hd
      obtain ⟨a, _, rfl⟩ := List.mem_map.mp hy
      exact hk a
    · refine .inr (List.all_eq_true.mpr fun d hd => ?_)
      obtain ⟨y, hy, rfl⟩ := List.mem_map.mp hd
      obtain ⟨a, _, rfl⟩ := List.mem_map.mp hy
      exact hk a
theorem sortOk_ints (xs : List Int) (h : xs.length ≤ sizeLine) : sortOk (xs.map .int) = true :=
  sortOk_map Val.int xs (fun a b => by simp [Val.py, PySem.W.alike]) (fun a => by simp [Val.py, PyData.plain, PyData.depth]) (.inr fun a => by simp [Val.py, isOthD]) h
def prV (p : Int × Int) : Val := .tup [.int p.1, .int p.2]
theorem prV_py (p : Int × Int) : (prV p).py = .tuple [.int p.1, .int p.2] := by simp [prV, Val.py, pys]
theorem sortOk_prs (xs : List (Int × Int)) (h : xs.length ≤ sizeLine) : sortOk (xs.map prV) = true :=
  sortOk_map prV xs (fun a b => by rw [prV_py, prV_py]; simp [PySem.W.alike, PySem.W.alikeAll]) (fun a => by rw [prV_py]; simp [PyData.plain, PyData.plainAll, PyData.depth, PyData.depthAll]) (.inl fun a => by rw [prV_py]; simp [isTupD]) h
theorem sort_ints (xs : List Int) (h : xs.length ≤ sizeLine) : sortV (.lst (xs.map .int)) = some ((srt Val.int xs).map .int) := by
  show (if sortOk (xs.map .int) = true then _ else _) = _
  rw [if_pos (sortOk_ints xs h), sortedL_map]
theorem sort_prs (xs : List (Int × Int)) (h : xs.length ≤ sizeLine) : sortV (.lst (xs.map prV)) = some ((srt prV xs).map prV) := by
  show (if sortOk (xs.map prV) = true then _ else _) = _
  rw [if_pos (sortOk_prs xs h), sortedL_map]

/-! membership by value -/
theorem in_of {x : Val} {ys : List Val} {b : Bool} (hx : gd x = true) (hy : gds ys = true) (hd : PyData.depthAll (pys ys) ≤ 64 ∨ dp x ≤ 64) (hb : b = true ↔ x ∈ ys) : (inB x (.lst ys) = some b) ∧ inB x (.tup ys) = some b := by
  have h1 : ((pys ys).any fun y => PyData.eqv y x.py) = b := by
    rw [pys_map, any_eqv' hx hy]
    cases b with
    | true => exact @decide_eq_true _ (_) (hb.mp rfl)
    | false => exact @decide_eq_false _ (_) fun z => by have := hb.mpr z; cases this
  have h2 : decide (min (PyData.depthAll (pys ys)) x.py.depth ≤ 64) = true := by
    refine decide_eq_true ?_
    unfold dp at hd
    omega
  have h3 : (x.py.plain && PyData.plainAll (pys ys) && decide (min (PyData.depthAll (pys ys)) x.py.depth ≤ 64)) = true := by rw [gd_plain hx, gds_plain hy, h2]; rfl
  constructor
  · show (if _ then _ else _) = _
    rw [if_pos h3, h1]
  · show (if _ then _ else _) = _
    rw [if_pos h3, h1]
theorem eqB_b {x y : Val} {b : Bool} (h1 : gd x = true) (h2 : gd y = true) (hd : dp x ≤ 64 ∨ dp y ≤ 64) (hb : b = true ↔ x = y) : eqB x y = some b := by
  rw [eqB_gd h1 h2 hd]
  cases b with
  | true => exact congrArg some (@decide_eq_true _ (_) (hb.mp rfl))
  | false => exact congrArg some (@decide_eq_false _ (_) fun z => by have := hb.mpr z; cases this)
theorem gds_ints (xs : List Int) : gds (xs.map .int) = true := gds_all.mpr fun x hx => by obtain ⟨a, _, rfl⟩ := List.mem_map.mp hx; rfl
theorem gd_pr (p : Int × Int) : gd (prV p) = true := by simp [prV, gd, gds]
theorem gds_prs (xs : List (Int × Int)) : gds (xs.map prV) = true := gds_all.mpr fun x hx => by obtain ⟨a, _, rfl⟩ := List.mem_map.mp hx; exact gd_pr a
theorem dp_pr (p : Int × Int) : dp (prV p) = 1 := by unfold dp; rw [prV_py]; simp [PyData.depth, PyData.depthAll]
theorem int_mem (x : Int) (xs : List Int) : Val.int x ∈ xs.map Val.int ↔ x ∈ xs := by
  constructor
  · intro h; obtain ⟨a, h1, h2⟩ := List.mem_map.mp h; cases h2; exact h1
  · exact fun h => List.mem_map.mpr ⟨x, h, rfl⟩
theorem pr_inj {p q : Int × Int} (h : prV p = prV q) : p = q := by
  obtain ⟨a, b⟩ := p
  obtain ⟨c, d⟩ := q
  simp [prV] at h
  rw [h.1, h.2]
theorem pr_mem (x : Int × Int) (xs : List (Int × Int)) : prV x ∈ xs.map prV ↔ x ∈ xs := by
  constructor
  · intro h; obtain ⟨a, h1, h2⟩ := List.mem_map.mp h; rw [← pr_inj h2]; exact h1
  · exact fun h => List.mem_map.mpr ⟨x, h, rfl⟩
theorem in_ints (x : Int) (xs : List Int) : inV (.int x) (.lst (xs.map .int)) = some (.bl (decide (x ∈ xs))) ∧ inV (.int x) (.tup (xs.map .int)) = some (.bl (decide (x ∈ xs))) ∧
    ninV (.int x) (.lst (xs.map .int)) = some (.bl (!decide (x ∈ xs))) ∧ ninV (.int x) (.tup (xs.map .int)) = some (.bl (!decide (x ∈ xs))) := by
  have h := in_of (x := .int x) (ys := xs.map .int) (b := decide (x ∈ xs)) rfl (gds_ints xs) (.inr (by rw [dp_int]; omega)) (by rw [decide_eq_true_iff]; exact (int_mem x xs).symm)
  unfold inV ninV
  rw [h.1, h.2]
  exact ⟨rfl, rfl, rfl, rfl⟩
theorem in_prs (x : Int × Int) (xs : List (Int × Int)) : inV (prV x) (.lst (xs.map prV)) = some (.bl (decide (x ∈ xs))) ∧ inV (prV x) (.tup (xs.map prV)) = some (.bl (decide (x ∈ xs))) ∧
    ninV (prV x) (.lst (xs.map prV)) = some (.bl (!decide (x ∈ xs))) ∧ ninV (prV x) (.tup (xs.map prV)) = some (.bl (!decide (x ∈ xs))) := by
  have h := in_of (x := prV x) (ys := xs.map prV) (b := decide (x ∈ xs)) (gd_pr x) (gds_prs xs) (.inr (by rw [dp_pr]; omega)) (by rw [decide_eq_true_iff]; exact (pr_mem x xs).symm)
  unfold inV ninV
  rw [h.1, h.2]
  exact ⟨rfl, rfl, rfl, rfl⟩
/-! all, any -/
theorem all_bls (bs : List Bool) : allV (.lst (bs.map .bl)) = some (.bl (bs.all id)) := by
  show (boolsOf (bs.map .bl)).map _ = _
  rw [boolsOf_map]
  rfl
theorem any_bls (bs : List Bool) : anyV (.lst (bs.map .bl)) = some (.bl (bs.any id)) := by
  show (boolsOf (bs.map .bl)).map _ = _
  rw [boolsOf_map]
  rfl
end Ev
namespace Ev
open PySem PySem.Spec PyProof.Rows L2
theorem lcO_map {α : Type} {g : DG} {t : DT} {f : Env → Option (List Val × Env)} {vs : List Nat} (enc : α → Val) (ys : α → List Val) (ρ : Env) : ∀ (xs : List α),
    (∀ a, a ∈ xs → ∃ ρ1 ρ2 ρ3, g (enc a) ρ = some ρ1 ∧ t ρ1 = .ok (true, ρ2) ∧ f ρ2 = some (ys a, ρ3) ∧ wipeE ρ3 vs = ρ) →
    lcO g t f vs (xs.map enc) ρ = some (xs.flatMap ys, ρ)
  | [], _ => rfl
  | a :: xs, st => by
    obtain ⟨ρ1, ρ2, ρ3, h1, h2, h3, h4⟩ := st a List.mem_cons_self
    have ih := lcO_map enc ys ρ xs fun c hc => st c (List.mem_cons_of_mem _ hc)
    rw [List.map_cons]
    unfold lcO
    rw [h1]
    simp only [h2, h3, h4, ih]
    rfl
theorem lc2_eq {it it1 : DI} {g g1 : DG} {t t1 : DT} {e : DV} {vs vs1 : List Nat} {ρ ρ1 ρ2 : Env} {xs ys : List Val} (h : it ρ = .ok (xs, ρ1)) (h2 : lcO g t (lcL2 it1 g1 t1 e vs1) vs xs (wipeE ρ1 vs) = some (ys, ρ2)) (hl : ys.length ≤ sizeLine) : dLc2 it g t it1 g1 t1 e vs vs1 ρ = .ok (.own ys, rest ρ1 vs ρ2) := by
  unfold dLc2
  rw [h]
  simp only [h2, if_pos hl]
theorem lcL2_eq {it1 : DI} {g1 : DG} {t1 : DT} {e : DV} {vs1 : List Nat} {ρ ρ1 ρ2 : Env} {xs ys : List Val} (h : it1 ρ = .ok (xs, ρ1)) (hl : xs.length ≤ sizeLine) (h2 : lcL g1 t1 e vs1 xs (wipeE ρ1 vs1) = some (ys, ρ2)) : lcL2 it1 g1 t1 e vs1 ρ = some (ys, rest ρ1 vs1 ρ2) := by
  unfold lcL2
  rw [h]
  simp only [h2, if_pos hl]
  rfl
theorem rOk_of {i : Int} (h : -(2 ^ 62) ≤ i ∧ i < 2 ^ 62) : rOk i = true := decide_eq_true h
/-- range(n), range(a, n) in a for -/
theorem rg1 {d : DV} {ρ ρ' : Env} {n : Int} (h : d ρ = .ok (.int n, ρ')) (hn : -(2 ^ 62) ≤ n ∧ n < 2 ^ 62) : dRg (dR1 d) ρ = .ok ((rangeI 0 n).map .int, ρ') := by
  unfold dRg dR1
  rw [h]
  simp only [Out.bind]
  rw [rOk_of hn]
  rfl
theorem rg2 {a b : DV} {ρ ρ1 ρ2 : Env} {m n : Int} (h : a ρ = .ok (.int m, ρ1)) (h2 : b ρ1 = .ok (.int n, ρ2)) (hm : -(2 ^ 62) ≤ m ∧ m < 2 ^ 62) (hn : -(2 ^ 62) ≤ n ∧ n < 2 ^ 62) : dRg (dR2 a b) ρ = .ok ((rangeI m n).map .int, ρ2) := by
  unfold dRg dR2
  rw [h]
  simp only [Out.bind, h2]
  rw [rOk_of hn, rOk_of hm]
  rfl
theorem mem_rangeI {a b x : Int} : x ∈ rangeI a b ↔ a ≤ x ∧ x < b := by
  unfold rangeI
  rw [List.mem_map]
  constructor
  · rintro ⟨i, hi, rfl⟩
    have := List.mem_range.mp hi
    omega
  · rintro ⟨h1, h2⟩
    exact ⟨(x - a).toNat, List.mem_range.mpr (by omega), by omega⟩
theorem length_rangeI (a b : Int) : (rangeI a b).length = (b - a).toNat := by simp [rangeI]
theorem sizeLine_big : 2 ^ 20 ≤ sizeLine := by decide
end Ev
namespace Ev
open PySem PySem.Spec PyProof.Rows L2
theorem lcL_map1 {α : Type} {g : DG} {t : DT} {e : DV} {vs : List Nat} (enc : α → Val) (f : α → Val) (ρ : Env) (xs : List α)
    (st : ∀ a, a ∈ xs → ∃ ρ1 ρ2 ρ3, g (enc a) ρ = some ρ1 ∧ t ρ1 = .ok (true, ρ2) ∧ e ρ2 = .ok (f a, ρ3) ∧ wipeE ρ3 vs = ρ) : lcL g t e vs (xs.map enc) ρ = some (xs.map f, ρ) := by
  have h := lcL_map (g := g) (t := t) (e := e) (vs := vs) enc (fun _ => true) f ρ xs fun a ha => by
    obtain ⟨ρ1, ρ2, ρ3, h1, h2, h3, h4⟩ := st a ha
    exact ⟨ρ1, ρ2, h1, h2, by rw [if_pos rfl]; exact ⟨ρ3, h3, h4⟩⟩
  rw [List.filter_eq_self.mpr fun _ _ => rfl] at h
  exact h
theorem all_map {α : Type} (p : α → Bool) (xs : List α) : allV (.lst (xs.map fun a => .bl (p a))) = some (.bl (xs.all p)) := by
  have := all_bls (xs.map p)
  rw [List.map_map] at this
  rw [show (xs.map fun a => Val.bl (p a)) = xs.map (Val.bl ∘ p) from rfl, this, List.all_map]
  rfl
theorem any_map {α : Type} (p : α → Bool) (xs : List α) : anyV (.lst (xs.map fun a => .bl (p a))) = some (.bl (xs.any p)) := by
  have := any_bls (xs.map p)
  rw [List.map_map] at this
  rw [show (xs.map fun a => Val.bl (p a)) = xs.map (Val.bl ∘ p) from rfl, this, List.any_map]
  rfl
end Ev

/-! Ev: each word's meaning, with the environment written. -/
namespace Ev
open PySem PySem.Spec PyProof.Rows L2
theorem ob_ok {α β : Type} (a : α) (f : α → Out β) : Out.bind (.ok a) f = f a := rfl
theorem oo_s {α : Type} (a : α) : Out.of (some a) = .ok a := rfl
theorem de_v (ρ : Env) (x : Val) : deref ρ (.val x) = some x := rfl
theorem de_s (ρ : Env) (i : Nat) : deref ρ (.slot i) = (match ρ[i]? with
  | some s => s.view
  | none => none) := rfl
theorem ds_n (ρ : Env) : derefs ρ [] = some [] := rfl
theorem ds_c (ρ : Env) (h : Hd) (hs : List Hd) : derefs ρ (h :: hs) = (deref ρ h).bind fun x => (derefs ρ hs).map fun xs => x :: xs := rfl
theorem ts_n (ρ : Env) : takes ρ [] = some ([], ρ) := rfl
theorem ts_c (ρ : Env) (h : Hd) (hs : List Hd) : takes ρ (h :: hs) = (takeV h ρ).bind fun p => (takes p.2 hs).map fun q => (p.1 :: q.1, q.2) := rfl
theorem tv_v (ρ : Env) (x : Val) : takeV (.val x) ρ = some (x, ρ) := rfl
theorem tv_s (ρ : Env) (i : Nat) : takeV (.slot i) ρ = (match ρ[i]? with
  | some s => match frOf s with
    | some x => some (x, ρ.set i (.fz x))
    | none => none
  | none => none) := rfl
theorem fl_rt (np : Nat) (rf : Option Nat) (s : Sl) (ρ : Env) : flRes np rf (.rt s ρ) = (match parOf np rf ρ with
    | some t => if notNo s then .ok (s, t) else .bad
    | none => .bad) := rfl
theorem fl_nx (np : Nat) (rf : Option Nat) (ρ : Env) : flRes np rf (.nx ρ) = (match parOf np rf ρ with
    | some t => .ok (.fz .non, t)
    | none => .bad) := rfl
def Out.fl {α : Type} (x : Out α) (f : α → Fl) : Fl := match x with
  | .ok a => f a
  | _ => .bad
theorem fo_ok {α : Type} (a : α) (f : α → Fl) : Out.fl (.ok a) f = f a := rfl
def Fl.thn (x : Fl) (f : Env → Fl) : Fl := match x with
  | .nx ρ => f ρ
  | y => y
theorem th_nx (ρ : Env) (f : Env → Fl) : Fl.thn (.nx ρ) f = f ρ := rfl
theorem th_rt (s : Sl) (ρ : Env) (f : Env → Fl) : Fl.thn (.rt s ρ) f = .rt s ρ := rfl
theorem th_bk (ρ : Env) (f : Env → Fl) : Fl.thn (.bk ρ) f = .bk ρ := rfl
theorem th_ct (ρ : Env) (f : Env → Fl) : Fl.thn (.ct ρ) f = .ct ρ := rfl
theorem x_sSeq (a b : DS) (ρ : Env) : sSeq a b ρ = (a ρ).thn b := by unfold sSeq Fl.thn; cases a ρ <;> rfl
theorem x_sIf (c : DT) (a b : DS) (ρ : Env) : sIf c a b ρ = (c ρ).fl fun p => if p.1 = true then a p.2 else b p.2 := by
  unfold sIf Out.fl
  rcases c ρ with ⟨⟨_ | _, _⟩⟩ | _ | _ <;> rfl
theorem x_sDrop (d : DO) (ρ : Env) : sDrop d ρ = (d ρ).fl fun p => .nx p.2 := by unfold sDrop Out.fl; rcases d ρ with ⟨⟨_, _⟩⟩ | _ | _ <;> rfl
theorem x_sRet (d : DO) (ρ : Env) : sRet d ρ = (d ρ).fl fun p => .rt p.1 p.2 := by unfold sRet Out.fl; rcases d ρ with ⟨⟨_, _⟩⟩ | _ | _ <;> rfl
theorem x_sSet (i : Nat) (d : DO) (ρ : Env) : sSet i d ρ = (d ρ).fl fun p => asg i p.1 p.2 := by unfold sSet Out.fl; rcases d ρ with ⟨⟨_, _⟩⟩ | _ | _ <;> rfl
def Opt.fl {α : Type} (x : Option α) (f : α → Fl) : Fl := match x with
  | some a => f a
  | none => .bad
theorem op_s {α : Type} (a : α) (f : α → Fl) : Opt.fl (some a) f = f a := rfl
theorem x_sAsg (d : DV) (g : DG) (ρ : Env) : sAsg d g ρ = (d ρ).fl fun p => Opt.fl (g p.1 p.2) .nx := by
  unfold sAsg Out.fl
  rcases d ρ with ⟨⟨x, r⟩⟩ | _ | _
  · show (match g x r with | some ρ2 => Fl.nx ρ2 | none => .bad) = Opt.fl (g x r) .nx
    unfold Opt.fl
    cases g x r <;> rfl
  · rfl
  · rfl
theorem x_sPut (i : Nat) (di dv : DV) (ρ : Env) : sPut i di dv ρ = (dv ρ).fl fun p => Opt.fl ((p.2[i]?).bind lstOf) fun _ => (di p.2).fl fun q => Opt.fl (q.2[i]?) fun s => Opt.fl ((lstOf s).bind fun ys => putV ys q.1 p.1) fun ys => .nx (q.2.set i (setL s ys)) := by
  unfold sPut Out.fl Opt.fl
  rcases dv ρ with ⟨⟨x, r⟩⟩ | _ | _
  · simp only
    cases h1 : (r[i]?).bind lstOf with
    | none => rfl
    | some _ =>
      simp only
      rcases di r with ⟨⟨k, r2⟩⟩ | _ | _
      · simp only
        cases h2 : r2[i]? with
        | none => rfl
        | some s =>
          simp only
          cases h3 : (lstOf s).bind fun ys => putV ys k x <;> rfl
      · rfl
      · rfl
  · rfl
  · rfl
theorem x_sPar (i j : Nat) (d : DA) (ρ : Env) : sPar i j d ρ = (d ρ).fl fun p => Opt.fl (takes p.2 p.1) fun q => match q.1 with
    | [x, y] => if i < q.2.length ∧ j < q.2.length then .nx ((q.2.set i (.fz x)).set j (.fz y)) else .bad
    | _ => .bad := by
  unfold sPar Out.fl Opt.fl
  rcases d ρ with ⟨⟨hs, r⟩⟩ | _ | _
  · simp only
    cases h : takes r hs with
    | none => rfl
    | some q =>
      obtain ⟨xs, r2⟩ := q
      rcases xs with _ | ⟨x, _ | ⟨y, _ | ⟨z, t⟩⟩⟩ <;> rfl
  · rfl
  · rfl
theorem x_dHV (d : DV) (ρ : Env) : dHV d ρ = ((d ρ).bind fun p => .ok (.val p.1, p.2)) := by rfl
theorem x_dVar (i : Nat) (ρ : Env) : dVar i ρ = (match ρ[i]? with
    | some (.fz x) => .ok (.val x, ρ)
    | some (.own _) => .ok (.slot i, ρ)
    | some (.par _) => .ok (.slot i, ρ)
    | some (.odK _) => .ok (.slot i, ρ)
    | some (.odT _) => .ok (.slot i, ρ)
    | some (.lck _) => .ok (.slot i, ρ)
    | some (.box _ _ _) => .ok (.slot i, ρ)
    | some (.pbox _ _ _) => .ok (.slot i, ρ)
    | some (.own2 _) => .ok (.slot i, ρ)
    | _ => .bad) := by rfl
theorem x_dC (x : Val) (ρ : Env) : dC x ρ = (.ok (x, ρ)) := by rfl
theorem x_dVH (d : DH) (ρ : Env) : dVH d ρ = ((d ρ).bind fun p => Out.of (takeV p.1 p.2)) := by rfl
theorem x_dIt (d : DV) (ρ : Env) : dIt d ρ = ((d ρ).bind fun p => Out.of ((goesV p.1).map fun xs => (xs, p.2))) := by rfl
theorem x_dRg (d : DR) (ρ : Env) : dRg d ρ = ((d ρ).bind fun p => if rOk p.1.1 && rOk p.1.2 then .ok ((rangeI p.1.1 p.1.2).map .int, p.2) else .bad) := by rfl
theorem x_tYesD  (ρ : Env) : tYesD ρ = (.ok (true, ρ)) := by rfl
theorem x_dU (g : List Val → List Val → Option (Val × List Val)) (i : Nat) (d : DA) (ρ : Env) : dU g i d ρ = (match (ρ[i]?).bind lstOf with
    | some _ => (d ρ).bind fun p => Out.of ((takes p.2 p.1).bind fun q => (q.2[i]?).bind fun s => (lstOf s).bind fun ys => (g ys q.1).map fun r => (r.1, q.2.set i (setL s r.2)))
    | none => .bad) := by rfl
theorem x_d2 (g : Val → Val → Option Val) (da db : DH) (ρ : Env) : d2 g da db ρ = ((da ρ).bind fun p => (db p.2).bind fun q =>
    Out.of ((deref q.2 p.1).bind fun x => (deref q.2 q.1).bind fun y => (g x y).map fun z => (z, q.2))) := by rfl
theorem x_aNil  (ρ : Env) : aNil ρ = (.ok ([], ρ)) := by rfl
theorem x_aCons (d : DH) (ds : DA) (ρ : Env) : aCons d ds ρ = ((d ρ).bind fun p => (ds p.2).bind fun q => .ok (p.1 :: q.1, q.2)) := by rfl
theorem x_dN (g : List Val → Option Val) (d : DA) (ρ : Env) : dN g d ρ = ((d ρ).bind fun p => Out.of ((derefs p.2 p.1).bind fun xs => (g xs).map fun z => (z, p.2))) := by rfl
theorem x_pNone  (ρ : Env) : pNone ρ = (.ok (none, ρ)) := by rfl
theorem x_pSome (d : DV) (ρ : Env) : pSome d ρ = ((d ρ).bind fun p => match p.1 with
    | .int i => .ok (some i, p.2)
    | _ => .bad) := by rfl
theorem x_dSl (da : DH) (dl dh : DP) (ρ : Env) : dSl da dl dh ρ = ((da ρ).bind fun p => (dl p.2).bind fun l => (dh l.2).bind fun h => Out.of ((deref h.2 p.1).bind fun x => (slV x l.1 h.1).map fun z => (z, h.2))) := by rfl
theorem x_dTup (d : DA) (ρ : Env) : dTup d ρ = ((d ρ).bind fun p => Out.of ((takes p.2 p.1).bind fun q => if q.1.length ≤ sizeLine then some (.tup q.1, q.2) else none)) := by rfl
theorem x_dOV (d : DV) (ρ : Env) : dOV d ρ = ((d ρ).bind fun p => .ok (.fz p.1, p.2)) := by rfl
theorem x_dVO (d : DO) (ρ : Env) : dVO d ρ = ((d ρ).bind fun p => Out.of ((frOf p.1).map fun x => (x, p.2))) := by rfl
theorem x_dLst (d : DA) (ρ : Env) : dLst d ρ = ((d ρ).bind fun p => Out.of ((takes p.2 p.1).bind fun q => if q.1.length ≤ sizeLine then some (.own q.1, q.2) else none)) := by rfl
theorem x_tOf (d : DH) (ρ : Env) : tOf d ρ = ((d ρ).bind fun p => Out.of ((deref p.2 p.1).bind fun x => (truth x).map fun b => (b, p.2))) := by rfl
theorem x_tBl (d : DV) (ρ : Env) : tBl d ρ = ((d ρ).bind fun p => match p.1 with
    | .bl b => .ok (b, p.2)
    | _ => .bad) := by rfl
theorem x_dChain (g g' : Val → Val → Option Val) (da db dc : DH) (ρ : Env) : dChain g g' da db dc ρ = ((da ρ).bind fun p => (db p.2).bind fun q =>
    match (deref q.2 p.1).bind fun x => (deref q.2 q.1).bind fun y => g x y with
    | some (.bl true) => (dc q.2).bind fun r => Out.of ((deref r.2 q.1).bind fun y => (deref r.2 r.1).bind fun w => (g' y w).map fun z => (z, r.2))
    | some (.bl false) => .ok (.bl false, q.2)
    | _ => .bad) := by rfl
theorem x_tAndD (a b : DT) (ρ : Env) : tAndD a b ρ = ((a ρ).bind fun p => if p.1 = true then b p.2 else .ok (false, p.2)) := by rfl
theorem x_tOrD (a b : DT) (ρ : Env) : tOrD a b ρ = ((a ρ).bind fun p => if p.1 = true then .ok (true, p.2) else b p.2) := by rfl
theorem x_tNotD (a : DT) (ρ : Env) : tNotD a ρ = ((a ρ).bind fun p => .ok (!p.1, p.2)) := by rfl
theorem x_vAnd (a b : DV) (ρ : Env) : vAnd a b ρ = ((a ρ).bind fun p => match truth p.1 with
    | some true => b p.2
    | some false => .ok p
    | none => .bad) := by rfl
theorem x_vOr (a b : DV) (ρ : Env) : vOr a b ρ = ((a ρ).bind fun p => match truth p.1 with
    | some true => .ok p
    | some false => b p.2
    | none => .bad) := by rfl
theorem x_vNot (a : DH) (ρ : Env) : vNot a ρ = ((a ρ).bind fun p => Out.of ((deref p.2 p.1).bind fun x => (truth x).map fun b => (.bl (!b), p.2))) := by rfl
theorem x_dIf (t : DT) (a b : DV) (ρ : Env) : dIf t a b ρ = ((t ρ).bind fun p => if p.1 = true then a p.2 else b p.2) := by rfl
theorem x_dNeg (a : DV) (ρ : Env) : dNeg a ρ = ((a ρ).bind fun p => match p.1 with
    | .int i => .ok (.int (-i), p.2)
    | _ => .bad) := by rfl
theorem x_dIsN (d : DV) (ρ : Env) : dIsN d ρ = ((d ρ).bind fun p => .ok (.bl (isNone p.1), p.2)) := by rfl
theorem x_dNotN (d : DV) (ρ : Env) : dNotN d ρ = ((d ρ).bind fun p => .ok (.bl (!isNone p.1), p.2)) := by rfl
theorem x_dNo (g : List Val → Option (List Val)) (d : DA) (ρ : Env) : dNo g d ρ = ((d ρ).bind fun p => Out.of ((derefs p.2 p.1).bind fun xs => (g xs).map fun ys => (.own ys, p.2))) := by rfl
theorem x_dR1 (d : DV) (ρ : Env) : dR1 d ρ = ((d ρ).bind fun p => match p.1 with
    | .int n => .ok (((0 : Int), n), p.2)
    | _ => .bad) := by rfl
theorem x_dR2 (a b : DV) (ρ : Env) : dR2 a b ρ = ((a ρ).bind fun p => (b p.2).bind fun q => match p.1, q.1 with
    | .int i, .int j => .ok ((i, j), q.2)
    | _, _ => .bad) := by rfl
theorem x_dLR (d : DR) (ρ : Env) : dLR d ρ = ((d ρ).bind fun p => if rgOk p.1.1 p.1.2 then .ok (.own ((rangeI p.1.1 p.1.2).map .int), p.2) else .bad) := by rfl
theorem x_dIsi (T : String) (d : DH) (ρ : Env) : dIsi T d ρ = ((d ρ).bind fun p => Out.of ((deref p.2 p.1).bind fun x => (isiV T x).map fun z => (z, p.2))) := by rfl
theorem x_sSkip  (ρ : Env) : sSkip ρ = (Fl.nx ρ) := by rfl
theorem x_sBreak  (ρ : Env) : sBreak ρ = (Fl.bk ρ) := by rfl
theorem x_sCont  (ρ : Env) : sCont ρ = (Fl.ct ρ) := by rfl
theorem x_asg (i : Nat) (s : Sl) (ρ : Env)  : asg i s ρ = (if i < ρ.length then .nx (ρ.set i s) else .bad) := by rfl
theorem x_gNm (i : Nat) (x : Val) (ρ : Env) : gNm i x ρ = (if i < ρ.length then some (ρ.set i (.fz x)) else none) := by rfl
theorem x_gN  (xs : List Val) (ρ : Env) : gN xs ρ = (match xs with
    | [] => some ρ
    | _ => none) := by rfl
theorem x_gC (g : DG) (gs : DGs) (xs : List Val) (ρ : Env) : gC g gs xs ρ = (match xs with
    | x :: xs => (g x ρ).bind fun ρ' => gs xs ρ'
    | [] => none) := by rfl
theorem x_gTp (n : Nat) (gs : DGs) (x : Val) (ρ : Env) : gTp n gs x ρ = ((tupOf x).bind fun xs => if xs.length = n then gs xs ρ else none) := by rfl
theorem x_g1 (g : Val → Option Val) (xs : List Val) : g1 g xs = (match xs with | [x] => g x | _ => none) := by rfl
theorem x_g2 (g : Val → Val → Option Val) (xs : List Val) : g2 g xs = (match xs with | [x, y] => g x y | _ => none) := by rfl
theorem x_go1 (g : Val → Option (List Val)) (xs : List Val) : go1 g xs = (match xs with | [x] => g x | _ => none) := by rfl
theorem x_callD0 (e : FnE) (d : DA) (ρ : Env) : callD0 e d ρ = ((d ρ).bind fun p => match takes p.2 p.1 with
    | some q => if q.1.length = e.np then (e.sem (q.1.map .fz)).bind fun r => if notNo r.1 = true then .ok (r.1, q.2) else .bad else .bad
    | none => .bad) := by rfl
theorem x_callD1 (e : FnE) (k : Nat) (d : DA) (ρ : Env) : callD1 e k d ρ = ((d ρ).bind fun p => match p.1[k]? with
    | some (.slot i) => match takes p.2 (p.1.set k (.val .non)) with
      | some q => match q.2[i]? with
        | some s0 => match parIn s0 with
          | some p0 => if q.1.length = e.np then (e.sem ((q.1.map .fz).set k p0)).bind fun r => match parBack s0 r.2 with
            | some sR => if notNo r.1 = true then .ok (r.1, q.2.set i sR) else .bad
            | none => .bad
            else .bad
          | none => .bad
        | none => .bad
      | none => .bad
    | _ => .bad) := by rfl
end Ev

/-! Ev: slices with the step -1. -/
namespace Ev
open PySem PySem.Spec PyProof.Rows L2

/-- the places that xs[start:stop:-1] takes -/
def backN (n : Nat) (start stop : Option Int) : Int × Nat := ((Builtin.Slice.sliceAdjust start stop (-1) (n : Int)).1, Builtin.Slice.slicePlaces (Builtin.Slice.sliceAdjust start stop (-1) (n : Int)).1 (Builtin.Slice.sliceAdjust start stop (-1) (n : Int)).2 (-1))
def backL {α : Type} (xs : List α) (start stop : Option Int) : List α := (List.range (backN xs.length start stop).2).filterMap fun (m : Nat) => xs[((backN xs.length start stop).1 + (m : Int) * (-1)).toNat]?
theorem slicePlaces_le {a b : Int} {n : Nat} (h : a ≤ n) (h2 : -1 ≤ b) : Builtin.Slice.slicePlaces a b (-1) ≤ n + 1 := by
  unfold Builtin.Slice.slicePlaces
  have h1 : ¬ ((-1 : Int) > 0) := by omega
  simp only [h1, if_false]
  split
  · have : (a - b - 1) / (- -1) = a - b - 1 := by simp
    rw [this]
    omega
  · omega
theorem adjust_le (n : Nat) (start stop : Option Int) : (Builtin.Slice.sliceAdjust start stop (-1) (n : Int)).1 ≤ (n : Int) - 1 ∧ -1 ≤ (Builtin.Slice.sliceAdjust start stop (-1) (n : Int)).2 := by
  unfold Builtin.Slice.sliceAdjust
  have h1 : ((-1 : Int) < 0) := by omega
  simp only [h1, if_true]
  constructor
  · cases start with
    | none => simp
    | some v => simp only; split <;> omega
  · cases stop with
    | none => simp
    | some v => simp only; split <;> omega
theorem backL_len {α : Type} (xs : List α) (start stop : Option Int) : (backL xs start stop).length ≤ xs.length := by
  unfold backL
  refine Nat.le_trans (List.length_filterMap_le _ _) ?_
  rw [List.length_range]
  obtain ⟨h1, h2⟩ := adjust_le xs.length start stop
  unfold backN
  simp only
  unfold Builtin.Slice.slicePlaces
  have h3 : ¬ ((-1 : Int) > 0) := by omega
  simp only [h3, if_false]
  split
  · have : ∀ z : Int, z / (- -1) = z := fun z => by simp
    rw [this]
    omega
  · omega
theorem slicePart_neg {prog : Program} {w : World} {A : Around} {E : Value → Shared → Prop} {s : Shared} {sl : Addr} {vl vu vs : Value} {lo hi : Option Int} {n : Nat} {Q : Int × Int × Nat → Shared → Prop} (hs : s.heap.IsSliceOf sl vl vu vs) (pl : IsPart vl lo) (pu : IsPart vu hi) (ps : IsPart vs (some (-1)))
    (h : Q ((backN n lo hi).1, -1, (backN n lo hi).2) s) : wpAny (model prog w) A (Builtin.Slice.sliceApplied (.ref sl) (pure (n : Int))) Q E s := by
  obtain ⟨os, hos, hcs, hds⟩ := id hs
  unfold Builtin.Slice.sliceApplied Builtin.Slice.sliceFields
  refine wpAny_bind (wpAny_bind (wpAny_field hos hds (x := vl) rfl (wpAny_bind (wpAny_field hos hds (x := vu) rfl (wpAny_bind (wpAny_field hos hds (x := vs) rfl (wpAny_pure ?_)))))))
  refine wpAny_bind (HT.slicePart_ ps ?_)
  show wpAny _ _ (if ((-1 : Int) == 0) = true then _ else _) _ _ s
  rw [if_neg (by decide)]
  refine wpAny_bind (HT.slicePart_ pl (wpAny_bind (HT.slicePart_ pu (wpAny_bind (wpAny_pure ?_)))))
  exact wpAny_pure h
theorem getItem_tuple_neg {prog : Program} {w : World} {A : Around} {E : Value → Shared → Prop} {s : Shared} {t sl : Addr} {items : Array Value} {vl vu vs : Value} {lo hi : Option Int} {Q : Value → Shared → Prop} (ht : IsTup s.heap t items) (hs : s.heap.IsSliceOf sl vl vu vs) (pl : IsPart vl lo) (pu : IsPart vu hi) (ps : IsPart vs (some (-1)))
    (h : Q (.ref s.heap.objs.size) { s with heap := s.heap.push { cls := .type "tuple", data := .seq (backL items.toList lo hi).toArray } })
    (hsz : items.size ≤ sizeLine) : wpAny (model prog w) A (getItem (.ref t) (.ref sl)) Q E s := by
  have htake : sizeOk (.seq (backL items.toList lo hi).toArray) := by
    have h1 := backL_len items.toList lo hi
    have h2 : items.toList.length = items.size := Array.length_toList
    have h3 : (backL items.toList lo hi).toArray.size = (backL items.toList lo hi).length := List.size_toArray
    show (backL items.toList lo hi).toArray.size ≤ sizeLine
    rw [h3]
    omega
  obtain ⟨os, hos, hcs, hds⟩ := id hs
  have hTs : s.TypeIs (.ref sl) "slice" := ⟨os, hos, hcs⟩
  unfold getItem
  try with_reducible refine wpAny_holding ?_
  first | refine wpAny_bind (wpAny_pure ?_) | skip
  refine wpAny_bind (wpAny_sequenceKey ht.typeIs (by decide) ?_)
  refine wpAny_bind (wpAny_callSpecial?_slot (name := Str.ofString "__getitem__") ht.typeIs PyProof.Rows.slot_tuple_getitem
    (wpAny_call_entry PyProof.Rows.slot_tuple_getitem ht.typeIs entry_tuple_getitem ?_ (args_tuple_getitem _ _)))
  show wpAny _ _ (Builtin.Tuple.tupleItemsOf (.ref t) >>= _) _ _ s
  refine wpAny_bind (PyProof.Rows.tupleItemsOf_ ht ?_)
  refine wpAny_bind (wpAny_typeOf hTs ?_)
  rw [if_pos (by decide)]
  refine wpAny_bind (slicePart_neg hs pl pu ps ?_)
  have hno : ¬ (((backN items.size lo hi).1 == 0 && (-1 : Int) == 1 && (backN items.size lo hi).2 == items.size) = true) := by
    intro q
    rw [Bool.and_eq_true, Bool.and_eq_true] at q
    exact absurd q.1.2 (by decide)
  show wpAny _ _ (if ((backN items.size lo hi).1 == 0 && (-1 : Int) == 1 && (backN items.size lo hi).2 == items.size) = true then _ else _) _ _ s
  rw [if_neg hno]
  have hp : ((List.range (backN items.size lo hi).2).filterMap fun (m : Nat) => items[((backN items.size lo hi).1 + (m : Int) * (-1)).toNat]?).toArray = (backL items.toList lo hi).toArray := by
    unfold backL
    rw [Array.length_toList]
    simp only [Array.getElem?_toList]
  rw [hp]
  first
    | exact wpAny_bind (m := Builtin.Tuple.tupleExact _) (wpAny_newObj_type (wpAny_pure ⟨_, rfl, wpAny_pure h⟩) htake)
    | exact wpAny_bind (m := Builtin.Tuple.tupleExact _) (wpAny_newObj_type (wpAny_bind (wpAny_pure (wpAny_pure ⟨_, rfl, wpAny_pure h⟩))) htake)
    | exact wpAny_bind (wpAny_bind (m := Builtin.Tuple.tupleExact _) (wpAny_newObj_type (wpAny_pure (wpAny_pure ⟨_, rfl, wpAny_pure h⟩)) htake))
    | exact wpAny_bind (wpAny_bind (m := Builtin.Tuple.tupleExact _) (wpAny_newObj_type (wpAny_pure ⟨_, rfl, wpAny_pure h⟩) htake))

/-! ### as a rule -/
def tBack (K : PySem.W.Frag) (te : TE) (tl th : TO) : TE := fun σ H Q => te σ H fun v H1 => tl σ H1 fun lo H2 => th σ H2 fun hi H3 =>
  (∃ (a : Addr) (xs : List V), v = .ref a ∧ SqT K H3 a xs ∧ ∀ p, H3 p = none → Q (.ref p) (upd H3 p (.tup (backL xs lo hi)))) ∨
  (lo = none ∧ hi = none ∧ ∃ (a : Addr) (xs : List V), v = .ref a ∧ SqL K H3 a xs ∧ ∀ p, H3 p = none → Q (.ref p) (upd H3 p (.lst xs.reverse)))
theorem vals_back {xs : List V} {us : List Value} (h : Vals xs us) (lo hi : Option Int) : Vals (backL xs lo hi) (backL us lo hi) := by
  unfold backL
  rw [h.length]
  generalize (backN us.length lo hi).1 = a
  generalize (List.range (backN us.length lo hi).2) = ms
  induction ms with
  | nil => exact .nil
  | cons m ms ih =>
    rw [List.filterMap_cons, List.filterMap_cons]
    cases e : xs[(a + (m : Int) * (-1)).toNat]? with
    | none =>
      have : us[(a + (m : Int) * (-1)).toNat]? = none := by
        rw [List.getElem?_eq_none_iff] at e ⊢
        rw [← h.length]; exact e
      rw [this]
      exact ih
    | some x =>
      obtain ⟨u, hu, ru⟩ := h.get e
      rw [hu]
      exact .cons ru ih
section
variable {X : Cx}
theorem pe_back {e : Expr} {lo hi : Option Expr} {te : TE} {tl th : TO} {k : Nat} {p1 p2 p3 pos : Pos} (he : PE X e te) (hl : PO X lo tl) (hu : PO X hi th) : PE X (.Subscript e (.Slice lo hi (some (.UnaryOp .USub (.Constant (.int 1) k p1) p2)) p3) pos) (tBack X.K te tl th) := by
  refine ⟨fun pins s σ H Q I h => ?_⟩
  refine Subscript_ (thn (he.run pins s σ H _ I h) fun v s1 ⟨x, H1, I1, r1, q1⟩ => ?_)
  have hst : PO X (some (.UnaryOp .USub (.Constant (.int 1) k p1) p2)) (tPart (tUn (L2.rU fun i => .int (-i)) (tC (.int 1)))) := po_some (pe_un un_neg pe_int)
  refine wpAny_Slice (thn (hl.run pins s1 σ H1 _ I1 q1) fun vl s2 ⟨l, H2, I2, pl, q2⟩ => ?_)
  refine thn (hu.run pins s2 σ H2 _ I2 q2) fun vu s3 ⟨u, H3, I3, pu, q3⟩ => ?_
  refine thn (hst.run pins s3 σ H3 (fun o H4 => o = some (-1) ∧ H4 = H3) I3 ⟨1, rfl, -1, rfl, rfl, rfl⟩) fun vs s4 ⟨o, H4, I4, ps, eo, e4⟩ => ?_
  subst eo e4
  have I5 : Inv X pins σ H4 { s4 with heap := s4.heap.push { cls := .type "slice", data := .fields #[vl, vu, vs] } } := I4.kept (t' := s4.toks) fun b ob q => Heap.get?_push_of_some _ q
  rcases q3 with ⟨a, xs, ex, hx, q⟩ | ⟨el, eh, a, xs, ex, hx, q⟩
  · subst ex
    cases r1
    obtain ⟨its, r, ht, hz⟩ := I5.tuple hx
    have hlen := r.length
    show wpAny (model X.prog X.w) X.A (subscriptTail e (.Slice lo hi (some (.UnaryOp .USub (.Constant (.int 1) k p1) p2)) p3) (.ref a) (.ref s4.heap.objs.size)) (EP X pins σ Q) X.xe { s4 with heap := s4.heap.push { cls := .type "slice", data := .fields #[vl, vu, vs] } }
    refine tail_any (ops := [.ref a, .ref s4.heap.objs.size]) ht.typeIs (PyProof.Rows.slot_tuple_getitem.lookup) ?_ (by with_unfolding_all rfl)
    refine getItem_tuple_neg ht (Heap.IsSliceOf.new _ vl vu vs) pl pu ps ?_ (by rw [List.size_toArray]; omega)
    have rb := vals_back r l u
    refine ⟨.ref _, _, I5.laid (t' := s4.toks) (o := .tup (backL xs l u)) (fun b ob q => Heap.get?_push_of_some _ q) (Nat.le_refl _) ?_, rfl, q _ (I5.hok.fresh (Nat.le_refl _))⟩
    exact ⟨Nat.le_trans (backL_len xs l u) hz, _, rb, ⟨_, Heap.get?_push_size _ rfl, rfl, 0, rfl⟩⟩
  · subst ex el eh
    cases r1
    obtain ⟨its, r, ht, hz⟩ := I5.list hx
    have hlen := r.length
    show wpAny (model X.prog X.w) X.A (subscriptTail e (.Slice lo hi (some (.UnaryOp .USub (.Constant (.int 1) k p1) p2)) p3) (.ref a) (.ref s4.heap.objs.size)) (EP X pins σ Q) X.xe { s4 with heap := s4.heap.push { cls := .type "slice", data := .fields #[vl, vu, vs] } }
    refine tail_any (ops := [.ref a, .ref s4.heap.objs.size]) ht.isList.typeIs (PySem.slot_list_getitem.lookup) ?_ (by with_unfolding_all rfl)
    refine wpAny_getItem_list_slice ht.isList (Heap.IsSliceOf.new _ vl vu vs) pl pu ps (by decide) ?_ (by rw [List.size_toArray]; omega)
    rw [PySem.W.krv_pick]
    refine ⟨.ref _, _, I5.laid (t' := s4.toks) (o := .lst xs.reverse) (fun b ob q => Heap.get?_push_of_some _ q) (Nat.le_refl _) ?_, rfl, q _ (I5.hok.fresh (Nat.le_refl _))⟩
    exact ⟨by rw [List.length_reverse]; exact hz, _, 0, r.reverse, Heap.get?_push_size _ rfl⟩
end
end Ev

namespace Ev
open PySem PySem.Spec PyProof.Rows L2
def backV (x : Val) (lo hi : Option Int) : Option Val := match x with
  | .tup xs => some (.tup (backL xs lo hi))
  | .lst xs => if lo = none ∧ hi = none then some (.lst xs.reverse) else none
  | .scr ns => if lo = none ∧ hi = none then some (.lst (ns.reverse.map .int)) else none
  | _ => none
def dBk (da : DH) (dl dh : DP) : DV := fun ρ => (da ρ).bind fun p => (dl p.2).bind fun l => (dh l.2).bind fun h => Out.of ((deref h.2 p.1).bind fun x => (backV x l.1 h.1).map fun z => (z, h.2))
theorem Rls.back {K : PySem.W.Frag} {mg : MG} {Z : Hp} {vs : List V} {xs : List Val} (h : Rls K mg Z vs xs) (lo hi : Option Int) : Rls K mg Z (backL vs lo hi) (backL xs lo hi) := by
  unfold backL
  rw [h.length]
  generalize (backN xs.length lo hi).1 = a
  generalize (List.range (backN xs.length lo hi).2) = ms
  induction ms with
  | nil => exact .nil
  | cons m ms ih =>
    rw [List.filterMap_cons, List.filterMap_cons]
    cases e : vs[(a + (m : Int) * (-1)).toNat]? with
    | none =>
      have : xs[(a + (m : Int) * (-1)).toNat]? = none := by
        rw [List.getElem?_eq_none_iff] at e ⊢
        rw [← h.length]; exact e
      rw [this]
      exact ih
    | some x =>
      obtain ⟨u, hu, ru⟩ := h.get' e
      rw [hu]
      exact .cons ru ih
theorem pv_back {X : Cx} {e : Expr} {lo hi : Option Expr} {da : DH} {dl dh : DP} {k : Nat} {p1 p2 p3 pos : Pos} (he : PH X e da) (hl : POo X lo dl) (hu : POo X hi dh) : PV X (.Subscript e (.Slice lo hi (some (.UnaryOp .USub (.Constant (.int 1) k p1) p2)) p3) pos) (dBk da dl dh) :=
  PE.imp (pe_back he hl hu) fun σ H Q ⟨Z, O, C, ρ, R, x, ρ', q, k⟩ => by
    obtain ⟨⟨h1, ρ1⟩, e1, q⟩ := Out.bind_ok q
    obtain ⟨⟨l, ρ2⟩, e2, q⟩ := Out.bind_ok q
    obtain ⟨⟨u, ρ3⟩, e3, q⟩ := Out.bind_ok q
    obtain ⟨y, e4, q⟩ := Option.bind_eq_some_iff.mp (Out.of_ok q)
    obtain ⟨z, e5, q⟩ := Option.map_eq_some_iff.mp q
    cases q
    refine ⟨Z, O, C, ρ, R, h1, ρ1, e1, fun v H1 Z1 O1 x1 R1 r1 => ⟨Z1, O1, C, ρ1, R1, l, ρ2, e2, fun H2 Z2 O2 x2 R2 => ⟨Z2, O2, C, ρ2, R2, u, ρ3, e3, fun H3 Z3 O3 x3 R3 => ?_⟩⟩⟩
    have bo := deref_bor R3 (r1.mono (x2.z.trans x3.z)) e4
    have qq : PQ X.K X.mg Z3 H3 x (Q) := fun w Z4 H4 gr r => k w H4 Z4 O3 ((x1.trans (x2.trans x3)).trans gr.ext) (R3.grow gr) r
    unfold backV at e5
    split at e5
    · cases e5
      obtain ⟨a, vs, rfl, m, r⟩ := bor_tup bo
      exact .inl ⟨a, vs, rfl, SqT.of (R3.zh _ _ m), fun p hp => qq.newT R3.zh hp (r.back l u)⟩
    · split at e5
      · rename_i hh
        cases e5
        obtain ⟨a, vs, rfl, m, r⟩ := bor_lst R3.zh bo
        exact .inr ⟨hh.1, hh.2, a, vs, rfl, SqL.of m, fun p hp => qq.newL R3.zh hp r.reverse⟩
      · cases e5
    · split at e5
      · rename_i ns hh
        cases e5
        obtain ⟨a, rfl, m⟩ := bor_scr bo
        exact .inr ⟨hh.1, hh.2, a, _, rfl, R3.zh.seq m, fun p hp => qq.newL R3.zh hp (by rw [← List.map_reverse]; exact Rls.ints _)⟩
      · cases e5
    · cases e5
theorem x_dBk (da : DH) (dl dh : DP) (ρ : Env) : dBk da dl dh ρ = ((da ρ).bind fun p => (dl p.2).bind fun l => (dh l.2).bind fun h => Out.of ((deref h.2 p.1).bind fun x => (backV x l.1 h.1).map fun z => (z, h.2))) := by rfl
end Ev

/-! Ev: sorted(set(ints)), len(set(ints)). The first proof is turned from that of a tuple's. -/
namespace Ev
open PySem PySem.Spec PyProof.Rows L2
section
variable {P : Program} {w : World} {A : Around} {E : Value → Shared → Prop} {s : Shared}
theorem call_set_lstI {l : Addr} {items : Array Value} (ns : List Int) {Q : Value → Shared → Prop} (hh : A.handled = none) (hl : s.heap.IsList l items) (hit : IntsAre items.toList ns) (hb : ns.length + 1 < scanBound)
    (h : ∀ (h' : Heap) (tk c : Nat), SetR w h' s.heap.objs.size (fun j => decide (j ∈ ns)) c → c ≤ ns.length → (∀ b o, s.heap.get? b = some o → h'.get? b = some o) → Q (.ref s.heap.objs.size) { s with heap := h', toks := tk }) :
    wpAny (model P w) A (call (.type "set") [.ref l]) Q E s := by
  have hisz : items.size = ns.length := by
    have q := IntsAre.length hit
    rw [Array.length_toList] at q
    exact q
  obtain ⟨c, tl, hmro⟩ := F.called_set.mro
  have hmade := F.called_set.made
  have hsub := F.called_set.sub
  refine wpAny_call (codeAny_of_tree ?_)
  show wpAny _ _ (callAny (.type "set") _) _ _ _
  refine wpAny_pure ⟨Code.quiet_builtin _ (by decide +kernel), codeAny_builtin F.entry_type_call ?_⟩
  rw [Around.under_plain (weight_type_call_type "set" [.ref l] []) rfl]
  have h1 := F.called_set.notType
  have h2 := F.called_set.canCreate
  have hct := F.typeCall_set_1 (.ref l)
  repeat (any_goals (first | assumption | wp_step))

  refine codeAny_mono (code_set_led1 (.ref l) (E := E) (Q₁ := fun obj s₁ => obj = .ref s.heap.objs.size ∧ s₁ = { s with heap := s.heap.push { cls := .type "set", dict := none, data := .set #[] 0 (.fresh 0 0 (!w.params.followText "set-order")) } }) ⟨rfl, rfl⟩) fun r s₁ hr => ?_
  cases r with
  | error e => exact hr
  | ok fl =>
    cases fl with
    | ret obj =>
      obtain ⟨rfl, rfl⟩ := hr
      have hS : (s.heap.push { cls := .type "set", dict := none, data := .set #[] 0 (.fresh 0 0 (!w.params.followText "set-order")) }).get? s.heap.objs.size = some { cls := .type "set", dict := none, data := .set #[] 0 (.fresh 0 0 (!w.params.followText "set-order")) } := Heap.get?_push_size _ rfl
      have hT : Shared.TypeIs { s with heap := s.heap.push { cls := .type "set", dict := none, data := .set #[] 0 (.fresh 0 0 (!w.params.followText "set-order")) } } (.ref s.heap.objs.size) "set" := ⟨_, hS, rfl⟩
      have hli := F.called_set.init.lookup
      have hbi := F.called_set.init.bind (.ref s.heap.objs.size)
      repeat (any_goals (first | assumption | wp_step))

      refine codeAny_mono (codeAny_call_builtin (R := wants (fun r s₂ => r = .none ∧ ∃ h' tk c, s₂ = { s with heap := h', toks := tk } ∧ SetR w h' s.heap.objs.size (fun j => decide (j ∈ ns)) c ∧ c ≤ ns.length ∧
          (∀ b o, s.heap.get? b = some o → h'.get? b = some o)) E) F.called_set.init.plain F.entry_set_init (check_set_init_1 hT ?_)) fun r₂ s₂ hr₂ => ?_
      · obtain ⟨ol, hol, hcl, nl, hdl⟩ := hl
        obtain ⟨ocls, odict, odata, oslots⟩ := ol
        simp only at hcl hdl
        subst hcl; subst hdl
        have hol' : (s.heap.push { cls := .type "set", dict := none, data := .set #[] 0 (.fresh 0 0 (!w.params.followText "set-order")) }).get? l = some { cls := .type "list", dict := odict, data := .seq items nl, slots := oslots } := Heap.get?_push_of_some _ hol
        have hsls := F.sub_list_set
        have hslf := F.sub_list_frozenset
        have hne : (Value.type "list" == Value.type "dict") = false := by decide
        have hl1 : (s.heap.push { cls := .type "set", dict := none, data := .set #[] 0 (.fresh 0 0 (!w.params.followText "set-order")) }).IsList l items := ⟨_, hol', rfl, nl, rfl⟩
        unfold Builtin.«set.__init__» noKeywords Builtin.Frozenset.updateFrom
        generalize hPI : pyIter = PI
        wp_walk
        subst hPI

        refine wpAny_pyIter_list hl1 ?_
        refine wpAny_bind (wpAny_runValue ?_)
        have hlS : l < s.heap.objs.size := Heap.lt_size hol
        have hh3 : A.in1.in1.in1.handled = none := by simp [hh]
        have hz1 : (s.heap.push { cls := .type "set", dict := none, data := .set #[] 0 (.fresh 0 0 (!w.params.followText "set-order")) }).objs.size = s.heap.objs.size + 1 := Heap.size_push ..
        have hneI : l ≠ (s.heap.push { cls := .type "set", dict := none, data := .set #[] 0 (.fresh 0 0 (!w.params.followText "set-order")) }).objs.size := by
          rw [Heap.size_push]; exact Nat.ne_of_lt (Nat.lt_succ_of_lt hlS)
        have hSf : s.heap.objs.size ∉ [(s.heap.push { cls := .type "set", dict := none, data := .set #[] 0 (.fresh 0 0 (!w.params.followText "set-order")) }).objs.size, l] := by
          rw [Heap.size_push]; simp only [List.mem_cons, List.mem_singleton, List.not_mem_nil, or_false, not_or]
          exact ⟨Nat.ne_of_lt (Nat.lt_succ_self _), Nat.ne_of_gt hlS⟩
        have hval : ∀ (i : Nat) (v : Value), items[i]? = some v → ∃ k t, ns[i]? = some k ∧ v = .int k t := fun i v hv => by
          have hi : i < ns.length := by rw [← hisz]; exact (Array.getElem?_eq_some_iff.mp hv).1
          obtain ⟨t, e⟩ := PyProof.Rows.IntsAre.int_at hit i v (by rw [Array.getElem?_toList]; exact hv)
          refine ⟨ns[i], t, List.getElem?_eq_getElem hi, ?_⟩
          rw [e, List.getD_eq_getElem?_getD, List.getElem?_eq_getElem hi] <;> rfl
        refine set_update_ints ((Walks.list hh3 _ l hneI items).toS) s.heap.objs.size
          hSf ns hisz hb hval (items.size - 0) 0 _ (by omega) (Nat.zero_le _)
          ⟨⟨_, Heap.get?_push_size _ rfl, rfl, rfl⟩, (hl1.push _)⟩ ?hS0 ?hR
        case hS0 =>
          have hget : ((s.heap.push { cls := .type "set", dict := none, data := .set #[] 0 (.fresh 0 0 (!w.params.followText "set-order")) }).push { cls := .type "list_iterator", data := .fields #[.ref l, .int 0 0] }).get? s.heap.objs.size
              = some { cls := .type "set", dict := none, data := .set #[] 0 (.fresh 0 0 (!w.params.followText "set-order")) } := Heap.get?_push_of_some _ hS
          exact ⟨0, Nat.le_refl 0, setR_new_at hget⟩
        case hR =>
          intro s' c' hm hc' hS'
          obtain ⟨h', g2, d', tk', os'⟩ := s'
          have eg : g2 = s.gens := hm.gens
          have ed : d' = s.drawn := hm.drawn
          have eo : os' = s.os := hm.os
          subst eg; subst ed; subst eo
          show wpAny _ _ _ _ _ _
          refine wpAny_pure ?_
          show wpAny _ _ (ret Value.none) _ _ _
          rw [hisz] at hc'
          refine wpAny_pure ⟨rfl, h', tk', c', rfl, hS', hc', fun b o e => ?_⟩
          have hb0 : b < s.heap.objs.size := Heap.lt_size e
          have hb1 : b ≠ s.heap.objs.size := Nat.ne_of_lt hb0
          have hb2 : b ≠ (s.heap.push { cls := .type "set", dict := none, data := .set #[] 0 (.fresh 0 0 (!w.params.followText "set-order")) }).objs.size := by
            rw [Heap.size_push]; exact Nat.ne_of_lt (Nat.lt_succ_of_lt hb0)
          exact hm.heap b o (by simp only [List.mem_cons, List.mem_singleton, List.not_mem_nil, or_false, not_or]; exact ⟨hb1, hb2⟩) (Heap.get?_push_of_some _ (Heap.get?_push_of_some _ e))

      · cases r₂ with
        | error e => exact hr₂
        | ok fl₂ =>
          cases fl₂ with
          | ret r =>
            obtain ⟨rfl, h', tk, c', rfl, hS', hc', hk'⟩ := hr₂
            repeat (any_goals (first | assumption | wp_step))
            exact h _ _ _ hS' hc' hk'
          | _ => exact hr₂.elim
    | _ => exact hr.elim

end
/-! ### rising lists of ints -/
def ddI : List Int → List Int
  | [] => []
  | x :: xs => if x ∈ xs then ddI xs else x :: ddI xs
theorem mem_ddI {k : Int} : ∀ {xs : List Int}, k ∈ ddI xs ↔ k ∈ xs
  | [] => Iff.rfl
  | x :: xs => by
    have ih := @mem_ddI k xs
    unfold ddI
    split
    · rename_i h
      rw [ih, List.mem_cons]
      constructor
      · exact .inr
      · rintro (rfl | h2)
        · exact h
        · exact h2
    · rw [List.mem_cons, List.mem_cons, ih]
theorem nodup_ddI : ∀ (xs : List Int), (ddI xs).Nodup
  | [] => List.nodup_nil
  | x :: xs => by
    unfold ddI
    split
    · exact nodup_ddI xs
    · rename_i h
      exact List.nodup_cons.mpr ⟨fun z => h (mem_ddI.mp z), nodup_ddI xs⟩
theorem rise_ext : ∀ {xs ys : List Int}, xs.Pairwise (· < ·) → ys.Pairwise (· < ·) → (∀ k, k ∈ xs ↔ k ∈ ys) → xs = ys
  | [], [], _, _, _ => rfl
  | [], y :: ys, _, _, h => absurd ((h y).mpr List.mem_cons_self) List.not_mem_nil
  | x :: xs, [], _, _, h => absurd ((h x).mp List.mem_cons_self) List.not_mem_nil
  | x :: xs, y :: ys, hx, hy, h => by
    obtain ⟨x1, x2⟩ := List.pairwise_cons.mp hx
    obtain ⟨y1, y2⟩ := List.pairwise_cons.mp hy
    have e : x = y := by
      rcases List.mem_cons.mp ((h x).mp List.mem_cons_self) with e | e
      · exact e
      · rcases List.mem_cons.mp ((h y).mpr List.mem_cons_self) with e2 | e2
        · exact e2.symm
        · have a := y1 x e
          have b := x1 y e2
          omega
    subst e
    rw [rise_ext x2 y2 fun k => ?_]
    constructor
    · intro m
      rcases List.mem_cons.mp ((h k).mp (List.mem_cons_of_mem _ m)) with e | e
      · have := x1 k m; omega
      · exact e
    · intro m
      rcases List.mem_cons.mp ((h k).mpr (List.mem_cons_of_mem _ m)) with e | e
      · have := y1 k m; omega
      · exact e
/-- the members, rising -/
def sdL (ns : List Int) : List Int := (ddI ns).mergeSort fun a b => decide (a ≤ b)
theorem sdL_rise (ns : List Int) : (sdL ns).Pairwise (· < ·) := by
  have h1 : (sdL ns).Pairwise fun a b => decide (a ≤ b) = true := List.pairwise_mergeSort (fun a b c h1 h2 => by simp only [decide_eq_true_eq] at *; omega) (fun a b => by simp only [Bool.or_eq_true, decide_eq_true_eq]; omega) _
  have hp : (sdL ns).Perm (ddI ns) := List.mergeSort_perm _ _
  exact lt_of_le_nodup _ (h1.imp fun h => by simpa using h) (hp.nodup_iff.mpr (nodup_ddI ns))
theorem mem_sdL {k : Int} {ns : List Int} : k ∈ sdL ns ↔ k ∈ ns := by
  have hp : (sdL ns).Perm (ddI ns) := List.mergeSort_perm _ _
  rw [hp.mem_iff, mem_ddI]
theorem sdL_len (ns : List Int) : (sdL ns).length = (ddI ns).length := (List.mergeSort_perm _ _).length_eq
theorem ddI_le : ∀ (ns : List Int), (ddI ns).length ≤ ns.length
  | [] => Nat.le_refl _
  | x :: xs => by
    have := ddI_le xs
    unfold ddI
    split
    · rw [List.length_cons]; omega
    · rw [List.length_cons, List.length_cons]; omega
theorem sdL_eq {ms ns : List Int} (h : ms.Pairwise (· < ·)) (m : ∀ k, k ∈ ms ↔ k ∈ ns) : ms = sdL ns := rise_ext h (sdL_rise ns) fun k => (m k).trans mem_sdL.symm
theorem perm_mem {xs ys : List Int} (hx : xs.Nodup) (hy : ys.Nodup) (h : ∀ k, k ∈ xs ↔ k ∈ ys) : xs.length = ys.length := (List.perm_ext_iff_of_nodup hx hy |>.mpr h).length_eq
/-- how many members a set has -/
theorem setR_card {w : World} {h : Heap} {a : Addr} {ns : List Int} {n : Nat} (R : SetR w h a (fun j => decide (j ∈ ns)) n) : n = (ddI ns).length := by
  obtain ⟨o, es, ep, t, ho, hex, hd, g, nd, hm, hb, hf, hn, hr, hl⟩ := R
  rw [← hn, ← perm_mem nd (nodup_ddI ns) fun k => by rw [← hm k, decide_eq_true_eq, mem_ddI], List.length_map, Array.length_toList]
/-! ### set(ints) -/
def rSetI (K : PySem.W.Frag) (w : World) : List V → Hp → VK → Prop := fun vs H Q => ∃ (l : Addr) (ns : List Int), vs = [V.ref l] ∧ (SqL K H l (ns.map V.int) ∨ SqT K H l (ns.map V.int)) ∧ ns.length ≤ 4000 ∧
  ∀ p, H p = none → Q (.ref p) (upd H p (SetO w p (fun j => decide (j ∈ ns)) (ddI ns).length))
theorem cr_setI {X : Cx} (hc : X.calm = true) : CallR X (.type "set") (rSetI X.K X.w) := by
  intro pins s σ H vs us Q I r h
  obtain ⟨l, ns, rfl, hq, hl, q⟩ := h
  rw [Vals.ref1 r]
  have fin : ∀ (h' : Heap) (tk c : Nat), SetR X.w h' s.heap.objs.size (fun j => decide (j ∈ ns)) c → c ≤ ns.length → (∀ b o, s.heap.get? b = some o → h'.get? b = some o) → EP X pins σ Q (.ref s.heap.objs.size) { s with heap := h', toks := tk } := fun h' tk c R1 hcn k => by
    have e := setR_card R1
    subst e
    exact ⟨.ref _, upd H s.heap.objs.size (SetO X.w s.heap.objs.size (fun j => decide (j ∈ ns)) (ddI ns).length), I.laid (t' := tk) k (Nat.le_refl _) (setO_new R1), rfl, q _ (I.hok.fresh (Nat.le_refl _))⟩
  rcases hq with hq | hq
  · obtain ⟨its, rv, pt, hz⟩ := I.list hq
    exact call_set_lstI ns (I.ok.hd hc) (show s.heap.IsList l its.toArray from pt.isList) (by simpa using ints_of_vals rv) (by unfold scanBound; omega) fin
  · obtain ⟨its, rv, pt, hz⟩ := I.tuple hq
    exact call_set_tupI ns (I.ok.hd hc) (show s.heap.IsTuple l its.toArray from pt) (by simpa using ints_of_vals rv) (by unfold scanBound; omega) fin
def rLenS (w : World) : List V → Hp → VK → Prop := fun vs H Q => ∃ (a : Addr) (S : Int → Bool) (n : Nat), vs = [V.ref a] ∧ H a = some (SetO w a S n) ∧ n < 4000 ∧ Q (.int (n : Int)) H
theorem cr_lenS {X : Cx} : CallR X (.builtin "len") (rLenS X.w) := by
  intro pins s σ H vs us Q I r h
  obtain ⟨a, S, n, rfl, ha, hn, q⟩ := h
  have R := setO_get I ha
  rw [Vals.ref1 r]
  obtain ⟨o, es, ep, t, ho, hex, hd, g, nd, hm, hb, hf, hn2, hr, hl⟩ := R
  refine call_len_set ho hex hd hf (by rw [hn2]; omega) ⟨.int (n : Int), H, I.tok _, ⟨_, by rw [hn2]⟩, q⟩
/-! ### as values -/
theorem rls_ints_eq {K : PySem.W.Frag} {mg : MG} {Z : Hp} : ∀ {vs : List V} {ns : List Int}, Rls K mg Z vs (ns.map .int) → vs = ns.map V.int
  | [], [], _ => rfl
  | _ :: _, n :: ns, .cons r t => by
    cases r
    rw [rls_ints_eq t]; rfl
def seqOf : Val → Option (List Int)
  | .lst xs => intsOf xs
  | .tup xs => intsOf xs
  | .scr ns => some ns
  | _ => none
theorem bor_ints {K : PySem.W.Frag} {mg : MG} {Z H : Hp} (zh : Same Z H) {v : V} {x : Val} {ns : List Int} (b : BorR K mg Z H v x) (e : seqOf x = some ns) : ∃ l, v = .ref l ∧ (SqL K H l (ns.map V.int) ∨ SqT K H l (ns.map V.int)) := by
  cases x with
  | lst xs =>
    obtain ⟨a, vs, rfl, h1, r1⟩ := bor_lst zh b
    cases intsOf_eq e
    rw [rls_ints_eq r1] at h1
    exact ⟨a, rfl, .inl (SqL.of h1)⟩
  | tup xs =>
    obtain ⟨a, vs, rfl, h1, r1⟩ := bor_tup b
    cases intsOf_eq e
    rw [rls_ints_eq r1] at h1
    exact ⟨a, rfl, .inr (SqT.of (zh _ _ h1))⟩
  | scr ms =>
    cases e
    obtain ⟨a, rfl, h1⟩ := bor_scr b
    exact ⟨a, rfl, .inl (zh.seq h1)⟩
  | _ => cases e
def sdV (x : Val) : Option (List Val) := (seqOf x).bind fun ns => if ns.length ≤ 4000 ∧ (ddI ns).length < 64 then some ((sdL ns).map .int) else none
def lsV (x : Val) : Option Val := (seqOf x).bind fun ns => if ns.length < 4000 then some (.int ((ddI ns).length : Nat)) else none
section
variable {X : Cx} {e : Expr} {d : DA} {p p2 q pos : Pos}
theorem pow_sortedSet (hc : X.calm = true) (hg : Gl X "sorted") (hm : X.mg "sorted" = none) (hg2 : Gl X "set") (hm2 : X.mg "set" = none) (ha : PAs X [e] d)
    (na : starEach [e] X.env = (false, eval e X.env) :: starEach [] X.env := by rfl)
    (na2 : starEach [.Call (.Name "set" p2) [e] [] q] X.env = (false, eval (.Call (.Name "set" p2) [e] [] q) X.env) :: starEach [] X.env := by rfl) : POw X (.Call (.Name "sorted" p) [.Call (.Name "set" p2) [e] [] q] [] pos) (dNo (go1 sdV) d) :=
  PE.imp (pe_callB (cr_sortedSet hc) hg hm (by decide +kernel) (pa_cons (pe_callTy (cr_setI hc) hg2 hm2 (by decide +kernel) ha (by decide) (by decide) na (by rfl)) pa_nil na2) (by decide) (by decide) na2 (by rfl)) fun σ H Q h => by
    obtain ⟨Z, O, C, ρ, R, x, ρ', e0, k⟩ := h
    obtain ⟨⟨hs, ρ1⟩, e1, e0⟩ := Out.bind_ok e0
    obtain ⟨xs, e2, e0⟩ := Option.bind_eq_some_iff.mp (Out.of_ok e0)
    obtain ⟨ys, e3, e0⟩ := Option.map_eq_some_iff.mp e0
    cases e0
    refine ⟨Z, O, C, ρ, R, hs, ρ1, e1, fun vs H1 Z1 O1 x1 R1 r1 => ?_⟩
    have bs := derefs_bor R1 r1 e2
    have zh := R1.zh
    rcases bs with _ | ⟨b, _ | _⟩
    · cases e3
    · obtain ⟨ns, e4, e5⟩ := Option.bind_eq_some_iff.mp e3
      split at e5
      · rename_i hh
        cases e5
        obtain ⟨l, rfl, hs2⟩ := bor_ints zh b e4
        refine ⟨l, ns, rfl, hs2, hh.1, fun a hp => ⟨a, _, _, rfl, upd_same, hh.2, fun ms p2 h1 h2 h3 h4 => ?_⟩⟩
        have em : ms = sdL ns := sdL_eq h1 fun k => (h2 k).trans decide_eq_true_iff
        subst em
        let gr := Grow.newH (o := SetO X.w a (fun j => decide (j ∈ ns)) (ddI ns).length) R1.zh hp
        exact own_new (x1.trans gr.ext) (R1.grow gr) k p2 _ h4 (Rls.ints _)
      · cases e5
    · cases e3
theorem pv_lenSet (hc : X.calm = true) (hg : Gl X "len") (hm : X.mg "len" = none) (hg2 : Gl X "set") (hm2 : X.mg "set" = none) (ha : PAs X [e] d)
    (na : starEach [e] X.env = (false, eval e X.env) :: starEach [] X.env := by rfl)
    (na2 : starEach [.Call (.Name "set" p2) [e] [] q] X.env = (false, eval (.Call (.Name "set" p2) [e] [] q) X.env) :: starEach [] X.env := by rfl) : PV X (.Call (.Name "len" p) [.Call (.Name "set" p2) [e] [] q] [] pos) (dN (g1 lsV) d) :=
  PE.imp (pe_callB cr_lenS hg hm (by decide +kernel) (pa_cons (pe_callTy (cr_setI hc) hg2 hm2 (by decide +kernel) ha (by decide) (by decide) na (by rfl)) pa_nil na2) (by decide) (by decide) na2 (by rfl)) fun σ H Q h => by
    obtain ⟨Z, O, C, ρ, R, x, ρ', e0, k⟩ := h
    obtain ⟨⟨hs, ρ1⟩, e1, e0⟩ := Out.bind_ok e0
    obtain ⟨xs, e2, e0⟩ := Option.bind_eq_some_iff.mp (Out.of_ok e0)
    obtain ⟨y, e3, e0⟩ := Option.map_eq_some_iff.mp e0
    cases e0
    refine ⟨Z, O, C, ρ, R, hs, ρ1, e1, fun vs H1 Z1 O1 x1 R1 r1 => ?_⟩
    have bs := derefs_bor R1 r1 e2
    have zh := R1.zh
    rcases bs with _ | ⟨b, _ | _⟩
    · cases e3
    · obtain ⟨ns, e4, e5⟩ := Option.bind_eq_some_iff.mp e3
      split at e5
      · rename_i hh
        cases e5
        obtain ⟨l, rfl, hs2⟩ := bor_ints zh b e4
        refine ⟨l, ns, rfl, hs2, by omega, fun a hp => ⟨a, _, _, rfl, upd_same, by have := ddI_le ns; omega, ?_⟩⟩
        let gr := Grow.newH (o := SetO X.w a (fun j => decide (j ∈ ns)) (ddI ns).length) R1.zh hp
        exact k _ _ _ O1 (x1.trans gr.ext) (R1.grow gr) (.int _)
      · cases e5
    · cases e3
end
end Ev

/-! Ev: isinstance, truth and equality of plain values, for simp. -/
namespace Ev
open PySem PySem.Spec PyProof.Rows L2
theorem isi_non_int  : isiV "int" .non = some (.bl false) := by show some (Val.bl (isiB "NoneType" "int")) = _; rw [show isiB "NoneType" "int" = false by decide +kernel]
theorem isi_non_bool  : isiV "bool" .non = some (.bl false) := by show some (Val.bl (isiB "NoneType" "bool")) = _; rw [show isiB "NoneType" "bool" = false by decide +kernel]
theorem isi_non_str  : isiV "str" .non = some (.bl false) := by show some (Val.bl (isiB "NoneType" "str")) = _; rw [show isiB "NoneType" "str" = false by decide +kernel]
theorem isi_non_tuple  : isiV "tuple" .non = some (.bl false) := by show some (Val.bl (isiB "NoneType" "tuple")) = _; rw [show isiB "NoneType" "tuple" = false by decide +kernel]
theorem isi_non_list  : isiV "list" .non = some (.bl false) := by show some (Val.bl (isiB "NoneType" "list")) = _; rw [show isiB "NoneType" "list" = false by decide +kernel]
theorem isi_bl_int (b : Bool) : isiV "int" (.bl b) = some (.bl true) := by show some (Val.bl (isiB "bool" "int")) = _; rw [show isiB "bool" "int" = true by decide +kernel]
theorem isi_bl_bool (b : Bool) : isiV "bool" (.bl b) = some (.bl true) := by show some (Val.bl (isiB "bool" "bool")) = _; rw [show isiB "bool" "bool" = true by decide +kernel]
theorem isi_bl_str (b : Bool) : isiV "str" (.bl b) = some (.bl false) := by show some (Val.bl (isiB "bool" "str")) = _; rw [show isiB "bool" "str" = false by decide +kernel]
theorem isi_bl_tuple (b : Bool) : isiV "tuple" (.bl b) = some (.bl false) := by show some (Val.bl (isiB "bool" "tuple")) = _; rw [show isiB "bool" "tuple" = false by decide +kernel]
theorem isi_bl_list (b : Bool) : isiV "list" (.bl b) = some (.bl false) := by show some (Val.bl (isiB "bool" "list")) = _; rw [show isiB "bool" "list" = false by decide +kernel]
theorem isi_int_int (i : Int) : isiV "int" (.int i) = some (.bl true) := by show some (Val.bl (isiB "int" "int")) = _; rw [show isiB "int" "int" = true by decide +kernel]
theorem isi_int_bool (i : Int) : isiV "bool" (.int i) = some (.bl false) := by show some (Val.bl (isiB "int" "bool")) = _; rw [show isiB "int" "bool" = false by decide +kernel]
theorem isi_int_str (i : Int) : isiV "str" (.int i) = some (.bl false) := by show some (Val.bl (isiB "int" "str")) = _; rw [show isiB "int" "str" = false by decide +kernel]
theorem isi_int_tuple (i : Int) : isiV "tuple" (.int i) = some (.bl false) := by show some (Val.bl (isiB "int" "tuple")) = _; rw [show isiB "int" "tuple" = false by decide +kernel]
theorem isi_int_list (i : Int) : isiV "list" (.int i) = some (.bl false) := by show some (Val.bl (isiB "int" "list")) = _; rw [show isiB "int" "list" = false by decide +kernel]
theorem isi_str_int (s : Str) : isiV "int" (.str s) = some (.bl false) := by show some (Val.bl (isiB "str" "int")) = _; rw [show isiB "str" "int" = false by decide +kernel]
theorem isi_str_bool (s : Str) : isiV "bool" (.str s) = some (.bl false) := by show some (Val.bl (isiB "str" "bool")) = _; rw [show isiB "str" "bool" = false by decide +kernel]
theorem isi_str_str (s : Str) : isiV "str" (.str s) = some (.bl true) := by show some (Val.bl (isiB "str" "str")) = _; rw [show isiB "str" "str" = true by decide +kernel]
theorem isi_str_tuple (s : Str) : isiV "tuple" (.str s) = some (.bl false) := by show some (Val.bl (isiB "str" "tuple")) = _; rw [show isiB "str" "tuple" = false by decide +kernel]
theorem isi_str_list (s : Str) : isiV "list" (.str s) = some (.bl false) := by show some (Val.bl (isiB "str" "list")) = _; rw [show isiB "str" "list" = false by decide +kernel]
theorem isi_tup_int (xs : List Val) : isiV "int" (.tup xs) = some (.bl false) := by show some (Val.bl (isiB "tuple" "int")) = _; rw [show isiB "tuple" "int" = false by decide +kernel]
theorem isi_tup_bool (xs : List Val) : isiV "bool" (.tup xs) = some (.bl false) := by show some (Val.bl (isiB "tuple" "bool")) = _; rw [show isiB "tuple" "bool" = false by decide +kernel]
theorem isi_tup_str (xs : List Val) : isiV "str" (.tup xs) = some (.bl false) := by show some (Val.bl (isiB "tuple" "str")) = _; rw [show isiB "tuple" "str" = false by decide +kernel]
theorem isi_tup_tuple (xs : List Val) : isiV "tuple" (.tup xs) = some (.bl true) := by show some (Val.bl (isiB "tuple" "tuple")) = _; rw [show isiB "tuple" "tuple" = true by decide +kernel]
theorem isi_tup_list (xs : List Val) : isiV "list" (.tup xs) = some (.bl false) := by show some (Val.bl (isiB "tuple" "list")) = _; rw [show isiB "tuple" "list" = false by decide +kernel]
theorem isi_lst_int (xs : List Val) : isiV "int" (.lst xs) = some (.bl false) := by show some (Val.bl (isiB "list" "int")) = _; rw [show isiB "list" "int" = false by decide +kernel]
theorem isi_lst_bool (xs : List Val) : isiV "bool" (.lst xs) = some (.bl false) := by show some (Val.bl (isiB "list" "bool")) = _; rw [show isiB "list" "bool" = false by decide +kernel]
theorem isi_lst_str (xs : List Val) : isiV "str" (.lst xs) = some (.bl false) := by show some (Val.bl (isiB "list" "str")) = _; rw [show isiB "list" "str" = false by decide +kernel]
theorem isi_lst_tuple (xs : List Val) : isiV "tuple" (.lst xs) = some (.bl false) := by show some (Val.bl (isiB "list" "tuple")) = _; rw [show isiB "list" "tuple" = false by decide +kernel]
theorem isi_lst_list (xs : List Val) : isiV "list" (.lst xs) = some (.bl true) := by show some (Val.bl (isiB "list" "list")) = _; rw [show isiB "list" "list" = true by decide +kernel]
theorem eq_bl (a b : Bool) : eqV (.bl a) (.bl b) = some (.bl (a == b)) := by cases a <;> cases b <;> rfl
theorem ne_bl (a b : Bool) : neV (.bl a) (.bl b) = some (.bl (a != b)) := by cases a <;> cases b <;> rfl
/-! a value without lists, with tuples of at most L -/
mutual
def nice (L : Nat) : Val → Bool
  | .tup xs => decide (xs.length ≤ L) && nices L xs
  | .non => true
  | .bl _ => true
  | .int _ => true
  | .str _ => true
  | _ => false
def nices (L : Nat) : List Val → Bool
  | [] => true
  | x :: xs => nice L x && nices L xs
end
theorem nices_all {L : Nat} {xs : List Val} : nices L xs = true ↔ ∀ x ∈ xs, nice L x = true := by
  induction xs with
  | nil => simp [nices]
  | cons x xs ih => simp [nices, ih]
mutual
theorem nice_mono {L M : Nat} (h : L ≤ M) : ∀ {x : Val}, nice L x = true → nice M x = true
  | .tup xs, g => by
    simp only [nice, Bool.and_eq_true, decide_eq_true_eq] at g ⊢
    exact ⟨by omega, nices_mono h g.2⟩
  | .non, _ => rfl
  | .bl _, _ => rfl
  | .int _, _ => rfl
  | .str _, _ => rfl
theorem nices_mono {L M : Nat} (h : L ≤ M) : ∀ {xs : List Val}, nices L xs = true → nices M xs = true
  | [], _ => rfl
  | x :: xs, g => by
    simp only [nices, Bool.and_eq_true] at g ⊢
    exact ⟨nice_mono h g.1, nices_mono h g.2⟩
end
end Ev

/-! Ev: evaluation by frames: what is still to be done is a closed word, which simp does not enter. -/
namespace Ev
open PySem PySem.Spec PyProof.Rows L2

theorem ob_exc {α β : Type} (a : Val) (f : α → Out β) : Out.bind (.exc a) f = .exc a := by rfl
theorem ob_bad {α β : Type} (f : α → Out β) : Out.bind .bad f = .bad := by rfl
theorem of_bad {α : Type} (f : α → Fl) : Out.fl .bad f = .bad := by rfl
def wE {α : Type} (o : Option α) (ρ : Env) : Out (α × Env) := Out.of (o.map fun z => (z, ρ))
theorem z_wE {α : Type} (a : α) (ρ : Env) : wE (some a) ρ = .ok (a, ρ) := by rfl
def drK : Option Sl → Option Val
  | some s => s.view
  | none => none
theorem z_deS (ρ : Env) (i : Nat) : deref ρ (.slot i) = drK ρ[i]? := by rfl
theorem z_drK (s : Sl) : drK (some s) = s.view := by rfl
def consO (o : Option Val) (os : Option (List Val)) : Option (List Val) := o.bind fun x => os.map fun xs => x :: xs
theorem z_dsC (ρ : Env) (h : Hd) (hs : List Hd) : derefs ρ (h :: hs) = consO (deref ρ h) (derefs ρ hs) := by rfl
theorem z_consO (x : Val) (xs : List Val) : consO (some x) (some xs) = some (x :: xs) := by rfl
def tkK (i : Nat) (ρ : Env) : Option Sl → Option (Val × Env)
  | some s => match frOf s with
    | some x => some (x, ρ.set i (.fz x))
    | none => none
  | none => none
def tkK2 (i : Nat) (ρ : Env) : Option Val → Option (Val × Env)
  | some x => some (x, ρ.set i (.fz x))
  | none => none
theorem z_tvS (ρ : Env) (i : Nat) : takeV (.slot i) ρ = tkK i ρ ρ[i]? := by rfl
theorem z_tkK (i : Nat) (ρ : Env) (s : Sl) : tkK i ρ (some s) = tkK2 i ρ (frOf s) := by rfl
theorem z_tkK2 (i : Nat) (ρ : Env) (x : Val) : tkK2 i ρ (some x) = some (x, ρ.set i (.fz x)) := by rfl
def tkD (x : Val) (o : Option (List Val × Env)) : Option (List Val × Env) := o.map fun q => (x :: q.1, q.2)
def tkC (hs : List Hd) (o : Option (Val × Env)) : Option (List Val × Env) := o.bind fun p => (takes p.2 hs).map fun q => (p.1 :: q.1, q.2)
theorem z_tsC (ρ : Env) (h : Hd) (hs : List Hd) : takes ρ (h :: hs) = tkC hs (takeV h ρ) := by rfl
theorem z_tkC (hs : List Hd) (x : Val) (ρ : Env) : tkC hs (some (x, ρ)) = tkD x (takes ρ hs) := by rfl
theorem z_tkD (x : Val) (xs : List Val) (ρ : Env) : tkD x (some (xs, ρ)) = some (x :: xs, ρ) := by rfl

def kHV (p : Val × Env) : Out (Hd × Env) := .ok (.val p.1, p.2)
theorem y_dHV (d : DV) (ρ : Env) : dHV d ρ = (d ρ).bind kHV := by rfl
theorem z_kHV (x : Val) (ρ : Env) : kHV (x, ρ) = .ok (.val x, ρ) := by rfl
def kVar (i : Nat) (ρ : Env) : Option Sl → Out (Hd × Env)
  | some (.fz x) => .ok (.val x, ρ)
  | some (.own _) => .ok (.slot i, ρ)
  | some (.par _) => .ok (.slot i, ρ)
  | some (.odK _) => .ok (.slot i, ρ)
  | some (.odT _) => .ok (.slot i, ρ)
  | some (.lck _) => .ok (.slot i, ρ)
  | some (.box _ _ _) => .ok (.slot i, ρ)
  | some (.pbox _ _ _) => .ok (.slot i, ρ)
  | some (.own2 _) => .ok (.slot i, ρ)
  | _ => .bad
theorem y_dVar (i : Nat) (ρ : Env) : dVar i ρ = kVar i ρ ρ[i]? := by
  unfold dVar kVar
  rcases ρ[i]? with _ | s
  · rfl
  · cases s <;> rfl
theorem z_vFz (i : Nat) (ρ : Env) (x : Val) : kVar i ρ (some (.fz x)) = .ok (.val x, ρ) := by rfl
theorem z_vOwn (i : Nat) (ρ : Env) (x : List Val) : kVar i ρ (some (.own x)) = .ok (.slot i, ρ) := by rfl
theorem z_vPar (i : Nat) (ρ : Env) (x : List Val) : kVar i ρ (some (.par x)) = .ok (.slot i, ρ) := by rfl
theorem z_vOdK (i : Nat) (ρ : Env) (x : List (Key × Val)) : kVar i ρ (some (.odK x)) = .ok (.slot i, ρ) := by rfl
theorem z_vOdT (i : Nat) (ρ : Env) (x : List (List Key × Val)) : kVar i ρ (some (.odT x)) = .ok (.slot i, ρ) := by rfl
theorem z_vLck (i : Nat) (ρ : Env) (x : List Val) : kVar i ρ (some (.lck x)) = .ok (.slot i, ρ) := by rfl
theorem z_vBox (i : Nat) (ρ : Env) (c : List Int) (d s : Int) : kVar i ρ (some (.box c d s)) = .ok (.slot i, ρ) := by rfl
theorem z_vPbx (i : Nat) (ρ : Env) (c : List Int) (d s : Int) : kVar i ρ (some (.pbox c d s)) = .ok (.slot i, ρ) := by rfl
theorem z_vOw2 (i : Nat) (ρ : Env) (x : List (List Val)) : kVar i ρ (some (.own2 x)) = .ok (.slot i, ρ) := by rfl
theorem y_dC (x : Val) (ρ : Env) : dC x ρ = .ok (x, ρ) := by rfl
def kVH (p : Hd × Env) : Out (Val × Env) := Out.of (takeV p.1 p.2)
theorem y_dVH (d : DH) (ρ : Env) : dVH d ρ = (d ρ).bind kVH := by rfl
theorem z_kVH (h : Hd) (ρ : Env) : kVH (h, ρ) = Out.of (takeV h ρ) := by rfl
def kIt (p : Val × Env) : Out (List Val × Env) := Out.of ((goesV p.1).map fun xs => (xs, p.2))
theorem y_dIt (d : DV) (ρ : Env) : dIt d ρ = (d ρ).bind kIt := by rfl
theorem z_kIt (x : Val) (ρ : Env) : kIt (x, ρ) = wE (goesV x) ρ := by rfl
def kRg (p : (Int × Int) × Env) : Out (List Val × Env) := if rOk p.1.1 && rOk p.1.2 then .ok ((rangeI p.1.1 p.1.2).map .int, p.2) else .bad
theorem y_dRg (d : DR) (ρ : Env) : dRg d ρ = (d ρ).bind kRg := by rfl
theorem z_kRg (a b : Int) (ρ : Env) : kRg ((a, b), ρ) = if rOk a && rOk b then .ok ((rangeI a b).map .int, ρ) else .bad := by rfl
theorem y_tYes (ρ : Env) : tYesD ρ = .ok (true, ρ) := by rfl
def k2c (g : Val → Val → Option Val) (o o' : Option Val) (ρ : Env) : Out (Val × Env) := Out.of (o.bind fun x => o'.bind fun y => (g x y).map fun z => (z, ρ))
def k2b (g : Val → Val → Option Val) (h : Hd) (q : Hd × Env) : Out (Val × Env) := Out.of ((deref q.2 h).bind fun x => (deref q.2 q.1).bind fun y => (g x y).map fun z => (z, q.2))
def k2a (g : Val → Val → Option Val) (db : DH) (p : Hd × Env) : Out (Val × Env) := (db p.2).bind (k2b g p.1)
theorem y_d2 (g : Val → Val → Option Val) (da db : DH) (ρ : Env) : d2 g da db ρ = (da ρ).bind (k2a g db) := by rfl
theorem z_k2a (g : Val → Val → Option Val) (db : DH) (h : Hd) (ρ : Env) : k2a g db (h, ρ) = (db ρ).bind (k2b g h) := by rfl
theorem z_k2b (g : Val → Val → Option Val) (h h' : Hd) (ρ : Env) : k2b g h (h', ρ) = k2c g (deref ρ h) (deref ρ h') ρ := by rfl
theorem z_k2c (g : Val → Val → Option Val) (x y : Val) (ρ : Env) : k2c g (some x) (some y) ρ = wE (g x y) ρ := by rfl
theorem y_aNil (ρ : Env) : aNil ρ = .ok ([], ρ) := by rfl
def kA2 (h : Hd) (q : List Hd × Env) : Out (List Hd × Env) := .ok (h :: q.1, q.2)
def kA (ds : DA) (p : Hd × Env) : Out (List Hd × Env) := (ds p.2).bind (kA2 p.1)
theorem y_aCons (d : DH) (ds : DA) (ρ : Env) : aCons d ds ρ = (d ρ).bind (kA ds) := by rfl
theorem z_kA (ds : DA) (h : Hd) (ρ : Env) : kA ds (h, ρ) = (ds ρ).bind (kA2 h) := by rfl
theorem z_kA2 (h : Hd) (hs : List Hd) (ρ : Env) : kA2 h (hs, ρ) = .ok (h :: hs, ρ) := by rfl
def kN2 (g : List Val → Option Val) (o : Option (List Val)) (ρ : Env) : Out (Val × Env) := Out.of (o.bind fun xs => (g xs).map fun z => (z, ρ))
def kN (g : List Val → Option Val) (p : List Hd × Env) : Out (Val × Env) := Out.of ((derefs p.2 p.1).bind fun xs => (g xs).map fun z => (z, p.2))
theorem y_dN (g : List Val → Option Val) (d : DA) (ρ : Env) : dN g d ρ = (d ρ).bind (kN g) := by rfl
theorem z_kN (g : List Val → Option Val) (hs : List Hd) (ρ : Env) : kN g (hs, ρ) = kN2 g (derefs ρ hs) ρ := by rfl
theorem z_kN2 (g : List Val → Option Val) (xs : List Val) (ρ : Env) : kN2 g (some xs) ρ = wE (g xs) ρ := by rfl
theorem y_pNone (ρ : Env) : pNone ρ = .ok (none, ρ) := by rfl
def kPS (p : Val × Env) : Out (Option Int × Env) := match p.1 with
    | .int i => .ok (some i, p.2)
    | _ => .bad
theorem y_pSome (d : DV) (ρ : Env) : pSome d ρ = (d ρ).bind kPS := by rfl
theorem z_kPS (i : Int) (ρ : Env) : kPS (.int i, ρ) = .ok (some i, ρ) := by rfl
def kSl4 (o : Option Val) (l u : Option Int) (ρ : Env) : Out (Val × Env) := Out.of (o.bind fun x => (slV x l u).map fun z => (z, ρ))
def kSl3 (h : Hd) (l : Option Int) (p : Option Int × Env) : Out (Val × Env) := Out.of ((deref p.2 h).bind fun x => (slV x l p.1).map fun z => (z, p.2))
def kSl2 (dh : DP) (h : Hd) (p : Option Int × Env) : Out (Val × Env) := (dh p.2).bind (kSl3 h p.1)
def kSl (dl dh : DP) (p : Hd × Env) : Out (Val × Env) := (dl p.2).bind (kSl2 dh p.1)
theorem y_dSl (da : DH) (dl dh : DP) (ρ : Env) : dSl da dl dh ρ = (da ρ).bind (kSl dl dh) := by rfl
theorem z_kSl (dl dh : DP) (h : Hd) (ρ : Env) : kSl dl dh (h, ρ) = (dl ρ).bind (kSl2 dh h) := by rfl
theorem z_kSl2 (dh : DP) (h : Hd) (l : Option Int) (ρ : Env) : kSl2 dh h (l, ρ) = (dh ρ).bind (kSl3 h l) := by rfl
theorem z_kSl3 (h : Hd) (l u : Option Int) (ρ : Env) : kSl3 h l (u, ρ) = kSl4 (deref ρ h) l u ρ := by rfl
theorem z_kSl4 (x : Val) (l u : Option Int) (ρ : Env) : kSl4 (some x) l u ρ = wE (slV x l u) ρ := by rfl
def kBk4 (o : Option Val) (l u : Option Int) (ρ : Env) : Out (Val × Env) := Out.of (o.bind fun x => (backV x l u).map fun z => (z, ρ))
def kBk3 (h : Hd) (l : Option Int) (p : Option Int × Env) : Out (Val × Env) := Out.of ((deref p.2 h).bind fun x => (backV x l p.1).map fun z => (z, p.2))
def kBk2 (dh : DP) (h : Hd) (p : Option Int × Env) : Out (Val × Env) := (dh p.2).bind (kBk3 h p.1)
def kBk (dl dh : DP) (p : Hd × Env) : Out (Val × Env) := (dl p.2).bind (kBk2 dh p.1)
theorem y_dBk (da : DH) (dl dh : DP) (ρ : Env) : dBk da dl dh ρ = (da ρ).bind (kBk dl dh) := by rfl
theorem z_kBk (dl dh : DP) (h : Hd) (ρ : Env) : kBk dl dh (h, ρ) = (dl ρ).bind (kBk2 dh h) := by rfl
theorem z_kBk2 (dh : DP) (h : Hd) (l : Option Int) (ρ : Env) : kBk2 dh h (l, ρ) = (dh ρ).bind (kBk3 h l) := by rfl
theorem z_kBk3 (h : Hd) (l u : Option Int) (ρ : Env) : kBk3 h l (u, ρ) = kBk4 (deref ρ h) l u ρ := by rfl
theorem z_kBk4 (x : Val) (l u : Option Int) (ρ : Env) : kBk4 (some x) l u ρ = wE (backV x l u) ρ := by rfl
def kT2 (o : Option (List Val × Env)) : Out (Val × Env) := Out.of (o.bind fun q => if q.1.length ≤ sizeLine then some (.tup q.1, q.2) else none)
def kT (p : List Hd × Env) : Out (Val × Env) := Out.of ((takes p.2 p.1).bind fun q => if q.1.length ≤ sizeLine then some (.tup q.1, q.2) else none)
theorem y_dTup (d : DA) (ρ : Env) : dTup d ρ = (d ρ).bind kT := by rfl
theorem z_kT (hs : List Hd) (ρ : Env) : kT (hs, ρ) = kT2 (takes ρ hs) := by rfl
theorem z_kT2 (xs : List Val) (ρ : Env) : kT2 (some (xs, ρ)) = if xs.length ≤ sizeLine then .ok (.tup xs, ρ) else .bad := by
  unfold kT2
  by_cases h : xs.length ≤ sizeLine <;> simp [h, Out.of]
def kOV (p : Val × Env) : Out (Sl × Env) := .ok (.fz p.1, p.2)
theorem y_dOV (d : DV) (ρ : Env) : dOV d ρ = (d ρ).bind kOV := by rfl
theorem z_kOV (x : Val) (ρ : Env) : kOV (x, ρ) = .ok (.fz x, ρ) := by rfl
def kVO (p : Sl × Env) : Out (Val × Env) := Out.of ((frOf p.1).map fun x => (x, p.2))
theorem y_dVO (d : DO) (ρ : Env) : dVO d ρ = (d ρ).bind kVO := by rfl
theorem z_kVO (s : Sl) (ρ : Env) : kVO (s, ρ) = wE (frOf s) ρ := by rfl
def kLst2 (o : Option (List Val × Env)) : Out (Sl × Env) := Out.of (o.bind fun q => if q.1.length ≤ sizeLine then some (.own q.1, q.2) else none)
def kLst (p : List Hd × Env) : Out (Sl × Env) := Out.of ((takes p.2 p.1).bind fun q => if q.1.length ≤ sizeLine then some (.own q.1, q.2) else none)
theorem y_dLst (d : DA) (ρ : Env) : dLst d ρ = (d ρ).bind kLst := by rfl
theorem z_kLst (hs : List Hd) (ρ : Env) : kLst (hs, ρ) = kLst2 (takes ρ hs) := by rfl
theorem z_kLst2 (xs : List Val) (ρ : Env) : kLst2 (some (xs, ρ)) = if xs.length ≤ sizeLine then .ok (.own xs, ρ) else .bad := by
  unfold kLst2
  by_cases h : xs.length ≤ sizeLine <;> simp [h, Out.of]
def kTO2 (o : Option Val) (ρ : Env) : Out (Bool × Env) := Out.of (o.bind fun x => (truth x).map fun b => (b, ρ))
def kTO (p : Hd × Env) : Out (Bool × Env) := Out.of ((deref p.2 p.1).bind fun x => (truth x).map fun b => (b, p.2))
theorem y_tOf (d : DH) (ρ : Env) : tOf d ρ = (d ρ).bind kTO := by rfl
theorem z_kTO (h : Hd) (ρ : Env) : kTO (h, ρ) = kTO2 (deref ρ h) ρ := by rfl
theorem z_kTO2 (x : Val) (ρ : Env) : kTO2 (some x) ρ = wE (truth x) ρ := by rfl
def kBl (p : Val × Env) : Out (Bool × Env) := match p.1 with
    | .bl b => .ok (b, p.2)
    | _ => .bad
theorem y_tBl (d : DV) (ρ : Env) : tBl d ρ = (d ρ).bind kBl := by rfl
theorem z_kBl (b : Bool) (ρ : Env) : kBl (.bl b, ρ) = .ok (b, ρ) := by rfl
def kC5 (g' : Val → Val → Option Val) (h2 : Hd) (r : Hd × Env) : Out (Val × Env) := Out.of ((deref r.2 h2).bind fun y => (deref r.2 r.1).bind fun w => (g' y w).map fun z => (z, r.2))
def kC4 (g' : Val → Val → Option Val) (dc : DH) (h2 : Hd) (o : Option Val) (ρ : Env) : Out (Val × Env) := match o with
    | some (.bl true) => (dc ρ).bind (kC5 g' h2)
    | some (.bl false) => .ok (.bl false, ρ)
    | _ => .bad
def kC2 (g g' : Val → Val → Option Val) (dc : DH) (h : Hd) (q : Hd × Env) : Out (Val × Env) := match (deref q.2 h).bind fun x => (deref q.2 q.1).bind fun y => g x y with
    | some (.bl true) => (dc q.2).bind fun r => Out.of ((deref r.2 q.1).bind fun y => (deref r.2 r.1).bind fun w => (g' y w).map fun z => (z, r.2))
    | some (.bl false) => .ok (.bl false, q.2)
    | _ => .bad
def kC3 (g : Val → Val → Option Val) (o o' : Option Val) : Option Val := o.bind fun x => o'.bind fun y => g x y
def kC1 (g g' : Val → Val → Option Val) (db dc : DH) (p : Hd × Env) : Out (Val × Env) := (db p.2).bind (kC2 g g' dc p.1)
theorem y_dChain (g g' : Val → Val → Option Val) (da db dc : DH) (ρ : Env) : dChain g g' da db dc ρ = (da ρ).bind (kC1 g g' db dc) := by rfl
theorem z_kC1 (g g' : Val → Val → Option Val) (db dc : DH) (h : Hd) (ρ : Env) : kC1 g g' db dc (h, ρ) = (db ρ).bind (kC2 g g' dc h) := by rfl
theorem z_kC2 (g g' : Val → Val → Option Val) (dc : DH) (h h2 : Hd) (ρ : Env) : kC2 g g' dc h (h2, ρ) = kC4 g' dc h2 (kC3 g (deref ρ h) (deref ρ h2)) ρ := by rfl
theorem z_kC3 (g : Val → Val → Option Val) (x y : Val) : kC3 g (some x) (some y) = g x y := by rfl
theorem z_kC4 (g' : Val → Val → Option Val) (dc : DH) (h2 : Hd) (b : Bool) (ρ : Env) : kC4 g' dc h2 (some (.bl b)) ρ = if b = true then (dc ρ).bind (kC5 g' h2) else .ok (.bl false, ρ) := by cases b <;> rfl
theorem z_kC5 (g' : Val → Val → Option Val) (h2 h3 : Hd) (ρ : Env) : kC5 g' h2 (h3, ρ) = k2c g' (deref ρ h2) (deref ρ h3) ρ := by rfl
def kAnd (b : DT) (p : Bool × Env) : Out (Bool × Env) := if p.1 = true then b p.2 else .ok (false, p.2)
def kOr (b : DT) (p : Bool × Env) : Out (Bool × Env) := if p.1 = true then .ok (true, p.2) else b p.2
def kNot (p : Bool × Env) : Out (Bool × Env) := .ok (!p.1, p.2)
theorem y_tAnd (a b : DT) (ρ : Env) : tAndD a b ρ = (a ρ).bind (kAnd b) := by rfl
theorem y_tOr (a b : DT) (ρ : Env) : tOrD a b ρ = (a ρ).bind (kOr b) := by rfl
theorem y_tNot (a : DT) (ρ : Env) : tNotD a ρ = (a ρ).bind kNot := by rfl
theorem z_kAnd (b : DT) (c : Bool) (ρ : Env) : kAnd b (c, ρ) = if c = true then b ρ else .ok (false, ρ) := by rfl
theorem z_kOr (b : DT) (c : Bool) (ρ : Env) : kOr b (c, ρ) = if c = true then .ok (true, ρ) else b ρ := by rfl
theorem z_kNot (c : Bool) (ρ : Env) : kNot (c, ρ) = .ok (!c, ρ) := by rfl
theorem i_and (c d : Bool) (ρ : Env) : (if c = true then Out.ok (d, ρ) else .ok (false, ρ)) = .ok (c && d, ρ) := by cases c <;> rfl
theorem i_or (c d : Bool) (ρ : Env) : (if c = true then Out.ok (true, ρ) else .ok (d, ρ)) = .ok (c || d, ρ) := by cases c <;> rfl
theorem i_vand (c d : Bool) (ρ : Env) : (if c = true then Out.ok (Val.bl d, ρ) else .ok (.bl false, ρ)) = .ok (.bl (c && d), ρ) := by cases c <;> rfl
theorem i_vor (c d : Bool) (ρ : Env) : (if c = true then Out.ok (Val.bl true, ρ) else .ok (.bl d, ρ)) = .ok (.bl (c || d), ρ) := by cases c <;> rfl
def kvAnd2 (b : DV) (o : Option Bool) (x : Val) (ρ : Env) : Out (Val × Env) := match o with
    | some true => b ρ
    | some false => .ok (x, ρ)
    | none => .bad
def kvAnd (b : DV) (p : Val × Env) : Out (Val × Env) := match truth p.1 with
    | some true => b p.2
    | some false => .ok p
    | none => .bad
def kvOr2 (b : DV) (o : Option Bool) (x : Val) (ρ : Env) : Out (Val × Env) := match o with
    | some true => .ok (x, ρ)
    | some false => b ρ
    | none => .bad
def kvOr (b : DV) (p : Val × Env) : Out (Val × Env) := match truth p.1 with
    | some true => .ok p
    | some false => b p.2
    | none => .bad
theorem y_vAnd (a b : DV) (ρ : Env) : vAnd a b ρ = (a ρ).bind (kvAnd b) := by rfl
theorem y_vOr (a b : DV) (ρ : Env) : vOr a b ρ = (a ρ).bind (kvOr b) := by rfl
theorem z_kvAndB (b : DV) (c : Bool) (ρ : Env) : kvAnd b (.bl c, ρ) = if c = true then b ρ else .ok (.bl false, ρ) := by cases c <;> rfl
theorem z_kvOrB (b : DV) (c : Bool) (ρ : Env) : kvOr b (.bl c, ρ) = if c = true then .ok (.bl true, ρ) else b ρ := by cases c <;> rfl
def kvNot3 (o : Option Bool) (ρ : Env) : Out (Val × Env) := Out.of (o.map fun b => (.bl (!b), ρ))
def kvNot2 (o : Option Val) (ρ : Env) : Out (Val × Env) := Out.of (o.bind fun x => (truth x).map fun b => (.bl (!b), ρ))
def kvNot (p : Hd × Env) : Out (Val × Env) := Out.of ((deref p.2 p.1).bind fun x => (truth x).map fun b => (.bl (!b), p.2))
theorem y_vNot (a : DH) (ρ : Env) : vNot a ρ = (a ρ).bind kvNot := by rfl
theorem z_kvNot (h : Hd) (ρ : Env) : kvNot (h, ρ) = kvNot2 (deref ρ h) ρ := by rfl
theorem z_kvNot2 (x : Val) (ρ : Env) : kvNot2 (some x) ρ = kvNot3 (truth x) ρ := by rfl
theorem z_kvNot3 (b : Bool) (ρ : Env) : kvNot3 (some b) ρ = .ok (.bl (!b), ρ) := by rfl
def kIf (a b : DV) (p : Bool × Env) : Out (Val × Env) := if p.1 = true then a p.2 else b p.2
theorem y_dIf (t : DT) (a b : DV) (ρ : Env) : dIf t a b ρ = (t ρ).bind (kIf a b) := by rfl
theorem z_kIf (a b : DV) (c : Bool) (ρ : Env) : kIf a b (c, ρ) = if c = true then a ρ else b ρ := by rfl
def kNeg (p : Val × Env) : Out (Val × Env) := match p.1 with
    | .int i => .ok (.int (-i), p.2)
    | _ => .bad
theorem y_dNeg (a : DV) (ρ : Env) : dNeg a ρ = (a ρ).bind kNeg := by rfl
theorem z_kNeg (i : Int) (ρ : Env) : kNeg (.int i, ρ) = .ok (.int (-i), ρ) := by rfl
def kIsN (p : Val × Env) : Out (Val × Env) := .ok (.bl (isNone p.1), p.2)
def kNotN (p : Val × Env) : Out (Val × Env) := .ok (.bl (!isNone p.1), p.2)
theorem y_dIsN (d : DV) (ρ : Env) : dIsN d ρ = (d ρ).bind kIsN := by rfl
theorem y_dNotN (d : DV) (ρ : Env) : dNotN d ρ = (d ρ).bind kNotN := by rfl
theorem z_kIsN (x : Val) (ρ : Env) : kIsN (x, ρ) = .ok (.bl (isNone x), ρ) := by rfl
theorem z_kNotN (x : Val) (ρ : Env) : kNotN (x, ρ) = .ok (.bl (!isNone x), ρ) := by rfl
def kNo3 (o : Option (List Val)) (ρ : Env) : Out (Sl × Env) := Out.of (o.map fun ys => (.own ys, ρ))
def kNo2 (g : List Val → Option (List Val)) (o : Option (List Val)) (ρ : Env) : Out (Sl × Env) := Out.of (o.bind fun xs => (g xs).map fun ys => (.own ys, ρ))
def kNo (g : List Val → Option (List Val)) (p : List Hd × Env) : Out (Sl × Env) := Out.of ((derefs p.2 p.1).bind fun xs => (g xs).map fun ys => (.own ys, p.2))
theorem y_dNo (g : List Val → Option (List Val)) (d : DA) (ρ : Env) : dNo g d ρ = (d ρ).bind (kNo g) := by rfl
theorem z_kNo (g : List Val → Option (List Val)) (hs : List Hd) (ρ : Env) : kNo g (hs, ρ) = kNo2 g (derefs ρ hs) ρ := by rfl
theorem z_kNo2 (g : List Val → Option (List Val)) (xs : List Val) (ρ : Env) : kNo2 g (some xs) ρ = kNo3 (g xs) ρ := by rfl
theorem z_kNo3 (ys : List Val) (ρ : Env) : kNo3 (some ys) ρ = .ok (.own ys, ρ) := by rfl
def kR1 (p : Val × Env) : Out ((Int × Int) × Env) := match p.1 with
    | .int n => .ok (((0 : Int), n), p.2)
    | _ => .bad
theorem y_dR1 (d : DV) (ρ : Env) : dR1 d ρ = (d ρ).bind kR1 := by rfl
theorem z_kR1 (n : Int) (ρ : Env) : kR1 (.int n, ρ) = .ok ((0, n), ρ) := by rfl
def kR3 (i : Int) (q : Val × Env) : Out ((Int × Int) × Env) := match q.1 with
    | .int j => .ok ((i, j), q.2)
    | _ => .bad
def kR2 (b : DV) (p : Val × Env) : Out ((Int × Int) × Env) := (b p.2).bind fun q => match p.1, q.1 with
    | .int i, .int j => .ok ((i, j), q.2)
    | _, _ => .bad
theorem y_dR2 (a b : DV) (ρ : Env) : dR2 a b ρ = (a ρ).bind (kR2 b) := by rfl
theorem z_kR2 (b : DV) (i : Int) (ρ : Env) : kR2 b (.int i, ρ) = (b ρ).bind (kR3 i) := by
  unfold kR2
  congr 1
  funext q
  obtain ⟨x, r⟩ := q
  cases x <;> rfl
theorem z_kR3 (i j : Int) (ρ : Env) : kR3 i (.int j, ρ) = .ok ((i, j), ρ) := by rfl
def kLR (p : (Int × Int) × Env) : Out (Sl × Env) := if rgOk p.1.1 p.1.2 then .ok (.own ((rangeI p.1.1 p.1.2).map .int), p.2) else .bad
theorem y_dLR (d : DR) (ρ : Env) : dLR d ρ = (d ρ).bind kLR := by rfl
theorem z_kLR (a b : Int) (ρ : Env) : kLR ((a, b), ρ) = if rgOk a b then .ok (.own ((rangeI a b).map .int), ρ) else .bad := by rfl
def kIsi2 (T : String) (o : Option Val) (ρ : Env) : Out (Val × Env) := Out.of (o.bind fun x => (isiV T x).map fun z => (z, ρ))
def kIsi (T : String) (p : Hd × Env) : Out (Val × Env) := Out.of ((deref p.2 p.1).bind fun x => (isiV T x).map fun z => (z, p.2))
theorem y_dIsi (T : String) (d : DH) (ρ : Env) : dIsi T d ρ = (d ρ).bind (kIsi T) := by rfl
theorem z_kIsi (T : String) (h : Hd) (ρ : Env) : kIsi T (h, ρ) = kIsi2 T (deref ρ h) ρ := by rfl
theorem z_kIsi2 (T : String) (x : Val) (ρ : Env) : kIsi2 T (some x) ρ = wE (isiV T x) ρ := by rfl
/-! calls -/
def kC0c (ρ : Env) (r : Sl × Sl) : Out (Sl × Env) := if notNo r.1 = true then .ok (r.1, ρ) else .bad
def kC0b (e : FnE) (o : Option (List Val × Env)) : Out (Sl × Env) := match o with
    | some q => if q.1.length = e.np then (e.sem (q.1.map .fz)).bind (kC0c q.2) else .bad
    | none => .bad
def kC0 (e : FnE) (p : List Hd × Env) : Out (Sl × Env) := kC0b e (takes p.2 p.1)
theorem y_call0 (e : FnE) (d : DA) (ρ : Env) : callD0 e d ρ = (d ρ).bind (kC0 e) := by rfl
theorem z_kC0 (e : FnE) (hs : List Hd) (ρ : Env) : kC0 e (hs, ρ) = kC0b e (takes ρ hs) := by rfl
theorem z_kC0b (e : FnE) (xs : List Val) (ρ : Env) : kC0b e (some (xs, ρ)) = if xs.length = e.np then (e.sem (xs.map .fz)).bind (kC0c ρ) else .bad := by rfl
theorem z_kC0c (ρ : Env) (s s' : Sl) : kC0c ρ (s, s') = if notNo s = true then .ok (s, ρ) else .bad := by rfl
def kD7 (i : Nat) (ρ : Env) (r : Sl) (o : Option Sl) : Out (Sl × Env) := match o with
    | some sR => if notNo r = true then .ok (r, ρ.set i sR) else .bad
    | none => .bad
def kD6 (i : Nat) (ρ : Env) (s0 : Sl) (r : Sl × Sl) : Out (Sl × Env) := kD7 i ρ r.1 (parBack s0 r.2)
def kD5 (e : FnE) (k i : Nat) (xs : List Val) (ρ : Env) (s0 : Sl) (o : Option Sl) : Out (Sl × Env) := match o with
    | some p0 => if xs.length = e.np then (e.sem ((xs.map .fz).set k p0)).bind (kD6 i ρ s0) else .bad
    | none => .bad
def kD4 (e : FnE) (k i : Nat) (xs : List Val) (ρ : Env) (o : Option Sl) : Out (Sl × Env) := match o with
    | some s0 => kD5 e k i xs ρ s0 (parIn s0)
    | none => .bad
def kD3 (e : FnE) (k i : Nat) (o : Option (List Val × Env)) : Out (Sl × Env) := match o with
    | some q => kD4 e k i q.1 q.2 q.2[i]?
    | none => .bad
def kD2 (e : FnE) (k : Nat) (hs : List Hd) (ρ : Env) (o : Option Hd) : Out (Sl × Env) := match o with
    | some (.slot i) => kD3 e k i (takes ρ (hs.set k (.val .non)))
    | _ => .bad
def kD1 (e : FnE) (k : Nat) (p : List Hd × Env) : Out (Sl × Env) := kD2 e k p.1 p.2 p.1[k]?
theorem y_call1 (e : FnE) (k : Nat) (d : DA) (ρ : Env) : callD1 e k d ρ = (d ρ).bind (kD1 e k) := by
  unfold callD1
  congr 1
theorem z_kD1 (e : FnE) (k : Nat) (hs : List Hd) (ρ : Env) : kD1 e k (hs, ρ) = kD2 e k hs ρ hs[k]? := by rfl
theorem z_kD2 (e : FnE) (k i : Nat) (hs : List Hd) (ρ : Env) : kD2 e k hs ρ (some (.slot i)) = kD3 e k i (takes ρ (hs.set k (.val .non))) := by rfl
theorem z_kD3 (e : FnE) (k i : Nat) (xs : List Val) (ρ : Env) : kD3 e k i (some (xs, ρ)) = kD4 e k i xs ρ ρ[i]? := by rfl
theorem z_kD4 (e : FnE) (k i : Nat) (xs : List Val) (ρ : Env) (s0 : Sl) : kD4 e k i xs ρ (some s0) = kD5 e k i xs ρ s0 (parIn s0) := by rfl
theorem z_kD5 (e : FnE) (k i : Nat) (xs : List Val) (ρ : Env) (s0 p0 : Sl) : kD5 e k i xs ρ s0 (some p0) = if xs.length = e.np then (e.sem ((xs.map .fz).set k p0)).bind (kD6 i ρ s0) else .bad := by rfl
theorem z_kD6 (i : Nat) (ρ : Env) (s0 r s' : Sl) : kD6 i ρ s0 (r, s') = kD7 i ρ r (parBack s0 s') := by rfl
theorem z_kD7 (i : Nat) (ρ : Env) (r sR : Sl) : kD7 i ρ r (some sR) = if notNo r = true then .ok (r, ρ.set i sR) else .bad := by rfl
/-! changes -/
def kU6 (i : Nat) (ρ : Env) (s : Sl) (o : Option (Val × List Val)) : Out (Val × Env) := Out.of (o.map fun r => (r.1, ρ.set i (setL s r.2)))
def kU5 (g : List Val → List Val → Option (Val × List Val)) (i : Nat) (xs : List Val) (ρ : Env) (s : Sl) (o : Option (List Val)) : Out (Val × Env) := Out.of (o.bind fun ys => (g ys xs).map fun r => (r.1, ρ.set i (setL s r.2)))
def kU4 (g : List Val → List Val → Option (Val × List Val)) (i : Nat) (xs : List Val) (ρ : Env) (o : Option Sl) : Out (Val × Env) := Out.of (o.bind fun s => (lstOf s).bind fun ys => (g ys xs).map fun r => (r.1, ρ.set i (setL s r.2)))
def kU3 (g : List Val → List Val → Option (Val × List Val)) (i : Nat) (o : Option (List Val × Env)) : Out (Val × Env) := Out.of (o.bind fun q => (q.2[i]?).bind fun s => (lstOf s).bind fun ys => (g ys q.1).map fun r => (r.1, q.2.set i (setL s r.2)))
def kU2 (g : List Val → List Val → Option (Val × List Val)) (i : Nat) (p : List Hd × Env) : Out (Val × Env) := Out.of ((takes p.2 p.1).bind fun q => (q.2[i]?).bind fun s => (lstOf s).bind fun ys => (g ys q.1).map fun r => (r.1, q.2.set i (setL s r.2)))
def kU1 (g : List Val → List Val → Option (Val × List Val)) (i : Nat) (d : DA) (ρ : Env) (o : Option (List Val)) : Out (Val × Env) := match o with
    | some _ => (d ρ).bind (kU2 g i)
    | none => .bad
def lstO : Option Sl → Option (List Val)
  | some s => lstOf s
  | none => none
theorem y_dU (g : List Val → List Val → Option (Val × List Val)) (i : Nat) (d : DA) (ρ : Env) : dU g i d ρ = kU1 g i d ρ (lstO ρ[i]?) := by
  unfold dU kU1
  cases ρ[i]? with
  | none => rfl
  | some s => show (match lstOf s with | some _ => _ | none => _) = (match lstOf s with | some _ => _ | none => _); cases lstOf s <;> rfl
theorem z_lstO (s : Sl) : lstO (some s) = lstOf s := by rfl
theorem z_kU1 (g : List Val → List Val → Option (Val × List Val)) (i : Nat) (d : DA) (ρ : Env) (ys : List Val) : kU1 g i d ρ (some ys) = (d ρ).bind (kU2 g i) := by rfl
theorem z_kU2 (g : List Val → List Val → Option (Val × List Val)) (i : Nat) (hs : List Hd) (ρ : Env) : kU2 g i (hs, ρ) = kU3 g i (takes ρ hs) := by rfl
theorem z_kU3 (g : List Val → List Val → Option (Val × List Val)) (i : Nat) (xs : List Val) (ρ : Env) : kU3 g i (some (xs, ρ)) = kU4 g i xs ρ ρ[i]? := by rfl
theorem z_kU4 (g : List Val → List Val → Option (Val × List Val)) (i : Nat) (xs : List Val) (ρ : Env) (s : Sl) : kU4 g i xs ρ (some s) = kU5 g i xs ρ s (lstOf s) := by rfl
theorem z_kU5 (g : List Val → List Val → Option (Val × List Val)) (i : Nat) (xs : List Val) (ρ : Env) (s : Sl) (ys : List Val) : kU5 g i xs ρ s (some ys) = kU6 i ρ s (g ys xs) := by rfl
theorem z_kU6 (i : Nat) (ρ : Env) (s : Sl) (z : Val) (ys : List Val) : kU6 i ρ s (some (z, ys)) = .ok (z, ρ.set i (setL s ys)) := by rfl
/-! statements -/
theorem y_sSeq (a b : DS) (ρ : Env) : sSeq a b ρ = Fl.thn (a ρ) b := by
  unfold sSeq Fl.thn
  cases a ρ <;> rfl
theorem th_bad (f : Env → Fl) : Fl.thn .bad f = .bad := by rfl
def kSIf (a b : DS) (p : Bool × Env) : Fl := if p.1 = true then a p.2 else b p.2
theorem y_sIf (c : DT) (a b : DS) (ρ : Env) : sIf c a b ρ = (c ρ).fl (kSIf a b) := by
  unfold sIf Out.fl kSIf
  rcases c ρ with ⟨⟨k, r⟩⟩ | _ | _
  · cases k <;> rfl
  · rfl
  · rfl
theorem z_kSIf (a b : DS) (k : Bool) (ρ : Env) : kSIf a b (k, ρ) = if k = true then a ρ else b ρ := by rfl
def kDrop (p : Sl × Env) : Fl := .nx p.2
def kRet (p : Sl × Env) : Fl := .rt p.1 p.2
def kSet (i : Nat) (p : Sl × Env) : Fl := asg i p.1 p.2
theorem y_sDrop (d : DO) (ρ : Env) : sDrop d ρ = (d ρ).fl kDrop := by unfold sDrop Out.fl kDrop; cases d ρ <;> rfl
theorem y_sRet (d : DO) (ρ : Env) : sRet d ρ = (d ρ).fl kRet := by unfold sRet Out.fl kRet; cases d ρ <;> rfl
theorem y_sSet (i : Nat) (d : DO) (ρ : Env) : sSet i d ρ = (d ρ).fl (kSet i) := by unfold sSet Out.fl kSet; cases d ρ <;> rfl
theorem z_kDrop (s : Sl) (ρ : Env) : kDrop (s, ρ) = .nx ρ := by rfl
theorem z_kRet (s : Sl) (ρ : Env) : kRet (s, ρ) = .rt s ρ := by rfl
theorem z_kSet (i : Nat) (s : Sl) (ρ : Env) : kSet i (s, ρ) = if i < ρ.length then .nx (ρ.set i s) else .bad := by rfl
def kAsg2 : Option Env → Fl
  | some ρ => .nx ρ
  | none => .bad
def kAsg (g : DG) (p : Val × Env) : Fl := kAsg2 (g p.1 p.2)
theorem y_sAsg (d : DV) (g : DG) (ρ : Env) : sAsg d g ρ = (d ρ).fl (kAsg g) := by
  unfold sAsg Out.fl kAsg
  rcases d ρ with ⟨⟨x, r⟩⟩ | _ | _
  · show (match g x r with | some ρ2 => _ | none => _) = kAsg2 (g x r)
    cases g x r <;> rfl
  · rfl
  · rfl
theorem z_kAsg (g : DG) (x : Val) (ρ : Env) : kAsg g (x, ρ) = kAsg2 (g x ρ) := by rfl
theorem z_kAsg2 (ρ : Env) : kAsg2 (some ρ) = .nx ρ := by rfl
def gK (gs : DGs) (xs : List Val) (o : Option Env) : Option Env := o.bind fun ρ => gs xs ρ
theorem y_gC (g : DG) (gs : DGs) (x : Val) (xs : List Val) (ρ : Env) : gC g gs (x :: xs) ρ = gK gs xs (g x ρ) := by rfl
theorem z_gK (gs : DGs) (xs : List Val) (ρ : Env) : gK gs xs (some ρ) = gs xs ρ := by rfl
theorem y_gN (ρ : Env) : gN [] ρ = some ρ := by rfl
def gT (n : Nat) (gs : DGs) (o : Option (List Val)) (ρ : Env) : Option Env := o.bind fun xs => if xs.length = n then gs xs ρ else none
theorem y_gTp (n : Nat) (gs : DGs) (x : Val) (ρ : Env) : gTp n gs x ρ = gT n gs (tupOf x) ρ := by rfl
theorem z_gT (n : Nat) (gs : DGs) (xs : List Val) (ρ : Env) : gT n gs (some xs) ρ = if xs.length = n then gs xs ρ else none := by rfl
theorem y_gNm (i : Nat) (x : Val) (ρ : Env) : gNm i x ρ = if i < ρ.length then some (ρ.set i (.fz x)) else none := by rfl
def Opt.k {α : Type} (o : Option α) (f : α → Fl) : Fl := match o with
  | some a => f a
  | none => .bad
theorem z_ok {α : Type} (a : α) (f : α → Fl) : Opt.k (some a) f = f a := by rfl
def kPut6 (i : Nat) (ρ : Env) (s : Sl) (ys : List Val) : Fl := .nx (ρ.set i (setL s ys))
def kPut5 (i : Nat) (x k : Val) (ρ : Env) (s : Sl) (ys : List Val) : Fl := Opt.k (putV ys k x) (kPut6 i ρ s)
def kPut4 (i : Nat) (x k : Val) (ρ : Env) (s : Sl) : Fl := Opt.k (lstOf s) (kPut5 i x k ρ s)
def kPut3 (i : Nat) (x : Val) (q : Val × Env) : Fl := Opt.k (q.2[i]?) (kPut4 i x q.1 q.2)
def kPut2 (i : Nat) (di : DV) (x : Val) (ρ : Env) (ys : List Val) : Fl := (di ρ).fl (kPut3 i x)
def kPut (i : Nat) (di : DV) (p : Val × Env) : Fl := Opt.k (lstO p.2[i]?) (kPut2 i di p.1 p.2)
theorem y_sPut (i : Nat) (di dv : DV) (ρ : Env) : sPut i di dv ρ = (dv ρ).fl (kPut i di) := by
  unfold sPut Out.fl kPut
  rcases dv ρ with ⟨⟨x, r⟩⟩ | _ | _
  · simp only
    have e : (r[i]?).bind lstOf = lstO r[i]? := by cases r[i]? <;> rfl
    rw [e]
    cases lstO r[i]? with
    | none => rfl
    | some ys =>
      show _ = (di r).fl (kPut3 i x)
      unfold Out.fl
      rcases di r with ⟨⟨k, r2⟩⟩ | _ | _
      · simp only
        show _ = Opt.k (r2[i]?) (kPut4 i x k r2)
        cases r2[i]? with
        | none => rfl
        | some s =>
          show _ = Opt.k (lstOf s) (kPut5 i x k r2 s)
          simp only
          cases lstOf s with
          | none => rfl
          | some ys =>
            show _ = Opt.k (putV ys k x) (kPut6 i r2 s)
            simp only [Option.bind_some]
            cases putV ys k x <;> rfl
      · rfl
      · rfl
  · rfl
  · rfl
theorem z_kPut (i : Nat) (di : DV) (x : Val) (ρ : Env) : kPut i di (x, ρ) = Opt.k (lstO ρ[i]?) (kPut2 i di x ρ) := by rfl
theorem z_kPut2 (i : Nat) (di : DV) (x : Val) (ρ : Env) (ys : List Val) : kPut2 i di x ρ ys = (di ρ).fl (kPut3 i x) := by rfl
theorem z_kPut3 (i : Nat) (x k : Val) (ρ : Env) : kPut3 i x (k, ρ) = Opt.k (ρ[i]?) (kPut4 i x k ρ) := by rfl
theorem z_kPut4 (i : Nat) (x k : Val) (ρ : Env) (s : Sl) : kPut4 i x k ρ s = Opt.k (lstOf s) (kPut5 i x k ρ s) := by rfl
theorem z_kPut5 (i : Nat) (x k : Val) (ρ : Env) (s : Sl) (ys : List Val) : kPut5 i x k ρ s ys = Opt.k (putV ys k x) (kPut6 i ρ s) := by rfl
theorem z_kPut6 (i : Nat) (ρ : Env) (s : Sl) (ys : List Val) : kPut6 i ρ s ys = .nx (ρ.set i (setL s ys)) := by rfl
def kPar2 (i j : Nat) (q : List Val × Env) : Fl := match q.1 with
    | [x, y] => if i < q.2.length ∧ j < q.2.length then .nx ((q.2.set i (.fz x)).set j (.fz y)) else .bad
    | _ => .bad
def kPar (i j : Nat) (p : List Hd × Env) : Fl := Opt.k (takes p.2 p.1) (kPar2 i j)
theorem y_sPar (i j : Nat) (d : DA) (ρ : Env) : sPar i j d ρ = (d ρ).fl (kPar i j) := by
  unfold sPar Out.fl kPar
  rcases d ρ with ⟨⟨hs, r⟩⟩ | _ | _
  · simp only
    cases takes r hs with
    | none => rfl
    | some q =>
      obtain ⟨xs, r2⟩ := q
      rcases xs with _ | ⟨x, _ | ⟨y, _ | ⟨z, t⟩⟩⟩ <;> rfl
  · rfl
  · rfl
theorem z_kPar (i j : Nat) (hs : List Hd) (ρ : Env) : kPar i j (hs, ρ) = Opt.k (takes ρ hs) (kPar2 i j) := by rfl
theorem z_kPar2 (i j : Nat) (x y : Val) (ρ : Env) : kPar2 i j ([x, y], ρ) = if i < ρ.length ∧ j < ρ.length then .nx ((ρ.set i (.fz x)).set j (.fz y)) else .bad := by rfl
/-! loops -/
def kFor (g : DG) (b : DS) (p : List Val × Env) : Fl := forL g b p.1 p.2
theorem y_sFor (it : DI) (g : DG) (b : DS) (ρ : Env) : sFor it g b ρ = (it ρ).fl (kFor g b) := by
  unfold sFor Out.fl kFor
  cases it ρ <;> rfl
theorem z_kFor (g : DG) (b : DS) (xs : List Val) (ρ : Env) : kFor g b (xs, ρ) = forL g b xs ρ := by rfl
def kFV2 (i : Nat) (g : DG) (b : DS) (ρ : Env) (s : Sl) : Option (List Val) → Fl
  | some xs => unlk i s (forL g b xs (ρ.set i (.lck xs)))
  | none => sFor (dIt (dVH (dVar i))) g b ρ
def kFV (i : Nat) (g : DG) (b : DS) (ρ : Env) (s : Sl) : Fl := kFV2 i g b ρ s (lstOf s)
theorem y_sForV (i : Nat) (g : DG) (b : DS) (ρ : Env) : sForV i g b ρ = Opt.k (ρ[i]?) (kFV i g b ρ) := by
  unfold sForV Opt.k kFV kFV2
  cases ρ[i]? with
  | none => rfl
  | some s => first | (simp only; done) | (simp only; cases lstOf s <;> rfl)
theorem z_kFV (i : Nat) (g : DG) (b : DS) (ρ : Env) (s : Sl) : kFV i g b ρ s = kFV2 i g b ρ s (lstOf s) := by rfl
theorem z_kFV2s (i : Nat) (g : DG) (b : DS) (ρ : Env) (s : Sl) (xs : List Val) : kFV2 i g b ρ s (some xs) = unlk i s (forL g b xs (ρ.set i (.lck xs))) := by rfl
theorem z_kFV2n (i : Nat) (g : DG) (b : DS) (ρ : Env) (s : Sl) : kFV2 i g b ρ s none = sFor (dIt (dVH (dVar i))) g b ρ := by rfl
theorem y_sSkip (ρ : Env) : sSkip ρ = .nx ρ := by rfl
theorem y_sBreak (ρ : Env) : sBreak ρ = .bk ρ := by rfl
theorem y_sCont (ρ : Env) : sCont ρ = .ct ρ := by rfl
/-! the end of a def -/
def kFl2 (s : Sl) (o : Option Sl) : Out (Sl × Sl) := match o with
    | some t => if notNo s then .ok (s, t) else .bad
    | none => .bad
theorem y_fRt (np : Nat) (rf : Option Nat) (s : Sl) (ρ : Env) : flRes np rf (.rt s ρ) = kFl2 s (parOf np rf ρ) := by rfl
theorem z_kFl2 (s t : Sl) : kFl2 s (some t) = if notNo s then .ok (s, t) else .bad := by rfl
def kFl3 (o : Option Sl) : Out (Sl × Sl) := match o with
    | some t => .ok (.fz .non, t)
    | none => .bad
theorem y_fNx (np : Nat) (rf : Option Nat) (ρ : Env) : flRes np rf (.nx ρ) = kFl3 (parOf np rf ρ) := by rfl
theorem z_kFl3 (t : Sl) : kFl3 (some t) = .ok (.fz .non, t) := by rfl
/-- sizes -/
theorem szk {n : Nat} (h : n ≤ 1000000) : (n ≤ sizeLine) = True := eq_true (Nat.le_trans h (by decide))
theorem rok {i : Int} (h : -(2 ^ 62) ≤ i ∧ i < 2 ^ 62) : rOk i = true := decide_eq_true h
/-- what holds behind a flow that goes on -/
def Fl.go (f : Fl) (P : Env → Prop) : Prop := ∃ ρ, f = .nx ρ ∧ P ρ
theorem go_nx {ρ : Env} {P : Env → Prop} (h : P ρ) : Fl.go (.nx ρ) P := ⟨ρ, rfl, h⟩
theorem go_thn {f : Fl} {g : Env → Fl} {P Q : Env → Prop} (h : Fl.go f P) (k : ∀ ρ, P ρ → Fl.go (g ρ) Q) : Fl.go (Fl.thn f g) Q := by
  obtain ⟨ρ, rfl, h⟩ := h
  exact k ρ h
/-- a for with one name: what holds of the environment from turn to turn -/
theorem forL_nm {α : Type} {i : Nat} {b : DS} (enc : α → Val) (xs : List α) (I : List α → Env → Prop) {ρ : Env} (h0 : I [] ρ)
    (st : ∀ pre a post ρ, xs = pre ++ a :: post → I pre ρ → i < ρ.length ∧ ∃ ρ2, (b (ρ.set i (.fz (enc a))) = .nx ρ2 ∨ b (ρ.set i (.fz (enc a))) = .ct ρ2) ∧ I (pre ++ [a]) ρ2) : ∃ ρ', forL (gNm i) b (xs.map enc) ρ = .nx ρ' ∧ I xs ρ' :=
  forL_all enc xs I h0 fun pre a post ρ e h => by
    obtain ⟨hi, ρ2, h1, h2⟩ := st pre a post ρ e h
    exact ⟨_, ρ2, by rw [y_gNm, if_pos hi], h1, h2⟩
/-- the same, where the turn's number does not matter -/
theorem forL_nm0 {α : Type} {i : Nat} {b : DS} (enc : α → Val) (xs : List α) (I : Env → Prop) {ρ : Env} (h0 : I ρ)
    (st : ∀ a ρ, a ∈ xs → I ρ → i < ρ.length ∧ ∃ ρ2, (b (ρ.set i (.fz (enc a))) = .nx ρ2 ∨ b (ρ.set i (.fz (enc a))) = .ct ρ2) ∧ I ρ2) : ∃ ρ', forL (gNm i) b (xs.map enc) ρ = .nx ρ' ∧ I ρ' :=
  forL_nm enc xs (fun _ ρ => I ρ) h0 fun pre a post ρ e h => st a ρ (by rw [e]; simp) h
/-! comprehensions with one name, whose parts leave the environment -/
theorem set_set {α : Type} (l : List α) (i : Nat) (a b : α) : (l.set i a).set i b = l.set i b := List.set_set ..
theorem lcL_nm {α : Type} {i : Nat} {t : DT} {e : DV} (enc : α → Val) (p : α → Bool) (f : α → Val) (ρ : Env) (xs : List α) (hi : i < ρ.length)
    (h : ∀ a ∈ xs, t (ρ.set i (.fz (enc a))) = .ok (p a, ρ.set i (.fz (enc a))) ∧ (p a = true → e (ρ.set i (.fz (enc a))) = .ok (f a, ρ.set i (.fz (enc a))))) :
    lcL (gNm i) t e [i] (xs.map enc) (ρ.set i .no) = some ((xs.filter p).map f, ρ.set i .no) :=
  lcL_map enc p f (ρ.set i .no) xs fun a ha => by
    obtain ⟨h1, h2⟩ := h a ha
    refine ⟨ρ.set i (.fz (enc a)), ρ.set i (.fz (enc a)), by rw [y_gNm, if_pos (by simpa using hi), set_set], h1, ?_⟩
    cases hp : p a with
    | true => rw [if_pos rfl]; exact ⟨_, h2 hp, by simp [wipeE]⟩
    | false => rw [if_neg (by simp)]; simp [wipeE]
theorem dLc_nm {α : Type} {it : DI} {i : Nat} {t : DT} {e : DV} (enc : α → Val) (p : α → Bool) (f : α → Val) {ρ : Env} {xs : List α} (hit : it ρ = .ok (xs.map enc, ρ)) (hl : xs.length ≤ 1000000) (hi : i < ρ.length)
    (h : ∀ a ∈ xs, t (ρ.set i (.fz (enc a))) = .ok (p a, ρ.set i (.fz (enc a))) ∧ (p a = true → e (ρ.set i (.fz (enc a))) = .ok (f a, ρ.set i (.fz (enc a))))) :
    dLc it (gNm i) t e [i] ρ = .ok (.own ((xs.filter p).map f), ρ.set i (keepFz ρ[i]?)) := by
  rw [lc_eq hit (by rw [List.length_map]; exact Nat.le_trans hl (by decide)) (lcL_nm enc p f ρ xs hi h)]
  simp [rest]
/-- .. and without a test -/
theorem dLc_nm1 {α : Type} {it : DI} {i : Nat} {e : DV} (enc : α → Val) (f : α → Val) {ρ : Env} {xs : List α} (hit : it ρ = .ok (xs.map enc, ρ)) (hl : xs.length ≤ 1000000) (hi : i < ρ.length)
    (h : ∀ a ∈ xs, e (ρ.set i (.fz (enc a))) = .ok (f a, ρ.set i (.fz (enc a)))) :
    dLc it (gNm i) tYesD e [i] ρ = .ok (.own (xs.map f), ρ.set i (keepFz ρ[i]?)) := by
  have := dLc_nm (t := tYesD) enc (fun _ => true) f hit hl hi fun a ha => ⟨rfl, fun _ => h a ha⟩
  rw [List.filter_eq_self.mpr (fun _ _ => rfl)] at this
  exact this
theorem z_kpN : keepFz (some .no) = .no := by rfl
theorem z_kpF (x : Val) : keepFz (some (.fz x)) = .fz x := by rfl
end Ev

namespace Hd
open PySem PySem.Spec PyProof.Rows L2
def top (i : Nat) : Stmt := PySem.Challenge.pw_whocame_k20_stays_and_timetables.main.body.getD i (.Pass ⟨0, 0, 0, 0⟩)
def d1 : He.DefD := ⟨("is_count", none), "is_count", "is_count", defArgs (top 1), defBody (top 1), defScope (top 1), [], []⟩
def d4 : He.DefD := ⟨("is_stay", none), "is_stay", "is_stay", defArgs (top 4), defBody (top 4), defScope (top 4), [], []⟩
def d5 : He.DefD := ⟨("are_stays", none), "are_stays", "are_stays", defArgs (top 5), defBody (top 5), defScope (top 5), [], []⟩
def d6 : He.DefD := ⟨("do_meet", none), "do_meet", "do_meet", defArgs (top 6), defBody (top 6), defScope (top 6), [], []⟩
def d7 : He.DefD := ⟨("is_before", none), "is_before", "is_before", defArgs (top 7), defBody (top 7), defScope (top 7), [], []⟩
def d8 : He.DefD := ⟨("graph_of", none), "graph_of", "graph_of", defArgs (top 8), defBody (top 8), defScope (top 8), [], []⟩
def d9 : He.DefD := ⟨("hours_of", none), "hours_of", "hours_of", defArgs (top 9), defBody (top 9), defScope (top 9), [], []⟩
def d11 : He.DefD := ⟨("is_timetable", none), "is_timetable", "is_timetable", defArgs (top 11), defBody (top 11), defScope (top 11), [], []⟩
def d13 : He.DefD := ⟨("_law_mix", none), "_law_mix", "_law_mix", defArgs (top 13), defBody (top 13), defScope (top 13), [], []⟩
def d14 : He.DefD := ⟨("_law_tape", none), "_law_tape", "_law_tape", defArgs (top 14), defBody (top 14), defScope (top 14), [], []⟩
def d15 : He.DefD := ⟨("_law_take", none), "_law_take", "_law_take", defArgs (top 15), defBody (top 15), defScope (top 15), [], []⟩
def d16 : He.DefD := ⟨("_law_same", none), "_law_same", "_law_same", defArgs (top 16), defBody (top 16), defScope (top 16), [], []⟩
def d17 : He.DefD := ⟨("_law_shown", none), "_law_shown", "_law_shown", defArgs (top 17), defBody (top 17), defScope (top 17), [], []⟩
def d18 : He.DefD := ⟨("_law_mixed", none), "_law_mixed", "_law_mixed", defArgs (top 18), defBody (top 18), defScope (top 18), [], []⟩
def d19 : He.DefD := ⟨("_law_met", none), "_law_met", "_law_met", defArgs (top 19), defBody (top 19), defScope (top 19), [], []⟩
def d20 : He.DefD := ⟨("_law_spoilt", none), "_law_spoilt", "_law_spoilt", defArgs (top 20), defBody (top 20), defScope (top 20), [], []⟩
def d21 : He.DefD := ⟨("_law_is_stay", none), "_law_is_stay", "_law_is_stay", defArgs (top 21), defBody (top 21), defScope (top 21), [], []⟩
def d22 : He.DefD := ⟨("_law_are_stays", none), "_law_are_stays", "_law_are_stays", defArgs (top 22), defBody (top 22), defScope (top 22), [], []⟩
def d23 : He.DefD := ⟨("_law_late", none), "_law_late", "_law_late", defArgs (top 23), defBody (top 23), defScope (top 23), [], []⟩
def d24 : He.DefD := ⟨("law", none), "law", "law", defArgs (top 24), defBody (top 24), defScope (top 24), [], []⟩
def fn : List He.DefD := [d1, d4, d5, d6, d7, d8, d9, d11, d13, d14, d15, d16, d17, d18, d19, d20, d21, d22, d23, d24]
def fa : List He.Fa := [.glo "is_count", .glo "is_stay", .glo "are_stays", .glo "do_meet", .glo "is_before", .glo "graph_of", .glo "hours_of", .glo "is_timetable", .glo "_law_mix", .glo "_law_tape", .glo "_law_take", .glo "_law_same", .glo "_law_shown", .glo "_law_mixed", .glo "_law_met", .glo "_law_spoilt", .glo "_law_is_stay", .glo "_law_are_stays", .glo "_law_late", .glo "law", .free "all", .free "bool", .free "int", .free "isinstance", .free "len", .free "list", .free "max", .free "min", .free "range", .free "set", .free "sorted", .free "str", .free "tuple", .int "MAX_HOUR" 1000000]
abbrev R : PySem.W.OpenRow := PySem.W.OpenLaw.row PySem.Challenge.rw_whocame_k20_stays_and_timetables
abbrev hk : PySem.W.Hook := He.hookD 4 fa fn
def ob (s : PySem.W.SharedT) : He.AlD := He.obsDG 4 fa fn (HandSHeadRun.getT s)
theorem ob_eq (s : PySem.W.SharedT) : ob s = hk.obs s.abs := He.obsDG_eq (HandSHeadRun.getT_eq s)
theorem run (w : World) : HandSHeadRun.RunEq R (PySem.W.view R.prog [24]) hk ob 4000 ["is_count", "MAX_HOUR", "is_stay", "are_stays", "do_meet", "is_before", "graph_of", "hours_of", "is_timetable", "_law_mix", "_law_tape", "_law_take", "_law_same", "_law_shown", "_law_mixed", "_law_met", "_law_spoilt", "_law_is_stay", "_law_are_stays", "_law_late"] w := by
  intro os
  kernel_rfl
end Hd

namespace B20
open PySem PySem.Spec PyProof.Rows L2 Ev
section
variable {P : Program} {w : World} {K : PySem.W.Frag} {mg : MG} {base : Heap}
theorem sc_is_count : FnScope ["value", "least", "most"] ["value", "least", "most"] (defScope (Hd.top 1)) := ⟨rfl, rfl, rfl, by decide +kernel, rfl, by decide +kernel, by decide +kernel⟩
def D_is_count  : DS := (sRet (dOV (vAnd (dIsi "int" (dVar 0)) (vAnd (vNot (dHV (dIsi "bool" (dVar 0)))) (dChain leV leV (dVar 1) (dVar 0) (dVar 2))))))
def E_is_count : FnE := fnE 1 3 3 none D_is_count
theorem s_is_count (a0 a1 a2 : Sl) : E_is_count.sem [a0, a1, a2] = flRes 3 none (D_is_count [a0, a1, a2]) :=
  (fnE_sem 1 3 3 none D_is_count [a0, a1, a2]).trans (congrArg (fun l => flRes 3 none (D_is_count l)) (by rfl : ([a0, a1, a2] : List Sl) ++ List.replicate (3 - 3) .no = [a0, a1, a2]))
theorem np_is_count : E_is_count.np = 3 := rfl
theorem ok_is_count {f : Addr} {fd : FuncData} (F : FunD K "is_count" "is_count" (defArgs (Hd.top 1)) (defBody (Hd.top 1)) (defScope (Hd.top 1)) [] [] f fd) (hm : mg "is_count" = some (.ref f)) (g_isinstance : mg "isinstance" = none) (g_int : mg "int" = none) (g_bool : mg "bool" = none) : Cal P w K mg base CX0 "is_count" E_is_count :=
  fn_okD (N := ["value", "least", "most"]) (ps := ["value", "least", "most"]) (k := 0) F sc_is_count rfl rfl hm (fun _ _ _ _ _ _ us hl => match us, hl with | [_, _, _], _ => rfl) fun cdv A outer s H E hr => (by
    have nd := (sc_is_count).nd
    exact (pst_one (st_ret (pow_of (pv_and (pv_isi (ph_var (i := 0)) (by rfl) g_isinstance (by rfl) g_int (by decide +kernel) (by simp)) (pv_and (pv_not (ph_of (pv_isi (ph_var (i := 0)) (by rfl) g_isinstance (by rfl) g_bool (by decide +kernel) (by simp)))) (pv_one (pv_chain (o_le hr) (o_le hr) (ph_var (i := 1)) (ph_var (i := 0)) (ph_var (i := 2))))))))))
theorem sc_is_stay : FnScope ["value"] ["value"] (defScope (Hd.top 4)) := ⟨rfl, rfl, rfl, by decide +kernel, rfl, by decide +kernel, by decide +kernel⟩
def D_is_stay (e_is_count : FnE) : DS := (sSeq (sIf (tOrD (tNotD (tOf (dHV (dIsi "tuple" (dVar 0))))) (tBl (d2 neV (dHV (dN (g1 lenV) (aCons (dVar 0) aNil))) (dHV (dC (.int 2)))))) (sRet (dOV (dC (.bl false)))) sSkip)
  (sRet (dOV (vAnd (dVO (callD0 e_is_count (aCons (dHV (d2 ixV (dVar 0) (dHV (dC (.int 0))))) (aCons (dHV (dC (.int 0))) (aCons (dHV (dC (.int 1000000))) aNil))))) (vAnd (dVO (callD0 e_is_count (aCons (dHV (d2 ixV (dVar 0) (dHV (dC (.int 1))))) (aCons (dHV (dC (.int 0))) (aCons (dHV (dC (.int 1000000))) aNil))))) (d2 leV (dHV (d2 ixV (dVar 0) (dHV (dC (.int 0))))) (dHV (d2 ixV (dVar 0) (dHV (dC (.int 1)))))))))))
def E_is_stay : FnE := fnE 2 1 1 none (D_is_stay E_is_count)
theorem s_is_stay (a0 : Sl) : E_is_stay.sem [a0] = flRes 1 none ((D_is_stay E_is_count) [a0]) :=
  (fnE_sem 2 1 1 none (D_is_stay E_is_count) [a0]).trans (congrArg (fun l => flRes 1 none ((D_is_stay E_is_count) l)) (by rfl : ([a0] : List Sl) ++ List.replicate (1 - 1) .no = [a0]))
theorem np_is_stay : E_is_stay.np = 1 := rfl
theorem ok_is_stay {f : Addr} {fd : FuncData} (F : FunD K "is_stay" "is_stay" (defArgs (Hd.top 4)) (defBody (Hd.top 4)) (defScope (Hd.top 4)) [] [] f fd) (hm : mg "is_stay" = some (.ref f)) (g_isinstance : mg "isinstance" = none) (g_tuple : mg "tuple" = none) (g_len : mg "len" = none) (g_MAX_HOUR : ∃ t, mg "MAX_HOUR" = some (.int 1000000 t)) (C_is_count : Cal P w K mg base CX0 "is_count" E_is_count) : Cal P w K mg base CX0 "is_stay" E_is_stay :=
  fn_okD (N := ["value"]) (ps := ["value"]) (k := 1) F sc_is_stay rfl rfl hm (fun _ _ _ _ _ _ us hl => match us, hl with | [_], _ => rfl) fun cdv A outer s H E hr => (by
    have nd := (sc_is_stay).nd
    exact (pst_cons (st_if (pt_w (pw_or' (pt_not' (pt_of (ph_of (pv_isi (ph_var (i := 0)) (by rfl) g_isinstance (by rfl) g_tuple (by decide +kernel) (by simp))))) (pw_or1' (pt_cmp' (o_ne hr) (ph_of (pv_callB c_len (by rfl) g_len (by decide +kernel) (as_cons (ph_var (i := 0)) as_nil))) (ph_of pv_int))))) (pst_one (st_ret (pow_of pv_bl))) pst_nil)
    (pst_one (st_ret (pow_of (pv_and (pv_own (pow_call0 C_is_count rfl hr (by decide) pass0 (by rfl) (as_cons (ph_of (pv_ix i_ix (ph_var (i := 0)) (ph_of pv_int))) (as_cons (ph_of pv_int) (as_cons (ph_of (pv_gint (by rfl) g_MAX_HOUR)) as_nil))))) (pv_and (pv_own (pow_call0 C_is_count rfl hr (by decide) pass0 (by rfl) (as_cons (ph_of (pv_ix i_ix (ph_var (i := 0)) (ph_of pv_int))) (as_cons (ph_of pv_int) (as_cons (ph_of (pv_gint (by rfl) g_MAX_HOUR)) as_nil))))) (pv_one (pv_cmp (o_le hr) (ph_of (pv_ix i_ix (ph_var (i := 0)) (ph_of pv_int))) (ph_of (pv_ix i_ix (ph_var (i := 0)) (ph_of pv_int))))))))))))
theorem sc_are_stays : FnScope ["n", "value", "stay"] ["n", "value"] (defScope (Hd.top 5)) := ⟨rfl, rfl, rfl, by decide +kernel, rfl, by decide +kernel, by decide +kernel⟩
def D_are_stays (e_is_stay : FnE) : DS := (sRet (dOV (vAnd (dIsi "tuple" (dVar 1)) (vAnd (d2 eqV (dHV (dN (g1 lenV) (aCons (dVar 1) aNil))) (dVar 0)) (dN (g1 allV) (aCons (dHV (dVO (dLc (dIt (dVH (dVar 1))) (gNm 2) tYesD (dVO (callD0 e_is_stay (aCons (dVar 2) aNil))) [2]))) aNil))))))
def E_are_stays : FnE := fnE 3 2 3 none (D_are_stays E_is_stay)
theorem s_are_stays (a0 a1 : Sl) : E_are_stays.sem [a0, a1] = flRes 2 none ((D_are_stays E_is_stay) [a0, a1, .no]) :=
  (fnE_sem 3 2 3 none (D_are_stays E_is_stay) [a0, a1]).trans (congrArg (fun l => flRes 2 none ((D_are_stays E_is_stay) l)) (by rfl : ([a0, a1] : List Sl) ++ List.replicate (3 - 2) .no = [a0, a1, .no]))
theorem np_are_stays : E_are_stays.np = 2 := rfl
theorem ok_are_stays {f : Addr} {fd : FuncData} (F : FunD K "are_stays" "are_stays" (defArgs (Hd.top 5)) (defBody (Hd.top 5)) (defScope (Hd.top 5)) [] [] f fd) (hm : mg "are_stays" = some (.ref f)) (g_isinstance : mg "isinstance" = none) (g_tuple : mg "tuple" = none) (g_len : mg "len" = none) (g_all : mg "all" = none) (C_is_stay : Cal P w K mg base CX0 "is_stay" E_is_stay) : Cal P w K mg base CX0 "are_stays" E_are_stays :=
  fn_okD (N := ["n", "value", "stay"]) (ps := ["n", "value"]) (k := 2) F sc_are_stays rfl rfl hm (fun _ _ _ _ _ _ us hl => match us, hl with | [_, _], _ => rfl) fun cdv A outer s H E hr => (by
    have nd := (sc_are_stays).nd
    exact (pst_one (st_ret (pow_of (pv_and (pv_isi (ph_var (i := 1)) (by rfl) g_isinstance (by rfl) g_tuple (by decide +kernel) (by simp)) (pv_and (pv_cmp (o_eq hr) (ph_of (pv_callB c_len (by rfl) g_len (by decide +kernel) (as_cons (ph_var (i := 1)) as_nil))) (ph_var (i := 0))) (pv_one (pv_callB (c_all rfl) (by rfl) g_all (by decide +kernel) (as_cons (ph_of (pv_own (pow_lc rfl nd (it_val (pv_of (ph_var (i := 1)))) (blkOk_by (own := [("stay", 2)]) (by first | decide +kernel | rfl)) (fun _ _ _ _ _ => (gt_name (i := 2) nd rfl (by first | exact Or.inl rfl | exact Or.inr rfl))) (fun _ _ _ _ _ => ts_nil) (fun _ _ _ _ _ => (pv_own (pow_call0 C_is_stay rfl hr (by decide) pass0 (by rfl) (as_cons (ph_var (i := 2)) as_nil)))) (by decide)))) as_nil)))))))))
theorem sc_do_meet : FnScope ["one", "other"] ["one", "other"] (defScope (Hd.top 6)) := ⟨rfl, rfl, rfl, by decide +kernel, rfl, by decide +kernel, by decide +kernel⟩
def D_do_meet  : DS := (sRet (dOV (vAnd (d2 leV (dHV (d2 ixV (dVar 0) (dHV (dC (.int 0))))) (dHV (d2 ixV (dVar 1) (dHV (dC (.int 1)))))) (d2 leV (dHV (d2 ixV (dVar 1) (dHV (dC (.int 0))))) (dHV (d2 ixV (dVar 0) (dHV (dC (.int 1)))))))))
def E_do_meet : FnE := fnE 1 2 2 none D_do_meet
theorem s_do_meet (a0 a1 : Sl) : E_do_meet.sem [a0, a1] = flRes 2 none (D_do_meet [a0, a1]) :=
  (fnE_sem 1 2 2 none D_do_meet [a0, a1]).trans (congrArg (fun l => flRes 2 none (D_do_meet l)) (by rfl : ([a0, a1] : List Sl) ++ List.replicate (2 - 2) .no = [a0, a1]))
theorem np_do_meet : E_do_meet.np = 2 := rfl
theorem ok_do_meet {f : Addr} {fd : FuncData} (F : FunD K "do_meet" "do_meet" (defArgs (Hd.top 6)) (defBody (Hd.top 6)) (defScope (Hd.top 6)) [] [] f fd) (hm : mg "do_meet" = some (.ref f)) : Cal P w K mg base CX0 "do_meet" E_do_meet :=
  fn_okD (N := ["one", "other"]) (ps := ["one", "other"]) (k := 0) F sc_do_meet rfl rfl hm (fun _ _ _ _ _ _ us hl => match us, hl with | [_, _], _ => rfl) fun cdv A outer s H E hr => (by
    have nd := (sc_do_meet).nd
    exact (pst_one (st_ret (pow_of (pv_and (pv_cmp (o_le hr) (ph_of (pv_ix i_ix (ph_var (i := 0)) (ph_of pv_int))) (ph_of (pv_ix i_ix (ph_var (i := 1)) (ph_of pv_int)))) (pv_one (pv_cmp (o_le hr) (ph_of (pv_ix i_ix (ph_var (i := 1)) (ph_of pv_int))) (ph_of (pv_ix i_ix (ph_var (i := 0)) (ph_of pv_int))))))))))
theorem sc_is_before : FnScope ["one", "other"] ["one", "other"] (defScope (Hd.top 7)) := ⟨rfl, rfl, rfl, by decide +kernel, rfl, by decide +kernel, by decide +kernel⟩
def D_is_before  : DS := (sRet (dOV (d2 ltV (dHV (d2 ixV (dVar 0) (dHV (dC (.int 1))))) (dHV (d2 ixV (dVar 1) (dHV (dC (.int 0))))))))
def E_is_before : FnE := fnE 1 2 2 none D_is_before
theorem s_is_before (a0 a1 : Sl) : E_is_before.sem [a0, a1] = flRes 2 none (D_is_before [a0, a1]) :=
  (fnE_sem 1 2 2 none D_is_before [a0, a1]).trans (congrArg (fun l => flRes 2 none (D_is_before l)) (by rfl : ([a0, a1] : List Sl) ++ List.replicate (2 - 2) .no = [a0, a1]))
theorem np_is_before : E_is_before.np = 2 := rfl
theorem ok_is_before {f : Addr} {fd : FuncData} (F : FunD K "is_before" "is_before" (defArgs (Hd.top 7)) (defBody (Hd.top 7)) (defScope (Hd.top 7)) [] [] f fd) (hm : mg "is_before" = some (.ref f)) : Cal P w K mg base CX0 "is_before" E_is_before :=
  fn_okD (N := ["one", "other"]) (ps := ["one", "other"]) (k := 0) F sc_is_before rfl rfl hm (fun _ _ _ _ _ _ us hl => match us, hl with | [_, _], _ => rfl) fun cdv A outer s H E hr => (by
    have nd := (sc_is_before).nd
    exact (pst_one (st_ret (pow_of (pv_cmp (o_lt hr) (ph_of (pv_ix i_ix (ph_var (i := 0)) (ph_of pv_int))) (ph_of (pv_ix i_ix (ph_var (i := 1)) (ph_of pv_int))))))))
theorem sc_graph_of : FnScope ["stays", "n", "i", "j"] ["stays"] (defScope (Hd.top 8)) := ⟨rfl, rfl, rfl, by decide +kernel, rfl, by decide +kernel, by decide +kernel⟩
def D_graph_of (e_do_meet : FnE) : DS := (sSeq (sSet 1 (dOV (dN (g1 lenV) (aCons (dVar 0) aNil))))
  (sRet (dOV (dTup (aCons (dVar 1) (aCons (dHV (dN (g1 tupV) (aCons (dHV (dVO (dLc2 (dRg (dR1 (dVH (dVar 1)))) (gNm 2) tYesD (dRg (dR2 (d2 addV (dVar 2) (dHV (dC (.int 1)))) (dVH (dVar 1)))) (gNm 3) (tOf (dHV (dVO (callD0 e_do_meet (aCons (dHV (d2 ixV (dVar 0) (dVar 2))) (aCons (dHV (d2 ixV (dVar 0) (dVar 3))) aNil)))))) (dTup (aCons (dVar 2) (aCons (dVar 3) aNil))) [2, 3] [3]))) aNil))) aNil))))))
def E_graph_of : FnE := fnE 2 1 4 none (D_graph_of E_do_meet)
theorem s_graph_of (a0 : Sl) : E_graph_of.sem [a0] = flRes 1 none ((D_graph_of E_do_meet) [a0, .no, .no, .no]) :=
  (fnE_sem 2 1 4 none (D_graph_of E_do_meet) [a0]).trans (congrArg (fun l => flRes 1 none ((D_graph_of E_do_meet) l)) (by rfl : ([a0] : List Sl) ++ List.replicate (4 - 1) .no = [a0, .no, .no, .no]))
theorem np_graph_of : E_graph_of.np = 1 := rfl
theorem ok_graph_of {f : Addr} {fd : FuncData} (F : FunD K "graph_of" "graph_of" (defArgs (Hd.top 8)) (defBody (Hd.top 8)) (defScope (Hd.top 8)) [] [] f fd) (hm : mg "graph_of" = some (.ref f)) (g_tuple : mg "tuple" = none) (g_range : mg "range" = none) (g_len : mg "len" = none) (C_do_meet : Cal P w K mg base CX0 "do_meet" E_do_meet) : Cal P w K mg base CX0 "graph_of" E_graph_of :=
  fn_okD (N := ["stays", "n", "i", "j"]) (ps := ["stays"]) (k := 1) F sc_graph_of rfl rfl hm (fun _ _ _ _ _ _ us hl => match us, hl with | [_], _ => rfl) fun cdv A outer s H E hr => (by
    have nd := (sc_graph_of).nd
    exact (pst_cons (st_set (i := 1) nd rfl (by first | exact Or.inl rfl | exact Or.inr rfl) (pow_of (pv_callB c_len (by rfl) g_len (by decide +kernel) (as_cons (ph_var (i := 0)) as_nil))))
    (pst_one (st_ret (pow_of (pv_tup (as_cons (ph_var (i := 1)) (as_cons (ph_of (pv_callTy c_tuple (by rfl) g_tuple (by decide +kernel) (as_cons (ph_of (pv_own (pow_lc2 rfl nd (it_r1 (by rfl) g_range (pv_of (ph_var (i := 1)))) (blkOk_by (own := [("i", 2), ("j", 3)]) (by first | decide +kernel | rfl)) (vs1 := [3]) (by decide) (fun _ _ _ _ _ => (gt_name (i := 2) nd rfl (by first | exact Or.inl rfl | exact Or.inr rfl))) (fun _ _ _ _ _ => ts_nil) (fun _ _ _ _ _ => (it_r2 (by rfl) g_range (pv_op o_add (ph_var (i := 2)) (ph_of pv_int)) (pv_of (ph_var (i := 1))))) (fun _ _ _ _ _ => (gt_name (i := 3) nd rfl (by first | exact Or.inl rfl | exact Or.inr rfl))) (fun _ _ _ _ _ => (ts_one (pt_of (ph_of (pv_own (pow_call0 C_do_meet rfl hr (by decide) pass0 (by rfl) (as_cons (ph_of (pv_ix i_ix (ph_var (i := 0)) (ph_var (i := 2)))) (as_cons (ph_of (pv_ix i_ix (ph_var (i := 0)) (ph_var (i := 3)))) as_nil)))))))) (fun _ _ _ _ _ => (pv_tup (as_cons (ph_var (i := 2)) (as_cons (ph_var (i := 3)) as_nil)))) (by decide) (by decide)))) as_nil))) as_nil))))))))
theorem sc_hours_of : FnScope ["stays", "stay", "hour"] ["stays"] (defScope (Hd.top 9)) := ⟨rfl, rfl, rfl, by decide +kernel, rfl, by decide +kernel, by decide +kernel⟩
def D_hours_of  : DS := (sRet (dOV (dN (g1 tupV) (aCons (dHV (dVO (dNo (go1 sdV) (aCons (dHV (dVO (dLc2 (dIt (dVH (dVar 0))) (gNm 1) tYesD (dIt (dVH (dVar 1))) (gNm 2) tYesD (dVH (dVar 2)) [1, 2] [2]))) aNil)))) aNil))))
def E_hours_of : FnE := fnE 1 1 3 none D_hours_of
theorem s_hours_of (a0 : Sl) : E_hours_of.sem [a0] = flRes 1 none (D_hours_of [a0, .no, .no]) :=
  (fnE_sem 1 1 3 none D_hours_of [a0]).trans (congrArg (fun l => flRes 1 none (D_hours_of l)) (by rfl : ([a0] : List Sl) ++ List.replicate (3 - 1) .no = [a0, .no, .no]))
theorem np_hours_of : E_hours_of.np = 1 := rfl
theorem ok_hours_of {f : Addr} {fd : FuncData} (F : FunD K "hours_of" "hours_of" (defArgs (Hd.top 9)) (defBody (Hd.top 9)) (defScope (Hd.top 9)) [] [] f fd) (hm : mg "hours_of" = some (.ref f)) (g_tuple : mg "tuple" = none) (g_sorted : mg "sorted" = none) (g_set : mg "set" = none) : Cal P w K mg base CX0 "hours_of" E_hours_of :=
  fn_okD (N := ["stays", "stay", "hour"]) (ps := ["stays"]) (k := 0) F sc_hours_of rfl rfl hm (fun _ _ _ _ _ _ us hl => match us, hl with | [_], _ => rfl) fun cdv A outer s H E hr => (by
    have nd := (sc_hours_of).nd
    exact (pst_one (st_ret (pow_of (pv_callTy c_tuple (by rfl) g_tuple (by decide +kernel) (as_cons (ph_of (pv_own (pow_sortedSet rfl (by rfl) g_sorted (by rfl) g_set (as_cons (ph_of (pv_own (pow_lc2 rfl nd (it_val (pv_of (ph_var (i := 0)))) (blkOk_by (own := [("stay", 1), ("hour", 2)]) (by first | decide +kernel | rfl)) (vs1 := [2]) (by decide) (fun _ _ _ _ _ => (gt_name (i := 1) nd rfl (by first | exact Or.inl rfl | exact Or.inr rfl))) (fun _ _ _ _ _ => ts_nil) (fun _ _ _ _ _ => (it_val (pv_of (ph_var (i := 1))))) (fun _ _ _ _ _ => (gt_name (i := 2) nd rfl (by first | exact Or.inl rfl | exact Or.inr rfl))) (fun _ _ _ _ _ => ts_nil) (fun _ _ _ _ _ => (pv_of (ph_var (i := 2)))) (by decide) (by decide)))) as_nil)))) as_nil))))))
theorem sc_is_timetable : FnScope ["graph", "value"] ["graph", "value"] (defScope (Hd.top 11)) := ⟨rfl, rfl, rfl, by decide +kernel, rfl, by decide +kernel, by decide +kernel⟩
def D_is_timetable (e_are_stays : FnE) (e_graph_of : FnE) : DS := (sRet (dOV (vAnd (dVO (callD0 e_are_stays (aCons (dHV (d2 ixV (dVar 0) (dHV (dC (.int 0))))) (aCons (dVar 1) aNil)))) (d2 eqV (dHV (dVO (callD0 e_graph_of (aCons (dVar 1) aNil)))) (dVar 0)))))
def E_is_timetable : FnE := fnE 4 2 2 none (D_is_timetable E_are_stays E_graph_of)
theorem s_is_timetable (a0 a1 : Sl) : E_is_timetable.sem [a0, a1] = flRes 2 none ((D_is_timetable E_are_stays E_graph_of) [a0, a1]) :=
  (fnE_sem 4 2 2 none (D_is_timetable E_are_stays E_graph_of) [a0, a1]).trans (congrArg (fun l => flRes 2 none ((D_is_timetable E_are_stays E_graph_of) l)) (by rfl : ([a0, a1] : List Sl) ++ List.replicate (2 - 2) .no = [a0, a1]))
theorem np_is_timetable : E_is_timetable.np = 2 := rfl
theorem ok_is_timetable {f : Addr} {fd : FuncData} (F : FunD K "is_timetable" "is_timetable" (defArgs (Hd.top 11)) (defBody (Hd.top 11)) (defScope (Hd.top 11)) [] [] f fd) (hm : mg "is_timetable" = some (.ref f)) (C_are_stays : Cal P w K mg base CX0 "are_stays" E_are_stays) (C_graph_of : Cal P w K mg base CX0 "graph_of" E_graph_of) : Cal P w K mg base CX0 "is_timetable" E_is_timetable :=
  fn_okD (N := ["graph", "value"]) (ps := ["graph", "value"]) (k := 3) F sc_is_timetable rfl rfl hm (fun _ _ _ _ _ _ us hl => match us, hl with | [_, _], _ => rfl) fun cdv A outer s H E hr => (by
    have nd := (sc_is_timetable).nd
    exact (pst_one (st_ret (pow_of (pv_and (pv_own (pow_call0 C_are_stays rfl hr (by decide) pass0 (by rfl) (as_cons (ph_of (pv_ix i_ix (ph_var (i := 0)) (ph_of pv_int))) (as_cons (ph_var (i := 1)) as_nil)))) (pv_one (pv_cmp (o_eq hr) (ph_of (pv_own (pow_call0 C_graph_of rfl hr (by decide) pass0 (by rfl) (as_cons (ph_var (i := 1)) as_nil)))) (ph_var (i := 0)))))))))
theorem sc__law_mix : FnScope ["number"] ["number"] (defScope (Hd.top 13)) := ⟨rfl, rfl, rfl, by decide +kernel, rfl, by decide +kernel, by decide +kernel⟩
def D__law_mix  : DS := (sSeq (sSet 0 (dOV (d2 modV (dHV (dN (g1 intV) (aCons (dHV (d2 addV (dHV (d2 mulV (dVar 0) (dHV (dC (.int 6364136223846793005))))) (dHV (dC (.int 1442695040888963407))))) aNil))) (dHV (dC (.int 18446744073709551616))))))
  (sRet (dOV (d2 modV (dHV (dN (g1 intV) (aCons (dHV (d2 addV (dHV (d2 divV (dHV (d2 mulV (dVar 0) (dVar 0))) (dHV (dC (.int 4294967296))))) (dHV (d2 mulV (dVar 0) (dHV (dC (.int 69621))))))) aNil))) (dHV (dC (.int 18446744073709551557)))))))
def E__law_mix : FnE := fnE 1 1 1 none D__law_mix
theorem s__law_mix (a0 : Sl) : E__law_mix.sem [a0] = flRes 1 none (D__law_mix [a0]) :=
  (fnE_sem 1 1 1 none D__law_mix [a0]).trans (congrArg (fun l => flRes 1 none (D__law_mix l)) (by rfl : ([a0] : List Sl) ++ List.replicate (1 - 1) .no = [a0]))
theorem np__law_mix : E__law_mix.np = 1 := rfl
theorem ok__law_mix {f : Addr} {fd : FuncData} (F : FunD K "_law_mix" "_law_mix" (defArgs (Hd.top 13)) (defBody (Hd.top 13)) (defScope (Hd.top 13)) [] [] f fd) (hm : mg "_law_mix" = some (.ref f)) (g_int : mg "int" = none) : Cal P w K mg base CX0 "_law_mix" E__law_mix :=
  fn_okD (N := ["number"]) (ps := ["number"]) (k := 0) F sc__law_mix rfl rfl hm (fun _ _ _ _ _ _ us hl => match us, hl with | [_], _ => rfl) fun cdv A outer s H E hr => (by
    have nd := (sc__law_mix).nd
    exact (pst_cons (st_set (i := 0) nd rfl (by first | exact Or.inl rfl | exact Or.inr rfl) (pow_of (pv_op o_mod (ph_of (pv_callTy c_int (by rfl) g_int (by decide +kernel) (as_cons (ph_of (pv_op o_add (ph_of (pv_op o_mul (ph_var (i := 0)) (ph_of pv_int))) (ph_of pv_int))) as_nil))) (ph_of pv_int))))
    (pst_one (st_ret (pow_of (pv_op o_mod (ph_of (pv_callTy c_int (by rfl) g_int (by decide +kernel) (as_cons (ph_of (pv_op o_add (ph_of (pv_op o_div (ph_of (pv_op o_mul (ph_var (i := 0)) (ph_var (i := 0)))) (ph_of pv_int))) (ph_of (pv_op o_mul (ph_var (i := 0)) (ph_of pv_int))))) as_nil))) (ph_of pv_int)))))))
theorem sc__law_tape : FnScope ["script"] ["script"] (defScope (Hd.top 14)) := ⟨rfl, rfl, rfl, by decide +kernel, rfl, by decide +kernel, by decide +kernel⟩
def D__law_tape  : DS := (sRet (dLst (aCons (dHV (dVO (dNo (go1 itemsV) (aCons (dHV (dSl (dVar 0) pNone (pSome (dC (.int 80))))) aNil)))) (aCons (dHV (dC (.int 0))) (aCons (dHV (dC (.int 0))) (aCons (dHV (d2 addV (dHV (dC (.int 1))) (dHV (dN (g1 lenV) (aCons (dVar 0) aNil))))) aNil))))))
def E__law_tape : FnE := fnE 1 1 1 none D__law_tape
theorem s__law_tape (a0 : Sl) : E__law_tape.sem [a0] = flRes 1 none (D__law_tape [a0]) :=
  (fnE_sem 1 1 1 none D__law_tape [a0]).trans (congrArg (fun l => flRes 1 none (D__law_tape l)) (by rfl : ([a0] : List Sl) ++ List.replicate (1 - 1) .no = [a0]))
theorem np__law_tape : E__law_tape.np = 1 := rfl
theorem ok__law_tape {f : Addr} {fd : FuncData} (F : FunD K "_law_tape" "_law_tape" (defArgs (Hd.top 14)) (defBody (Hd.top 14)) (defScope (Hd.top 14)) [] [] f fd) (hm : mg "_law_tape" = some (.ref f)) (g_len : mg "len" = none) (g_list : mg "list" = none) : Cal P w K mg base CX0 "_law_tape" E__law_tape :=
  fn_okD (N := ["script"]) (ps := ["script"]) (k := 0) F sc__law_tape rfl rfl hm (fun _ _ _ _ _ _ us hl => match us, hl with | [_], _ => rfl) fun cdv A outer s H E hr => (by
    have nd := (sc__law_tape).nd
    exact (pst_one (st_ret (pow_lst (as_cons (ph_of (pv_own (pow_callTy c_list (by rfl) g_list (by decide +kernel) (as_cons (ph_of (pv_slice (ph_var (i := 0)) pp_none (pp_some pv_int))) as_nil)))) (as_cons (ph_of pv_int) (as_cons (ph_of pv_int) (as_cons (ph_of (pv_op o_add (ph_of pv_int) (ph_of (pv_callB c_len (by rfl) g_len (by decide +kernel) (as_cons (ph_var (i := 0)) as_nil))))) as_nil))))))))
theorem sc__law_take : FnScope ["tape", "many", "cell", "digit"] ["tape", "many"] (defScope (Hd.top 15)) := ⟨rfl, rfl, rfl, by decide +kernel, rfl, by decide +kernel, by decide +kernel⟩
def D__law_take (e__law_mix : FnE) : DS := (sSeq (sIf (tBl (d2 ltV (dHV (d2 ixV (dVar 0) (dHV (dC (.int 2))))) (dVar 1))) (sIf (tBl (d2 ltV (dHV (d2 ixV (dVar 0) (dHV (dC (.int 1))))) (dHV (dN (g1 lenV) (aCons (dHV (d2 ixV (dVar 0) (dHV (dC (.int 0))))) aNil))))) (sSeq (sSet 2 (dOV (d2 ixV (dHV (d2 ixV (dVar 0) (dHV (dC (.int 0))))) (dHV (d2 ixV (dVar 0) (dHV (dC (.int 1))))))))
  (sSeq (sSet 2 (dOV (dIf (tBl (d2 geV (dVar 2) (dHV (dC (.int 0))))) (d2 mulV (dHV (dC (.int 2))) (dVar 2)) (d2 subV (dHV (d2 mulV (dHV (dNeg (dC (.int 2)))) (dVar 2))) (dHV (dC (.int 1)))))))
  (sSeq (sPut 0 (dC (.int 1)) (d2 addV (dHV (d2 ixV (dVar 0) (dHV (dC (.int 1))))) (dHV (dC (.int 1)))))
  (sSeq (sPut 0 (dC (.int 3)) (dVO (callD0 e__law_mix (aCons (dHV (d2 addV (dHV (d2 ixV (dVar 0) (dHV (dC (.int 3))))) (dVar 2))) aNil))))
  (sPut 0 (dC (.int 2)) (dIf (tBl (d2 geV (dVar 2) (dHV (d2 powV (dHV (dC (.int 10))) (dHV (dC (.int 18))))))) (dVH (dVar 2)) (dVO (callD0 e__law_mix (aCons (dHV (d2 addV (dHV (dVO (callD0 e__law_mix (aCons (dVar 2) aNil)))) (dHV (d2 ixV (dVar 0) (dHV (dC (.int 1))))))) aNil))))))))) (sSeq (sPut 0 (dC (.int 3)) (dVO (callD0 e__law_mix (aCons (dHV (d2 addV (dHV (d2 ixV (dVar 0) (dHV (dC (.int 3))))) (dHV (dC (.int 1))))) aNil))))
  (sPut 0 (dC (.int 2)) (d2 ixV (dVar 0) (dHV (dC (.int 3))))))) sSkip)
  (sSeq (sSet 3 (dOV (d2 modV (dHV (dN (g1 intV) (aCons (dHV (d2 ixV (dVar 0) (dHV (dC (.int 2))))) aNil))) (dVar 1))))
  (sSeq (sPut 0 (dC (.int 2)) (d2 divV (dHV (d2 ixV (dVar 0) (dHV (dC (.int 2))))) (dVar 1)))
  (sRet (dOV (dVH (dVar 3)))))))
def E__law_take : FnE := fnE 2 2 4 (some 0) (D__law_take E__law_mix)
theorem s__law_take (a0 a1 : Sl) : E__law_take.sem [a0, a1] = flRes 2 (some 0) ((D__law_take E__law_mix) [a0, a1, .no, .no]) :=
  (fnE_sem 2 2 4 (some 0) (D__law_take E__law_mix) [a0, a1]).trans (congrArg (fun l => flRes 2 (some 0) ((D__law_take E__law_mix) l)) (by rfl : ([a0, a1] : List Sl) ++ List.replicate (4 - 2) .no = [a0, a1, .no, .no]))
theorem np__law_take : E__law_take.np = 2 := rfl
theorem ok__law_take {f : Addr} {fd : FuncData} (F : FunD K "_law_take" "_law_take" (defArgs (Hd.top 15)) (defBody (Hd.top 15)) (defScope (Hd.top 15)) [] [] f fd) (hm : mg "_law_take" = some (.ref f)) (g_int : mg "int" = none) (g_len : mg "len" = none) (C__law_mix : Cal P w K mg base CX0 "_law_mix" E__law_mix) : Cal P w K mg base CX0 "_law_take" E__law_take :=
  fn_okD (N := ["tape", "many", "cell", "digit"]) (ps := ["tape", "many"]) (k := 1) F sc__law_take rfl rfl hm (fun _ _ _ _ _ _ us hl => match us, hl with | [_, _], _ => rfl) fun cdv A outer s H E hr => (by
    have nd := (sc__law_take).nd
    exact (pst_cons (st_if (pt_cmp' (o_lt hr) (ph_of (pv_ix i_ix (ph_var (i := 0)) (ph_of pv_int))) (ph_var (i := 1))) (pst_one (st_if (pt_cmp' (o_lt hr) (ph_of (pv_ix i_ix (ph_var (i := 0)) (ph_of pv_int))) (ph_of (pv_callB c_len (by rfl) g_len (by decide +kernel) (as_cons (ph_of (pv_ix i_ix (ph_var (i := 0)) (ph_of pv_int))) as_nil)))) (pst_cons (st_set (i := 2) nd rfl (by first | exact Or.inl rfl | exact Or.inr rfl) (pow_of (pv_ix i_ix (ph_of (pv_ix i_ix (ph_var (i := 0)) (ph_of pv_int))) (ph_of (pv_ix i_ix (ph_var (i := 0)) (ph_of pv_int))))))
    (pst_cons (st_set (i := 2) nd rfl (by first | exact Or.inl rfl | exact Or.inr rfl) (pow_of (pv_if (pt_cmp' (o_ge hr) (ph_var (i := 2)) (ph_of pv_int)) (pv_op o_mul (ph_of pv_int) (ph_var (i := 2))) (pv_op o_sub (ph_of (pv_op o_mul (ph_of (pv_neg pv_int)) (ph_var (i := 2)))) (ph_of pv_int)))))
    (pst_cons (st_put (i := 0) (pv 0) pv_int (pv_op o_add (ph_of (pv_ix i_ix (ph_var (i := 0)) (ph_of pv_int))) (ph_of pv_int)))
    (pst_cons (st_put (i := 0) (pv 0) pv_int (pv_own (pow_call0 C__law_mix rfl hr (by decide) pass0 (by rfl) (as_cons (ph_of (pv_op o_add (ph_of (pv_ix i_ix (ph_var (i := 0)) (ph_of pv_int))) (ph_var (i := 2)))) as_nil))))
    (pst_one (st_put (i := 0) (pv 0) pv_int (pv_if (pt_cmp' (o_ge hr) (ph_var (i := 2)) (ph_of (pv_op o_pow (ph_of pv_int) (ph_of pv_int)))) (pv_of (ph_var (i := 2))) (pv_own (pow_call0 C__law_mix rfl hr (by decide) pass0 (by rfl) (as_cons (ph_of (pv_op o_add (ph_of (pv_own (pow_call0 C__law_mix rfl hr (by decide) pass0 (by rfl) (as_cons (ph_var (i := 2)) as_nil)))) (ph_of (pv_ix i_ix (ph_var (i := 0)) (ph_of pv_int))))) as_nil)))))))))) (pst_cons (st_put (i := 0) (pv 0) pv_int (pv_own (pow_call0 C__law_mix rfl hr (by decide) pass0 (by rfl) (as_cons (ph_of (pv_op o_add (ph_of (pv_ix i_ix (ph_var (i := 0)) (ph_of pv_int))) (ph_of pv_int))) as_nil))))
    (pst_one (st_put (i := 0) (pv 0) pv_int (pv_ix i_ix (ph_var (i := 0)) (ph_of pv_int))))))) pst_nil)
    (pst_cons (st_set (i := 3) nd rfl (by first | exact Or.inl rfl | exact Or.inr rfl) (pow_of (pv_op o_mod (ph_of (pv_callTy c_int (by rfl) g_int (by decide +kernel) (as_cons (ph_of (pv_ix i_ix (ph_var (i := 0)) (ph_of pv_int))) as_nil))) (ph_var (i := 1)))))
    (pst_cons (st_put (i := 0) (pv 0) pv_int (pv_op o_div (ph_of (pv_ix i_ix (ph_var (i := 0)) (ph_of pv_int))) (ph_var (i := 1))))
    (pst_one (st_ret (pow_of (pv_of (ph_var (i := 3))))))))))
theorem sc__law_same : FnScope ["a", "b", "k"] ["a", "b"] (defScope (Hd.top 16)) := ⟨rfl, rfl, rfl, by decide +kernel, rfl, by decide +kernel, by decide +kernel⟩
def D__law_same (e__law_same : FnE) : DS := (sSeq (sIf (tOrD (tAndD (tOf (dHV (dIsi "tuple" (dVar 0)))) (tOf (dHV (dIsi "tuple" (dVar 1))))) (tAndD (tOf (dHV (dIsi "list" (dVar 0)))) (tOf (dHV (dIsi "list" (dVar 1)))))) (sRet (dOV (vAnd (d2 eqV (dHV (dN (g1 lenV) (aCons (dVar 0) aNil))) (dHV (dN (g1 lenV) (aCons (dVar 1) aNil)))) (dN (g1 allV) (aCons (dHV (dVO (dLc (dRg (dR1 (dN (g1 lenV) (aCons (dVar 0) aNil)))) (gNm 2) tYesD (dVO (callD0 e__law_same (aCons (dHV (d2 ixV (dVar 0) (dVar 2))) (aCons (dHV (d2 ixV (dVar 1) (dVar 2))) aNil)))) [2]))) aNil))))) sSkip)
  (sSeq (sIf (tOrD (tOf (dHV (dIsi "bool" (dVar 0)))) (tOf (dHV (dIsi "bool" (dVar 1))))) (sRet (dOV (vAnd (dIsi "bool" (dVar 0)) (vAnd (dIsi "bool" (dVar 1)) (d2 eqV (dVar 0) (dVar 1)))))) sSkip)
  (sSeq (sIf (tOrD (tAndD (tOf (dHV (dIsi "int" (dVar 0)))) (tOf (dHV (dIsi "int" (dVar 1))))) (tAndD (tOf (dHV (dIsi "str" (dVar 0)))) (tOf (dHV (dIsi "str" (dVar 1)))))) (sRet (dOV (d2 eqV (dVar 0) (dVar 1)))) sSkip)
  (sRet (dOV (vAnd (dIsN (dVH (dVar 0))) (dIsN (dVH (dVar 1)))))))))
def E__law_same : Nat → FnE
  | 0 => ⟨0, 2, none, fun _ => .bad⟩
  | m + 1 => fnE (0 + m + 1) 2 3 none (D__law_same (E__law_same m))
theorem lv__law_same : ∀ m, (E__law_same m).lv = 0 + m ∧ (E__law_same m).rf = none ∧ (E__law_same m).np = 2
  | 0 => ⟨rfl, rfl, rfl⟩
  | m + 1 => ⟨by show 0 + m + 1 = _; omega, rfl, rfl⟩
theorem s__law_same (m : Nat) (a0 a1 : Sl) : (E__law_same (m + 1)).sem [a0, a1] = flRes 2 none (D__law_same (E__law_same m) [a0, a1, .no]) :=
  (fnE_sem (0 + m + 1) 2 3 none (D__law_same (E__law_same m)) [a0, a1]).trans (congrArg (fun l => flRes 2 none (D__law_same (E__law_same m) l)) (by rfl : ([a0, a1] : List Sl) ++ List.replicate (3 - 2) .no = [a0, a1, .no]))
theorem ok__law_same {f : Addr} {fd : FuncData} (F : FunD K "_law_same" "_law_same" (defArgs (Hd.top 16)) (defBody (Hd.top 16)) (defScope (Hd.top 16)) [] [] f fd) (hm : mg "_law_same" = some (.ref f)) (g_isinstance : mg "isinstance" = none) (g_int : mg "int" = none) (g_str : mg "str" = none) (g_bool : mg "bool" = none) (g_tuple : mg "tuple" = none) (g_list : mg "list" = none) (g_len : mg "len" = none) (g_all : mg "all" = none) (g_range : mg "range" = none) : ∀ m, Cal P w K mg base CX0 "_law_same" (E__law_same m)
  | 0 => cal_bad (ps := ["a", "b"]) F rfl hm (fun _ _ _ _ _ _ us hl => match us, hl with | [_, _], _ => rfl)
  | m + 1 => fn_okD (N := ["a", "b", "k"]) (ps := ["a", "b"]) (k := 0 + m) F sc__law_same rfl rfl hm (fun _ _ _ _ _ _ us hl => match us, hl with | [_, _], _ => rfl) fun cdv A outer s H E hr => (by
      have nd := (sc__law_same).nd
      have C__law_same := ok__law_same F hm g_isinstance g_int g_str g_bool g_tuple g_list g_len g_all g_range m
      have hrf := (lv__law_same m).2.1
      have hlv : (E__law_same m).lv ≤ 0 + m := by rw [(lv__law_same m).1]; exact Nat.le_refl _
      exact (pst_cons (st_if (pt_w (pw_or' (pt_w (pw_and' (pt_of (ph_of (pv_isi (ph_var (i := 0)) (by rfl) g_isinstance (by rfl) g_tuple (by decide +kernel) (by simp)))) (pw_and1' (pt_of (ph_of (pv_isi (ph_var (i := 1)) (by rfl) g_isinstance (by rfl) g_tuple (by decide +kernel) (by simp))))))) (pw_or1' (pt_w (pw_and' (pt_of (ph_of (pv_isi (ph_var (i := 0)) (by rfl) g_isinstance (by rfl) g_list (by decide +kernel) (by simp)))) (pw_and1' (pt_of (ph_of (pv_isi (ph_var (i := 1)) (by rfl) g_isinstance (by rfl) g_list (by decide +kernel) (by simp)))))))))) (pst_one (st_ret (pow_of (pv_and (pv_cmp (o_eq hr) (ph_of (pv_callB c_len (by rfl) g_len (by decide +kernel) (as_cons (ph_var (i := 0)) as_nil))) (ph_of (pv_callB c_len (by rfl) g_len (by decide +kernel) (as_cons (ph_var (i := 1)) as_nil)))) (pv_one (pv_callB (c_all rfl) (by rfl) g_all (by decide +kernel) (as_cons (ph_of (pv_own (pow_lc rfl nd (it_r1 (by rfl) g_range (pv_callB c_len (by rfl) g_len (by decide +kernel) (as_cons (ph_var (i := 0)) as_nil))) (blkOk_by (own := [("k", 2)]) (by first | decide +kernel | rfl)) (fun _ _ _ _ _ => (gt_name (i := 2) nd rfl (by first | exact Or.inl rfl | exact Or.inr rfl))) (fun _ _ _ _ _ => ts_nil) (fun _ _ _ _ _ => (pv_own (pow_call0 C__law_same hrf hr hlv pass0 (by rfl) (as_cons (ph_of (pv_ix i_ix (ph_var (i := 0)) (ph_var (i := 2)))) (as_cons (ph_of (pv_ix i_ix (ph_var (i := 1)) (ph_var (i := 2)))) as_nil))))) (by decide)))) as_nil))))))) pst_nil)
    (pst_cons (st_if (pt_w (pw_or' (pt_of (ph_of (pv_isi (ph_var (i := 0)) (by rfl) g_isinstance (by rfl) g_bool (by decide +kernel) (by simp)))) (pw_or1' (pt_of (ph_of (pv_isi (ph_var (i := 1)) (by rfl) g_isinstance (by rfl) g_bool (by decide +kernel) (by simp))))))) (pst_one (st_ret (pow_of (pv_and (pv_isi (ph_var (i := 0)) (by rfl) g_isinstance (by rfl) g_bool (by decide +kernel) (by simp)) (pv_and (pv_isi (ph_var (i := 1)) (by rfl) g_isinstance (by rfl) g_bool (by decide +kernel) (by simp)) (pv_one (pv_cmp (o_eq hr) (ph_var (i := 0)) (ph_var (i := 1))))))))) pst_nil)
    (pst_cons (st_if (pt_w (pw_or' (pt_w (pw_and' (pt_of (ph_of (pv_isi (ph_var (i := 0)) (by rfl) g_isinstance (by rfl) g_int (by decide +kernel) (by simp)))) (pw_and1' (pt_of (ph_of (pv_isi (ph_var (i := 1)) (by rfl) g_isinstance (by rfl) g_int (by decide +kernel) (by simp))))))) (pw_or1' (pt_w (pw_and' (pt_of (ph_of (pv_isi (ph_var (i := 0)) (by rfl) g_isinstance (by rfl) g_str (by decide +kernel) (by simp)))) (pw_and1' (pt_of (ph_of (pv_isi (ph_var (i := 1)) (by rfl) g_isinstance (by rfl) g_str (by decide +kernel) (by simp)))))))))) (pst_one (st_ret (pow_of (pv_cmp (o_eq hr) (ph_var (i := 0)) (ph_var (i := 1)))))) pst_nil)
    (pst_one (st_ret (pow_of (pv_and (pv_isN (pv_of (ph_var (i := 0)))) (pv_one (pv_isN (pv_of (ph_var (i := 1)))))))))))))
theorem sc__law_shown : FnScope ["stays", "n", "pairs", "i", "j"] ["stays"] (defScope (Hd.top 17)) := ⟨rfl, rfl, rfl, by decide +kernel, rfl, by decide +kernel, by decide +kernel⟩
def D__law_shown  : DS := (sSeq (sSet 1 (dOV (dN (g1 lenV) (aCons (dVar 0) aNil))))
  (sSeq (sSet 2 (dLst aNil))
  (sSeq (sFor (dRg (dR1 (dVH (dVar 1)))) (gNm 3) (sDrop (dOV (dU extV 2 (aCons (dHV (dVO (dLc (dRg (dR2 (d2 addV (dVar 3) (dHV (dC (.int 1)))) (dVH (dVar 1)))) (gNm 4) (tAndD (tBl (d2 leV (dHV (d2 ixV (dHV (d2 ixV (dVar 0) (dVar 3))) (dHV (dC (.int 0))))) (dHV (d2 ixV (dHV (d2 ixV (dVar 0) (dVar 4))) (dHV (dC (.int 1))))))) (tBl (d2 leV (dHV (d2 ixV (dHV (d2 ixV (dVar 0) (dVar 4))) (dHV (dC (.int 0))))) (dHV (d2 ixV (dHV (d2 ixV (dVar 0) (dVar 3))) (dHV (dC (.int 1)))))))) (dTup (aCons (dVar 3) (aCons (dVar 4) aNil))) [4]))) aNil)))))
  (sRet (dOV (dTup (aCons (dVar 1) (aCons (dHV (dN (g1 tupV) (aCons (dVar 2) aNil))) aNil))))))))
def E__law_shown : FnE := fnE 1 1 5 none D__law_shown
theorem s__law_shown (a0 : Sl) : E__law_shown.sem [a0] = flRes 1 none (D__law_shown [a0, .no, .no, .no, .no]) :=
  (fnE_sem 1 1 5 none D__law_shown [a0]).trans (congrArg (fun l => flRes 1 none (D__law_shown l)) (by rfl : ([a0] : List Sl) ++ List.replicate (5 - 1) .no = [a0, .no, .no, .no, .no]))
theorem np__law_shown : E__law_shown.np = 1 := rfl
theorem ok__law_shown {f : Addr} {fd : FuncData} (F : FunD K "_law_shown" "_law_shown" (defArgs (Hd.top 17)) (defBody (Hd.top 17)) (defScope (Hd.top 17)) [] [] f fd) (hm : mg "_law_shown" = some (.ref f)) (g_tuple : mg "tuple" = none) (g_range : mg "range" = none) (g_len : mg "len" = none) : Cal P w K mg base CX0 "_law_shown" E__law_shown :=
  fn_okD (N := ["stays", "n", "pairs", "i", "j"]) (ps := ["stays"]) (k := 0) F sc__law_shown rfl rfl hm (fun _ _ _ _ _ _ us hl => match us, hl with | [_], _ => rfl) fun cdv A outer s H E hr => (by
    have nd := (sc__law_shown).nd
    exact (pst_cons (st_set (i := 1) nd rfl (by first | exact Or.inl rfl | exact Or.inr rfl) (pow_of (pv_callB c_len (by rfl) g_len (by decide +kernel) (as_cons (ph_var (i := 0)) as_nil))))
    (pst_cons (st_set (i := 2) nd rfl (by first | exact Or.inl rfl | exact Or.inr rfl) (pow_lst as_nil))
    (pst_cons (st_for PassesOwn.never rfl (it_r1 (by rfl) g_range (pv_of (ph_var (i := 1)))) (gt_name (i := 3) nd rfl (by first | exact Or.inl rfl | exact Or.inr rfl)) (pst_one (st_expr (pow_of (pv_bmU PySem.F.slot_list_extend PySem.F.type_list_extend m_extend (pv 2) (as_cons (ph_of (pv_own (pow_lc rfl nd (it_r2 (by rfl) g_range (pv_op o_add (ph_var (i := 3)) (ph_of pv_int)) (pv_of (ph_var (i := 1)))) (blkOk_by (own := [("j", 4)]) (by first | decide +kernel | rfl)) (fun _ _ _ _ _ => (gt_name (i := 4) nd rfl (by first | exact Or.inl rfl | exact Or.inr rfl))) (fun _ _ _ _ _ => (ts_one (pt_w (pw_and' (pt_cmp' (o_le hr) (ph_of (pv_ix i_ix (ph_of (pv_ix i_ix (ph_var (i := 0)) (ph_var (i := 3)))) (ph_of pv_int))) (ph_of (pv_ix i_ix (ph_of (pv_ix i_ix (ph_var (i := 0)) (ph_var (i := 4)))) (ph_of pv_int)))) (pw_and1' (pt_cmp' (o_le hr) (ph_of (pv_ix i_ix (ph_of (pv_ix i_ix (ph_var (i := 0)) (ph_var (i := 4)))) (ph_of pv_int))) (ph_of (pv_ix i_ix (ph_of (pv_ix i_ix (ph_var (i := 0)) (ph_var (i := 3)))) (ph_of pv_int))))))))) (fun _ _ _ _ _ => (pv_tup (as_cons (ph_var (i := 3)) (as_cons (ph_var (i := 4)) as_nil)))) (by decide)))) as_nil))))))
    (pst_one (st_ret (pow_of (pv_tup (as_cons (ph_var (i := 1)) (as_cons (ph_of (pv_callTy c_tuple (by rfl) g_tuple (by decide +kernel) (as_cons (ph_var (i := 2)) as_nil))) as_nil))))))))))
theorem sc__law_mixed : FnScope ["tape", "row", "left", "k"] ["tape", "row"] (defScope (Hd.top 18)) := ⟨rfl, rfl, rfl, by decide +kernel, rfl, by decide +kernel, by decide +kernel⟩
def D__law_mixed (e__law_take : FnE) : DS := (sSeq (sSet 2 (dNo (go1 itemsV) (aCons (dVar 1) aNil)))
  (sRet (dLc (dRg (dR1 (dN (g1 lenV) (aCons (dVar 1) aNil)))) (gNm 3) tYesD (dU popV 2 (aCons (dHV (dVO (callD1 e__law_take 0 (aCons (dVar 0) (aCons (dHV (dN (g1 lenV) (aCons (dVar 2) aNil))) aNil))))) aNil)) [3])))
def E__law_mixed : FnE := fnE 3 2 4 (some 0) (D__law_mixed E__law_take)
theorem s__law_mixed (a0 a1 : Sl) : E__law_mixed.sem [a0, a1] = flRes 2 (some 0) ((D__law_mixed E__law_take) [a0, a1, .no, .no]) :=
  (fnE_sem 3 2 4 (some 0) (D__law_mixed E__law_take) [a0, a1]).trans (congrArg (fun l => flRes 2 (some 0) ((D__law_mixed E__law_take) l)) (by rfl : ([a0, a1] : List Sl) ++ List.replicate (4 - 2) .no = [a0, a1, .no, .no]))
theorem np__law_mixed : E__law_mixed.np = 2 := rfl
theorem ok__law_mixed {f : Addr} {fd : FuncData} (F : FunD K "_law_mixed" "_law_mixed" (defArgs (Hd.top 18)) (defBody (Hd.top 18)) (defScope (Hd.top 18)) [] [] f fd) (hm : mg "_law_mixed" = some (.ref f)) (g_range : mg "range" = none) (g_len : mg "len" = none) (g_list : mg "list" = none) (C__law_take : Cal P w K mg base CX0 "_law_take" E__law_take) : Cal P w K mg base CX0 "_law_mixed" E__law_mixed :=
  fn_okD (N := ["tape", "row", "left", "k"]) (ps := ["tape", "row"]) (k := 2) F sc__law_mixed rfl rfl hm (fun _ _ _ _ _ _ us hl => match us, hl with | [_, _], _ => rfl) fun cdv A outer s H E hr => (by
    have nd := (sc__law_mixed).nd
    exact (pst_cons (st_set (i := 2) nd rfl (by first | exact Or.inl rfl | exact Or.inr rfl) (pow_callTy c_list (by rfl) g_list (by decide +kernel) (as_cons (ph_var (i := 1)) as_nil)))
    (pst_one (st_ret (pow_lc rfl nd (it_r1 (by rfl) g_range (pv_callB c_len (by rfl) g_len (by decide +kernel) (as_cons (ph_var (i := 1)) as_nil))) (blkOk_by (own := [("k", 3)]) (by first | decide +kernel | rfl)) (fun _ _ _ _ _ => (gt_name (i := 3) nd rfl (by first | exact Or.inl rfl | exact Or.inr rfl))) (fun _ _ _ _ _ => ts_nil) (fun _ _ _ _ _ => (pv_bmU PySem.F.slot_list_pop PySem.F.type_list_pop m_pop (pv 2) (as_cons (ph_of (pv_own (pow_call1 (kr := 0) C__law_take rfl (by decide) hr (by decide) pass0 (by rfl) (as_cons (ph_var (i := 0)) (as_cons (ph_of (pv_callB c_len (by rfl) g_len (by decide +kernel) (as_cons (ph_var (i := 2)) as_nil))) as_nil))))) as_nil))) (by decide))))))
theorem sc__law_met : FnScope ["land", "i", "j"] ["land", "i", "j"] (defScope (Hd.top 19)) := ⟨rfl, rfl, rfl, by decide +kernel, rfl, by decide +kernel, by decide +kernel⟩
def D__law_met  : DS := (sRet (dOV (d2 inV (dHV (dTup (aCons (dHV (dN (g2 min2V) (aCons (dVar 1) (aCons (dVar 2) aNil)))) (aCons (dHV (dN (g2 max2V) (aCons (dVar 1) (aCons (dVar 2) aNil)))) aNil)))) (dHV (d2 ixV (dVar 0) (dHV (dC (.int 1))))))))
def E__law_met : FnE := fnE 1 3 3 none D__law_met
theorem s__law_met (a0 a1 a2 : Sl) : E__law_met.sem [a0, a1, a2] = flRes 3 none (D__law_met [a0, a1, a2]) :=
  (fnE_sem 1 3 3 none D__law_met [a0, a1, a2]).trans (congrArg (fun l => flRes 3 none (D__law_met l)) (by rfl : ([a0, a1, a2] : List Sl) ++ List.replicate (3 - 3) .no = [a0, a1, a2]))
theorem np__law_met : E__law_met.np = 3 := rfl
theorem ok__law_met {f : Addr} {fd : FuncData} (F : FunD K "_law_met" "_law_met" (defArgs (Hd.top 19)) (defBody (Hd.top 19)) (defScope (Hd.top 19)) [] [] f fd) (hm : mg "_law_met" = some (.ref f)) (g_max : mg "max" = none) (g_min : mg "min" = none) : Cal P w K mg base CX0 "_law_met" E__law_met :=
  fn_okD (N := ["land", "i", "j"]) (ps := ["land", "i", "j"]) (k := 0) F sc__law_met rfl rfl hm (fun _ _ _ _ _ _ us hl => match us, hl with | [_, _, _], _ => rfl) fun cdv A outer s H E hr => (by
    have nd := (sc__law_met).nd
    exact (pst_one (st_ret (pow_of (pv_cmp (o_in hr) (ph_of (pv_tup (as_cons (ph_of (pv_callB (c_min2 rfl) (by rfl) g_min (by decide +kernel) (as_cons (ph_var (i := 1)) (as_cons (ph_var (i := 2)) as_nil)))) (as_cons (ph_of (pv_callB (c_max2 rfl) (by rfl) g_max (by decide +kernel) (as_cons (ph_var (i := 1)) (as_cons (ph_var (i := 2)) as_nil)))) as_nil)))) (ph_of (pv_ix i_ix (ph_var (i := 0)) (ph_of pv_int))))))))
theorem sc__law_spoilt : FnScope ["tape", "value", "at", "rows"] ["tape", "value"] (defScope (Hd.top 20)) := ⟨rfl, rfl, rfl, by decide +kernel, rfl, by decide +kernel, by decide +kernel⟩
def D__law_spoilt (e__law_take : FnE) (e__law_spoilt : FnE) : DS := (sSeq (sIf (tAndD (tOf (dHV (dIsi "tuple" (dVar 1)))) (tAndD (tBl (d2 gtV (dHV (dN (g1 lenV) (aCons (dVar 1) aNil))) (dHV (dC (.int 0))))) (tBl (d2 gtV (dHV (dVO (callD1 e__law_take 0 (aCons (dVar 0) (aCons (dHV (dC (.int 4))) aNil))))) (dHV (dC (.int 0))))))) (sSeq (sSet 2 (callD1 e__law_take 0 (aCons (dVar 0) (aCons (dHV (dN (g1 lenV) (aCons (dVar 1) aNil))) aNil))))
  (sSeq (sIf (tBl (d2 eqV (dHV (dVO (callD1 e__law_take 0 (aCons (dVar 0) (aCons (dHV (dC (.int 8))) aNil))))) (dHV (dC (.int 0))))) (sRet (dOV (d2 addV (dHV (dSl (dVar 1) pNone (pSome (dVH (dVar 2))))) (dHV (dSl (dVar 1) (pSome (d2 addV (dVar 2) (dHV (dC (.int 1))))) pNone))))) sSkip)
  (sRet (dOV (d2 addV (dHV (d2 addV (dHV (dSl (dVar 1) pNone (pSome (dVH (dVar 2))))) (dHV (dTup (aCons (dHV (dVO (callD1 e__law_spoilt 0 (aCons (dVar 0) (aCons (dHV (d2 ixV (dVar 1) (dVar 2))) aNil))))) aNil))))) (dHV (dSl (dVar 1) (pSome (d2 addV (dVar 2) (dHV (dC (.int 1))))) pNone))))))) sSkip)
  (sSeq (sSet 3 (dLst (aCons (dHV (dC .non)) (aCons (dHV (dTup aNil)) (aCons (dHV (dC (.int 0))) (aCons (dHV (dC (.int 1))) (aCons (dHV (dC (.bl true))) (aCons (dHV (dC (.bl false))) (aCons (dHV (dC (.str "a"))) (aCons (dHV (dNeg (dC (.int 1)))) (aCons (dHV (dTup (aCons (dHV (dC (.int 0))) aNil))) (aCons (dHV (dTup (aCons (dHV (dTup (aCons (dHV (dC (.int 0))) (aCons (dHV (dC (.int 0))) aNil)))) aNil))) aNil))))))))))))
  (sSeq (sIf (tOf (dHV (dIsi "int" (dVar 1)))) (sSet 3 (dOV (d2 addV (dVar 3) (dHV (dVO (dLst (aCons (dHV (d2 addV (dVar 1) (dHV (dC (.int 1))))) (aCons (dHV (d2 subV (dVar 1) (dHV (dC (.int 1))))) (aCons (dHV (d2 eqV (dVar 1) (dHV (dC (.int 1))))) (aCons (dHV (d2 addV (dVar 1) (dHV (dC (.int 1))))) aNil)))))))))) sSkip)
  (sSeq (sIf (tOf (dHV (dIsi "tuple" (dVar 1)))) (sSet 3 (dOV (d2 addV (dVar 3) (dHV (dVO (dLst (aCons (dHV (dSl (dVar 1) pNone (pSome (dNeg (dC (.int 1)))))) (aCons (dHV (d2 addV (dVar 1) (dHV (dSl (dVar 1) (pSome (dNeg (dC (.int 1)))) pNone)))) (aCons (dHV (dBk (dVar 1) pNone pNone)) (aCons (dHV (d2 addV (dVar 1) (dHV (dTup (aCons (dHV (dTup (aCons (dHV (dC (.int 0))) (aCons (dHV (dC (.int 0))) aNil)))) aNil))))) (aCons (dHV (dTup (aCons (dVar 1) aNil))) (aCons (dHV (dSl (dVar 1) (pSome (dC (.int 1))) pNone)) aNil)))))))))))) sSkip)
  (sRet (dOV (d2 ixV (dVar 3) (dHV (dVO (callD1 e__law_take 0 (aCons (dVar 0) (aCons (dHV (dN (g1 lenV) (aCons (dVar 3) aNil))) aNil))))))))))))
def E__law_spoilt : Nat → FnE
  | 0 => ⟨2, 2, (some 0), fun _ => .bad⟩
  | m + 1 => fnE (2 + m + 1) 2 4 (some 0) (D__law_spoilt E__law_take (E__law_spoilt m))
theorem lv__law_spoilt : ∀ m, (E__law_spoilt m).lv = 2 + m ∧ (E__law_spoilt m).rf = (some 0) ∧ (E__law_spoilt m).np = 2
  | 0 => ⟨rfl, rfl, rfl⟩
  | m + 1 => ⟨by show 2 + m + 1 = _; omega, rfl, rfl⟩
theorem s__law_spoilt (m : Nat) (a0 a1 : Sl) : (E__law_spoilt (m + 1)).sem [a0, a1] = flRes 2 (some 0) (D__law_spoilt E__law_take (E__law_spoilt m) [a0, a1, .no, .no]) :=
  (fnE_sem (2 + m + 1) 2 4 (some 0) (D__law_spoilt E__law_take (E__law_spoilt m)) [a0, a1]).trans (congrArg (fun l => flRes 2 (some 0) (D__law_spoilt E__law_take (E__law_spoilt m) l)) (by rfl : ([a0, a1] : List Sl) ++ List.replicate (4 - 2) .no = [a0, a1, .no, .no]))
theorem ok__law_spoilt {f : Addr} {fd : FuncData} (F : FunD K "_law_spoilt" "_law_spoilt" (defArgs (Hd.top 20)) (defBody (Hd.top 20)) (defScope (Hd.top 20)) [] [] f fd) (hm : mg "_law_spoilt" = some (.ref f)) (g_len : mg "len" = none) (g_isinstance : mg "isinstance" = none) (g_tuple : mg "tuple" = none) (g_int : mg "int" = none) (C__law_take : Cal P w K mg base CX0 "_law_take" E__law_take) : ∀ m, Cal P w K mg base CX0 "_law_spoilt" (E__law_spoilt m)
  | 0 => cal_bad (ps := ["tape", "value"]) F rfl hm (fun _ _ _ _ _ _ us hl => match us, hl with | [_, _], _ => rfl)
  | m + 1 => fn_okD (N := ["tape", "value", "at", "rows"]) (ps := ["tape", "value"]) (k := 2 + m) F sc__law_spoilt rfl rfl hm (fun _ _ _ _ _ _ us hl => match us, hl with | [_, _], _ => rfl) fun cdv A outer s H E hr => (by
      have nd := (sc__law_spoilt).nd
      have C__law_spoilt := ok__law_spoilt F hm g_len g_isinstance g_tuple g_int C__law_take m
      have hrf := (lv__law_spoilt m).2.1
      have hlv : (E__law_spoilt m).lv ≤ 2 + m := by rw [(lv__law_spoilt m).1]; exact Nat.le_refl _
      have hkr : 0 < (E__law_spoilt m).np := by rw [(lv__law_spoilt m).2.2]; decide
      exact (pst_cons (st_if (pt_w (pw_and' (pt_of (ph_of (pv_isi (ph_var (i := 1)) (by rfl) g_isinstance (by rfl) g_tuple (by decide +kernel) (by simp)))) (pw_and' (pt_cmp' (o_gt hr) (ph_of (pv_callB c_len (by rfl) g_len (by decide +kernel) (as_cons (ph_var (i := 1)) as_nil))) (ph_of pv_int)) (pw_and1' (pt_cmp' (o_gt hr) (ph_of (pv_own (pow_call1 (kr := 0) C__law_take rfl (by decide) hr (Nat.le_trans (by decide) (Nat.le_add_right _ _)) pass0 (by rfl) (as_cons (ph_var (i := 0)) (as_cons (ph_of pv_int) as_nil))))) (ph_of pv_int)))))) (pst_cons (st_set (i := 2) nd rfl (by first | exact Or.inl rfl | exact Or.inr rfl) (pow_call1 (kr := 0) C__law_take rfl (by decide) hr (Nat.le_trans (by decide) (Nat.le_add_right _ _)) pass0 (by rfl) (as_cons (ph_var (i := 0)) (as_cons (ph_of (pv_callB c_len (by rfl) g_len (by decide +kernel) (as_cons (ph_var (i := 1)) as_nil))) as_nil))))
    (pst_cons (st_if (pt_cmp' (o_eq hr) (ph_of (pv_own (pow_call1 (kr := 0) C__law_take rfl (by decide) hr (Nat.le_trans (by decide) (Nat.le_add_right _ _)) pass0 (by rfl) (as_cons (ph_var (i := 0)) (as_cons (ph_of pv_int) as_nil))))) (ph_of pv_int)) (pst_one (st_ret (pow_of (pv_op o_add (ph_of (pv_slice (ph_var (i := 1)) pp_none (pp_some (pv_of (ph_var (i := 2)))))) (ph_of (pv_slice (ph_var (i := 1)) (pp_some (pv_op o_add (ph_var (i := 2)) (ph_of pv_int))) pp_none)))))) pst_nil)
    (pst_one (st_ret (pow_of (pv_op o_add (ph_of (pv_op o_add (ph_of (pv_slice (ph_var (i := 1)) pp_none (pp_some (pv_of (ph_var (i := 2)))))) (ph_of (pv_tup (as_cons (ph_of (pv_own (pow_call1 (kr := 0) C__law_spoilt hrf hkr hr hlv pass0 (by rfl) (as_cons (ph_var (i := 0)) (as_cons (ph_of (pv_ix i_ix (ph_var (i := 1)) (ph_var (i := 2)))) as_nil))))) as_nil))))) (ph_of (pv_slice (ph_var (i := 1)) (pp_some (pv_op o_add (ph_var (i := 2)) (ph_of pv_int))) pp_none)))))))) pst_nil)
    (pst_cons (st_set (i := 3) nd rfl (by first | exact Or.inl rfl | exact Or.inr rfl) (pow_lst (as_cons (ph_of pv_non) (as_cons (ph_of (pv_tup as_nil)) (as_cons (ph_of pv_int) (as_cons (ph_of pv_int) (as_cons (ph_of pv_bl) (as_cons (ph_of pv_bl) (as_cons (ph_of pv_str) (as_cons (ph_of (pv_neg pv_int)) (as_cons (ph_of (pv_tup (as_cons (ph_of pv_int) as_nil))) (as_cons (ph_of (pv_tup (as_cons (ph_of (pv_tup (as_cons (ph_of pv_int) (as_cons (ph_of pv_int) as_nil)))) as_nil))) as_nil))))))))))))
    (pst_cons (st_if (pt_of (ph_of (pv_isi (ph_var (i := 1)) (by rfl) g_isinstance (by rfl) g_int (by decide +kernel) (by simp)))) (pst_one (st_set (i := 3) nd rfl (by first | exact Or.inl rfl | exact Or.inr rfl) (pow_of (pv_op o_add (ph_var (i := 3)) (ph_of (pv_own (pow_lst (as_cons (ph_of (pv_op o_add (ph_var (i := 1)) (ph_of pv_int))) (as_cons (ph_of (pv_op o_sub (ph_var (i := 1)) (ph_of pv_int))) (as_cons (ph_of (pv_cmp (o_eq hr) (ph_var (i := 1)) (ph_of pv_int))) (as_cons (ph_of (pv_op o_add (ph_var (i := 1)) (ph_of pv_int))) as_nil))))))))))) pst_nil)
    (pst_cons (st_if (pt_of (ph_of (pv_isi (ph_var (i := 1)) (by rfl) g_isinstance (by rfl) g_tuple (by decide +kernel) (by simp)))) (pst_one (st_set (i := 3) nd rfl (by first | exact Or.inl rfl | exact Or.inr rfl) (pow_of (pv_op o_add (ph_var (i := 3)) (ph_of (pv_own (pow_lst (as_cons (ph_of (pv_slice (ph_var (i := 1)) pp_none (pp_some (pv_neg pv_int)))) (as_cons (ph_of (pv_op o_add (ph_var (i := 1)) (ph_of (pv_slice (ph_var (i := 1)) (pp_some (pv_neg pv_int)) pp_none)))) (as_cons (ph_of (pv_back (ph_var (i := 1)) pp_none pp_none)) (as_cons (ph_of (pv_op o_add (ph_var (i := 1)) (ph_of (pv_tup (as_cons (ph_of (pv_tup (as_cons (ph_of pv_int) (as_cons (ph_of pv_int) as_nil)))) as_nil))))) (as_cons (ph_of (pv_tup (as_cons (ph_var (i := 1)) as_nil))) (as_cons (ph_of (pv_slice (ph_var (i := 1)) (pp_some pv_int) pp_none)) as_nil))))))))))))) pst_nil)
    (pst_one (st_ret (pow_of (pv_ix i_ix (ph_var (i := 3)) (ph_of (pv_own (pow_call1 (kr := 0) C__law_take rfl (by decide) hr (Nat.le_trans (by decide) (Nat.le_add_right _ _)) pass0 (by rfl) (as_cons (ph_var (i := 0)) (as_cons (ph_of (pv_callB c_len (by rfl) g_len (by decide +kernel) (as_cons (ph_var (i := 3)) as_nil))) as_nil))))))))))))))
theorem sc__law_is_stay : FnScope ["value", "hour"] ["value"] (defScope (Hd.top 21)) := ⟨rfl, rfl, rfl, by decide +kernel, rfl, by decide +kernel, by decide +kernel⟩
def D__law_is_stay  : DS := (sSeq (sIf (tOrD (tNotD (tOf (dHV (dIsi "tuple" (dVar 0))))) (tBl (d2 neV (dHV (dN (g1 lenV) (aCons (dVar 0) aNil))) (dHV (dC (.int 2)))))) (sRet (dOV (dC (.bl false)))) sSkip)
  (sRet (dOV (vAnd (dN (g1 allV) (aCons (dHV (dVO (dLc (dIt (dVH (dVar 0))) (gNm 1) tYesD (vAnd (dIsi "int" (dVar 1)) (vAnd (vNot (dHV (dIsi "bool" (dVar 1)))) (dChain leV leV (dHV (dC (.int 0))) (dVar 1) (dHV (dC (.int 1000000)))))) [1]))) aNil)) (d2 leV (dHV (d2 ixV (dVar 0) (dHV (dC (.int 0))))) (dHV (d2 ixV (dVar 0) (dHV (dC (.int 1))))))))))
def E__law_is_stay : FnE := fnE 1 1 2 none D__law_is_stay
theorem s__law_is_stay (a0 : Sl) : E__law_is_stay.sem [a0] = flRes 1 none (D__law_is_stay [a0, .no]) :=
  (fnE_sem 1 1 2 none D__law_is_stay [a0]).trans (congrArg (fun l => flRes 1 none (D__law_is_stay l)) (by rfl : ([a0] : List Sl) ++ List.replicate (2 - 1) .no = [a0, .no]))
theorem np__law_is_stay : E__law_is_stay.np = 1 := rfl
theorem ok__law_is_stay {f : Addr} {fd : FuncData} (F : FunD K "_law_is_stay" "_law_is_stay" (defArgs (Hd.top 21)) (defBody (Hd.top 21)) (defScope (Hd.top 21)) [] [] f fd) (hm : mg "_law_is_stay" = some (.ref f)) (g_all : mg "all" = none) (g_isinstance : mg "isinstance" = none) (g_int : mg "int" = none) (g_bool : mg "bool" = none) (g_tuple : mg "tuple" = none) (g_len : mg "len" = none) : Cal P w K mg base CX0 "_law_is_stay" E__law_is_stay :=
  fn_okD (N := ["value", "hour"]) (ps := ["value"]) (k := 0) F sc__law_is_stay rfl rfl hm (fun _ _ _ _ _ _ us hl => match us, hl with | [_], _ => rfl) fun cdv A outer s H E hr => (by
    have nd := (sc__law_is_stay).nd
    exact (pst_cons (st_if (pt_w (pw_or' (pt_not' (pt_of (ph_of (pv_isi (ph_var (i := 0)) (by rfl) g_isinstance (by rfl) g_tuple (by decide +kernel) (by simp))))) (pw_or1' (pt_cmp' (o_ne hr) (ph_of (pv_callB c_len (by rfl) g_len (by decide +kernel) (as_cons (ph_var (i := 0)) as_nil))) (ph_of pv_int))))) (pst_one (st_ret (pow_of pv_bl))) pst_nil)
    (pst_one (st_ret (pow_of (pv_and (pv_callB (c_all rfl) (by rfl) g_all (by decide +kernel) (as_cons (ph_of (pv_own (pow_lc rfl nd (it_val (pv_of (ph_var (i := 0)))) (blkOk_by (own := [("hour", 1)]) (by first | decide +kernel | rfl)) (fun _ _ _ _ _ => (gt_name (i := 1) nd rfl (by first | exact Or.inl rfl | exact Or.inr rfl))) (fun _ _ _ _ _ => ts_nil) (fun _ _ _ _ _ => (pv_and (pv_isi (ph_var (i := 1)) (by rfl) g_isinstance (by rfl) g_int (by decide +kernel) (by simp)) (pv_and (pv_not (ph_of (pv_isi (ph_var (i := 1)) (by rfl) g_isinstance (by rfl) g_bool (by decide +kernel) (by simp)))) (pv_one (pv_chain (o_le hr) (o_le hr) (ph_of pv_int) (ph_var (i := 1)) (ph_of pv_int)))))) (by decide)))) as_nil)) (pv_one (pv_cmp (o_le hr) (ph_of (pv_ix i_ix (ph_var (i := 0)) (ph_of pv_int))) (ph_of (pv_ix i_ix (ph_var (i := 0)) (ph_of pv_int)))))))))))
theorem sc__law_are_stays : FnScope ["n", "value", "stay"] ["n", "value"] (defScope (Hd.top 22)) := ⟨rfl, rfl, rfl, by decide +kernel, rfl, by decide +kernel, by decide +kernel⟩
def D__law_are_stays (e__law_is_stay : FnE) : DS := (sRet (dOV (vAnd (dIsi "tuple" (dVar 1)) (vAnd (d2 eqV (dHV (dN (g1 lenV) (aCons (dVar 1) aNil))) (dVar 0)) (dN (g1 allV) (aCons (dHV (dVO (dLc (dIt (dVH (dVar 1))) (gNm 2) tYesD (dVO (callD0 e__law_is_stay (aCons (dVar 2) aNil))) [2]))) aNil))))))
def E__law_are_stays : FnE := fnE 2 2 3 none (D__law_are_stays E__law_is_stay)
theorem s__law_are_stays (a0 a1 : Sl) : E__law_are_stays.sem [a0, a1] = flRes 2 none ((D__law_are_stays E__law_is_stay) [a0, a1, .no]) :=
  (fnE_sem 2 2 3 none (D__law_are_stays E__law_is_stay) [a0, a1]).trans (congrArg (fun l => flRes 2 none ((D__law_are_stays E__law_is_stay) l)) (by rfl : ([a0, a1] : List Sl) ++ List.replicate (3 - 2) .no = [a0, a1, .no]))
theorem np__law_are_stays : E__law_are_stays.np = 2 := rfl
theorem ok__law_are_stays {f : Addr} {fd : FuncData} (F : FunD K "_law_are_stays" "_law_are_stays" (defArgs (Hd.top 22)) (defBody (Hd.top 22)) (defScope (Hd.top 22)) [] [] f fd) (hm : mg "_law_are_stays" = some (.ref f)) (g_isinstance : mg "isinstance" = none) (g_tuple : mg "tuple" = none) (g_len : mg "len" = none) (g_all : mg "all" = none) (C__law_is_stay : Cal P w K mg base CX0 "_law_is_stay" E__law_is_stay) : Cal P w K mg base CX0 "_law_are_stays" E__law_are_stays :=
  fn_okD (N := ["n", "value", "stay"]) (ps := ["n", "value"]) (k := 1) F sc__law_are_stays rfl rfl hm (fun _ _ _ _ _ _ us hl => match us, hl with | [_, _], _ => rfl) fun cdv A outer s H E hr => (by
    have nd := (sc__law_are_stays).nd
    exact (pst_one (st_ret (pow_of (pv_and (pv_isi (ph_var (i := 1)) (by rfl) g_isinstance (by rfl) g_tuple (by decide +kernel) (by simp)) (pv_and (pv_cmp (o_eq hr) (ph_of (pv_callB c_len (by rfl) g_len (by decide +kernel) (as_cons (ph_var (i := 1)) as_nil))) (ph_var (i := 0))) (pv_one (pv_callB (c_all rfl) (by rfl) g_all (by decide +kernel) (as_cons (ph_of (pv_own (pow_lc rfl nd (it_val (pv_of (ph_var (i := 1)))) (blkOk_by (own := [("stay", 2)]) (by first | decide +kernel | rfl)) (fun _ _ _ _ _ => (gt_name (i := 2) nd rfl (by first | exact Or.inl rfl | exact Or.inr rfl))) (fun _ _ _ _ _ => ts_nil) (fun _ _ _ _ _ => (pv_own (pow_call0 C__law_is_stay rfl hr (by decide) pass0 (by rfl) (as_cons (ph_var (i := 2)) as_nil)))) (by decide)))) as_nil)))))))))
theorem sc__law_late : FnScope ["tape", "n", "top", "found", "k"] ["tape", "n"] (defScope (Hd.top 23)) := ⟨rfl, rfl, rfl, by decide +kernel, rfl, by decide +kernel, by decide +kernel⟩
def D__law_late (e__law_take : FnE) : DS := (sSeq (sSet 2 (dOV (d2 ixV (dHV (dVO (dLst (aCons (dHV (dC (.int 5))) (aCons (dHV (dC (.int 12))) (aCons (dHV (dC (.int 1000))) (aCons (dHV (dC (.int 1000001))) aNil))))))) (dHV (dVO (callD1 e__law_take 0 (aCons (dVar 0) (aCons (dHV (dC (.int 4))) aNil))))))))
  (sSeq (sSet 3 (dLst aNil))
  (sSeq (sFor (dRg (dR1 (dVH (dVar 1)))) (gNm 4) (sDrop (dOV (dU appV 3 (aCons (dHV (dN (g1 tupV) (aCons (dHV (dVO (dNo (go1 sortV) (aCons (dHV (dVO (dLst (aCons (dHV (dVO (callD1 e__law_take 0 (aCons (dVar 0) (aCons (dVar 2) aNil))))) (aCons (dHV (dVO (callD1 e__law_take 0 (aCons (dVar 0) (aCons (dVar 2) aNil))))) aNil))))) aNil)))) aNil))) aNil)))))
  (sRet (dOV (dN (g1 tupV) (aCons (dVar 3) aNil)))))))
def E__law_late : FnE := fnE 3 2 5 (some 0) (D__law_late E__law_take)
theorem s__law_late (a0 a1 : Sl) : E__law_late.sem [a0, a1] = flRes 2 (some 0) ((D__law_late E__law_take) [a0, a1, .no, .no, .no]) :=
  (fnE_sem 3 2 5 (some 0) (D__law_late E__law_take) [a0, a1]).trans (congrArg (fun l => flRes 2 (some 0) ((D__law_late E__law_take) l)) (by rfl : ([a0, a1] : List Sl) ++ List.replicate (5 - 2) .no = [a0, a1, .no, .no, .no]))
theorem np__law_late : E__law_late.np = 2 := rfl
theorem ok__law_late {f : Addr} {fd : FuncData} (F : FunD K "_law_late" "_law_late" (defArgs (Hd.top 23)) (defBody (Hd.top 23)) (defScope (Hd.top 23)) [] [] f fd) (hm : mg "_law_late" = some (.ref f)) (g_tuple : mg "tuple" = none) (g_sorted : mg "sorted" = none) (g_range : mg "range" = none) (C__law_take : Cal P w K mg base CX0 "_law_take" E__law_take) : Cal P w K mg base CX0 "_law_late" E__law_late :=
  fn_okD (N := ["tape", "n", "top", "found", "k"]) (ps := ["tape", "n"]) (k := 2) F sc__law_late rfl rfl hm (fun _ _ _ _ _ _ us hl => match us, hl with | [_, _], _ => rfl) fun cdv A outer s H E hr => (by
    have nd := (sc__law_late).nd
    exact (pst_cons (st_set (i := 2) nd rfl (by first | exact Or.inl rfl | exact Or.inr rfl) (pow_of (pv_ix i_ix (ph_of (pv_own (pow_lst (as_cons (ph_of pv_int) (as_cons (ph_of pv_int) (as_cons (ph_of pv_int) (as_cons (ph_of pv_int) as_nil))))))) (ph_of (pv_own (pow_call1 (kr := 0) C__law_take rfl (by decide) hr (by decide) pass0 (by rfl) (as_cons (ph_var (i := 0)) (as_cons (ph_of pv_int) as_nil))))))))
    (pst_cons (st_set (i := 3) nd rfl (by first | exact Or.inl rfl | exact Or.inr rfl) (pow_lst as_nil))
    (pst_cons (st_for PassesOwn.never rfl (it_r1 (by rfl) g_range (pv_of (ph_var (i := 1)))) (gt_name (i := 4) nd rfl (by first | exact Or.inl rfl | exact Or.inr rfl)) (pst_one (st_expr (pow_of (pv_bmU PySem.F.slot_list_append PySem.F.type_list_append m_append (pv 3) (as_cons (ph_of (pv_callTy c_tuple (by rfl) g_tuple (by decide +kernel) (as_cons (ph_of (pv_own (pow_callB (c_sorted hr) (by rfl) g_sorted (by decide +kernel) (as_cons (ph_of (pv_own (pow_lst (as_cons (ph_of (pv_own (pow_call1 (kr := 0) C__law_take rfl (by decide) hr (by decide) pass0 (by rfl) (as_cons (ph_var (i := 0)) (as_cons (ph_var (i := 2)) as_nil))))) (as_cons (ph_of (pv_own (pow_call1 (kr := 0) C__law_take rfl (by decide) hr (by decide) pass0 (by rfl) (as_cons (ph_var (i := 0)) (as_cons (ph_var (i := 2)) as_nil))))) as_nil))))) as_nil)))) as_nil))) as_nil))))))
    (pst_one (st_ret (pow_of (pv_callTy c_tuple (by rfl) g_tuple (by decide +kernel) (as_cons (ph_var (i := 3)) as_nil)))))))))
theorem sc_law : FnScope ["script", "tape", "n", "stays", "land", "hours", "stay", "turn", "value", "i", "j", "one", "other", "pairs", "pair"] ["script"] (defScope (Hd.top 24)) := ⟨rfl, rfl, rfl, by decide +kernel, rfl, by decide +kernel, by decide +kernel⟩
def C1_law  : DO := (dLc (dIt (d2 ixV (dVar 4) (dHV (dC (.int 1))))) (gNm 14) (tBl (d2 neV (dVar 14) (dHV (dTup (aCons (dHV (dN (g2 min2V) (aCons (dVar 9) (aCons (dVar 10) aNil)))) (aCons (dHV (dN (g2 max2V) (aCons (dVar 9) (aCons (dVar 10) aNil)))) aNil)))))) (dVH (dVar 14)) [14])
def L2_law (e__law_mixed : FnE) (e__law_same : FnE) (e_do_meet : FnE) (e__law_met : FnE) (e_is_before : FnE) (e_is_timetable : FnE) : DS := (sSeq (sAsg (dSl (dHV (dVO (callD1 e__law_mixed 0 (aCons (dVar 1) (aCons (dHV (dVO (dLR (dR1 (dVH (dVar 2)))))) aNil))))) pNone (pSome (dC (.int 2)))) (gTp 2 (gC (gNm 9) (gC (gNm 10) gN))))
  (sSeq (sPar 11 12 (aCons (dHV (d2 ixV (dVar 3) (dVar 9))) (aCons (dHV (d2 ixV (dVar 3) (dVar 10))) aNil)))
  (sSeq (sIf (tOrD (tNotD (tOf (dHV (dVO (callD0 e__law_same (aCons (dHV (dVO (callD0 e_do_meet (aCons (dVar 11) (aCons (dVar 12) aNil))))) (aCons (dHV (dVO (callD0 e__law_met (aCons (dVar 4) (aCons (dVar 9) (aCons (dVar 10) aNil)))))) aNil))))))) (tNotD (tOf (dHV (dVO (callD0 e__law_same (aCons (dHV (dVO (callD0 e_is_before (aCons (dVar 11) (aCons (dVar 12) aNil))))) (aCons (dHV (d2 ltV (dHV (d2 ixV (dVar 11) (dHV (dC (.int 1))))) (dHV (d2 ixV (dVar 12) (dHV (dC (.int 0))))))) aNil)))))))) (sRet (dOV (dC (.bl false)))) sSkip)
  (sSeq (sIf (tBl (d2 neV (dHV (d2 addV (dHV (d2 addV (dHV (dN (g1 intV) (aCons (dHV (dVO (callD0 e_do_meet (aCons (dVar 11) (aCons (dVar 12) aNil))))) aNil))) (dHV (dN (g1 intV) (aCons (dHV (dVO (callD0 e_is_before (aCons (dVar 11) (aCons (dVar 12) aNil))))) aNil))))) (dHV (dN (g1 intV) (aCons (dHV (dVO (callD0 e_is_before (aCons (dVar 12) (aCons (dVar 11) aNil))))) aNil))))) (dHV (dC (.int 1))))) (sRet (dOV (dC (.bl false)))) sSkip)
  (sSeq (sSet 13 C1_law)
  (sIf (tNotD (tOf (dHV (dVO (callD0 e__law_same (aCons (dHV (dVO (callD0 e_is_timetable (aCons (dHV (dTup (aCons (dVar 2) (aCons (dHV (dN (g1 tupV) (aCons (dVar 13) aNil))) aNil)))) (aCons (dVar 3) aNil))))) (aCons (dHV (vNot (dHV (dVO (callD0 e__law_met (aCons (dVar 4) (aCons (dVar 9) (aCons (dVar 10) aNil)))))))) aNil))))))) (sRet (dOV (dC (.bl false)))) sSkip))))))
def F2_law (e__law_mixed : FnE) (e__law_same : FnE) (e_do_meet : FnE) (e__law_met : FnE) (e_is_before : FnE) (e_is_timetable : FnE) : DS := (sFor (dRg (dR1 (dIf (tBl (d2 gtV (dVar 2) (dHV (dC (.int 1))))) (dC (.int 8)) (dC (.int 0))))) (gNm 7) (L2_law e__law_mixed e__law_same e_do_meet e__law_met e_is_before e_is_timetable))
def L3_law (e__law_spoilt : FnE) (e__law_same : FnE) (e_are_stays : FnE) (e__law_are_stays : FnE) (e_is_timetable : FnE) (e__law_shown : FnE) (e_is_stay : FnE) (e__law_is_stay : FnE) : DS := (sSeq (sSet 8 (callD1 e__law_spoilt 0 (aCons (dVar 1) (aCons (dVar 3) aNil))))
  (sSeq (sIf (tOrD (tNotD (tOf (dHV (dVO (callD0 e__law_same (aCons (dHV (dVO (callD0 e_are_stays (aCons (dVar 2) (aCons (dVar 8) aNil))))) (aCons (dHV (dVO (callD0 e__law_are_stays (aCons (dVar 2) (aCons (dVar 8) aNil))))) aNil))))))) (tNotD (tOf (dHV (dVO (callD0 e__law_same (aCons (dHV (dVO (callD0 e_is_timetable (aCons (dVar 4) (aCons (dVar 8) aNil))))) (aCons (dHV (vAnd (dVO (callD0 e__law_are_stays (aCons (dVar 2) (aCons (dVar 8) aNil)))) (d2 eqV (dHV (dVO (callD0 e__law_shown (aCons (dVar 8) aNil)))) (dVar 4)))) aNil)))))))) (sRet (dOV (dC (.bl false)))) sSkip)
  (sSeq (sSet 8 (dOV (dIf (tBl (d2 gtV (dVar 2) (dHV (dC (.int 0))))) (dVO (callD1 e__law_spoilt 0 (aCons (dVar 1) (aCons (dHV (d2 ixV (dVar 3) (dHV (dC (.int 0))))) aNil)))) (dTup (aCons (dVar 7) (aCons (dHV (dC (.int 3))) aNil))))))
  (sIf (tNotD (tOf (dHV (dVO (callD0 e__law_same (aCons (dHV (dVO (callD0 e_is_stay (aCons (dVar 8) aNil)))) (aCons (dHV (dVO (callD0 e__law_is_stay (aCons (dVar 8) aNil)))) aNil))))))) (sRet (dOV (dC (.bl false)))) sSkip))))
def F3_law (e__law_spoilt : FnE) (e__law_same : FnE) (e_are_stays : FnE) (e__law_are_stays : FnE) (e_is_timetable : FnE) (e__law_shown : FnE) (e_is_stay : FnE) (e__law_is_stay : FnE) : DS := (sFor (dRg (dR1 (dC (.int 6)))) (gNm 7) (L3_law e__law_spoilt e__law_same e_are_stays e__law_are_stays e_is_timetable e__law_shown e_is_stay e__law_is_stay))
def L4_law  : DS := (sDrop (dOV (dU extV 5 (aCons (dVar 6) aNil))))
def F4_law  : DS := (sForV 3 (gNm 6) L4_law)
def L1_law (e__law_late : FnE) (e__law_shown : FnE) (e_are_stays : FnE) (e__law_same : FnE) (e_graph_of : FnE) (e_is_timetable : FnE) (e_hours_of : FnE) (e__law_spoilt : FnE) (e__law_are_stays : FnE) (e_is_stay : FnE) (e__law_is_stay : FnE) (e__law_mixed : FnE) (e_do_meet : FnE) (e__law_met : FnE) (e_is_before : FnE) : DS := (sSeq (sSet 3 (callD1 e__law_late 0 (aCons (dVar 1) (aCons (dVar 2) aNil))))
  (sSeq (sSet 4 (callD0 e__law_shown (aCons (dVar 3) aNil)))
  (sSeq (sIf (tOrD (tBl (d2 isntBV (dHV (dVO (callD0 e_are_stays (aCons (dVar 2) (aCons (dVar 3) aNil))))) (dHV (dC (.bl true))))) (tOrD (tNotD (tOf (dHV (dVO (callD0 e__law_same (aCons (dHV (dVO (callD0 e_graph_of (aCons (dVar 3) aNil)))) (aCons (dVar 4) aNil))))))) (tBl (d2 isntBV (dHV (dVO (callD0 e_is_timetable (aCons (dVar 4) (aCons (dVar 3) aNil))))) (dHV (dC (.bl true))))))) (sRet (dOV (dC (.bl false)))) sSkip)
  (sSeq (sSet 5 (dLst aNil))
  (sSeq F4_law
  (sSeq (sIf (tNotD (tOf (dHV (dVO (callD0 e__law_same (aCons (dHV (dVO (callD0 e_hours_of (aCons (dVar 3) aNil)))) (aCons (dHV (dN (g1 tupV) (aCons (dHV (dVO (dNo (go1 sdV) (aCons (dVar 5) aNil)))) aNil))) aNil))))))) (sRet (dOV (dC (.bl false)))) sSkip)
  (sSeq (F3_law e__law_spoilt e__law_same e_are_stays e__law_are_stays e_is_timetable e__law_shown e_is_stay e__law_is_stay)
  (F2_law e__law_mixed e__law_same e_do_meet e__law_met e_is_before e_is_timetable))))))))
def F1_law (e__law_take : FnE) (e__law_late : FnE) (e__law_shown : FnE) (e_are_stays : FnE) (e__law_same : FnE) (e_graph_of : FnE) (e_is_timetable : FnE) (e_hours_of : FnE) (e__law_spoilt : FnE) (e__law_are_stays : FnE) (e_is_stay : FnE) (e__law_is_stay : FnE) (e__law_mixed : FnE) (e_do_meet : FnE) (e__law_met : FnE) (e_is_before : FnE) : DS := (sFor (dIt (dTup (aCons (dHV (dVO (callD1 e__law_take 0 (aCons (dVar 1) (aCons (dHV (dC (.int 7))) aNil))))) (aCons (dHV (dC (.int 24))) aNil)))) (gNm 2) (L1_law e__law_late e__law_shown e_are_stays e__law_same e_graph_of e_is_timetable e_hours_of e__law_spoilt e__law_are_stays e_is_stay e__law_is_stay e__law_mixed e_do_meet e__law_met e_is_before))
def D_law (e__law_same : FnE) (e__law_met : FnE) (e_is_timetable : FnE) (e_do_meet : FnE) (e_is_before : FnE) (e__law_mixed : FnE) (e__law_is_stay : FnE) (e_is_stay : FnE) (e__law_spoilt : FnE) (e__law_are_stays : FnE) (e_are_stays : FnE) (e__law_shown : FnE) (e_hours_of : FnE) (e_graph_of : FnE) (e__law_late : FnE) (e__law_take : FnE) (e__law_tape : FnE) : DS := (sSeq (sSet 1 (callD0 e__law_tape (aCons (dVar 0) aNil)))
  (sSeq (sIf (tOrD (tBl (d2 neV (dHV (dC (.int 1000000))) (dHV (dC (.int 1000000))))) (tOrD (tBl (d2 isntBV (dHV (dVO (callD0 e_is_stay (aCons (dHV (dTup (aCons (dHV (dC (.int 0))) (aCons (dHV (dC (.int 1000000))) aNil)))) aNil)))) (dHV (dC (.bl true))))) (tOrD (tBl (d2 isntBV (dHV (dVO (callD0 e_is_stay (aCons (dHV (dTup (aCons (dHV (dC (.int 0))) (aCons (dHV (dC (.int 1000001))) aNil)))) aNil)))) (dHV (dC (.bl false))))) (tOrD (tBl (d2 isntBV (dHV (dVO (callD0 e_is_stay (aCons (dHV (dTup (aCons (dHV (dNeg (dC (.int 1)))) (aCons (dHV (dC (.int 3))) aNil)))) aNil)))) (dHV (dC (.bl false))))) (tBl (d2 isntBV (dHV (dVO (callD0 e_is_stay (aCons (dHV (dTup (aCons (dHV (dC (.int 4))) (aCons (dHV (dC (.int 3))) aNil)))) aNil)))) (dHV (dC (.bl false))))))))) (sRet (dOV (dC (.bl false)))) sSkip)
  (sSeq (F1_law e__law_take e__law_late e__law_shown e_are_stays e__law_same e_graph_of e_is_timetable e_hours_of e__law_spoilt e__law_are_stays e_is_stay e__law_is_stay e__law_mixed e_do_meet e__law_met e_is_before)
  (sRet (dOV (dC (.bl true)))))))
def E_law : FnE := fnE 12 1 15 none (D_law (E__law_same 8) E__law_met E_is_timetable E_do_meet E_is_before E__law_mixed E__law_is_stay E_is_stay (E__law_spoilt 8) E__law_are_stays E_are_stays E__law_shown E_hours_of E_graph_of E__law_late E__law_take E__law_tape)
theorem s_law (a0 : Sl) : E_law.sem [a0] = flRes 1 none ((D_law (E__law_same 8) E__law_met E_is_timetable E_do_meet E_is_before E__law_mixed E__law_is_stay E_is_stay (E__law_spoilt 8) E__law_are_stays E_are_stays E__law_shown E_hours_of E_graph_of E__law_late E__law_take E__law_tape) [a0, .no, .no, .no, .no, .no, .no, .no, .no, .no, .no, .no, .no, .no, .no]) :=
  (fnE_sem 12 1 15 none (D_law (E__law_same 8) E__law_met E_is_timetable E_do_meet E_is_before E__law_mixed E__law_is_stay E_is_stay (E__law_spoilt 8) E__law_are_stays E_are_stays E__law_shown E_hours_of E_graph_of E__law_late E__law_take E__law_tape) [a0]).trans (congrArg (fun l => flRes 1 none ((D_law (E__law_same 8) E__law_met E_is_timetable E_do_meet E_is_before E__law_mixed E__law_is_stay E_is_stay (E__law_spoilt 8) E__law_are_stays E_are_stays E__law_shown E_hours_of E_graph_of E__law_late E__law_take E__law_tape) l)) (by rfl : ([a0] : List Sl) ++ List.replicate (15 - 1) .no = [a0, .no, .no, .no, .no, .no, .no, .no, .no, .no, .no, .no, .no, .no, .no]))
theorem np_law : E_law.np = 1 := rfl
theorem fo_law {f : Addr} {fd : FuncData} (F : FunD K "law" "law" (defArgs (Hd.top 24)) (defBody (Hd.top 24)) (defScope (Hd.top 24)) [] [] f fd) (g_tuple : mg "tuple" = none) (g_max : mg "max" = none) (g_min : mg "min" = none) (g_int : mg "int" = none) (g_list : mg "list" = none) (g_range : mg "range" = none) (g_sorted : mg "sorted" = none) (g_set : mg "set" = none) (g_MAX_HOUR : ∃ t, mg "MAX_HOUR" = some (.int 1000000 t)) (C__law_same : Cal P w K mg base CX0 "_law_same" (E__law_same 8)) (C__law_met : Cal P w K mg base CX0 "_law_met" E__law_met) (C_is_timetable : Cal P w K mg base CX0 "is_timetable" E_is_timetable) (C_do_meet : Cal P w K mg base CX0 "do_meet" E_do_meet) (C_is_before : Cal P w K mg base CX0 "is_before" E_is_before) (C__law_mixed : Cal P w K mg base CX0 "_law_mixed" E__law_mixed) (C__law_is_stay : Cal P w K mg base CX0 "_law_is_stay" E__law_is_stay) (C_is_stay : Cal P w K mg base CX0 "is_stay" E_is_stay) (C__law_spoilt : Cal P w K mg base CX0 "_law_spoilt" (E__law_spoilt 8)) (C__law_are_stays : Cal P w K mg base CX0 "_law_are_stays" E__law_are_stays) (C_are_stays : Cal P w K mg base CX0 "are_stays" E_are_stays) (C__law_shown : Cal P w K mg base CX0 "_law_shown" E__law_shown) (C_hours_of : Cal P w K mg base CX0 "hours_of" E_hours_of) (C_graph_of : Cal P w K mg base CX0 "graph_of" E_graph_of) (C__law_late : Cal P w K mg base CX0 "_law_late" E__law_late) (C__law_take : Cal P w K mg base CX0 "_law_take" E__law_take) (C__law_tape : Cal P w K mg base CX0 "_law_tape" E__law_tape) : FnOk P w K mg base CX0 12 f fd ["script"] (spF K mg E_law) :=
  fn_okW (N := ["script", "tape", "n", "stays", "land", "hours", "stay", "turn", "value", "i", "j", "one", "other", "pairs", "pair"]) (ps := ["script"]) (k := 11) F sc_law rfl rfl fun cdv A outer s H E hr => (by
    have nd := (sc_law).nd
    exact (pst_cons (st_set (i := 1) nd rfl (by first | exact Or.inl rfl | exact Or.inr rfl) (pow_call0 C__law_tape rfl hr (by decide) pass0 (by rfl) (as_cons (ph_var (i := 0)) as_nil)))
    (pst_cons (st_if (pt_w (pw_or' (pt_cmp' (o_ne hr) (ph_of (pv_gint (by rfl) g_MAX_HOUR)) (ph_of pv_int)) (pw_or' (pt_cmp' (o_isntB) (ph_of (pv_own (pow_call0 C_is_stay rfl hr (by decide) pass0 (by rfl) (as_cons (ph_of (pv_tup (as_cons (ph_of pv_int) (as_cons (ph_of pv_int) as_nil)))) as_nil)))) (ph_of pv_bl)) (pw_or' (pt_cmp' (o_isntB) (ph_of (pv_own (pow_call0 C_is_stay rfl hr (by decide) pass0 (by rfl) (as_cons (ph_of (pv_tup (as_cons (ph_of pv_int) (as_cons (ph_of pv_int) as_nil)))) as_nil)))) (ph_of pv_bl)) (pw_or' (pt_cmp' (o_isntB) (ph_of (pv_own (pow_call0 C_is_stay rfl hr (by decide) pass0 (by rfl) (as_cons (ph_of (pv_tup (as_cons (ph_of (pv_neg pv_int)) (as_cons (ph_of pv_int) as_nil)))) as_nil)))) (ph_of pv_bl)) (pw_or1' (pt_cmp' (o_isntB) (ph_of (pv_own (pow_call0 C_is_stay rfl hr (by decide) pass0 (by rfl) (as_cons (ph_of (pv_tup (as_cons (ph_of pv_int) (as_cons (ph_of pv_int) as_nil)))) as_nil)))) (ph_of pv_bl)))))))) (pst_one (st_ret (pow_of pv_bl))) pst_nil)
    (pst_cons (st_for PassesOwn.never rfl (it_val (pv_tup (as_cons (ph_of (pv_own (pow_call1 (kr := 0) C__law_take rfl (by decide) hr (by decide) pass0 (by rfl) (as_cons (ph_var (i := 1)) (as_cons (ph_of pv_int) as_nil))))) (as_cons (ph_of pv_int) as_nil)))) (gt_name (i := 2) nd rfl (by first | exact Or.inl rfl | exact Or.inr rfl)) (pst_cons (st_set (i := 3) nd rfl (by first | exact Or.inl rfl | exact Or.inr rfl) (pow_call1 (kr := 0) C__law_late rfl (by decide) hr (by decide) pass0 (by rfl) (as_cons (ph_var (i := 1)) (as_cons (ph_var (i := 2)) as_nil))))
    (pst_cons (st_set (i := 4) nd rfl (by first | exact Or.inl rfl | exact Or.inr rfl) (pow_call0 C__law_shown rfl hr (by decide) pass0 (by rfl) (as_cons (ph_var (i := 3)) as_nil)))
    (pst_cons (st_if (pt_w (pw_or' (pt_cmp' (o_isntB) (ph_of (pv_own (pow_call0 C_are_stays rfl hr (by decide) pass0 (by rfl) (as_cons (ph_var (i := 2)) (as_cons (ph_var (i := 3)) as_nil))))) (ph_of pv_bl)) (pw_or' (pt_not' (pt_of (ph_of (pv_own (pow_call0 C__law_same rfl hr (by decide) pass0 (by rfl) (as_cons (ph_of (pv_own (pow_call0 C_graph_of rfl hr (by decide) pass0 (by rfl) (as_cons (ph_var (i := 3)) as_nil)))) (as_cons (ph_var (i := 4)) as_nil))))))) (pw_or1' (pt_cmp' (o_isntB) (ph_of (pv_own (pow_call0 C_is_timetable rfl hr (by decide) pass0 (by rfl) (as_cons (ph_var (i := 4)) (as_cons (ph_var (i := 3)) as_nil))))) (ph_of pv_bl)))))) (pst_one (st_ret (pow_of pv_bl))) pst_nil)
    (pst_cons (st_set (i := 5) nd rfl (by first | exact Or.inl rfl | exact Or.inr rfl) (pow_lst as_nil))
    (pst_cons (st_forV PassesOwn.never rfl (ph_var (i := 3)) (pv 3) (gt_name (i := 6) nd rfl (by first | exact Or.inl rfl | exact Or.inr rfl)) (pst_one (st_expr (pow_of (pv_bmU PySem.F.slot_list_extend PySem.F.type_list_extend m_extend (pv 5) (as_cons (ph_var (i := 6)) as_nil))))))
    (pst_cons (st_if (pt_not' (pt_of (ph_of (pv_own (pow_call0 C__law_same rfl hr (by decide) pass0 (by rfl) (as_cons (ph_of (pv_own (pow_call0 C_hours_of rfl hr (by decide) pass0 (by rfl) (as_cons (ph_var (i := 3)) as_nil)))) (as_cons (ph_of (pv_callTy c_tuple (by rfl) g_tuple (by decide +kernel) (as_cons (ph_of (pv_own (pow_sortedSet rfl (by rfl) g_sorted (by rfl) g_set (as_cons (ph_var (i := 5)) as_nil)))) as_nil))) as_nil))))))) (pst_one (st_ret (pow_of pv_bl))) pst_nil)
    (pst_cons (st_for PassesOwn.never rfl (it_r1 (by rfl) g_range pv_int) (gt_name (i := 7) nd rfl (by first | exact Or.inl rfl | exact Or.inr rfl)) (pst_cons (st_set (i := 8) nd rfl (by first | exact Or.inl rfl | exact Or.inr rfl) (pow_call1 (kr := 0) C__law_spoilt rfl (by decide) hr (by decide) pass0 (by rfl) (as_cons (ph_var (i := 1)) (as_cons (ph_var (i := 3)) as_nil))))
    (pst_cons (st_if (pt_w (pw_or' (pt_not' (pt_of (ph_of (pv_own (pow_call0 C__law_same rfl hr (by decide) pass0 (by rfl) (as_cons (ph_of (pv_own (pow_call0 C_are_stays rfl hr (by decide) pass0 (by rfl) (as_cons (ph_var (i := 2)) (as_cons (ph_var (i := 8)) as_nil))))) (as_cons (ph_of (pv_own (pow_call0 C__law_are_stays rfl hr (by decide) pass0 (by rfl) (as_cons (ph_var (i := 2)) (as_cons (ph_var (i := 8)) as_nil))))) as_nil))))))) (pw_or1' (pt_not' (pt_of (ph_of (pv_own (pow_call0 C__law_same rfl hr (by decide) pass0 (by rfl) (as_cons (ph_of (pv_own (pow_call0 C_is_timetable rfl hr (by decide) pass0 (by rfl) (as_cons (ph_var (i := 4)) (as_cons (ph_var (i := 8)) as_nil))))) (as_cons (ph_of (pv_and (pv_own (pow_call0 C__law_are_stays rfl hr (by decide) pass0 (by rfl) (as_cons (ph_var (i := 2)) (as_cons (ph_var (i := 8)) as_nil)))) (pv_one (pv_cmp (o_eq hr) (ph_of (pv_own (pow_call0 C__law_shown rfl hr (by decide) pass0 (by rfl) (as_cons (ph_var (i := 8)) as_nil)))) (ph_var (i := 4)))))) as_nil)))))))))) (pst_one (st_ret (pow_of pv_bl))) pst_nil)
    (pst_cons (st_set (i := 8) nd rfl (by first | exact Or.inl rfl | exact Or.inr rfl) (pow_of (pv_if (pt_cmp' (o_gt hr) (ph_var (i := 2)) (ph_of pv_int)) (pv_own (pow_call1 (kr := 0) C__law_spoilt rfl (by decide) hr (by decide) pass0 (by rfl) (as_cons (ph_var (i := 1)) (as_cons (ph_of (pv_ix i_ix (ph_var (i := 3)) (ph_of pv_int))) as_nil)))) (pv_tup (as_cons (ph_var (i := 7)) (as_cons (ph_of pv_int) as_nil))))))
    (pst_one (st_if (pt_not' (pt_of (ph_of (pv_own (pow_call0 C__law_same rfl hr (by decide) pass0 (by rfl) (as_cons (ph_of (pv_own (pow_call0 C_is_stay rfl hr (by decide) pass0 (by rfl) (as_cons (ph_var (i := 8)) as_nil)))) (as_cons (ph_of (pv_own (pow_call0 C__law_is_stay rfl hr (by decide) pass0 (by rfl) (as_cons (ph_var (i := 8)) as_nil)))) as_nil))))))) (pst_one (st_ret (pow_of pv_bl))) pst_nil))))))
    (pst_one (st_for PassesOwn.never rfl (it_r1 (by rfl) g_range (pv_if (pt_cmp' (o_gt hr) (ph_var (i := 2)) (ph_of pv_int)) pv_int pv_int)) (gt_name (i := 7) nd rfl (by first | exact Or.inl rfl | exact Or.inr rfl)) (pst_cons (st_asg (pv_slice (ph_of (pv_own (pow_call1 (kr := 0) C__law_mixed rfl (by decide) hr (by decide) pass0 (by rfl) (as_cons (ph_var (i := 1)) (as_cons (ph_of (pv_own (pow_listRg rfl (by rfl) g_list (pr_1 (by rfl) g_range (pv_of (ph_var (i := 2))))))) as_nil))))) pp_none (pp_some pv_int)) (gt_tup rfl (gt_cons (gt_name (i := 9) nd rfl (by first | exact Or.inl rfl | exact Or.inr rfl)) (gt_cons (gt_name (i := 10) nd rfl (by first | exact Or.inl rfl | exact Or.inr rfl)) gt_nil))))
    (pst_cons (st_par (i := 11) (j := 12) rfl nd rfl rfl (by decide) rfl rfl (as_cons (ph_of (pv_ix i_ix (ph_var (i := 3)) (ph_var (i := 9)))) (as_cons (ph_of (pv_ix i_ix (ph_var (i := 3)) (ph_var (i := 10)))) as_nil)) rfl)
    (pst_cons (st_if (pt_w (pw_or' (pt_not' (pt_of (ph_of (pv_own (pow_call0 C__law_same rfl hr (by decide) pass0 (by rfl) (as_cons (ph_of (pv_own (pow_call0 C_do_meet rfl hr (by decide) pass0 (by rfl) (as_cons (ph_var (i := 11)) (as_cons (ph_var (i := 12)) as_nil))))) (as_cons (ph_of (pv_own (pow_call0 C__law_met rfl hr (by decide) pass0 (by rfl) (as_cons (ph_var (i := 4)) (as_cons (ph_var (i := 9)) (as_cons (ph_var (i := 10)) as_nil)))))) as_nil))))))) (pw_or1' (pt_not' (pt_of (ph_of (pv_own (pow_call0 C__law_same rfl hr (by decide) pass0 (by rfl) (as_cons (ph_of (pv_own (pow_call0 C_is_before rfl hr (by decide) pass0 (by rfl) (as_cons (ph_var (i := 11)) (as_cons (ph_var (i := 12)) as_nil))))) (as_cons (ph_of (pv_cmp (o_lt hr) (ph_of (pv_ix i_ix (ph_var (i := 11)) (ph_of pv_int))) (ph_of (pv_ix i_ix (ph_var (i := 12)) (ph_of pv_int))))) as_nil)))))))))) (pst_one (st_ret (pow_of pv_bl))) pst_nil)
    (pst_cons (st_if (pt_cmp' (o_ne hr) (ph_of (pv_op o_add (ph_of (pv_op o_add (ph_of (pv_callTy c_int (by rfl) g_int (by decide +kernel) (as_cons (ph_of (pv_own (pow_call0 C_do_meet rfl hr (by decide) pass0 (by rfl) (as_cons (ph_var (i := 11)) (as_cons (ph_var (i := 12)) as_nil))))) as_nil))) (ph_of (pv_callTy c_int (by rfl) g_int (by decide +kernel) (as_cons (ph_of (pv_own (pow_call0 C_is_before rfl hr (by decide) pass0 (by rfl) (as_cons (ph_var (i := 11)) (as_cons (ph_var (i := 12)) as_nil))))) as_nil))))) (ph_of (pv_callTy c_int (by rfl) g_int (by decide +kernel) (as_cons (ph_of (pv_own (pow_call0 C_is_before rfl hr (by decide) pass0 (by rfl) (as_cons (ph_var (i := 12)) (as_cons (ph_var (i := 11)) as_nil))))) as_nil))))) (ph_of pv_int)) (pst_one (st_ret (pow_of pv_bl))) pst_nil)
    (pst_cons (st_setLc (i := 13) rfl nd rfl rfl (sw_true rfl rfl rfl (by decide +kernel)) (it_val (pv_ix i_ix (ph_var (i := 4)) (ph_of pv_int))) (blkOk_by (own := [("pair", 14)]) (by first | decide +kernel | rfl)) (fun _ _ _ _ _ => (gt_name (i := 14) nd rfl (by first | exact Or.inl rfl | exact Or.inr rfl))) (fun _ _ _ _ _ => (ts_one (pt_cmp' (o_ne hr) (ph_var (i := 14)) (ph_of (pv_tup (as_cons (ph_of (pv_callB (c_min2 rfl) (by rfl) g_min (by decide +kernel) (as_cons (ph_var (i := 9)) (as_cons (ph_var (i := 10)) as_nil)))) (as_cons (ph_of (pv_callB (c_max2 rfl) (by rfl) g_max (by decide +kernel) (as_cons (ph_var (i := 9)) (as_cons (ph_var (i := 10)) as_nil)))) as_nil))))))) (fun _ _ _ _ _ => (pv_of (ph_var (i := 14)))) (by decide))
    (pst_one (st_if (pt_not' (pt_of (ph_of (pv_own (pow_call0 C__law_same rfl hr (by decide) pass0 (by rfl) (as_cons (ph_of (pv_own (pow_call0 C_is_timetable rfl hr (by decide) pass0 (by rfl) (as_cons (ph_of (pv_tup (as_cons (ph_var (i := 2)) (as_cons (ph_of (pv_callTy c_tuple (by rfl) g_tuple (by decide +kernel) (as_cons (ph_var (i := 13)) as_nil))) as_nil)))) (as_cons (ph_var (i := 3)) as_nil))))) (as_cons (ph_of (pv_not (ph_of (pv_own (pow_call0 C__law_met rfl hr (by decide) pass0 (by rfl) (as_cons (ph_var (i := 4)) (as_cons (ph_var (i := 9)) (as_cons (ph_var (i := 10)) as_nil)))))))) as_nil))))))) (pst_one (st_ret (pow_of pv_bl))) pst_nil)))))))))))))))))
    (pst_one (st_ret (pow_of pv_bl)))))))
end

end B20

namespace C20
open PySem Ev B20

theorem ok_size {n : Nat} (h : n ≤ 1000000) : n ≤ sizeLine := Nat.le_trans h (Nat.le_trans (by decide) sizeLine_big)
/-! ### what the numbers' def is worth -/
def MixOk (e : FnE) : Prop := e.np = 1 ∧ ∀ x : Int, ∃ y : Int, e.sem [.fz (.int x)] = .ok (.fz (.int y), .no)
theorem mix_ok : MixOk E__law_mix := by
  refine ⟨rfl, fun x => ?_⟩
  have h1 : mulV (.int x) (.int 6364136223846793005) = some (.int (x * 6364136223846793005)) := mul_r (by decide)
  have h2 : ∀ y : Int, mulV (.int y) (.int 69621) = some (.int (y * 69621)) := fun y => mul_r (by decide)
  have h4 : ∀ y : Int, divV (.int y) (.int 4294967296) = some (.int (y / 4294967296)) := fun y => div_of (by decide) (by decide)
  have h5 : ∀ y : Int, modV (.int y) (.int 18446744073709551616) = some (.int (y % 18446744073709551616)) := fun y => mod_of (by decide)
  have h6 : ∀ y : Int, modV (.int y) (.int 18446744073709551557) = some (.int (y % 18446744073709551557)) := fun y => mod_of (by decide)
  rw [s__law_mix]
  have k1 : 0 ≤ (x * 6364136223846793005 + 1442695040888963407) % 18446744073709551616 := by omega
  have k2 : (x * 6364136223846793005 + 1442695040888963407) % 18446744073709551616 < 18446744073709551616 := by omega
  generalize hn : (x * 6364136223846793005 + 1442695040888963407) % 18446744073709551616 = n at k1 k2
  have h3 : mulV (.int n) (.int n) = some (.int (n * n)) := mul_r (by omega)
  refine ⟨(n * n / 4294967296 + n * 69621) % 18446744073709551557, ?_⟩
  simp [D__law_mix, fo_ok, th_nx, th_rt, th_bk, th_ct, op_s, ob_ok, oo_s, de_v, de_s, ds_n, ds_c, ts_n, ts_c, tv_v, tv_s, fl_rt, fl_nx, x_dHV, x_dVar, x_dC, x_dVH, x_dIt, x_dRg, x_tYesD, x_dU, x_sPut, x_d2, x_aNil, x_aCons, x_dN, x_pNone, x_pSome, x_dSl, x_dTup, x_dOV, x_dVO, x_dLst, x_tOf, x_tBl, x_dChain, x_tAndD, x_tOrD, x_tNotD, x_vAnd, x_vOr, x_vNot, x_dIf, x_dNeg, x_dIsN, x_dNotN, x_dNo, x_dR1, x_dR2, x_dLR, x_dIsi, x_sSkip, x_sBreak, x_sCont, x_sSeq, x_sIf, x_sDrop, x_sRet, x_asg, x_sSet, x_gNm, x_gN, x_gC, x_gTp, x_sAsg, x_sPar, x_g1, x_g2, x_go1, x_callD0, x_callD1, parOf, putV, lstOf, setL, frOf, Sl.view, add_int, sub_int, int_int, ixl, ixt, len_lst, len_tup, lt_int, gt_int, le_int, ge_int, eq_int, ne_int, at0, at1, at2, at3, notNo, isNone, tupOf, x_dBk, isi_non_int, isi_non_bool, isi_non_str, isi_non_tuple, isi_non_list, isi_bl_int, isi_bl_bool, isi_bl_str, isi_bl_tuple, isi_bl_list, isi_int_int, isi_int_bool, isi_int_str, isi_int_tuple, isi_int_list, isi_str_int, isi_str_bool, isi_str_str, isi_str_tuple, isi_str_list, isi_tup_int, isi_tup_bool, isi_tup_str, isi_tup_tuple, isi_tup_list, isi_lst_int, isi_lst_bool, isi_lst_str, isi_lst_tuple, isi_lst_list, eq_bl, ne_bl, truth, parIn, parBack, h1, h2, h3, h4, h5, h6, hn]
structure Tape where
  cells : List Int
  pos : Nat
  cur : Int
  seed : Int
def Tape.v (t : Tape) : List Val := [.lst (t.cells.map .int), .int t.pos, .int t.cur, .int t.seed]
def TapeOk (e : FnE) : Prop := e.np = 1 ∧ ∀ ns : List Int, ns.length ≤ 63 → ∃ t : Tape, e.sem [.fz (.scr ns)] = .ok (.own t.v, .no)
theorem tape_ok : TapeOk E__law_tape := by
  refine ⟨rfl, fun ns h => ⟨⟨ns, 0, 0, 1 + ns.length⟩, ?_⟩⟩
  have h1 : cutL ns none (some 80) = ns := by
    unfold cutL
    have e1 : HT.sIx ns.length 0 none = 0 := rfl
    have e2 : HT.sIx ns.length ns.length (some 80) = ns.length := by
      unfold HT.sIx
      simp
      omega
    rw [e1, e2]
    simp
  have h2 : (4:Nat) ≤ sizeLine := ok_size (by decide)
  rw [s__law_tape]
  simp [D__law_tape, fo_ok, th_nx, th_rt, th_bk, th_ct, op_s, ob_ok, oo_s, de_v, de_s, ds_n, ds_c, ts_n, ts_c, tv_v, tv_s, fl_rt, fl_nx, x_dHV, x_dVar, x_dC, x_dVH, x_dIt, x_dRg, x_tYesD, x_dU, x_sPut, x_d2, x_aNil, x_aCons, x_dN, x_pNone, x_pSome, x_dSl, x_dTup, x_dOV, x_dVO, x_dLst, x_tOf, x_tBl, x_dChain, x_tAndD, x_tOrD, x_tNotD, x_vAnd, x_vOr, x_vNot, x_dIf, x_dNeg, x_dIsN, x_dNotN, x_dNo, x_dR1, x_dR2, x_dLR, x_dIsi, x_sSkip, x_sBreak, x_sCont, x_sSeq, x_sIf, x_sDrop, x_sRet, x_asg, x_sSet, x_gNm, x_gN, x_gC, x_gTp, x_sAsg, x_sPar, x_g1, x_g2, x_go1, x_callD0, x_callD1, parOf, putV, lstOf, setL, frOf, Sl.view, add_int, sub_int, int_int, ixl, ixt, len_lst, len_tup, lt_int, gt_int, le_int, ge_int, eq_int, ne_int, at0, at1, at2, at3, notNo, isNone, tupOf, x_dBk, isi_non_int, isi_non_bool, isi_non_str, isi_non_tuple, isi_non_list, isi_bl_int, isi_bl_bool, isi_bl_str, isi_bl_tuple, isi_bl_list, isi_int_int, isi_int_bool, isi_int_str, isi_int_tuple, isi_int_list, isi_str_int, isi_str_bool, isi_str_str, isi_str_tuple, isi_str_list, isi_tup_int, isi_tup_bool, isi_tup_str, isi_tup_tuple, isi_tup_list, isi_lst_int, isi_lst_bool, isi_lst_str, isi_lst_tuple, isi_lst_list, eq_bl, ne_bl, truth, parIn, parBack, slV, itemsV, lenV, h1, h2, Tape.v]
def TakeOk (e : FnE) : Prop := e.np = 2 ∧ ∀ (t : Tape) (m : Int), 0 < m → m < 2 ^ 200 → ∃ (d : Nat) (t' : Tape), (d : Int) < m ∧ e.sem [.par t.v, .fz (.int m)] = .ok (.fz (.int d), .par t'.v)
/-- behind the first statement -/
theorem take_fill (e : FnE) (he : MixOk e) (t : Tape) (m : Int) : ∃ (t' : Tape) (s2 : Sl), (sIf (tBl (d2 ltV (dHV (d2 ixV (dVar 0) (dHV (dC (.int 2))))) (dVar 1))) (sIf (tBl (d2 ltV (dHV (d2 ixV (dVar 0) (dHV (dC (.int 1))))) (dHV (dN (g1 lenV) (aCons (dHV (d2 ixV (dVar 0) (dHV (dC (.int 0))))) aNil))))) (sSeq (sSet 2 (dOV (d2 ixV (dHV (d2 ixV (dVar 0) (dHV (dC (.int 0))))) (dHV (d2 ixV (dVar 0) (dHV (dC (.int 1))))))))
  (sSeq (sSet 2 (dOV (dIf (tBl (d2 geV (dVar 2) (dHV (dC (.int 0))))) (d2 mulV (dHV (dC (.int 2))) (dVar 2)) (d2 subV (dHV (d2 mulV (dHV (dNeg (dC (.int 2)))) (dVar 2))) (dHV (dC (.int 1)))))))
  (sSeq (sPut 0 (dC (.int 1)) (d2 addV (dHV (d2 ixV (dVar 0) (dHV (dC (.int 1))))) (dHV (dC (.int 1)))))
  (sSeq (sPut 0 (dC (.int 3)) (dVO (callD0 e (aCons (dHV (d2 addV (dHV (d2 ixV (dVar 0) (dHV (dC (.int 3))))) (dVar 2))) aNil))))
  (sPut 0 (dC (.int 2)) (dIf (tBl (d2 geV (dVar 2) (dHV (d2 powV (dHV (dC (.int 10))) (dHV (dC (.int 18))))))) (dVH (dVar 2)) (dVO (callD0 e (aCons (dHV (d2 addV (dHV (dVO (callD0 e (aCons (dVar 2) aNil)))) (dHV (d2 ixV (dVar 0) (dHV (dC (.int 1))))))) aNil))))))))) (sSeq (sPut 0 (dC (.int 3)) (dVO (callD0 e (aCons (dHV (d2 addV (dHV (d2 ixV (dVar 0) (dHV (dC (.int 3))))) (dHV (dC (.int 1))))) aNil))))
  (sPut 0 (dC (.int 2)) (d2 ixV (dVar 0) (dHV (dC (.int 3))))))) sSkip) [.par t.v, .fz (.int m), .no, .no] = .nx [.par t'.v, .fz (.int m), s2, .no] := by
  obtain ⟨hn, hx⟩ := he
  have p1 : L2.ixN 4 (1 : Int) = some 1 := rfl
  have p2 : L2.ixN 4 (2 : Int) = some 2 := rfl
  have p3 : L2.ixN 4 (3 : Int) = some 3 := rfl
  have hml : ∀ y : Int, mulV (.int 2) (.int y) = some (.int (2 * y)) := fun y => mul_l (by decide)
  have hml2 : ∀ y : Int, mulV (.int (-2)) (.int y) = some (.int (-2 * y)) := fun y => mul_l (by decide)
  have hp : powV (.int 10) (.int 18) = some (.int 1000000000000000000) := by simp [powV]
  by_cases c1 : t.cur < m
  · by_cases c2 : t.pos < t.cells.length
    · have e1 : L2.atI (t.cells.map Val.int) (t.pos : Int) = some (.int t.cells[t.pos]) := by rw [atI_nat (by simpa using c2)]; simp [c2]
      have c2' : (t.pos : Int) < t.cells.length := by omega
      have go : ∃ c : Int, (0 ≤ t.cells[t.pos] ∧ c = 2 * t.cells[t.pos]) ∨ (¬ 0 ≤ t.cells[t.pos] ∧ c = -2 * t.cells[t.pos] - 1) := by
        by_cases c3 : 0 ≤ t.cells[t.pos]
        · exact ⟨_, .inl ⟨c3, rfl⟩⟩
        · exact ⟨_, .inr ⟨c3, rfl⟩⟩
      obtain ⟨c, hc⟩ := go
      obtain ⟨y1, hy1⟩ := hx (t.seed + c)
      obtain ⟨y2, hy2⟩ := hx c
      obtain ⟨y3, hy3⟩ := hx (y2 + (t.pos + 1))
      by_cases c4 : 1000000000000000000 ≤ c
      · refine ⟨⟨t.cells, t.pos + 1, c, y1⟩, .fz (.int c), ?_⟩
        rcases hc with ⟨c3, hc⟩ | ⟨c3, hc⟩
        · simp [Tape.v, fo_ok, th_nx, th_rt, th_bk, th_ct, op_s, ob_ok, oo_s, de_v, de_s, ds_n, ds_c, ts_n, ts_c, tv_v, tv_s, fl_rt, fl_nx, x_dHV, x_dVar, x_dC, x_dVH, x_dIt, x_dRg, x_tYesD, x_dU, x_sPut, x_d2, x_aNil, x_aCons, x_dN, x_pNone, x_pSome, x_dSl, x_dTup, x_dOV, x_dVO, x_dLst, x_tOf, x_tBl, x_dChain, x_tAndD, x_tOrD, x_tNotD, x_vAnd, x_vOr, x_vNot, x_dIf, x_dNeg, x_dIsN, x_dNotN, x_dNo, x_dR1, x_dR2, x_dLR, x_dIsi, x_sSkip, x_sBreak, x_sCont, x_sSeq, x_sIf, x_sDrop, x_sRet, x_asg, x_sSet, x_gNm, x_gN, x_gC, x_gTp, x_sAsg, x_sPar, x_g1, x_g2, x_go1, x_callD0, x_callD1, parOf, putV, lstOf, setL, frOf, Sl.view, add_int, sub_int, int_int, ixl, ixt, len_lst, len_tup, lt_int, gt_int, le_int, ge_int, eq_int, ne_int, at0, at1, at2, at3, notNo, isNone, tupOf, x_dBk, isi_non_int, isi_non_bool, isi_non_str, isi_non_tuple, isi_non_list, isi_bl_int, isi_bl_bool, isi_bl_str, isi_bl_tuple, isi_bl_list, isi_int_int, isi_int_bool, isi_int_str, isi_int_tuple, isi_int_list, isi_str_int, isi_str_bool, isi_str_str, isi_str_tuple, isi_str_list, isi_tup_int, isi_tup_bool, isi_tup_str, isi_tup_tuple, isi_tup_list, isi_lst_int, isi_lst_bool, isi_lst_str, isi_lst_tuple, isi_lst_list, eq_bl, ne_bl, truth, parIn, parBack, p1, p2, p3, hml, hp, hn, c1, c2', c3, ← hc, c4, e1, hy1]
        · simp [Tape.v, fo_ok, th_nx, th_rt, th_bk, th_ct, op_s, ob_ok, oo_s, de_v, de_s, ds_n, ds_c, ts_n, ts_c, tv_v, tv_s, fl_rt, fl_nx, x_dHV, x_dVar, x_dC, x_dVH, x_dIt, x_dRg, x_tYesD, x_dU, x_sPut, x_d2, x_aNil, x_aCons, x_dN, x_pNone, x_pSome, x_dSl, x_dTup, x_dOV, x_dVO, x_dLst, x_tOf, x_tBl, x_dChain, x_tAndD, x_tOrD, x_tNotD, x_vAnd, x_vOr, x_vNot, x_dIf, x_dNeg, x_dIsN, x_dNotN, x_dNo, x_dR1, x_dR2, x_dLR, x_dIsi, x_sSkip, x_sBreak, x_sCont, x_sSeq, x_sIf, x_sDrop, x_sRet, x_asg, x_sSet, x_gNm, x_gN, x_gC, x_gTp, x_sAsg, x_sPar, x_g1, x_g2, x_go1, x_callD0, x_callD1, parOf, putV, lstOf, setL, frOf, Sl.view, add_int, sub_int, int_int, ixl, ixt, len_lst, len_tup, lt_int, gt_int, le_int, ge_int, eq_int, ne_int, at0, at1, at2, at3, notNo, isNone, tupOf, x_dBk, isi_non_int, isi_non_bool, isi_non_str, isi_non_tuple, isi_non_list, isi_bl_int, isi_bl_bool, isi_bl_str, isi_bl_tuple, isi_bl_list, isi_int_int, isi_int_bool, isi_int_str, isi_int_tuple, isi_int_list, isi_str_int, isi_str_bool, isi_str_str, isi_str_tuple, isi_str_list, isi_tup_int, isi_tup_bool, isi_tup_str, isi_tup_tuple, isi_tup_list, isi_lst_int, isi_lst_bool, isi_lst_str, isi_lst_tuple, isi_lst_list, eq_bl, ne_bl, truth, parIn, parBack, p1, p2, p3, hml2, hp, hn, c1, c2', c3, ← hc, c4, e1, hy1]
      · refine ⟨⟨t.cells, t.pos + 1, y3, y1⟩, .fz (.int c), ?_⟩
        rcases hc with ⟨c3, hc⟩ | ⟨c3, hc⟩
        · simp [Tape.v, fo_ok, th_nx, th_rt, th_bk, th_ct, op_s, ob_ok, oo_s, de_v, de_s, ds_n, ds_c, ts_n, ts_c, tv_v, tv_s, fl_rt, fl_nx, x_dHV, x_dVar, x_dC, x_dVH, x_dIt, x_dRg, x_tYesD, x_dU, x_sPut, x_d2, x_aNil, x_aCons, x_dN, x_pNone, x_pSome, x_dSl, x_dTup, x_dOV, x_dVO, x_dLst, x_tOf, x_tBl, x_dChain, x_tAndD, x_tOrD, x_tNotD, x_vAnd, x_vOr, x_vNot, x_dIf, x_dNeg, x_dIsN, x_dNotN, x_dNo, x_dR1, x_dR2, x_dLR, x_dIsi, x_sSkip, x_sBreak, x_sCont, x_sSeq, x_sIf, x_sDrop, x_sRet, x_asg, x_sSet, x_gNm, x_gN, x_gC, x_gTp, x_sAsg, x_sPar, x_g1, x_g2, x_go1, x_callD0, x_callD1, parOf, putV, lstOf, setL, frOf, Sl.view, add_int, sub_int, int_int, ixl, ixt, len_lst, len_tup, lt_int, gt_int, le_int, ge_int, eq_int, ne_int, at0, at1, at2, at3, notNo, isNone, tupOf, x_dBk, isi_non_int, isi_non_bool, isi_non_str, isi_non_tuple, isi_non_list, isi_bl_int, isi_bl_bool, isi_bl_str, isi_bl_tuple, isi_bl_list, isi_int_int, isi_int_bool, isi_int_str, isi_int_tuple, isi_int_list, isi_str_int, isi_str_bool, isi_str_str, isi_str_tuple, isi_str_list, isi_tup_int, isi_tup_bool, isi_tup_str, isi_tup_tuple, isi_tup_list, isi_lst_int, isi_lst_bool, isi_lst_str, isi_lst_tuple, isi_lst_list, eq_bl, ne_bl, truth, parIn, parBack, p1, p2, p3, hml, hp, hn, c1, c2', c3, ← hc, c4, e1, hy1, hy2, hy3]
        · simp [Tape.v, fo_ok, th_nx, th_rt, th_bk, th_ct, op_s, ob_ok, oo_s, de_v, de_s, ds_n, ds_c, ts_n, ts_c, tv_v, tv_s, fl_rt, fl_nx, x_dHV, x_dVar, x_dC, x_dVH, x_dIt, x_dRg, x_tYesD, x_dU, x_sPut, x_d2, x_aNil, x_aCons, x_dN, x_pNone, x_pSome, x_dSl, x_dTup, x_dOV, x_dVO, x_dLst, x_tOf, x_tBl, x_dChain, x_tAndD, x_tOrD, x_tNotD, x_vAnd, x_vOr, x_vNot, x_dIf, x_dNeg, x_dIsN, x_dNotN, x_dNo, x_dR1, x_dR2, x_dLR, x_dIsi, x_sSkip, x_sBreak, x_sCont, x_sSeq, x_sIf, x_sDrop, x_sRet, x_asg, x_sSet, x_gNm, x_gN, x_gC, x_gTp, x_sAsg, x_sPar, x_g1, x_g2, x_go1, x_callD0, x_callD1, parOf, putV, lstOf, setL, frOf, Sl.view, add_int, sub_int, int_int, ixl, ixt, len_lst, len_tup, lt_int, gt_int, le_int, ge_int, eq_int, ne_int, at0, at1, at2, at3, notNo, isNone, tupOf, x_dBk, isi_non_int, isi_non_bool, isi_non_str, isi_non_tuple, isi_non_list, isi_bl_int, isi_bl_bool, isi_bl_str, isi_bl_tuple, isi_bl_list, isi_int_int, isi_int_bool, isi_int_str, isi_int_tuple, isi_int_list, isi_str_int, isi_str_bool, isi_str_str, isi_str_tuple, isi_str_list, isi_tup_int, isi_tup_bool, isi_tup_str, isi_tup_tuple, isi_tup_list, isi_lst_int, isi_lst_bool, isi_lst_str, isi_lst_tuple, isi_lst_list, eq_bl, ne_bl, truth, parIn, parBack, p1, p2, p3, hml2, hp, hn, c1, c2', c3, ← hc, c4, e1, hy1, hy2, hy3]
    · have c2' : ¬ (t.pos : Int) < t.cells.length := by omega
      obtain ⟨y1, hy1⟩ := hx (t.seed + 1)
      refine ⟨⟨t.cells, t.pos, y1, y1⟩, .no, ?_⟩
      simp [Tape.v, fo_ok, th_nx, th_rt, th_bk, th_ct, op_s, ob_ok, oo_s, de_v, de_s, ds_n, ds_c, ts_n, ts_c, tv_v, tv_s, fl_rt, fl_nx, x_dHV, x_dVar, x_dC, x_dVH, x_dIt, x_dRg, x_tYesD, x_dU, x_sPut, x_d2, x_aNil, x_aCons, x_dN, x_pNone, x_pSome, x_dSl, x_dTup, x_dOV, x_dVO, x_dLst, x_tOf, x_tBl, x_dChain, x_tAndD, x_tOrD, x_tNotD, x_vAnd, x_vOr, x_vNot, x_dIf, x_dNeg, x_dIsN, x_dNotN, x_dNo, x_dR1, x_dR2, x_dLR, x_dIsi, x_sSkip, x_sBreak, x_sCont, x_sSeq, x_sIf, x_sDrop, x_sRet, x_asg, x_sSet, x_gNm, x_gN, x_gC, x_gTp, x_sAsg, x_sPar, x_g1, x_g2, x_go1, x_callD0, x_callD1, parOf, putV, lstOf, setL, frOf, Sl.view, add_int, sub_int, int_int, ixl, ixt, len_lst, len_tup, lt_int, gt_int, le_int, ge_int, eq_int, ne_int, at0, at1, at2, at3, notNo, isNone, tupOf, x_dBk, isi_non_int, isi_non_bool, isi_non_str, isi_non_tuple, isi_non_list, isi_bl_int, isi_bl_bool, isi_bl_str, isi_bl_tuple, isi_bl_list, isi_int_int, isi_int_bool, isi_int_str, isi_int_tuple, isi_int_list, isi_str_int, isi_str_bool, isi_str_str, isi_str_tuple, isi_str_list, isi_tup_int, isi_tup_bool, isi_tup_str, isi_tup_tuple, isi_tup_list, isi_lst_int, isi_lst_bool, isi_lst_str, isi_lst_tuple, isi_lst_list, eq_bl, ne_bl, truth, parIn, parBack, p1, p2, p3, hn, c1, c2', hy1]
  · refine ⟨t, .no, ?_⟩
    simp [Tape.v, fo_ok, th_nx, th_rt, th_bk, th_ct, op_s, ob_ok, oo_s, de_v, de_s, ds_n, ds_c, ts_n, ts_c, tv_v, tv_s, fl_rt, fl_nx, x_dHV, x_dVar, x_dC, x_dVH, x_dIt, x_dRg, x_tYesD, x_dU, x_sPut, x_d2, x_aNil, x_aCons, x_dN, x_pNone, x_pSome, x_dSl, x_dTup, x_dOV, x_dVO, x_dLst, x_tOf, x_tBl, x_dChain, x_tAndD, x_tOrD, x_tNotD, x_vAnd, x_vOr, x_vNot, x_dIf, x_dNeg, x_dIsN, x_dNotN, x_dNo, x_dR1, x_dR2, x_dLR, x_dIsi, x_sSkip, x_sBreak, x_sCont, x_sSeq, x_sIf, x_sDrop, x_sRet, x_asg, x_sSet, x_gNm, x_gN, x_gC, x_gTp, x_sAsg, x_sPar, x_g1, x_g2, x_go1, x_callD0, x_callD1, parOf, putV, lstOf, setL, frOf, Sl.view, add_int, sub_int, int_int, ixl, ixt, len_lst, len_tup, lt_int, gt_int, le_int, ge_int, eq_int, ne_int, at0, at1, at2, at3, notNo, isNone, tupOf, x_dBk, isi_non_int, isi_non_bool, isi_non_str, isi_non_tuple, isi_non_list, isi_bl_int, isi_bl_bool, isi_bl_str, isi_bl_tuple, isi_bl_list, isi_int_int, isi_int_bool, isi_int_str, isi_int_tuple, isi_int_list, isi_str_int, isi_str_bool, isi_str_str, isi_str_tuple, isi_str_list, isi_tup_int, isi_tup_bool, isi_tup_str, isi_tup_tuple, isi_tup_list, isi_lst_int, isi_lst_bool, isi_lst_str, isi_lst_tuple, isi_lst_list, eq_bl, ne_bl, truth, parIn, parBack, c1]
theorem take_ok : TakeOk E__law_take := by
  refine ⟨rfl, fun t m h h2 => ?_⟩
  obtain ⟨t1, s2, h1⟩ := take_fill E__law_mix mix_ok t m
  have p2 : L2.ixN 4 (2 : Int) = some 2 := rfl
  have hm : ∀ y : Int, modV (.int y) (.int m) = some (.int (y % m)) := fun y => mod_of h
  have hd : ∀ y : Int, divV (.int y) (.int m) = some (.int (y / m)) := fun y => div_of h h2
  obtain ⟨d, hdd⟩ := Int.eq_ofNat_of_zero_le (Int.emod_nonneg t1.cur (show m ≠ 0 by omega))
  refine ⟨d, ⟨t1.cells, t1.pos, t1.cur / m, t1.seed⟩, by have := Int.emod_lt_of_pos t1.cur h; omega, ?_⟩
  rw [s__law_take]
  unfold D__law_take
  rw [seq_nx h1]
  simp [Tape.v, fo_ok, th_nx, th_rt, th_bk, th_ct, op_s, ob_ok, oo_s, de_v, de_s, ds_n, ds_c, ts_n, ts_c, tv_v, tv_s, fl_rt, fl_nx, x_dHV, x_dVar, x_dC, x_dVH, x_dIt, x_dRg, x_tYesD, x_dU, x_sPut, x_d2, x_aNil, x_aCons, x_dN, x_pNone, x_pSome, x_dSl, x_dTup, x_dOV, x_dVO, x_dLst, x_tOf, x_tBl, x_dChain, x_tAndD, x_tOrD, x_tNotD, x_vAnd, x_vOr, x_vNot, x_dIf, x_dNeg, x_dIsN, x_dNotN, x_dNo, x_dR1, x_dR2, x_dLR, x_dIsi, x_sSkip, x_sBreak, x_sCont, x_sSeq, x_sIf, x_sDrop, x_sRet, x_asg, x_sSet, x_gNm, x_gN, x_gC, x_gTp, x_sAsg, x_sPar, x_g1, x_g2, x_go1, x_callD0, x_callD1, parOf, putV, lstOf, setL, frOf, Sl.view, add_int, sub_int, int_int, ixl, ixt, len_lst, len_tup, lt_int, gt_int, le_int, ge_int, eq_int, ne_int, at0, at1, at2, at3, notNo, isNone, tupOf, x_dBk, isi_non_int, isi_non_bool, isi_non_str, isi_non_tuple, isi_non_list, isi_bl_int, isi_bl_bool, isi_bl_str, isi_bl_tuple, isi_bl_list, isi_int_int, isi_int_bool, isi_int_str, isi_int_tuple, isi_int_list, isi_str_int, isi_str_bool, isi_str_str, isi_str_tuple, isi_str_list, isi_tup_int, isi_tup_bool, isi_tup_str, isi_tup_tuple, isi_tup_list, isi_lst_int, isi_lst_bool, isi_lst_str, isi_lst_tuple, isi_lst_list, eq_bl, ne_bl, truth, parIn, parBack, p2, hm, hd, hdd]
/-! ### a row, mixed -/
theorem map_erase : ∀ (xs : List Int) (d : Nat), (xs.map Val.int).eraseIdx d = (xs.eraseIdx d).map .int
  | [], _ => rfl
  | _ :: _, 0 => rfl
  | x :: xs, d + 1 => by
    rw [List.map_cons, List.eraseIdx_cons_succ, List.eraseIdx_cons_succ, List.map_cons, map_erase xs d]
theorem perm_erase : ∀ (xs : List Int) (d : Nat) (h : d < xs.length), (xs[d] :: xs.eraseIdx d).Perm xs
  | x :: xs, 0, _ => List.Perm.refl _
  | x :: xs, d + 1, h => by
    rw [List.eraseIdx_cons_succ, List.getElem_cons_succ]
    exact (List.Perm.swap x _ _).trans ((perm_erase xs d (by simpa using h)).cons x)
theorem popV_int (left : List Int) (d : Nat) (h : d < left.length) (hl : left.length ≤ 1000000) : popV (left.map .int) [.int (d : Int)] = some (.int left[d], (left.eraseIdx d).map .int) := by
  have h1 : seqIndex? (d : Int) (left.map Val.int).length = some d := by
    unfold seqIndex?
    rw [List.length_map]
    have : ¬ ((d : Int) < 0) := by omega
    simp [this]
    omega
  have h2 : ((left.map Val.int)[d]?) = some (.int left[d]) := by simp [h]
  unfold popV
  simp only [h1]
  rw [if_pos (by omega), Option.bind_some, h2, map_erase]
  rfl
theorem mixed_step (e : FnE) (hn : e.np = 2) (tv t2v : List Val) (rw : Val) (left : List Val) (a : Int) (d : Int) (z : Val) (left2 : List Val) (ht : e.sem [.par tv, .fz (.int left.length)] = .ok (.fz (.int d), .par t2v)) (hp : popV left [.int d] = some (z, left2)) :
    dU popV 2 (aCons (dHV (dVO (callD1 e 0 (aCons (dVar 0) (aCons (dHV (dN (g1 lenV) (aCons (dVar 2) aNil))) aNil))))) aNil) [.par tv, .fz rw, .own left, .fz (.int a)] = .ok (z, [.par t2v, .fz rw, .own left2, .fz (.int a)]) := by
  simp [fo_ok, th_nx, th_rt, th_bk, th_ct, op_s, ob_ok, oo_s, de_v, de_s, ds_n, ds_c, ts_n, ts_c, tv_v, tv_s, fl_rt, fl_nx, x_dHV, x_dVar, x_dC, x_dVH, x_dIt, x_dRg, x_tYesD, x_dU, x_sPut, x_d2, x_aNil, x_aCons, x_dN, x_pNone, x_pSome, x_dSl, x_dTup, x_dOV, x_dVO, x_dLst, x_tOf, x_tBl, x_dChain, x_tAndD, x_tOrD, x_tNotD, x_vAnd, x_vOr, x_vNot, x_dIf, x_dNeg, x_dIsN, x_dNotN, x_dNo, x_dR1, x_dR2, x_dLR, x_dIsi, x_sSkip, x_sBreak, x_sCont, x_sSeq, x_sIf, x_sDrop, x_sRet, x_asg, x_sSet, x_gNm, x_gN, x_gC, x_gTp, x_sAsg, x_sPar, x_g1, x_g2, x_go1, x_callD0, x_callD1, parOf, putV, lstOf, setL, frOf, Sl.view, add_int, sub_int, int_int, ixl, ixt, len_lst, len_tup, lt_int, gt_int, le_int, ge_int, eq_int, ne_int, at0, at1, at2, at3, notNo, isNone, tupOf, x_dBk, isi_non_int, isi_non_bool, isi_non_str, isi_non_tuple, isi_non_list, isi_bl_int, isi_bl_bool, isi_bl_str, isi_bl_tuple, isi_bl_list, isi_int_int, isi_int_bool, isi_int_str, isi_int_tuple, isi_int_list, isi_str_int, isi_str_bool, isi_str_str, isi_str_tuple, isi_str_list, isi_tup_int, isi_tup_bool, isi_tup_str, isi_tup_tuple, isi_tup_list, isi_lst_int, isi_lst_bool, isi_lst_str, isi_lst_tuple, isi_lst_list, eq_bl, ne_bl, truth, parIn, parBack, hn, ht, hp]
def MixedOk (e : FnE) : Prop := e.np = 2 ∧ ∀ (t : Tape) (row : List Int), row.length ≤ 1000 → ∃ (t' : Tape) (os : List Int), e.sem [.par t.v, .fz (.lst (row.map .int))] = .ok (.own (os.map .int), .par t'.v) ∧ os.Perm row
theorem mixed_core (e : FnE) (he : TakeOk e) (t : Tape) (row : List Int) (hl : row.length ≤ 1000) : ∃ (t' : Tape) (os : List Int), flRes 2 (some 0) (D__law_mixed e [.par t.v, .fz (.lst (row.map .int)), .no, .no]) = .ok (.own (os.map .int), .par t'.v) ∧ os.Perm row := by
  obtain ⟨hn, hx⟩ := he
  have lc := lcL_all (g := gNm 3) (t := tYesD) (e := (dU popV 2 (aCons (dHV (dVO (callD1 e 0 (aCons (dVar 0) (aCons (dHV (dN (g1 lenV) (aCons (dVar 2) aNil))) aNil))))) aNil))) (vs := [3]) Val.int (rangeI 0 row.length)
    (fun pre out ρ => ∃ (t : Tape) (left os : List Int), ρ = [.par t.v, .fz (.lst (row.map .int)), .own (left.map .int), .no] ∧ out = os.map .int ∧ (os ++ left).Perm row ∧ left.length + pre.length = row.length)
    (ρ := [.par t.v, .fz (.lst (row.map .int)), .own (row.map .int), .no]) ⟨t, row, [], rfl, rfl, by simp, by simp⟩ fun pre a post out ρ e0 h => by
      obtain ⟨t, left, os, rfl, rfl, hp, hn2⟩ := h
      have hlen : pre.length < row.length := by
        have := congrArg List.length e0
        rw [length_rangeI] at this
        simp at this
        omega
      obtain ⟨d, t2, hd, ht⟩ := hx t left.length (by omega) (by omega)
      have hd2 : d < left.length := by omega
      have st := mixed_step e hn t.v t2.v (.lst (row.map .int)) (left.map .int) a d _ _ (by rw [List.length_map]; exact ht) (popV_int left d hd2 (by omega))
      refine ⟨[.par t.v, .fz (.lst (row.map .int)), .own (left.map .int), .fz (.int a)], true, [.par t.v, .fz (.lst (row.map .int)), .own (left.map .int), .fz (.int a)], by simp [gNm], rfl, .inl ⟨rfl, _, _, st, ⟨t2, left.eraseIdx d, os ++ [left[d]], by simp [wipeE], by simp, ?_, ?_⟩⟩⟩
      · have h1 := perm_erase left d hd2
        refine List.Perm.trans ?_ hp
        rw [List.append_assoc]
        exact (List.perm_append_left_iff os).mpr h1
      · rw [List.length_eraseIdx_of_lt hd2, List.length_append]
        simp
        omega
  obtain ⟨ys, ρ', h1, t', left, os, rfl, rfl, h2, h3⟩ := lc
  have h4 : left = [] := by
    rw [length_rangeI] at h3
    exact List.eq_nil_of_length_eq_zero (by omega)
  subst h4
  have h5 := lc_eq (it := dRg (dR1 (dN (g1 lenV) (aCons (dVar 1) aNil)))) (xs := (rangeI 0 row.length).map .int) (ρ := [.par t.v, .fz (.lst (row.map .int)), .own (row.map .int), .no]) (ρ1 := [.par t.v, .fz (.lst (row.map .int)), .own (row.map .int), .no]) (rg1 (by simp [fo_ok, th_nx, th_rt, th_bk, th_ct, op_s, ob_ok, oo_s, de_v, de_s, ds_n, ds_c, ts_n, ts_c, tv_v, tv_s, fl_rt, fl_nx, x_dHV, x_dVar, x_dC, x_dVH, x_dIt, x_dRg, x_tYesD, x_dU, x_sPut, x_d2, x_aNil, x_aCons, x_dN, x_pNone, x_pSome, x_dSl, x_dTup, x_dOV, x_dVO, x_dLst, x_tOf, x_tBl, x_dChain, x_tAndD, x_tOrD, x_tNotD, x_vAnd, x_vOr, x_vNot, x_dIf, x_dNeg, x_dIsN, x_dNotN, x_dNo, x_dR1, x_dR2, x_dLR, x_dIsi, x_sSkip, x_sBreak, x_sCont, x_sSeq, x_sIf, x_sDrop, x_sRet, x_asg, x_sSet, x_gNm, x_gN, x_gC, x_gTp, x_sAsg, x_sPar, x_g1, x_g2, x_go1, x_callD0, x_callD1, parOf, putV, lstOf, setL, frOf, Sl.view, add_int, sub_int, int_int, ixl, ixt, len_lst, len_tup, lt_int, gt_int, le_int, ge_int, eq_int, ne_int, at0, at1, at2, at3, notNo, isNone, tupOf, x_dBk, isi_non_int, isi_non_bool, isi_non_str, isi_non_tuple, isi_non_list, isi_bl_int, isi_bl_bool, isi_bl_str, isi_bl_tuple, isi_bl_list, isi_int_int, isi_int_bool, isi_int_str, isi_int_tuple, isi_int_list, isi_str_int, isi_str_bool, isi_str_str, isi_str_tuple, isi_str_list, isi_tup_int, isi_tup_bool, isi_tup_str, isi_tup_tuple, isi_tup_list, isi_lst_int, isi_lst_bool, isi_lst_str, isi_lst_tuple, isi_lst_list, eq_bl, ne_bl, truth, parIn, parBack]) (by omega)) (ok_size (by rw [List.length_map, length_rangeI]; omega)) (by rw [show wipeE [Sl.par t.v, .fz (.lst (row.map .int)), .own (row.map .int), .no] [3] = [Sl.par t.v, .fz (.lst (row.map .int)), .own (row.map .int), .no] from rfl]; exact h1)
  refine ⟨t', os, ?_, by simpa using h2⟩
  have h6 : D__law_mixed e [.par t.v, .fz (.lst (row.map .int)), .no, .no] = .rt (.own (os.map .int)) [.par t'.v, .fz (.lst (row.map .int)), .own [], .no] := by
    unfold D__law_mixed
    rw [seq_nx (ρ' := [.par t.v, .fz (.lst (row.map .int)), .own (row.map .int), .no]) (by simp [fo_ok, th_nx, th_rt, th_bk, th_ct, op_s, ob_ok, oo_s, de_v, de_s, ds_n, ds_c, ts_n, ts_c, tv_v, tv_s, fl_rt, fl_nx, x_dHV, x_dVar, x_dC, x_dVH, x_dIt, x_dRg, x_tYesD, x_dU, x_sPut, x_d2, x_aNil, x_aCons, x_dN, x_pNone, x_pSome, x_dSl, x_dTup, x_dOV, x_dVO, x_dLst, x_tOf, x_tBl, x_dChain, x_tAndD, x_tOrD, x_tNotD, x_vAnd, x_vOr, x_vNot, x_dIf, x_dNeg, x_dIsN, x_dNotN, x_dNo, x_dR1, x_dR2, x_dLR, x_dIsi, x_sSkip, x_sBreak, x_sCont, x_sSeq, x_sIf, x_sDrop, x_sRet, x_asg, x_sSet, x_gNm, x_gN, x_gC, x_gTp, x_sAsg, x_sPar, x_g1, x_g2, x_go1, x_callD0, x_callD1, parOf, putV, lstOf, setL, frOf, Sl.view, add_int, sub_int, int_int, ixl, ixt, len_lst, len_tup, lt_int, gt_int, le_int, ge_int, eq_int, ne_int, at0, at1, at2, at3, notNo, isNone, tupOf, x_dBk, isi_non_int, isi_non_bool, isi_non_str, isi_non_tuple, isi_non_list, isi_bl_int, isi_bl_bool, isi_bl_str, isi_bl_tuple, isi_bl_list, isi_int_int, isi_int_bool, isi_int_str, isi_int_tuple, isi_int_list, isi_str_int, isi_str_bool, isi_str_str, isi_str_tuple, isi_str_list, isi_tup_int, isi_tup_bool, isi_tup_str, isi_tup_tuple, isi_tup_list, isi_lst_int, isi_lst_bool, isi_lst_str, isi_lst_tuple, isi_lst_list, eq_bl, ne_bl, truth, parIn, parBack, itemsV])]
    rw [x_sRet, h5]
    simp [fo_ok, rest, keepFz]
  rw [h6]
  simp [fo_ok, th_nx, th_rt, th_bk, th_ct, op_s, ob_ok, oo_s, de_v, de_s, ds_n, ds_c, ts_n, ts_c, tv_v, tv_s, fl_rt, fl_nx, x_dHV, x_dVar, x_dC, x_dVH, x_dIt, x_dRg, x_tYesD, x_dU, x_sPut, x_d2, x_aNil, x_aCons, x_dN, x_pNone, x_pSome, x_dSl, x_dTup, x_dOV, x_dVO, x_dLst, x_tOf, x_tBl, x_dChain, x_tAndD, x_tOrD, x_tNotD, x_vAnd, x_vOr, x_vNot, x_dIf, x_dNeg, x_dIsN, x_dNotN, x_dNo, x_dR1, x_dR2, x_dLR, x_dIsi, x_sSkip, x_sBreak, x_sCont, x_sSeq, x_sIf, x_sDrop, x_sRet, x_asg, x_sSet, x_gNm, x_gN, x_gC, x_gTp, x_sAsg, x_sPar, x_g1, x_g2, x_go1, x_callD0, x_callD1, parOf, putV, lstOf, setL, frOf, Sl.view, add_int, sub_int, int_int, ixl, ixt, len_lst, len_tup, lt_int, gt_int, le_int, ge_int, eq_int, ne_int, at0, at1, at2, at3, notNo, isNone, tupOf, x_dBk, isi_non_int, isi_non_bool, isi_non_str, isi_non_tuple, isi_non_list, isi_bl_int, isi_bl_bool, isi_bl_str, isi_bl_tuple, isi_bl_list, isi_int_int, isi_int_bool, isi_int_str, isi_int_tuple, isi_int_list, isi_str_int, isi_str_bool, isi_str_str, isi_str_tuple, isi_str_list, isi_tup_int, isi_tup_bool, isi_tup_str, isi_tup_tuple, isi_tup_list, isi_lst_int, isi_lst_bool, isi_lst_str, isi_lst_tuple, isi_lst_list, eq_bl, ne_bl, truth, parIn, parBack]
theorem mixed_ok : MixedOk E__law_mixed := ⟨rfl, fun t row hl => by
  rw [s__law_mixed]
  exact mixed_core E__law_take take_ok t row hl⟩

/-! ### the same value twice -/
mutual
def wd : Val → Bool
  | .tup xs => decide (xs.length ≤ 1000000) && wds xs
  | .lst xs => decide (xs.length ≤ 1000000) && wds xs
  | _ => true
def wds : List Val → Bool
  | [] => true
  | x :: xs => wd x && wds xs
end
theorem wds_all {xs : List Val} : wds xs = true ↔ ∀ x ∈ xs, wd x = true := by
  induction xs with
  | nil => simp [wds]
  | cons x xs ih => simp [wds, ih]
def SameOk (e : FnE) (n : Nat) : Prop := ∀ x : Val, gd x = true → dp x < n → wd x = true → e.sem [.fz x, .fz x] = .ok (.fz (.bl true), .no)
theorem same_lc (e : FnE) (np : e.np = 2) (xs : List Val) (v : Val) (hl : xs.length ≤ 1000000) (hv : lenV v = some (.int xs.length)) (hi : ∀ k : Int, ixV v (.int k) = L2.atI xs k) (h : ∀ x ∈ xs, e.sem [.fz x, .fz x] = .ok (.fz (.bl true), .no)) :
    dN (g1 allV) (aCons (dHV (dVO (dLc (dRg (dR1 (dN (g1 lenV) (aCons (dVar 0) aNil)))) (gNm 2) tYesD (dVO (callD0 e (aCons (dHV (d2 ixV (dVar 0) (dVar 2))) (aCons (dHV (d2 ixV (dVar 1) (dVar 2))) aNil)))) [2]))) aNil) [.fz v, .fz v, .no] = .ok (.bl true, [.fz v, .fz v, .no]) := by
  have k1 := lcL_map1 (g := gNm 2) (t := tYesD) (e := dVO (callD0 e (aCons (dHV (d2 ixV (dVar 0) (dVar 2))) (aCons (dHV (d2 ixV (dVar 1) (dVar 2))) aNil)))) (vs := [2]) Val.int (fun _ => .bl true) [.fz v, .fz v, .no] (rangeI 0 xs.length) fun k hk => by
    have hk := mem_rangeI.mp hk
    have hk2 : k.toNat < xs.length := by omega
    have e1 : ixV v (.int k) = some xs[k.toNat] := by rw [hi, atI_int hk.1 hk.2]; simp [hk2]
    have e2 := h xs[k.toNat] (List.getElem_mem hk2)
    generalize xs[k.toNat] = x at *
    refine ⟨[.fz v, .fz v, .fz (.int k)], [.fz v, .fz v, .fz (.int k)], [.fz v, .fz v, .fz (.int k)], by simp [gNm], rfl, ?_, by simp [wipeE]⟩
    simp [fo_ok, th_nx, th_rt, th_bk, th_ct, op_s, ob_ok, oo_s, de_v, de_s, ds_n, ds_c, ts_n, ts_c, tv_v, tv_s, fl_rt, fl_nx, x_dHV, x_dVar, x_dC, x_dVH, x_dIt, x_dRg, x_tYesD, x_dU, x_sPut, x_d2, x_aNil, x_aCons, x_dN, x_pNone, x_pSome, x_dSl, x_dTup, x_dOV, x_dVO, x_dLst, x_tOf, x_tBl, x_dChain, x_tAndD, x_tOrD, x_tNotD, x_vAnd, x_vOr, x_vNot, x_dIf, x_dNeg, x_dIsN, x_dNotN, x_dNo, x_dR1, x_dR2, x_dLR, x_dIsi, x_sSkip, x_sBreak, x_sCont, x_sSeq, x_sIf, x_sDrop, x_sRet, x_asg, x_sSet, x_gNm, x_gN, x_gC, x_gTp, x_sAsg, x_sPar, x_g1, x_g2, x_go1, x_callD0, x_callD1, parOf, putV, lstOf, setL, frOf, Sl.view, add_int, sub_int, int_int, ixl, ixt, len_lst, len_tup, lt_int, gt_int, le_int, ge_int, eq_int, ne_int, at0, at1, at2, at3, notNo, isNone, tupOf, x_dBk, isi_non_int, isi_non_bool, isi_non_str, isi_non_tuple, isi_non_list, isi_bl_int, isi_bl_bool, isi_bl_str, isi_bl_tuple, isi_bl_list, isi_int_int, isi_int_bool, isi_int_str, isi_int_tuple, isi_int_list, isi_str_int, isi_str_bool, isi_str_str, isi_str_tuple, isi_str_list, isi_tup_int, isi_tup_bool, isi_tup_str, isi_tup_tuple, isi_tup_list, isi_lst_int, isi_lst_bool, isi_lst_str, isi_lst_tuple, isi_lst_list, eq_bl, ne_bl, truth, parIn, parBack, e1, e2, np]
  have k2 := lc_eq (it := dRg (dR1 (dN (g1 lenV) (aCons (dVar 0) aNil)))) (xs := (rangeI 0 xs.length).map .int) (ρ := [.fz v, .fz v, .no]) (ρ1 := [.fz v, .fz v, .no]) (rg1 (by simp [fo_ok, th_nx, th_rt, th_bk, th_ct, op_s, ob_ok, oo_s, de_v, de_s, ds_n, ds_c, ts_n, ts_c, tv_v, tv_s, fl_rt, fl_nx, x_dHV, x_dVar, x_dC, x_dVH, x_dIt, x_dRg, x_tYesD, x_dU, x_sPut, x_d2, x_aNil, x_aCons, x_dN, x_pNone, x_pSome, x_dSl, x_dTup, x_dOV, x_dVO, x_dLst, x_tOf, x_tBl, x_dChain, x_tAndD, x_tOrD, x_tNotD, x_vAnd, x_vOr, x_vNot, x_dIf, x_dNeg, x_dIsN, x_dNotN, x_dNo, x_dR1, x_dR2, x_dLR, x_dIsi, x_sSkip, x_sBreak, x_sCont, x_sSeq, x_sIf, x_sDrop, x_sRet, x_asg, x_sSet, x_gNm, x_gN, x_gC, x_gTp, x_sAsg, x_sPar, x_g1, x_g2, x_go1, x_callD0, x_callD1, parOf, putV, lstOf, setL, frOf, Sl.view, add_int, sub_int, int_int, ixl, ixt, len_lst, len_tup, lt_int, gt_int, le_int, ge_int, eq_int, ne_int, at0, at1, at2, at3, notNo, isNone, tupOf, x_dBk, isi_non_int, isi_non_bool, isi_non_str, isi_non_tuple, isi_non_list, isi_bl_int, isi_bl_bool, isi_bl_str, isi_bl_tuple, isi_bl_list, isi_int_int, isi_int_bool, isi_int_str, isi_int_tuple, isi_int_list, isi_str_int, isi_str_bool, isi_str_str, isi_str_tuple, isi_str_list, isi_tup_int, isi_tup_bool, isi_tup_str, isi_tup_tuple, isi_tup_list, isi_lst_int, isi_lst_bool, isi_lst_str, isi_lst_tuple, isi_lst_list, eq_bl, ne_bl, truth, parIn, parBack, hv]) (by omega)) (ok_size (by rw [List.length_map, length_rangeI]; omega)) (by rw [show wipeE [Sl.fz v, .fz v, .no] [2] = [.fz v, .fz v, .no] from rfl]; exact k1)
  rw [show rest [Sl.fz v, .fz v, .no] [2] [.fz v, .fz v, .no] = [.fz v, .fz v, .no] from rfl] at k2
  have k3 := all_map (fun _ : Int => true) (rangeI 0 xs.length)
  have k4 : (rangeI 0 xs.length).all (fun _ => true) = true := List.all_eq_true.mpr fun _ _ => rfl
  rw [k4] at k3
  generalize dLc (dRg (dR1 (dN (g1 lenV) (aCons (dVar 0) aNil)))) (gNm 2) tYesD (dVO (callD0 e (aCons (dHV (d2 ixV (dVar 0) (dVar 2))) (aCons (dHV (d2 ixV (dVar 1) (dVar 2))) aNil)))) [2] = X at *
  generalize (rangeI 0 xs.length).map (fun _ => Val.bl true) = ys at *
  simp [fo_ok, th_nx, th_rt, th_bk, th_ct, op_s, ob_ok, oo_s, de_v, de_s, ds_n, ds_c, ts_n, ts_c, tv_v, tv_s, fl_rt, fl_nx, x_dHV, x_dVar, x_dC, x_dVH, x_dIt, x_dRg, x_tYesD, x_dU, x_sPut, x_d2, x_aNil, x_aCons, x_dN, x_pNone, x_pSome, x_dSl, x_dTup, x_dOV, x_dVO, x_dLst, x_tOf, x_tBl, x_dChain, x_tAndD, x_tOrD, x_tNotD, x_vAnd, x_vOr, x_vNot, x_dIf, x_dNeg, x_dIsN, x_dNotN, x_dNo, x_dR1, x_dR2, x_dLR, x_dIsi, x_sSkip, x_sBreak, x_sCont, x_sSeq, x_sIf, x_sDrop, x_sRet, x_asg, x_sSet, x_gNm, x_gN, x_gC, x_gTp, x_sAsg, x_sPar, x_g1, x_g2, x_go1, x_callD0, x_callD1, parOf, putV, lstOf, setL, frOf, Sl.view, add_int, sub_int, int_int, ixl, ixt, len_lst, len_tup, lt_int, gt_int, le_int, ge_int, eq_int, ne_int, at0, at1, at2, at3, notNo, isNone, tupOf, x_dBk, isi_non_int, isi_non_bool, isi_non_str, isi_non_tuple, isi_non_list, isi_bl_int, isi_bl_bool, isi_bl_str, isi_bl_tuple, isi_bl_list, isi_int_int, isi_int_bool, isi_int_str, isi_int_tuple, isi_int_list, isi_str_int, isi_str_bool, isi_str_str, isi_str_tuple, isi_str_list, isi_tup_int, isi_tup_bool, isi_tup_str, isi_tup_tuple, isi_tup_list, isi_lst_int, isi_lst_bool, isi_lst_str, isi_lst_tuple, isi_lst_list, eq_bl, ne_bl, truth, parIn, parBack, k2, k3]
theorem same_fin (X : DV) (v : Val) (n : Int) (b1 b2 : Bool) (h1 : isiV "tuple" v = some (.bl b1)) (h2 : isiV "list" v = some (.bl b2)) (hb : b1 = true ∨ b2 = true) (hv : lenV v = some (.int n)) (hX : X [.fz v, .fz v, .no] = .ok (.bl true, [.fz v, .fz v, .no])) :
    (sIf (tOrD (tAndD (tOf (dHV (dIsi "tuple" (dVar 0)))) (tOf (dHV (dIsi "tuple" (dVar 1))))) (tAndD (tOf (dHV (dIsi "list" (dVar 0)))) (tOf (dHV (dIsi "list" (dVar 1)))))) (sRet (dOV (vAnd (d2 eqV (dHV (dN (g1 lenV) (aCons (dVar 0) aNil))) (dHV (dN (g1 lenV) (aCons (dVar 1) aNil)))) X))) sSkip) [.fz v, .fz v, .no] = .rt (.fz (.bl true)) [.fz v, .fz v, .no] := by
  cases b1 with
  | true => simp [fo_ok, th_nx, th_rt, th_bk, th_ct, op_s, ob_ok, oo_s, de_v, de_s, ds_n, ds_c, ts_n, ts_c, tv_v, tv_s, fl_rt, fl_nx, x_dHV, x_dVar, x_dC, x_dVH, x_dIt, x_dRg, x_tYesD, x_dU, x_sPut, x_d2, x_aNil, x_aCons, x_dN, x_pNone, x_pSome, x_dSl, x_dTup, x_dOV, x_dVO, x_dLst, x_tOf, x_tBl, x_dChain, x_tAndD, x_tOrD, x_tNotD, x_vAnd, x_vOr, x_vNot, x_dIf, x_dNeg, x_dIsN, x_dNotN, x_dNo, x_dR1, x_dR2, x_dLR, x_dIsi, x_sSkip, x_sBreak, x_sCont, x_sSeq, x_sIf, x_sDrop, x_sRet, x_asg, x_sSet, x_gNm, x_gN, x_gC, x_gTp, x_sAsg, x_sPar, x_g1, x_g2, x_go1, x_callD0, x_callD1, parOf, putV, lstOf, setL, frOf, Sl.view, add_int, sub_int, int_int, ixl, ixt, len_lst, len_tup, lt_int, gt_int, le_int, ge_int, eq_int, ne_int, at0, at1, at2, at3, notNo, isNone, tupOf, x_dBk, isi_non_int, isi_non_bool, isi_non_str, isi_non_tuple, isi_non_list, isi_bl_int, isi_bl_bool, isi_bl_str, isi_bl_tuple, isi_bl_list, isi_int_int, isi_int_bool, isi_int_str, isi_int_tuple, isi_int_list, isi_str_int, isi_str_bool, isi_str_str, isi_str_tuple, isi_str_list, isi_tup_int, isi_tup_bool, isi_tup_str, isi_tup_tuple, isi_tup_list, isi_lst_int, isi_lst_bool, isi_lst_str, isi_lst_tuple, isi_lst_list, eq_bl, ne_bl, truth, parIn, parBack, h1, truth, hv, hX]
  | false =>
    rcases hb with h | h
    · cases h
    · subst h
      simp [fo_ok, th_nx, th_rt, th_bk, th_ct, op_s, ob_ok, oo_s, de_v, de_s, ds_n, ds_c, ts_n, ts_c, tv_v, tv_s, fl_rt, fl_nx, x_dHV, x_dVar, x_dC, x_dVH, x_dIt, x_dRg, x_tYesD, x_dU, x_sPut, x_d2, x_aNil, x_aCons, x_dN, x_pNone, x_pSome, x_dSl, x_dTup, x_dOV, x_dVO, x_dLst, x_tOf, x_tBl, x_dChain, x_tAndD, x_tOrD, x_tNotD, x_vAnd, x_vOr, x_vNot, x_dIf, x_dNeg, x_dIsN, x_dNotN, x_dNo, x_dR1, x_dR2, x_dLR, x_dIsi, x_sSkip, x_sBreak, x_sCont, x_sSeq, x_sIf, x_sDrop, x_sRet, x_asg, x_sSet, x_gNm, x_gN, x_gC, x_gTp, x_sAsg, x_sPar, x_g1, x_g2, x_go1, x_callD0, x_callD1, parOf, putV, lstOf, setL, frOf, Sl.view, add_int, sub_int, int_int, ixl, ixt, len_lst, len_tup, lt_int, gt_int, le_int, ge_int, eq_int, ne_int, at0, at1, at2, at3, notNo, isNone, tupOf, x_dBk, isi_non_int, isi_non_bool, isi_non_str, isi_non_tuple, isi_non_list, isi_bl_int, isi_bl_bool, isi_bl_str, isi_bl_tuple, isi_bl_list, isi_int_int, isi_int_bool, isi_int_str, isi_int_tuple, isi_int_list, isi_str_int, isi_str_bool, isi_str_str, isi_str_tuple, isi_str_list, isi_tup_int, isi_tup_bool, isi_tup_str, isi_tup_tuple, isi_tup_list, isi_lst_int, isi_lst_bool, isi_lst_str, isi_lst_tuple, isi_lst_list, eq_bl, ne_bl, truth, parIn, parBack, h1, h2, truth, hv, hX]
theorem same_core (e : FnE) (np : e.np = 2) (n : Nat) (he : SameOk e n) (x : Val) (g : gd x = true) (hd : dp x < n + 1) (hw : wd x = true) : flRes 2 none (D__law_same e [.fz x, .fz x, .no]) = .ok (.fz (.bl true), .no) := by
  have deep : ∀ xs : List Val, PyData.depthAll (pys xs) < n → ∀ y ∈ xs, dp y < n := by
    intro xs
    induction xs with
    | nil => intro _ y hy; cases hy
    | cons z zs ih =>
      intro h y hy
      simp only [pys, PyData.depthAll] at h
      rcases List.mem_cons.mp hy with e | hy
      · rw [e]; unfold dp; omega
      · exact ih (by omega) y hy
  have fin : ∀ ρ', D__law_same e [.fz x, .fz x, .no] = .rt (.fz (.bl true)) ρ' → 2 ≤ ρ'.length → flRes 2 none (D__law_same e [.fz x, .fz x, .no]) = .ok (.fz (.bl true), .no) := fun ρ' h h2 => by
    rw [h, fl_rt]
    have h5 : ¬ ρ'.length < 2 := by omega
    simp [parOf, h5, notNo]
  cases x with
  | tup xs =>
    have g' : gds xs = true := g
    have hdd : PyData.depthAll (pys xs) < n := by
      have h : PyData.depthAll (pys xs) + 1 < n + 1 := by simpa [dp, Val.py, PyData.depth] using hd
      omega
    have gw : xs.length ≤ 1000000 ∧ wds xs = true := by simpa [wd] using hw
    have hx : ∀ y ∈ xs, e.sem [.fz y, .fz y] = .ok (.fz (.bl true), .no) := fun y hy => he y (gds_all.mp g' y hy) (deep xs hdd y hy) (wds_all.mp gw.2 y hy)
    refine fin [.fz (.tup xs), .fz (.tup xs), .no] ?_ (by simp)
    unfold D__law_same
    exact seq_rt (same_fin _ _ xs.length true false (by simp [isiV, tyName]; decide +kernel) (by simp [isiV, tyName]; decide +kernel) (.inl rfl) rfl (same_lc e np xs _ gw.1 rfl (fun _ => rfl) hx))
  | lst xs =>
    have g' : gds xs = true := g
    have hdd : PyData.depthAll (pys xs) < n := by
      have h : PyData.depthAll (pys xs) + 1 < n + 1 := by simpa [dp, Val.py, PyData.depth] using hd
      omega
    have gw : xs.length ≤ 1000000 ∧ wds xs = true := by simpa [wd] using hw
    have hx : ∀ y ∈ xs, e.sem [.fz y, .fz y] = .ok (.fz (.bl true), .no) := fun y hy => he y (gds_all.mp g' y hy) (deep xs hdd y hy) (wds_all.mp gw.2 y hy)
    refine fin [.fz (.lst xs), .fz (.lst xs), .no] ?_ (by simp)
    unfold D__law_same
    exact seq_rt (same_fin _ _ xs.length false true (by simp [isiV, tyName]; decide +kernel) (by simp [isiV, tyName]; decide +kernel) (.inr rfl) rfl (same_lc e np xs _ gw.1 rfl (fun _ => rfl) hx))
  | int i =>
    have i1 : isiV "tuple" (.int i) = some (.bl false) := by simp [isiV, tyName]; decide +kernel
    have i2 : isiV "list" (.int i) = some (.bl false) := by simp [isiV, tyName]; decide +kernel
    have i3 : isiV "bool" (.int i) = some (.bl false) := by simp [isiV, tyName]; decide +kernel
    have i4 : isiV "int" (.int i) = some (.bl true) := by simp [isiV, tyName]; decide +kernel
    refine fin [.fz (.int i), .fz (.int i), .no] ?_ (by simp)
    unfold D__law_same
    rw [seq_nx (ρ' := [.fz (.int i), .fz (.int i), .no]) (by rw [if_f (ρ' := [.fz (.int i), .fz (.int i), .no]) (by simp [fo_ok, th_nx, th_rt, th_bk, th_ct, op_s, ob_ok, oo_s, de_v, de_s, ds_n, ds_c, ts_n, ts_c, tv_v, tv_s, fl_rt, fl_nx, x_dHV, x_dVar, x_dC, x_dVH, x_dIt, x_dRg, x_tYesD, x_dU, x_sPut, x_d2, x_aNil, x_aCons, x_dN, x_pNone, x_pSome, x_dSl, x_dTup, x_dOV, x_dVO, x_dLst, x_tOf, x_tBl, x_dChain, x_tAndD, x_tOrD, x_tNotD, x_vAnd, x_vOr, x_vNot, x_dIf, x_dNeg, x_dIsN, x_dNotN, x_dNo, x_dR1, x_dR2, x_dLR, x_dIsi, x_sSkip, x_sBreak, x_sCont, x_sSeq, x_sIf, x_sDrop, x_sRet, x_asg, x_sSet, x_gNm, x_gN, x_gC, x_gTp, x_sAsg, x_sPar, x_g1, x_g2, x_go1, x_callD0, x_callD1, parOf, putV, lstOf, setL, frOf, Sl.view, add_int, sub_int, int_int, ixl, ixt, len_lst, len_tup, lt_int, gt_int, le_int, ge_int, eq_int, ne_int, at0, at1, at2, at3, notNo, isNone, tupOf, x_dBk, isi_non_int, isi_non_bool, isi_non_str, isi_non_tuple, isi_non_list, isi_bl_int, isi_bl_bool, isi_bl_str, isi_bl_tuple, isi_bl_list, isi_int_int, isi_int_bool, isi_int_str, isi_int_tuple, isi_int_list, isi_str_int, isi_str_bool, isi_str_str, isi_str_tuple, isi_str_list, isi_tup_int, isi_tup_bool, isi_tup_str, isi_tup_tuple, isi_tup_list, isi_lst_int, isi_lst_bool, isi_lst_str, isi_lst_tuple, isi_lst_list, eq_bl, ne_bl, truth, parIn, parBack, i1, i2, truth])]; rfl)]
    rw [seq_nx (ρ' := [.fz (.int i), .fz (.int i), .no]) (by rw [if_f (ρ' := [.fz (.int i), .fz (.int i), .no]) (by simp [fo_ok, th_nx, th_rt, th_bk, th_ct, op_s, ob_ok, oo_s, de_v, de_s, ds_n, ds_c, ts_n, ts_c, tv_v, tv_s, fl_rt, fl_nx, x_dHV, x_dVar, x_dC, x_dVH, x_dIt, x_dRg, x_tYesD, x_dU, x_sPut, x_d2, x_aNil, x_aCons, x_dN, x_pNone, x_pSome, x_dSl, x_dTup, x_dOV, x_dVO, x_dLst, x_tOf, x_tBl, x_dChain, x_tAndD, x_tOrD, x_tNotD, x_vAnd, x_vOr, x_vNot, x_dIf, x_dNeg, x_dIsN, x_dNotN, x_dNo, x_dR1, x_dR2, x_dLR, x_dIsi, x_sSkip, x_sBreak, x_sCont, x_sSeq, x_sIf, x_sDrop, x_sRet, x_asg, x_sSet, x_gNm, x_gN, x_gC, x_gTp, x_sAsg, x_sPar, x_g1, x_g2, x_go1, x_callD0, x_callD1, parOf, putV, lstOf, setL, frOf, Sl.view, add_int, sub_int, int_int, ixl, ixt, len_lst, len_tup, lt_int, gt_int, le_int, ge_int, eq_int, ne_int, at0, at1, at2, at3, notNo, isNone, tupOf, x_dBk, isi_non_int, isi_non_bool, isi_non_str, isi_non_tuple, isi_non_list, isi_bl_int, isi_bl_bool, isi_bl_str, isi_bl_tuple, isi_bl_list, isi_int_int, isi_int_bool, isi_int_str, isi_int_tuple, isi_int_list, isi_str_int, isi_str_bool, isi_str_str, isi_str_tuple, isi_str_list, isi_tup_int, isi_tup_bool, isi_tup_str, isi_tup_tuple, isi_tup_list, isi_lst_int, isi_lst_bool, isi_lst_str, isi_lst_tuple, isi_lst_list, eq_bl, ne_bl, truth, parIn, parBack, i3, truth])]; rfl)]
    exact seq_rt (by rw [if_t (ρ' := [.fz (.int i), .fz (.int i), .no]) (by simp [fo_ok, th_nx, th_rt, th_bk, th_ct, op_s, ob_ok, oo_s, de_v, de_s, ds_n, ds_c, ts_n, ts_c, tv_v, tv_s, fl_rt, fl_nx, x_dHV, x_dVar, x_dC, x_dVH, x_dIt, x_dRg, x_tYesD, x_dU, x_sPut, x_d2, x_aNil, x_aCons, x_dN, x_pNone, x_pSome, x_dSl, x_dTup, x_dOV, x_dVO, x_dLst, x_tOf, x_tBl, x_dChain, x_tAndD, x_tOrD, x_tNotD, x_vAnd, x_vOr, x_vNot, x_dIf, x_dNeg, x_dIsN, x_dNotN, x_dNo, x_dR1, x_dR2, x_dLR, x_dIsi, x_sSkip, x_sBreak, x_sCont, x_sSeq, x_sIf, x_sDrop, x_sRet, x_asg, x_sSet, x_gNm, x_gN, x_gC, x_gTp, x_sAsg, x_sPar, x_g1, x_g2, x_go1, x_callD0, x_callD1, parOf, putV, lstOf, setL, frOf, Sl.view, add_int, sub_int, int_int, ixl, ixt, len_lst, len_tup, lt_int, gt_int, le_int, ge_int, eq_int, ne_int, at0, at1, at2, at3, notNo, isNone, tupOf, x_dBk, isi_non_int, isi_non_bool, isi_non_str, isi_non_tuple, isi_non_list, isi_bl_int, isi_bl_bool, isi_bl_str, isi_bl_tuple, isi_bl_list, isi_int_int, isi_int_bool, isi_int_str, isi_int_tuple, isi_int_list, isi_str_int, isi_str_bool, isi_str_str, isi_str_tuple, isi_str_list, isi_tup_int, isi_tup_bool, isi_tup_str, isi_tup_tuple, isi_tup_list, isi_lst_int, isi_lst_bool, isi_lst_str, isi_lst_tuple, isi_lst_list, eq_bl, ne_bl, truth, parIn, parBack, i4, truth])]; simp [fo_ok, th_nx, th_rt, th_bk, th_ct, op_s, ob_ok, oo_s, de_v, de_s, ds_n, ds_c, ts_n, ts_c, tv_v, tv_s, fl_rt, fl_nx, x_dHV, x_dVar, x_dC, x_dVH, x_dIt, x_dRg, x_tYesD, x_dU, x_sPut, x_d2, x_aNil, x_aCons, x_dN, x_pNone, x_pSome, x_dSl, x_dTup, x_dOV, x_dVO, x_dLst, x_tOf, x_tBl, x_dChain, x_tAndD, x_tOrD, x_tNotD, x_vAnd, x_vOr, x_vNot, x_dIf, x_dNeg, x_dIsN, x_dNotN, x_dNo, x_dR1, x_dR2, x_dLR, x_dIsi, x_sSkip, x_sBreak, x_sCont, x_sSeq, x_sIf, x_sDrop, x_sRet, x_asg, x_sSet, x_gNm, x_gN, x_gC, x_gTp, x_sAsg, x_sPar, x_g1, x_g2, x_go1, x_callD0, x_callD1, parOf, putV, lstOf, setL, frOf, Sl.view, add_int, sub_int, int_int, ixl, ixt, len_lst, len_tup, lt_int, gt_int, le_int, ge_int, eq_int, ne_int, at0, at1, at2, at3, notNo, isNone, tupOf, x_dBk, isi_non_int, isi_non_bool, isi_non_str, isi_non_tuple, isi_non_list, isi_bl_int, isi_bl_bool, isi_bl_str, isi_bl_tuple, isi_bl_list, isi_int_int, isi_int_bool, isi_int_str, isi_int_tuple, isi_int_list, isi_str_int, isi_str_bool, isi_str_str, isi_str_tuple, isi_str_list, isi_tup_int, isi_tup_bool, isi_tup_str, isi_tup_tuple, isi_tup_list, isi_lst_int, isi_lst_bool, isi_lst_str, isi_lst_tuple, isi_lst_list, eq_bl, ne_bl, truth, parIn, parBack])
  | str s =>
    have i1 : isiV "tuple" (.str s) = some (.bl false) := by simp [isiV, tyName]; decide +kernel
    have i2 : isiV "list" (.str s) = some (.bl false) := by simp [isiV, tyName]; decide +kernel
    have i3 : isiV "bool" (.str s) = some (.bl false) := by simp [isiV, tyName]; decide +kernel
    have i4 : isiV "int" (.str s) = some (.bl false) := by simp [isiV, tyName]; decide +kernel
    have i5 : isiV "str" (.str s) = some (.bl true) := by simp [isiV, tyName]; decide +kernel
    have i6 : eqV (.str s) (.str s) = some (.bl true) := by
      unfold eqV
      rw [eqB_b (b := true) rfl rfl (.inl (by rw [dp_str]; omega)) (by simp)]
      rfl
    refine fin [.fz (.str s), .fz (.str s), .no] ?_ (by simp)
    unfold D__law_same
    rw [seq_nx (ρ' := [.fz (.str s), .fz (.str s), .no]) (by rw [if_f (ρ' := [.fz (.str s), .fz (.str s), .no]) (by simp [fo_ok, th_nx, th_rt, th_bk, th_ct, op_s, ob_ok, oo_s, de_v, de_s, ds_n, ds_c, ts_n, ts_c, tv_v, tv_s, fl_rt, fl_nx, x_dHV, x_dVar, x_dC, x_dVH, x_dIt, x_dRg, x_tYesD, x_dU, x_sPut, x_d2, x_aNil, x_aCons, x_dN, x_pNone, x_pSome, x_dSl, x_dTup, x_dOV, x_dVO, x_dLst, x_tOf, x_tBl, x_dChain, x_tAndD, x_tOrD, x_tNotD, x_vAnd, x_vOr, x_vNot, x_dIf, x_dNeg, x_dIsN, x_dNotN, x_dNo, x_dR1, x_dR2, x_dLR, x_dIsi, x_sSkip, x_sBreak, x_sCont, x_sSeq, x_sIf, x_sDrop, x_sRet, x_asg, x_sSet, x_gNm, x_gN, x_gC, x_gTp, x_sAsg, x_sPar, x_g1, x_g2, x_go1, x_callD0, x_callD1, parOf, putV, lstOf, setL, frOf, Sl.view, add_int, sub_int, int_int, ixl, ixt, len_lst, len_tup, lt_int, gt_int, le_int, ge_int, eq_int, ne_int, at0, at1, at2, at3, notNo, isNone, tupOf, x_dBk, isi_non_int, isi_non_bool, isi_non_str, isi_non_tuple, isi_non_list, isi_bl_int, isi_bl_bool, isi_bl_str, isi_bl_tuple, isi_bl_list, isi_int_int, isi_int_bool, isi_int_str, isi_int_tuple, isi_int_list, isi_str_int, isi_str_bool, isi_str_str, isi_str_tuple, isi_str_list, isi_tup_int, isi_tup_bool, isi_tup_str, isi_tup_tuple, isi_tup_list, isi_lst_int, isi_lst_bool, isi_lst_str, isi_lst_tuple, isi_lst_list, eq_bl, ne_bl, truth, parIn, parBack, i1, i2, truth])]; rfl)]
    rw [seq_nx (ρ' := [.fz (.str s), .fz (.str s), .no]) (by rw [if_f (ρ' := [.fz (.str s), .fz (.str s), .no]) (by simp [fo_ok, th_nx, th_rt, th_bk, th_ct, op_s, ob_ok, oo_s, de_v, de_s, ds_n, ds_c, ts_n, ts_c, tv_v, tv_s, fl_rt, fl_nx, x_dHV, x_dVar, x_dC, x_dVH, x_dIt, x_dRg, x_tYesD, x_dU, x_sPut, x_d2, x_aNil, x_aCons, x_dN, x_pNone, x_pSome, x_dSl, x_dTup, x_dOV, x_dVO, x_dLst, x_tOf, x_tBl, x_dChain, x_tAndD, x_tOrD, x_tNotD, x_vAnd, x_vOr, x_vNot, x_dIf, x_dNeg, x_dIsN, x_dNotN, x_dNo, x_dR1, x_dR2, x_dLR, x_dIsi, x_sSkip, x_sBreak, x_sCont, x_sSeq, x_sIf, x_sDrop, x_sRet, x_asg, x_sSet, x_gNm, x_gN, x_gC, x_gTp, x_sAsg, x_sPar, x_g1, x_g2, x_go1, x_callD0, x_callD1, parOf, putV, lstOf, setL, frOf, Sl.view, add_int, sub_int, int_int, ixl, ixt, len_lst, len_tup, lt_int, gt_int, le_int, ge_int, eq_int, ne_int, at0, at1, at2, at3, notNo, isNone, tupOf, x_dBk, isi_non_int, isi_non_bool, isi_non_str, isi_non_tuple, isi_non_list, isi_bl_int, isi_bl_bool, isi_bl_str, isi_bl_tuple, isi_bl_list, isi_int_int, isi_int_bool, isi_int_str, isi_int_tuple, isi_int_list, isi_str_int, isi_str_bool, isi_str_str, isi_str_tuple, isi_str_list, isi_tup_int, isi_tup_bool, isi_tup_str, isi_tup_tuple, isi_tup_list, isi_lst_int, isi_lst_bool, isi_lst_str, isi_lst_tuple, isi_lst_list, eq_bl, ne_bl, truth, parIn, parBack, i3, truth])]; rfl)]
    exact seq_rt (by rw [if_t (ρ' := [.fz (.str s), .fz (.str s), .no]) (by simp [fo_ok, th_nx, th_rt, th_bk, th_ct, op_s, ob_ok, oo_s, de_v, de_s, ds_n, ds_c, ts_n, ts_c, tv_v, tv_s, fl_rt, fl_nx, x_dHV, x_dVar, x_dC, x_dVH, x_dIt, x_dRg, x_tYesD, x_dU, x_sPut, x_d2, x_aNil, x_aCons, x_dN, x_pNone, x_pSome, x_dSl, x_dTup, x_dOV, x_dVO, x_dLst, x_tOf, x_tBl, x_dChain, x_tAndD, x_tOrD, x_tNotD, x_vAnd, x_vOr, x_vNot, x_dIf, x_dNeg, x_dIsN, x_dNotN, x_dNo, x_dR1, x_dR2, x_dLR, x_dIsi, x_sSkip, x_sBreak, x_sCont, x_sSeq, x_sIf, x_sDrop, x_sRet, x_asg, x_sSet, x_gNm, x_gN, x_gC, x_gTp, x_sAsg, x_sPar, x_g1, x_g2, x_go1, x_callD0, x_callD1, parOf, putV, lstOf, setL, frOf, Sl.view, add_int, sub_int, int_int, ixl, ixt, len_lst, len_tup, lt_int, gt_int, le_int, ge_int, eq_int, ne_int, at0, at1, at2, at3, notNo, isNone, tupOf, x_dBk, isi_non_int, isi_non_bool, isi_non_str, isi_non_tuple, isi_non_list, isi_bl_int, isi_bl_bool, isi_bl_str, isi_bl_tuple, isi_bl_list, isi_int_int, isi_int_bool, isi_int_str, isi_int_tuple, isi_int_list, isi_str_int, isi_str_bool, isi_str_str, isi_str_tuple, isi_str_list, isi_tup_int, isi_tup_bool, isi_tup_str, isi_tup_tuple, isi_tup_list, isi_lst_int, isi_lst_bool, isi_lst_str, isi_lst_tuple, isi_lst_list, eq_bl, ne_bl, truth, parIn, parBack, i4, i5, truth])]; simp [fo_ok, th_nx, th_rt, th_bk, th_ct, op_s, ob_ok, oo_s, de_v, de_s, ds_n, ds_c, ts_n, ts_c, tv_v, tv_s, fl_rt, fl_nx, x_dHV, x_dVar, x_dC, x_dVH, x_dIt, x_dRg, x_tYesD, x_dU, x_sPut, x_d2, x_aNil, x_aCons, x_dN, x_pNone, x_pSome, x_dSl, x_dTup, x_dOV, x_dVO, x_dLst, x_tOf, x_tBl, x_dChain, x_tAndD, x_tOrD, x_tNotD, x_vAnd, x_vOr, x_vNot, x_dIf, x_dNeg, x_dIsN, x_dNotN, x_dNo, x_dR1, x_dR2, x_dLR, x_dIsi, x_sSkip, x_sBreak, x_sCont, x_sSeq, x_sIf, x_sDrop, x_sRet, x_asg, x_sSet, x_gNm, x_gN, x_gC, x_gTp, x_sAsg, x_sPar, x_g1, x_g2, x_go1, x_callD0, x_callD1, parOf, putV, lstOf, setL, frOf, Sl.view, add_int, sub_int, int_int, ixl, ixt, len_lst, len_tup, lt_int, gt_int, le_int, ge_int, eq_int, ne_int, at0, at1, at2, at3, notNo, isNone, tupOf, x_dBk, isi_non_int, isi_non_bool, isi_non_str, isi_non_tuple, isi_non_list, isi_bl_int, isi_bl_bool, isi_bl_str, isi_bl_tuple, isi_bl_list, isi_int_int, isi_int_bool, isi_int_str, isi_int_tuple, isi_int_list, isi_str_int, isi_str_bool, isi_str_str, isi_str_tuple, isi_str_list, isi_tup_int, isi_tup_bool, isi_tup_str, isi_tup_tuple, isi_tup_list, isi_lst_int, isi_lst_bool, isi_lst_str, isi_lst_tuple, isi_lst_list, eq_bl, ne_bl, truth, parIn, parBack, i6])
  | non =>
    have i1 : isiV "tuple" .non = some (.bl false) := by simp [isiV, tyName]; decide +kernel
    have i2 : isiV "list" .non = some (.bl false) := by simp [isiV, tyName]; decide +kernel
    have i3 : isiV "bool" .non = some (.bl false) := by simp [isiV, tyName]; decide +kernel
    have i4 : isiV "int" .non = some (.bl false) := by simp [isiV, tyName]; decide +kernel
    have i5 : isiV "str" .non = some (.bl false) := by simp [isiV, tyName]; decide +kernel
    refine fin [.fz .non, .fz .non, .no] ?_ (by simp)
    unfold D__law_same
    rw [seq_nx (ρ' := [.fz .non, .fz .non, .no]) (by rw [if_f (ρ' := [.fz .non, .fz .non, .no]) (by simp [fo_ok, th_nx, th_rt, th_bk, th_ct, op_s, ob_ok, oo_s, de_v, de_s, ds_n, ds_c, ts_n, ts_c, tv_v, tv_s, fl_rt, fl_nx, x_dHV, x_dVar, x_dC, x_dVH, x_dIt, x_dRg, x_tYesD, x_dU, x_sPut, x_d2, x_aNil, x_aCons, x_dN, x_pNone, x_pSome, x_dSl, x_dTup, x_dOV, x_dVO, x_dLst, x_tOf, x_tBl, x_dChain, x_tAndD, x_tOrD, x_tNotD, x_vAnd, x_vOr, x_vNot, x_dIf, x_dNeg, x_dIsN, x_dNotN, x_dNo, x_dR1, x_dR2, x_dLR, x_dIsi, x_sSkip, x_sBreak, x_sCont, x_sSeq, x_sIf, x_sDrop, x_sRet, x_asg, x_sSet, x_gNm, x_gN, x_gC, x_gTp, x_sAsg, x_sPar, x_g1, x_g2, x_go1, x_callD0, x_callD1, parOf, putV, lstOf, setL, frOf, Sl.view, add_int, sub_int, int_int, ixl, ixt, len_lst, len_tup, lt_int, gt_int, le_int, ge_int, eq_int, ne_int, at0, at1, at2, at3, notNo, isNone, tupOf, x_dBk, isi_non_int, isi_non_bool, isi_non_str, isi_non_tuple, isi_non_list, isi_bl_int, isi_bl_bool, isi_bl_str, isi_bl_tuple, isi_bl_list, isi_int_int, isi_int_bool, isi_int_str, isi_int_tuple, isi_int_list, isi_str_int, isi_str_bool, isi_str_str, isi_str_tuple, isi_str_list, isi_tup_int, isi_tup_bool, isi_tup_str, isi_tup_tuple, isi_tup_list, isi_lst_int, isi_lst_bool, isi_lst_str, isi_lst_tuple, isi_lst_list, eq_bl, ne_bl, truth, parIn, parBack, i1, i2, truth])]; rfl)]
    rw [seq_nx (ρ' := [.fz .non, .fz .non, .no]) (by rw [if_f (ρ' := [.fz .non, .fz .non, .no]) (by simp [fo_ok, th_nx, th_rt, th_bk, th_ct, op_s, ob_ok, oo_s, de_v, de_s, ds_n, ds_c, ts_n, ts_c, tv_v, tv_s, fl_rt, fl_nx, x_dHV, x_dVar, x_dC, x_dVH, x_dIt, x_dRg, x_tYesD, x_dU, x_sPut, x_d2, x_aNil, x_aCons, x_dN, x_pNone, x_pSome, x_dSl, x_dTup, x_dOV, x_dVO, x_dLst, x_tOf, x_tBl, x_dChain, x_tAndD, x_tOrD, x_tNotD, x_vAnd, x_vOr, x_vNot, x_dIf, x_dNeg, x_dIsN, x_dNotN, x_dNo, x_dR1, x_dR2, x_dLR, x_dIsi, x_sSkip, x_sBreak, x_sCont, x_sSeq, x_sIf, x_sDrop, x_sRet, x_asg, x_sSet, x_gNm, x_gN, x_gC, x_gTp, x_sAsg, x_sPar, x_g1, x_g2, x_go1, x_callD0, x_callD1, parOf, putV, lstOf, setL, frOf, Sl.view, add_int, sub_int, int_int, ixl, ixt, len_lst, len_tup, lt_int, gt_int, le_int, ge_int, eq_int, ne_int, at0, at1, at2, at3, notNo, isNone, tupOf, x_dBk, isi_non_int, isi_non_bool, isi_non_str, isi_non_tuple, isi_non_list, isi_bl_int, isi_bl_bool, isi_bl_str, isi_bl_tuple, isi_bl_list, isi_int_int, isi_int_bool, isi_int_str, isi_int_tuple, isi_int_list, isi_str_int, isi_str_bool, isi_str_str, isi_str_tuple, isi_str_list, isi_tup_int, isi_tup_bool, isi_tup_str, isi_tup_tuple, isi_tup_list, isi_lst_int, isi_lst_bool, isi_lst_str, isi_lst_tuple, isi_lst_list, eq_bl, ne_bl, truth, parIn, parBack, i3, truth])]; rfl)]
    rw [seq_nx (ρ' := [.fz .non, .fz .non, .no]) (by rw [if_f (ρ' := [.fz .non, .fz .non, .no]) (by simp [fo_ok, th_nx, th_rt, th_bk, th_ct, op_s, ob_ok, oo_s, de_v, de_s, ds_n, ds_c, ts_n, ts_c, tv_v, tv_s, fl_rt, fl_nx, x_dHV, x_dVar, x_dC, x_dVH, x_dIt, x_dRg, x_tYesD, x_dU, x_sPut, x_d2, x_aNil, x_aCons, x_dN, x_pNone, x_pSome, x_dSl, x_dTup, x_dOV, x_dVO, x_dLst, x_tOf, x_tBl, x_dChain, x_tAndD, x_tOrD, x_tNotD, x_vAnd, x_vOr, x_vNot, x_dIf, x_dNeg, x_dIsN, x_dNotN, x_dNo, x_dR1, x_dR2, x_dLR, x_dIsi, x_sSkip, x_sBreak, x_sCont, x_sSeq, x_sIf, x_sDrop, x_sRet, x_asg, x_sSet, x_gNm, x_gN, x_gC, x_gTp, x_sAsg, x_sPar, x_g1, x_g2, x_go1, x_callD0, x_callD1, parOf, putV, lstOf, setL, frOf, Sl.view, add_int, sub_int, int_int, ixl, ixt, len_lst, len_tup, lt_int, gt_int, le_int, ge_int, eq_int, ne_int, at0, at1, at2, at3, notNo, isNone, tupOf, x_dBk, isi_non_int, isi_non_bool, isi_non_str, isi_non_tuple, isi_non_list, isi_bl_int, isi_bl_bool, isi_bl_str, isi_bl_tuple, isi_bl_list, isi_int_int, isi_int_bool, isi_int_str, isi_int_tuple, isi_int_list, isi_str_int, isi_str_bool, isi_str_str, isi_str_tuple, isi_str_list, isi_tup_int, isi_tup_bool, isi_tup_str, isi_tup_tuple, isi_tup_list, isi_lst_int, isi_lst_bool, isi_lst_str, isi_lst_tuple, isi_lst_list, eq_bl, ne_bl, truth, parIn, parBack, i4, i5, truth])]; rfl)]
    simp [fo_ok, th_nx, th_rt, th_bk, th_ct, op_s, ob_ok, oo_s, de_v, de_s, ds_n, ds_c, ts_n, ts_c, tv_v, tv_s, fl_rt, fl_nx, x_dHV, x_dVar, x_dC, x_dVH, x_dIt, x_dRg, x_tYesD, x_dU, x_sPut, x_d2, x_aNil, x_aCons, x_dN, x_pNone, x_pSome, x_dSl, x_dTup, x_dOV, x_dVO, x_dLst, x_tOf, x_tBl, x_dChain, x_tAndD, x_tOrD, x_tNotD, x_vAnd, x_vOr, x_vNot, x_dIf, x_dNeg, x_dIsN, x_dNotN, x_dNo, x_dR1, x_dR2, x_dLR, x_dIsi, x_sSkip, x_sBreak, x_sCont, x_sSeq, x_sIf, x_sDrop, x_sRet, x_asg, x_sSet, x_gNm, x_gN, x_gC, x_gTp, x_sAsg, x_sPar, x_g1, x_g2, x_go1, x_callD0, x_callD1, parOf, putV, lstOf, setL, frOf, Sl.view, add_int, sub_int, int_int, ixl, ixt, len_lst, len_tup, lt_int, gt_int, le_int, ge_int, eq_int, ne_int, at0, at1, at2, at3, notNo, isNone, tupOf, x_dBk, isi_non_int, isi_non_bool, isi_non_str, isi_non_tuple, isi_non_list, isi_bl_int, isi_bl_bool, isi_bl_str, isi_bl_tuple, isi_bl_list, isi_int_int, isi_int_bool, isi_int_str, isi_int_tuple, isi_int_list, isi_str_int, isi_str_bool, isi_str_str, isi_str_tuple, isi_str_list, isi_tup_int, isi_tup_bool, isi_tup_str, isi_tup_tuple, isi_tup_list, isi_lst_int, isi_lst_bool, isi_lst_str, isi_lst_tuple, isi_lst_list, eq_bl, ne_bl, truth, parIn, parBack, truth]
  | _ => simp [gd] at g
theorem same_ok : ∀ n : Nat, SameOk (E__law_same n) n
  | 0 => fun x _ h _ => absurd h (Nat.not_lt_zero _)
  | n + 1 => fun x g h w => by
    rw [s__law_same]
    exact same_core (E__law_same n) (lv__law_same n).2.2 n (same_ok n) x g h w

/-! ### stays judged -/
def cnt (lo hi : Int) : Val → Bool
  | .int n => decide (lo ≤ n) && decide (n ≤ hi)
  | _ => false
def CountOk (e : FnE) : Prop := e.np = 3 ∧ ∀ (L : Nat) (x : Val) (lo hi : Int), nice L x = true → e.sem [.fz x, .fz (.int lo), .fz (.int hi)] = .ok (.fz (.bl (cnt lo hi x)), .no)
theorem count_ok : CountOk E_is_count := by
  refine ⟨rfl, fun L x lo hi h => ?_⟩
  rw [s_is_count]
  cases x with
  | int n =>
    by_cases h1 : lo ≤ n
    · by_cases h2 : n ≤ hi <;> simp [D_is_count, fo_ok, th_nx, th_rt, th_bk, th_ct, op_s, ob_ok, oo_s, de_v, de_s, ds_n, ds_c, ts_n, ts_c, tv_v, tv_s, fl_rt, fl_nx, x_dHV, x_dVar, x_dC, x_dVH, x_dIt, x_dRg, x_tYesD, x_dU, x_sPut, x_d2, x_aNil, x_aCons, x_dN, x_pNone, x_pSome, x_dSl, x_dTup, x_dOV, x_dVO, x_dLst, x_tOf, x_tBl, x_dChain, x_tAndD, x_tOrD, x_tNotD, x_vAnd, x_vOr, x_vNot, x_dIf, x_dNeg, x_dIsN, x_dNotN, x_dNo, x_dR1, x_dR2, x_dLR, x_dIsi, x_sSkip, x_sBreak, x_sCont, x_sSeq, x_sIf, x_sDrop, x_sRet, x_asg, x_sSet, x_gNm, x_gN, x_gC, x_gTp, x_sAsg, x_sPar, x_g1, x_g2, x_go1, x_callD0, x_callD1, parOf, putV, lstOf, setL, frOf, Sl.view, add_int, sub_int, int_int, ixl, ixt, len_lst, len_tup, lt_int, gt_int, le_int, ge_int, eq_int, ne_int, at0, at1, at2, at3, notNo, isNone, tupOf, x_dBk, isi_non_int, isi_non_bool, isi_non_str, isi_non_tuple, isi_non_list, isi_bl_int, isi_bl_bool, isi_bl_str, isi_bl_tuple, isi_bl_list, isi_int_int, isi_int_bool, isi_int_str, isi_int_tuple, isi_int_list, isi_str_int, isi_str_bool, isi_str_str, isi_str_tuple, isi_str_list, isi_tup_int, isi_tup_bool, isi_tup_str, isi_tup_tuple, isi_tup_list, isi_lst_int, isi_lst_bool, isi_lst_str, isi_lst_tuple, isi_lst_list, eq_bl, ne_bl, truth, parIn, parBack, cnt, h1, h2]
    · simp [D_is_count, fo_ok, th_nx, th_rt, th_bk, th_ct, op_s, ob_ok, oo_s, de_v, de_s, ds_n, ds_c, ts_n, ts_c, tv_v, tv_s, fl_rt, fl_nx, x_dHV, x_dVar, x_dC, x_dVH, x_dIt, x_dRg, x_tYesD, x_dU, x_sPut, x_d2, x_aNil, x_aCons, x_dN, x_pNone, x_pSome, x_dSl, x_dTup, x_dOV, x_dVO, x_dLst, x_tOf, x_tBl, x_dChain, x_tAndD, x_tOrD, x_tNotD, x_vAnd, x_vOr, x_vNot, x_dIf, x_dNeg, x_dIsN, x_dNotN, x_dNo, x_dR1, x_dR2, x_dLR, x_dIsi, x_sSkip, x_sBreak, x_sCont, x_sSeq, x_sIf, x_sDrop, x_sRet, x_asg, x_sSet, x_gNm, x_gN, x_gC, x_gTp, x_sAsg, x_sPar, x_g1, x_g2, x_go1, x_callD0, x_callD1, parOf, putV, lstOf, setL, frOf, Sl.view, add_int, sub_int, int_int, ixl, ixt, len_lst, len_tup, lt_int, gt_int, le_int, ge_int, eq_int, ne_int, at0, at1, at2, at3, notNo, isNone, tupOf, x_dBk, isi_non_int, isi_non_bool, isi_non_str, isi_non_tuple, isi_non_list, isi_bl_int, isi_bl_bool, isi_bl_str, isi_bl_tuple, isi_bl_list, isi_int_int, isi_int_bool, isi_int_str, isi_int_tuple, isi_int_list, isi_str_int, isi_str_bool, isi_str_str, isi_str_tuple, isi_str_list, isi_tup_int, isi_tup_bool, isi_tup_str, isi_tup_tuple, isi_tup_list, isi_lst_int, isi_lst_bool, isi_lst_str, isi_lst_tuple, isi_lst_list, eq_bl, ne_bl, truth, parIn, parBack, cnt, h1]
  | bl b => simp [D_is_count, fo_ok, th_nx, th_rt, th_bk, th_ct, op_s, ob_ok, oo_s, de_v, de_s, ds_n, ds_c, ts_n, ts_c, tv_v, tv_s, fl_rt, fl_nx, x_dHV, x_dVar, x_dC, x_dVH, x_dIt, x_dRg, x_tYesD, x_dU, x_sPut, x_d2, x_aNil, x_aCons, x_dN, x_pNone, x_pSome, x_dSl, x_dTup, x_dOV, x_dVO, x_dLst, x_tOf, x_tBl, x_dChain, x_tAndD, x_tOrD, x_tNotD, x_vAnd, x_vOr, x_vNot, x_dIf, x_dNeg, x_dIsN, x_dNotN, x_dNo, x_dR1, x_dR2, x_dLR, x_dIsi, x_sSkip, x_sBreak, x_sCont, x_sSeq, x_sIf, x_sDrop, x_sRet, x_asg, x_sSet, x_gNm, x_gN, x_gC, x_gTp, x_sAsg, x_sPar, x_g1, x_g2, x_go1, x_callD0, x_callD1, parOf, putV, lstOf, setL, frOf, Sl.view, add_int, sub_int, int_int, ixl, ixt, len_lst, len_tup, lt_int, gt_int, le_int, ge_int, eq_int, ne_int, at0, at1, at2, at3, notNo, isNone, tupOf, x_dBk, isi_non_int, isi_non_bool, isi_non_str, isi_non_tuple, isi_non_list, isi_bl_int, isi_bl_bool, isi_bl_str, isi_bl_tuple, isi_bl_list, isi_int_int, isi_int_bool, isi_int_str, isi_int_tuple, isi_int_list, isi_str_int, isi_str_bool, isi_str_str, isi_str_tuple, isi_str_list, isi_tup_int, isi_tup_bool, isi_tup_str, isi_tup_tuple, isi_tup_list, isi_lst_int, isi_lst_bool, isi_lst_str, isi_lst_tuple, isi_lst_list, eq_bl, ne_bl, truth, parIn, parBack, cnt]
  | str s => simp [D_is_count, fo_ok, th_nx, th_rt, th_bk, th_ct, op_s, ob_ok, oo_s, de_v, de_s, ds_n, ds_c, ts_n, ts_c, tv_v, tv_s, fl_rt, fl_nx, x_dHV, x_dVar, x_dC, x_dVH, x_dIt, x_dRg, x_tYesD, x_dU, x_sPut, x_d2, x_aNil, x_aCons, x_dN, x_pNone, x_pSome, x_dSl, x_dTup, x_dOV, x_dVO, x_dLst, x_tOf, x_tBl, x_dChain, x_tAndD, x_tOrD, x_tNotD, x_vAnd, x_vOr, x_vNot, x_dIf, x_dNeg, x_dIsN, x_dNotN, x_dNo, x_dR1, x_dR2, x_dLR, x_dIsi, x_sSkip, x_sBreak, x_sCont, x_sSeq, x_sIf, x_sDrop, x_sRet, x_asg, x_sSet, x_gNm, x_gN, x_gC, x_gTp, x_sAsg, x_sPar, x_g1, x_g2, x_go1, x_callD0, x_callD1, parOf, putV, lstOf, setL, frOf, Sl.view, add_int, sub_int, int_int, ixl, ixt, len_lst, len_tup, lt_int, gt_int, le_int, ge_int, eq_int, ne_int, at0, at1, at2, at3, notNo, isNone, tupOf, x_dBk, isi_non_int, isi_non_bool, isi_non_str, isi_non_tuple, isi_non_list, isi_bl_int, isi_bl_bool, isi_bl_str, isi_bl_tuple, isi_bl_list, isi_int_int, isi_int_bool, isi_int_str, isi_int_tuple, isi_int_list, isi_str_int, isi_str_bool, isi_str_str, isi_str_tuple, isi_str_list, isi_tup_int, isi_tup_bool, isi_tup_str, isi_tup_tuple, isi_tup_list, isi_lst_int, isi_lst_bool, isi_lst_str, isi_lst_tuple, isi_lst_list, eq_bl, ne_bl, truth, parIn, parBack, cnt]
  | non => simp [D_is_count, fo_ok, th_nx, th_rt, th_bk, th_ct, op_s, ob_ok, oo_s, de_v, de_s, ds_n, ds_c, ts_n, ts_c, tv_v, tv_s, fl_rt, fl_nx, x_dHV, x_dVar, x_dC, x_dVH, x_dIt, x_dRg, x_tYesD, x_dU, x_sPut, x_d2, x_aNil, x_aCons, x_dN, x_pNone, x_pSome, x_dSl, x_dTup, x_dOV, x_dVO, x_dLst, x_tOf, x_tBl, x_dChain, x_tAndD, x_tOrD, x_tNotD, x_vAnd, x_vOr, x_vNot, x_dIf, x_dNeg, x_dIsN, x_dNotN, x_dNo, x_dR1, x_dR2, x_dLR, x_dIsi, x_sSkip, x_sBreak, x_sCont, x_sSeq, x_sIf, x_sDrop, x_sRet, x_asg, x_sSet, x_gNm, x_gN, x_gC, x_gTp, x_sAsg, x_sPar, x_g1, x_g2, x_go1, x_callD0, x_callD1, parOf, putV, lstOf, setL, frOf, Sl.view, add_int, sub_int, int_int, ixl, ixt, len_lst, len_tup, lt_int, gt_int, le_int, ge_int, eq_int, ne_int, at0, at1, at2, at3, notNo, isNone, tupOf, x_dBk, isi_non_int, isi_non_bool, isi_non_str, isi_non_tuple, isi_non_list, isi_bl_int, isi_bl_bool, isi_bl_str, isi_bl_tuple, isi_bl_list, isi_int_int, isi_int_bool, isi_int_str, isi_int_tuple, isi_int_list, isi_str_int, isi_str_bool, isi_str_str, isi_str_tuple, isi_str_list, isi_tup_int, isi_tup_bool, isi_tup_str, isi_tup_tuple, isi_tup_list, isi_lst_int, isi_lst_bool, isi_lst_str, isi_lst_tuple, isi_lst_list, eq_bl, ne_bl, truth, parIn, parBack, cnt]
  | tup xs => simp [D_is_count, fo_ok, th_nx, th_rt, th_bk, th_ct, op_s, ob_ok, oo_s, de_v, de_s, ds_n, ds_c, ts_n, ts_c, tv_v, tv_s, fl_rt, fl_nx, x_dHV, x_dVar, x_dC, x_dVH, x_dIt, x_dRg, x_tYesD, x_dU, x_sPut, x_d2, x_aNil, x_aCons, x_dN, x_pNone, x_pSome, x_dSl, x_dTup, x_dOV, x_dVO, x_dLst, x_tOf, x_tBl, x_dChain, x_tAndD, x_tOrD, x_tNotD, x_vAnd, x_vOr, x_vNot, x_dIf, x_dNeg, x_dIsN, x_dNotN, x_dNo, x_dR1, x_dR2, x_dLR, x_dIsi, x_sSkip, x_sBreak, x_sCont, x_sSeq, x_sIf, x_sDrop, x_sRet, x_asg, x_sSet, x_gNm, x_gN, x_gC, x_gTp, x_sAsg, x_sPar, x_g1, x_g2, x_go1, x_callD0, x_callD1, parOf, putV, lstOf, setL, frOf, Sl.view, add_int, sub_int, int_int, ixl, ixt, len_lst, len_tup, lt_int, gt_int, le_int, ge_int, eq_int, ne_int, at0, at1, at2, at3, notNo, isNone, tupOf, x_dBk, isi_non_int, isi_non_bool, isi_non_str, isi_non_tuple, isi_non_list, isi_bl_int, isi_bl_bool, isi_bl_str, isi_bl_tuple, isi_bl_list, isi_int_int, isi_int_bool, isi_int_str, isi_int_tuple, isi_int_list, isi_str_int, isi_str_bool, isi_str_str, isi_str_tuple, isi_str_list, isi_tup_int, isi_tup_bool, isi_tup_str, isi_tup_tuple, isi_tup_list, isi_lst_int, isi_lst_bool, isi_lst_str, isi_lst_tuple, isi_lst_list, eq_bl, ne_bl, truth, parIn, parBack, cnt]
  | _ => simp [nice] at h
def stayB : Val → Bool
  | .tup [x, y] => cnt 0 1000000 x && cnt 0 1000000 y && (match x, y with | .int a, .int b => decide (a ≤ b) | _, _ => false)
  | _ => false
def StayOk (e : FnE) : Prop := e.np = 1 ∧ ∀ (L : Nat) (x : Val), nice L x = true → e.sem [.fz x] = .ok (.fz (.bl (stayB x)), .no)
theorem cnt_int {lo hi : Int} {x : Val} (h : cnt lo hi x = true) : ∃ n, x = .int n := by
  cases x with
  | int n => exact ⟨n, rfl⟩
  | _ => simp [cnt] at h
theorem stay_core (e : FnE) (he : CountOk e) (L : Nat) (x : Val) (h : nice L x = true) : flRes 1 none (D_is_stay e [.fz x]) = .ok (.fz (.bl (stayB x)), .no) := by
  obtain ⟨np, hc⟩ := he
  cases x with
  | tup xs =>
    match xs, h with
    | [], _ => simp [D_is_stay, fo_ok, th_nx, th_rt, th_bk, th_ct, op_s, ob_ok, oo_s, de_v, de_s, ds_n, ds_c, ts_n, ts_c, tv_v, tv_s, fl_rt, fl_nx, x_dHV, x_dVar, x_dC, x_dVH, x_dIt, x_dRg, x_tYesD, x_dU, x_sPut, x_d2, x_aNil, x_aCons, x_dN, x_pNone, x_pSome, x_dSl, x_dTup, x_dOV, x_dVO, x_dLst, x_tOf, x_tBl, x_dChain, x_tAndD, x_tOrD, x_tNotD, x_vAnd, x_vOr, x_vNot, x_dIf, x_dNeg, x_dIsN, x_dNotN, x_dNo, x_dR1, x_dR2, x_dLR, x_dIsi, x_sSkip, x_sBreak, x_sCont, x_sSeq, x_sIf, x_sDrop, x_sRet, x_asg, x_sSet, x_gNm, x_gN, x_gC, x_gTp, x_sAsg, x_sPar, x_g1, x_g2, x_go1, x_callD0, x_callD1, parOf, putV, lstOf, setL, frOf, Sl.view, add_int, sub_int, int_int, ixl, ixt, len_lst, len_tup, lt_int, gt_int, le_int, ge_int, eq_int, ne_int, at0, at1, at2, at3, notNo, isNone, tupOf, x_dBk, isi_non_int, isi_non_bool, isi_non_str, isi_non_tuple, isi_non_list, isi_bl_int, isi_bl_bool, isi_bl_str, isi_bl_tuple, isi_bl_list, isi_int_int, isi_int_bool, isi_int_str, isi_int_tuple, isi_int_list, isi_str_int, isi_str_bool, isi_str_str, isi_str_tuple, isi_str_list, isi_tup_int, isi_tup_bool, isi_tup_str, isi_tup_tuple, isi_tup_list, isi_lst_int, isi_lst_bool, isi_lst_str, isi_lst_tuple, isi_lst_list, eq_bl, ne_bl, truth, parIn, parBack, stayB]
    | [a], _ => simp [D_is_stay, fo_ok, th_nx, th_rt, th_bk, th_ct, op_s, ob_ok, oo_s, de_v, de_s, ds_n, ds_c, ts_n, ts_c, tv_v, tv_s, fl_rt, fl_nx, x_dHV, x_dVar, x_dC, x_dVH, x_dIt, x_dRg, x_tYesD, x_dU, x_sPut, x_d2, x_aNil, x_aCons, x_dN, x_pNone, x_pSome, x_dSl, x_dTup, x_dOV, x_dVO, x_dLst, x_tOf, x_tBl, x_dChain, x_tAndD, x_tOrD, x_tNotD, x_vAnd, x_vOr, x_vNot, x_dIf, x_dNeg, x_dIsN, x_dNotN, x_dNo, x_dR1, x_dR2, x_dLR, x_dIsi, x_sSkip, x_sBreak, x_sCont, x_sSeq, x_sIf, x_sDrop, x_sRet, x_asg, x_sSet, x_gNm, x_gN, x_gC, x_gTp, x_sAsg, x_sPar, x_g1, x_g2, x_go1, x_callD0, x_callD1, parOf, putV, lstOf, setL, frOf, Sl.view, add_int, sub_int, int_int, ixl, ixt, len_lst, len_tup, lt_int, gt_int, le_int, ge_int, eq_int, ne_int, at0, at1, at2, at3, notNo, isNone, tupOf, x_dBk, isi_non_int, isi_non_bool, isi_non_str, isi_non_tuple, isi_non_list, isi_bl_int, isi_bl_bool, isi_bl_str, isi_bl_tuple, isi_bl_list, isi_int_int, isi_int_bool, isi_int_str, isi_int_tuple, isi_int_list, isi_str_int, isi_str_bool, isi_str_str, isi_str_tuple, isi_str_list, isi_tup_int, isi_tup_bool, isi_tup_str, isi_tup_tuple, isi_tup_list, isi_lst_int, isi_lst_bool, isi_lst_str, isi_lst_tuple, isi_lst_list, eq_bl, ne_bl, truth, parIn, parBack, stayB]
    | a :: b :: c :: r, _ =>
      have : ¬ ((r.length : Int) + 1 + 1 + 1 = 2) := by omega
      simp [D_is_stay, fo_ok, th_nx, th_rt, th_bk, th_ct, op_s, ob_ok, oo_s, de_v, de_s, ds_n, ds_c, ts_n, ts_c, tv_v, tv_s, fl_rt, fl_nx, x_dHV, x_dVar, x_dC, x_dVH, x_dIt, x_dRg, x_tYesD, x_dU, x_sPut, x_d2, x_aNil, x_aCons, x_dN, x_pNone, x_pSome, x_dSl, x_dTup, x_dOV, x_dVO, x_dLst, x_tOf, x_tBl, x_dChain, x_tAndD, x_tOrD, x_tNotD, x_vAnd, x_vOr, x_vNot, x_dIf, x_dNeg, x_dIsN, x_dNotN, x_dNo, x_dR1, x_dR2, x_dLR, x_dIsi, x_sSkip, x_sBreak, x_sCont, x_sSeq, x_sIf, x_sDrop, x_sRet, x_asg, x_sSet, x_gNm, x_gN, x_gC, x_gTp, x_sAsg, x_sPar, x_g1, x_g2, x_go1, x_callD0, x_callD1, parOf, putV, lstOf, setL, frOf, Sl.view, add_int, sub_int, int_int, ixl, ixt, len_lst, len_tup, lt_int, gt_int, le_int, ge_int, eq_int, ne_int, at0, at1, at2, at3, notNo, isNone, tupOf, x_dBk, isi_non_int, isi_non_bool, isi_non_str, isi_non_tuple, isi_non_list, isi_bl_int, isi_bl_bool, isi_bl_str, isi_bl_tuple, isi_bl_list, isi_int_int, isi_int_bool, isi_int_str, isi_int_tuple, isi_int_list, isi_str_int, isi_str_bool, isi_str_str, isi_str_tuple, isi_str_list, isi_tup_int, isi_tup_bool, isi_tup_str, isi_tup_tuple, isi_tup_list, isi_lst_int, isi_lst_bool, isi_lst_str, isi_lst_tuple, isi_lst_list, eq_bl, ne_bl, truth, parIn, parBack, stayB, this]
    | [a, b], h =>
      have h2 : nices L [a, b] = true := by simp only [nice, Bool.and_eq_true] at h; exact h.2
      have ha := nices_all.mp h2 a (by simp)
      have hb := nices_all.mp h2 b (by simp)
      have ca := hc L a 0 1000000 ha
      have cb := hc L b 0 1000000 hb
      cases qa : cnt 0 1000000 a with
      | false =>
        rw [qa] at ca
        simp [D_is_stay, fo_ok, th_nx, th_rt, th_bk, th_ct, op_s, ob_ok, oo_s, de_v, de_s, ds_n, ds_c, ts_n, ts_c, tv_v, tv_s, fl_rt, fl_nx, x_dHV, x_dVar, x_dC, x_dVH, x_dIt, x_dRg, x_tYesD, x_dU, x_sPut, x_d2, x_aNil, x_aCons, x_dN, x_pNone, x_pSome, x_dSl, x_dTup, x_dOV, x_dVO, x_dLst, x_tOf, x_tBl, x_dChain, x_tAndD, x_tOrD, x_tNotD, x_vAnd, x_vOr, x_vNot, x_dIf, x_dNeg, x_dIsN, x_dNotN, x_dNo, x_dR1, x_dR2, x_dLR, x_dIsi, x_sSkip, x_sBreak, x_sCont, x_sSeq, x_sIf, x_sDrop, x_sRet, x_asg, x_sSet, x_gNm, x_gN, x_gC, x_gTp, x_sAsg, x_sPar, x_g1, x_g2, x_go1, x_callD0, x_callD1, parOf, putV, lstOf, setL, frOf, Sl.view, add_int, sub_int, int_int, ixl, ixt, len_lst, len_tup, lt_int, gt_int, le_int, ge_int, eq_int, ne_int, at0, at1, at2, at3, notNo, isNone, tupOf, x_dBk, isi_non_int, isi_non_bool, isi_non_str, isi_non_tuple, isi_non_list, isi_bl_int, isi_bl_bool, isi_bl_str, isi_bl_tuple, isi_bl_list, isi_int_int, isi_int_bool, isi_int_str, isi_int_tuple, isi_int_list, isi_str_int, isi_str_bool, isi_str_str, isi_str_tuple, isi_str_list, isi_tup_int, isi_tup_bool, isi_tup_str, isi_tup_tuple, isi_tup_list, isi_lst_int, isi_lst_bool, isi_lst_str, isi_lst_tuple, isi_lst_list, eq_bl, ne_bl, truth, parIn, parBack, stayB, np, ca, qa]
      | true =>
        cases qb : cnt 0 1000000 b with
        | false =>
          rw [qa] at ca; rw [qb] at cb
          simp [D_is_stay, fo_ok, th_nx, th_rt, th_bk, th_ct, op_s, ob_ok, oo_s, de_v, de_s, ds_n, ds_c, ts_n, ts_c, tv_v, tv_s, fl_rt, fl_nx, x_dHV, x_dVar, x_dC, x_dVH, x_dIt, x_dRg, x_tYesD, x_dU, x_sPut, x_d2, x_aNil, x_aCons, x_dN, x_pNone, x_pSome, x_dSl, x_dTup, x_dOV, x_dVO, x_dLst, x_tOf, x_tBl, x_dChain, x_tAndD, x_tOrD, x_tNotD, x_vAnd, x_vOr, x_vNot, x_dIf, x_dNeg, x_dIsN, x_dNotN, x_dNo, x_dR1, x_dR2, x_dLR, x_dIsi, x_sSkip, x_sBreak, x_sCont, x_sSeq, x_sIf, x_sDrop, x_sRet, x_asg, x_sSet, x_gNm, x_gN, x_gC, x_gTp, x_sAsg, x_sPar, x_g1, x_g2, x_go1, x_callD0, x_callD1, parOf, putV, lstOf, setL, frOf, Sl.view, add_int, sub_int, int_int, ixl, ixt, len_lst, len_tup, lt_int, gt_int, le_int, ge_int, eq_int, ne_int, at0, at1, at2, at3, notNo, isNone, tupOf, x_dBk, isi_non_int, isi_non_bool, isi_non_str, isi_non_tuple, isi_non_list, isi_bl_int, isi_bl_bool, isi_bl_str, isi_bl_tuple, isi_bl_list, isi_int_int, isi_int_bool, isi_int_str, isi_int_tuple, isi_int_list, isi_str_int, isi_str_bool, isi_str_str, isi_str_tuple, isi_str_list, isi_tup_int, isi_tup_bool, isi_tup_str, isi_tup_tuple, isi_tup_list, isi_lst_int, isi_lst_bool, isi_lst_str, isi_lst_tuple, isi_lst_list, eq_bl, ne_bl, truth, parIn, parBack, stayB, np, ca, cb, qa, qb]
        | true =>
          obtain ⟨m, rfl⟩ := cnt_int qa
          obtain ⟨n, rfl⟩ := cnt_int qb
          rw [qa] at ca; rw [qb] at cb
          simp [D_is_stay, fo_ok, th_nx, th_rt, th_bk, th_ct, op_s, ob_ok, oo_s, de_v, de_s, ds_n, ds_c, ts_n, ts_c, tv_v, tv_s, fl_rt, fl_nx, x_dHV, x_dVar, x_dC, x_dVH, x_dIt, x_dRg, x_tYesD, x_dU, x_sPut, x_d2, x_aNil, x_aCons, x_dN, x_pNone, x_pSome, x_dSl, x_dTup, x_dOV, x_dVO, x_dLst, x_tOf, x_tBl, x_dChain, x_tAndD, x_tOrD, x_tNotD, x_vAnd, x_vOr, x_vNot, x_dIf, x_dNeg, x_dIsN, x_dNotN, x_dNo, x_dR1, x_dR2, x_dLR, x_dIsi, x_sSkip, x_sBreak, x_sCont, x_sSeq, x_sIf, x_sDrop, x_sRet, x_asg, x_sSet, x_gNm, x_gN, x_gC, x_gTp, x_sAsg, x_sPar, x_g1, x_g2, x_go1, x_callD0, x_callD1, parOf, putV, lstOf, setL, frOf, Sl.view, add_int, sub_int, int_int, ixl, ixt, len_lst, len_tup, lt_int, gt_int, le_int, ge_int, eq_int, ne_int, at0, at1, at2, at3, notNo, isNone, tupOf, x_dBk, isi_non_int, isi_non_bool, isi_non_str, isi_non_tuple, isi_non_list, isi_bl_int, isi_bl_bool, isi_bl_str, isi_bl_tuple, isi_bl_list, isi_int_int, isi_int_bool, isi_int_str, isi_int_tuple, isi_int_list, isi_str_int, isi_str_bool, isi_str_str, isi_str_tuple, isi_str_list, isi_tup_int, isi_tup_bool, isi_tup_str, isi_tup_tuple, isi_tup_list, isi_lst_int, isi_lst_bool, isi_lst_str, isi_lst_tuple, isi_lst_list, eq_bl, ne_bl, truth, parIn, parBack, stayB, np, ca, cb, qa, qb]
  | int n => simp [D_is_stay, fo_ok, th_nx, th_rt, th_bk, th_ct, op_s, ob_ok, oo_s, de_v, de_s, ds_n, ds_c, ts_n, ts_c, tv_v, tv_s, fl_rt, fl_nx, x_dHV, x_dVar, x_dC, x_dVH, x_dIt, x_dRg, x_tYesD, x_dU, x_sPut, x_d2, x_aNil, x_aCons, x_dN, x_pNone, x_pSome, x_dSl, x_dTup, x_dOV, x_dVO, x_dLst, x_tOf, x_tBl, x_dChain, x_tAndD, x_tOrD, x_tNotD, x_vAnd, x_vOr, x_vNot, x_dIf, x_dNeg, x_dIsN, x_dNotN, x_dNo, x_dR1, x_dR2, x_dLR, x_dIsi, x_sSkip, x_sBreak, x_sCont, x_sSeq, x_sIf, x_sDrop, x_sRet, x_asg, x_sSet, x_gNm, x_gN, x_gC, x_gTp, x_sAsg, x_sPar, x_g1, x_g2, x_go1, x_callD0, x_callD1, parOf, putV, lstOf, setL, frOf, Sl.view, add_int, sub_int, int_int, ixl, ixt, len_lst, len_tup, lt_int, gt_int, le_int, ge_int, eq_int, ne_int, at0, at1, at2, at3, notNo, isNone, tupOf, x_dBk, isi_non_int, isi_non_bool, isi_non_str, isi_non_tuple, isi_non_list, isi_bl_int, isi_bl_bool, isi_bl_str, isi_bl_tuple, isi_bl_list, isi_int_int, isi_int_bool, isi_int_str, isi_int_tuple, isi_int_list, isi_str_int, isi_str_bool, isi_str_str, isi_str_tuple, isi_str_list, isi_tup_int, isi_tup_bool, isi_tup_str, isi_tup_tuple, isi_tup_list, isi_lst_int, isi_lst_bool, isi_lst_str, isi_lst_tuple, isi_lst_list, eq_bl, ne_bl, truth, parIn, parBack, stayB]
  | bl b => simp [D_is_stay, fo_ok, th_nx, th_rt, th_bk, th_ct, op_s, ob_ok, oo_s, de_v, de_s, ds_n, ds_c, ts_n, ts_c, tv_v, tv_s, fl_rt, fl_nx, x_dHV, x_dVar, x_dC, x_dVH, x_dIt, x_dRg, x_tYesD, x_dU, x_sPut, x_d2, x_aNil, x_aCons, x_dN, x_pNone, x_pSome, x_dSl, x_dTup, x_dOV, x_dVO, x_dLst, x_tOf, x_tBl, x_dChain, x_tAndD, x_tOrD, x_tNotD, x_vAnd, x_vOr, x_vNot, x_dIf, x_dNeg, x_dIsN, x_dNotN, x_dNo, x_dR1, x_dR2, x_dLR, x_dIsi, x_sSkip, x_sBreak, x_sCont, x_sSeq, x_sIf, x_sDrop, x_sRet, x_asg, x_sSet, x_gNm, x_gN, x_gC, x_gTp, x_sAsg, x_sPar, x_g1, x_g2, x_go1, x_callD0, x_callD1, parOf, putV, lstOf, setL, frOf, Sl.view, add_int, sub_int, int_int, ixl, ixt, len_lst, len_tup, lt_int, gt_int, le_int, ge_int, eq_int, ne_int, at0, at1, at2, at3, notNo, isNone, tupOf, x_dBk, isi_non_int, isi_non_bool, isi_non_str, isi_non_tuple, isi_non_list, isi_bl_int, isi_bl_bool, isi_bl_str, isi_bl_tuple, isi_bl_list, isi_int_int, isi_int_bool, isi_int_str, isi_int_tuple, isi_int_list, isi_str_int, isi_str_bool, isi_str_str, isi_str_tuple, isi_str_list, isi_tup_int, isi_tup_bool, isi_tup_str, isi_tup_tuple, isi_tup_list, isi_lst_int, isi_lst_bool, isi_lst_str, isi_lst_tuple, isi_lst_list, eq_bl, ne_bl, truth, parIn, parBack, stayB]
  | str s => simp [D_is_stay, fo_ok, th_nx, th_rt, th_bk, th_ct, op_s, ob_ok, oo_s, de_v, de_s, ds_n, ds_c, ts_n, ts_c, tv_v, tv_s, fl_rt, fl_nx, x_dHV, x_dVar, x_dC, x_dVH, x_dIt, x_dRg, x_tYesD, x_dU, x_sPut, x_d2, x_aNil, x_aCons, x_dN, x_pNone, x_pSome, x_dSl, x_dTup, x_dOV, x_dVO, x_dLst, x_tOf, x_tBl, x_dChain, x_tAndD, x_tOrD, x_tNotD, x_vAnd, x_vOr, x_vNot, x_dIf, x_dNeg, x_dIsN, x_dNotN, x_dNo, x_dR1, x_dR2, x_dLR, x_dIsi, x_sSkip, x_sBreak, x_sCont, x_sSeq, x_sIf, x_sDrop, x_sRet, x_asg, x_sSet, x_gNm, x_gN, x_gC, x_gTp, x_sAsg, x_sPar, x_g1, x_g2, x_go1, x_callD0, x_callD1, parOf, putV, lstOf, setL, frOf, Sl.view, add_int, sub_int, int_int, ixl, ixt, len_lst, len_tup, lt_int, gt_int, le_int, ge_int, eq_int, ne_int, at0, at1, at2, at3, notNo, isNone, tupOf, x_dBk, isi_non_int, isi_non_bool, isi_non_str, isi_non_tuple, isi_non_list, isi_bl_int, isi_bl_bool, isi_bl_str, isi_bl_tuple, isi_bl_list, isi_int_int, isi_int_bool, isi_int_str, isi_int_tuple, isi_int_list, isi_str_int, isi_str_bool, isi_str_str, isi_str_tuple, isi_str_list, isi_tup_int, isi_tup_bool, isi_tup_str, isi_tup_tuple, isi_tup_list, isi_lst_int, isi_lst_bool, isi_lst_str, isi_lst_tuple, isi_lst_list, eq_bl, ne_bl, truth, parIn, parBack, stayB]
  | non => simp [D_is_stay, fo_ok, th_nx, th_rt, th_bk, th_ct, op_s, ob_ok, oo_s, de_v, de_s, ds_n, ds_c, ts_n, ts_c, tv_v, tv_s, fl_rt, fl_nx, x_dHV, x_dVar, x_dC, x_dVH, x_dIt, x_dRg, x_tYesD, x_dU, x_sPut, x_d2, x_aNil, x_aCons, x_dN, x_pNone, x_pSome, x_dSl, x_dTup, x_dOV, x_dVO, x_dLst, x_tOf, x_tBl, x_dChain, x_tAndD, x_tOrD, x_tNotD, x_vAnd, x_vOr, x_vNot, x_dIf, x_dNeg, x_dIsN, x_dNotN, x_dNo, x_dR1, x_dR2, x_dLR, x_dIsi, x_sSkip, x_sBreak, x_sCont, x_sSeq, x_sIf, x_sDrop, x_sRet, x_asg, x_sSet, x_gNm, x_gN, x_gC, x_gTp, x_sAsg, x_sPar, x_g1, x_g2, x_go1, x_callD0, x_callD1, parOf, putV, lstOf, setL, frOf, Sl.view, add_int, sub_int, int_int, ixl, ixt, len_lst, len_tup, lt_int, gt_int, le_int, ge_int, eq_int, ne_int, at0, at1, at2, at3, notNo, isNone, tupOf, x_dBk, isi_non_int, isi_non_bool, isi_non_str, isi_non_tuple, isi_non_list, isi_bl_int, isi_bl_bool, isi_bl_str, isi_bl_tuple, isi_bl_list, isi_int_int, isi_int_bool, isi_int_str, isi_int_tuple, isi_int_list, isi_str_int, isi_str_bool, isi_str_str, isi_str_tuple, isi_str_list, isi_tup_int, isi_tup_bool, isi_tup_str, isi_tup_tuple, isi_tup_list, isi_lst_int, isi_lst_bool, isi_lst_str, isi_lst_tuple, isi_lst_list, eq_bl, ne_bl, truth, parIn, parBack, stayB]
  | _ => simp [nice] at h
theorem stay_ok : StayOk E_is_stay := ⟨rfl, fun L x h => by rw [s_is_stay]; exact stay_core E_is_count count_ok L x h⟩
theorem lstay_lc (L : Nat) (a b : Val) (h : nices L [a, b] = true) : dLc (dIt (dVH (dVar 0))) (gNm 1) tYesD (vAnd (dIsi "int" (dVar 1)) (vAnd (vNot (dHV (dIsi "bool" (dVar 1)))) (dChain leV leV (dHV (dC (.int 0))) (dVar 1) (dHV (dC (.int 1000000)))))) [1] [.fz (.tup [a, b]), .no] = .ok (.own ([a, b].map fun x => .bl (cnt 0 1000000 x)), [.fz (.tup [a, b]), .no]) := by
  have k1 := lcL_map1 (g := gNm 1) (t := tYesD) (e := (vAnd (dIsi "int" (dVar 1)) (vAnd (vNot (dHV (dIsi "bool" (dVar 1)))) (dChain leV leV (dHV (dC (.int 0))) (dVar 1) (dHV (dC (.int 1000000))))))) (vs := [1]) id (fun x => .bl (cnt 0 1000000 x)) [.fz (.tup [a, b]), .no] [a, b] fun x hx => by
    have hn := nices_all.mp h x hx
    generalize Val.tup [a, b] = v
    refine ⟨[.fz v, .fz x], [.fz v, .fz x], [.fz v, .fz x], by simp [gNm], rfl, ?_, by simp [wipeE]⟩
    cases x with
    | int n =>
      by_cases h1 : 0 ≤ n
      · by_cases h2 : n ≤ 1000000 <;> simp [fo_ok, th_nx, th_rt, th_bk, th_ct, op_s, ob_ok, oo_s, de_v, de_s, ds_n, ds_c, ts_n, ts_c, tv_v, tv_s, fl_rt, fl_nx, x_dHV, x_dVar, x_dC, x_dVH, x_dIt, x_dRg, x_tYesD, x_dU, x_sPut, x_d2, x_aNil, x_aCons, x_dN, x_pNone, x_pSome, x_dSl, x_dTup, x_dOV, x_dVO, x_dLst, x_tOf, x_tBl, x_dChain, x_tAndD, x_tOrD, x_tNotD, x_vAnd, x_vOr, x_vNot, x_dIf, x_dNeg, x_dIsN, x_dNotN, x_dNo, x_dR1, x_dR2, x_dLR, x_dIsi, x_sSkip, x_sBreak, x_sCont, x_sSeq, x_sIf, x_sDrop, x_sRet, x_asg, x_sSet, x_gNm, x_gN, x_gC, x_gTp, x_sAsg, x_sPar, x_g1, x_g2, x_go1, x_callD0, x_callD1, parOf, putV, lstOf, setL, frOf, Sl.view, add_int, sub_int, int_int, ixl, ixt, len_lst, len_tup, lt_int, gt_int, le_int, ge_int, eq_int, ne_int, at0, at1, at2, at3, notNo, isNone, tupOf, x_dBk, isi_non_int, isi_non_bool, isi_non_str, isi_non_tuple, isi_non_list, isi_bl_int, isi_bl_bool, isi_bl_str, isi_bl_tuple, isi_bl_list, isi_int_int, isi_int_bool, isi_int_str, isi_int_tuple, isi_int_list, isi_str_int, isi_str_bool, isi_str_str, isi_str_tuple, isi_str_list, isi_tup_int, isi_tup_bool, isi_tup_str, isi_tup_tuple, isi_tup_list, isi_lst_int, isi_lst_bool, isi_lst_str, isi_lst_tuple, isi_lst_list, eq_bl, ne_bl, truth, parIn, parBack, cnt, h1, h2]
      · simp [fo_ok, th_nx, th_rt, th_bk, th_ct, op_s, ob_ok, oo_s, de_v, de_s, ds_n, ds_c, ts_n, ts_c, tv_v, tv_s, fl_rt, fl_nx, x_dHV, x_dVar, x_dC, x_dVH, x_dIt, x_dRg, x_tYesD, x_dU, x_sPut, x_d2, x_aNil, x_aCons, x_dN, x_pNone, x_pSome, x_dSl, x_dTup, x_dOV, x_dVO, x_dLst, x_tOf, x_tBl, x_dChain, x_tAndD, x_tOrD, x_tNotD, x_vAnd, x_vOr, x_vNot, x_dIf, x_dNeg, x_dIsN, x_dNotN, x_dNo, x_dR1, x_dR2, x_dLR, x_dIsi, x_sSkip, x_sBreak, x_sCont, x_sSeq, x_sIf, x_sDrop, x_sRet, x_asg, x_sSet, x_gNm, x_gN, x_gC, x_gTp, x_sAsg, x_sPar, x_g1, x_g2, x_go1, x_callD0, x_callD1, parOf, putV, lstOf, setL, frOf, Sl.view, add_int, sub_int, int_int, ixl, ixt, len_lst, len_tup, lt_int, gt_int, le_int, ge_int, eq_int, ne_int, at0, at1, at2, at3, notNo, isNone, tupOf, x_dBk, isi_non_int, isi_non_bool, isi_non_str, isi_non_tuple, isi_non_list, isi_bl_int, isi_bl_bool, isi_bl_str, isi_bl_tuple, isi_bl_list, isi_int_int, isi_int_bool, isi_int_str, isi_int_tuple, isi_int_list, isi_str_int, isi_str_bool, isi_str_str, isi_str_tuple, isi_str_list, isi_tup_int, isi_tup_bool, isi_tup_str, isi_tup_tuple, isi_tup_list, isi_lst_int, isi_lst_bool, isi_lst_str, isi_lst_tuple, isi_lst_list, eq_bl, ne_bl, truth, parIn, parBack, cnt, h1]
    | bl b => simp [fo_ok, th_nx, th_rt, th_bk, th_ct, op_s, ob_ok, oo_s, de_v, de_s, ds_n, ds_c, ts_n, ts_c, tv_v, tv_s, fl_rt, fl_nx, x_dHV, x_dVar, x_dC, x_dVH, x_dIt, x_dRg, x_tYesD, x_dU, x_sPut, x_d2, x_aNil, x_aCons, x_dN, x_pNone, x_pSome, x_dSl, x_dTup, x_dOV, x_dVO, x_dLst, x_tOf, x_tBl, x_dChain, x_tAndD, x_tOrD, x_tNotD, x_vAnd, x_vOr, x_vNot, x_dIf, x_dNeg, x_dIsN, x_dNotN, x_dNo, x_dR1, x_dR2, x_dLR, x_dIsi, x_sSkip, x_sBreak, x_sCont, x_sSeq, x_sIf, x_sDrop, x_sRet, x_asg, x_sSet, x_gNm, x_gN, x_gC, x_gTp, x_sAsg, x_sPar, x_g1, x_g2, x_go1, x_callD0, x_callD1, parOf, putV, lstOf, setL, frOf, Sl.view, add_int, sub_int, int_int, ixl, ixt, len_lst, len_tup, lt_int, gt_int, le_int, ge_int, eq_int, ne_int, at0, at1, at2, at3, notNo, isNone, tupOf, x_dBk, isi_non_int, isi_non_bool, isi_non_str, isi_non_tuple, isi_non_list, isi_bl_int, isi_bl_bool, isi_bl_str, isi_bl_tuple, isi_bl_list, isi_int_int, isi_int_bool, isi_int_str, isi_int_tuple, isi_int_list, isi_str_int, isi_str_bool, isi_str_str, isi_str_tuple, isi_str_list, isi_tup_int, isi_tup_bool, isi_tup_str, isi_tup_tuple, isi_tup_list, isi_lst_int, isi_lst_bool, isi_lst_str, isi_lst_tuple, isi_lst_list, eq_bl, ne_bl, truth, parIn, parBack, cnt]
    | str s => simp [fo_ok, th_nx, th_rt, th_bk, th_ct, op_s, ob_ok, oo_s, de_v, de_s, ds_n, ds_c, ts_n, ts_c, tv_v, tv_s, fl_rt, fl_nx, x_dHV, x_dVar, x_dC, x_dVH, x_dIt, x_dRg, x_tYesD, x_dU, x_sPut, x_d2, x_aNil, x_aCons, x_dN, x_pNone, x_pSome, x_dSl, x_dTup, x_dOV, x_dVO, x_dLst, x_tOf, x_tBl, x_dChain, x_tAndD, x_tOrD, x_tNotD, x_vAnd, x_vOr, x_vNot, x_dIf, x_dNeg, x_dIsN, x_dNotN, x_dNo, x_dR1, x_dR2, x_dLR, x_dIsi, x_sSkip, x_sBreak, x_sCont, x_sSeq, x_sIf, x_sDrop, x_sRet, x_asg, x_sSet, x_gNm, x_gN, x_gC, x_gTp, x_sAsg, x_sPar, x_g1, x_g2, x_go1, x_callD0, x_callD1, parOf, putV, lstOf, setL, frOf, Sl.view, add_int, sub_int, int_int, ixl, ixt, len_lst, len_tup, lt_int, gt_int, le_int, ge_int, eq_int, ne_int, at0, at1, at2, at3, notNo, isNone, tupOf, x_dBk, isi_non_int, isi_non_bool, isi_non_str, isi_non_tuple, isi_non_list, isi_bl_int, isi_bl_bool, isi_bl_str, isi_bl_tuple, isi_bl_list, isi_int_int, isi_int_bool, isi_int_str, isi_int_tuple, isi_int_list, isi_str_int, isi_str_bool, isi_str_str, isi_str_tuple, isi_str_list, isi_tup_int, isi_tup_bool, isi_tup_str, isi_tup_tuple, isi_tup_list, isi_lst_int, isi_lst_bool, isi_lst_str, isi_lst_tuple, isi_lst_list, eq_bl, ne_bl, truth, parIn, parBack, cnt]
    | non => simp [fo_ok, th_nx, th_rt, th_bk, th_ct, op_s, ob_ok, oo_s, de_v, de_s, ds_n, ds_c, ts_n, ts_c, tv_v, tv_s, fl_rt, fl_nx, x_dHV, x_dVar, x_dC, x_dVH, x_dIt, x_dRg, x_tYesD, x_dU, x_sPut, x_d2, x_aNil, x_aCons, x_dN, x_pNone, x_pSome, x_dSl, x_dTup, x_dOV, x_dVO, x_dLst, x_tOf, x_tBl, x_dChain, x_tAndD, x_tOrD, x_tNotD, x_vAnd, x_vOr, x_vNot, x_dIf, x_dNeg, x_dIsN, x_dNotN, x_dNo, x_dR1, x_dR2, x_dLR, x_dIsi, x_sSkip, x_sBreak, x_sCont, x_sSeq, x_sIf, x_sDrop, x_sRet, x_asg, x_sSet, x_gNm, x_gN, x_gC, x_gTp, x_sAsg, x_sPar, x_g1, x_g2, x_go1, x_callD0, x_callD1, parOf, putV, lstOf, setL, frOf, Sl.view, add_int, sub_int, int_int, ixl, ixt, len_lst, len_tup, lt_int, gt_int, le_int, ge_int, eq_int, ne_int, at0, at1, at2, at3, notNo, isNone, tupOf, x_dBk, isi_non_int, isi_non_bool, isi_non_str, isi_non_tuple, isi_non_list, isi_bl_int, isi_bl_bool, isi_bl_str, isi_bl_tuple, isi_bl_list, isi_int_int, isi_int_bool, isi_int_str, isi_int_tuple, isi_int_list, isi_str_int, isi_str_bool, isi_str_str, isi_str_tuple, isi_str_list, isi_tup_int, isi_tup_bool, isi_tup_str, isi_tup_tuple, isi_tup_list, isi_lst_int, isi_lst_bool, isi_lst_str, isi_lst_tuple, isi_lst_list, eq_bl, ne_bl, truth, parIn, parBack, cnt]
    | tup xs => simp [fo_ok, th_nx, th_rt, th_bk, th_ct, op_s, ob_ok, oo_s, de_v, de_s, ds_n, ds_c, ts_n, ts_c, tv_v, tv_s, fl_rt, fl_nx, x_dHV, x_dVar, x_dC, x_dVH, x_dIt, x_dRg, x_tYesD, x_dU, x_sPut, x_d2, x_aNil, x_aCons, x_dN, x_pNone, x_pSome, x_dSl, x_dTup, x_dOV, x_dVO, x_dLst, x_tOf, x_tBl, x_dChain, x_tAndD, x_tOrD, x_tNotD, x_vAnd, x_vOr, x_vNot, x_dIf, x_dNeg, x_dIsN, x_dNotN, x_dNo, x_dR1, x_dR2, x_dLR, x_dIsi, x_sSkip, x_sBreak, x_sCont, x_sSeq, x_sIf, x_sDrop, x_sRet, x_asg, x_sSet, x_gNm, x_gN, x_gC, x_gTp, x_sAsg, x_sPar, x_g1, x_g2, x_go1, x_callD0, x_callD1, parOf, putV, lstOf, setL, frOf, Sl.view, add_int, sub_int, int_int, ixl, ixt, len_lst, len_tup, lt_int, gt_int, le_int, ge_int, eq_int, ne_int, at0, at1, at2, at3, notNo, isNone, tupOf, x_dBk, isi_non_int, isi_non_bool, isi_non_str, isi_non_tuple, isi_non_list, isi_bl_int, isi_bl_bool, isi_bl_str, isi_bl_tuple, isi_bl_list, isi_int_int, isi_int_bool, isi_int_str, isi_int_tuple, isi_int_list, isi_str_int, isi_str_bool, isi_str_str, isi_str_tuple, isi_str_list, isi_tup_int, isi_tup_bool, isi_tup_str, isi_tup_tuple, isi_tup_list, isi_lst_int, isi_lst_bool, isi_lst_str, isi_lst_tuple, isi_lst_list, eq_bl, ne_bl, truth, parIn, parBack, cnt]
    | _ => simp [nice] at hn
  have k2 := lc_eq (it := dIt (dVH (dVar 0))) (xs := [a, b].map id) (ρ := [.fz (.tup [a, b]), .no]) (ρ1 := [.fz (.tup [a, b]), .no]) (by simp [fo_ok, th_nx, th_rt, th_bk, th_ct, op_s, ob_ok, oo_s, de_v, de_s, ds_n, ds_c, ts_n, ts_c, tv_v, tv_s, fl_rt, fl_nx, x_dHV, x_dVar, x_dC, x_dVH, x_dIt, x_dRg, x_tYesD, x_dU, x_sPut, x_d2, x_aNil, x_aCons, x_dN, x_pNone, x_pSome, x_dSl, x_dTup, x_dOV, x_dVO, x_dLst, x_tOf, x_tBl, x_dChain, x_tAndD, x_tOrD, x_tNotD, x_vAnd, x_vOr, x_vNot, x_dIf, x_dNeg, x_dIsN, x_dNotN, x_dNo, x_dR1, x_dR2, x_dLR, x_dIsi, x_sSkip, x_sBreak, x_sCont, x_sSeq, x_sIf, x_sDrop, x_sRet, x_asg, x_sSet, x_gNm, x_gN, x_gC, x_gTp, x_sAsg, x_sPar, x_g1, x_g2, x_go1, x_callD0, x_callD1, parOf, putV, lstOf, setL, frOf, Sl.view, add_int, sub_int, int_int, ixl, ixt, len_lst, len_tup, lt_int, gt_int, le_int, ge_int, eq_int, ne_int, at0, at1, at2, at3, notNo, isNone, tupOf, x_dBk, isi_non_int, isi_non_bool, isi_non_str, isi_non_tuple, isi_non_list, isi_bl_int, isi_bl_bool, isi_bl_str, isi_bl_tuple, isi_bl_list, isi_int_int, isi_int_bool, isi_int_str, isi_int_tuple, isi_int_list, isi_str_int, isi_str_bool, isi_str_str, isi_str_tuple, isi_str_list, isi_tup_int, isi_tup_bool, isi_tup_str, isi_tup_tuple, isi_tup_list, isi_lst_int, isi_lst_bool, isi_lst_str, isi_lst_tuple, isi_lst_list, eq_bl, ne_bl, truth, parIn, parBack, goesV]) (ok_size (by simp)) (by rw [show wipeE [Sl.fz (.tup [a, b]), .no] [1] = [.fz (.tup [a, b]), .no] from rfl]; exact k1)
  exact k2
theorem lstay_fin (X : DO) (a b : Val) (ys : List Val) (q : Bool) (hX : X [.fz (.tup [a, b]), .no] = .ok (.own ys, [.fz (.tup [a, b]), .no])) (ha : allV (.lst ys) = some (.bl q)) (r : Bool) (hr : q = true → ∃ m n, a = .int m ∧ b = .int n ∧ r = decide (m ≤ n)) :
    flRes 1 none ((sSeq (sIf (tOrD (tNotD (tOf (dHV (dIsi "tuple" (dVar 0))))) (tBl (d2 neV (dHV (dN (g1 lenV) (aCons (dVar 0) aNil))) (dHV (dC (.int 2)))))) (sRet (dOV (dC (.bl false)))) sSkip)
  (sRet (dOV (vAnd (dN (g1 allV) (aCons (dHV (dVO X)) aNil)) (d2 leV (dHV (d2 ixV (dVar 0) (dHV (dC (.int 0))))) (dHV (d2 ixV (dVar 0) (dHV (dC (.int 1)))))))))) [.fz (.tup [a, b]), .no]) = .ok (.fz (.bl (q && r)), .no) := by
  cases q with
  | false => simp [fo_ok, th_nx, th_rt, th_bk, th_ct, op_s, ob_ok, oo_s, de_v, de_s, ds_n, ds_c, ts_n, ts_c, tv_v, tv_s, fl_rt, fl_nx, x_dHV, x_dVar, x_dC, x_dVH, x_dIt, x_dRg, x_tYesD, x_dU, x_sPut, x_d2, x_aNil, x_aCons, x_dN, x_pNone, x_pSome, x_dSl, x_dTup, x_dOV, x_dVO, x_dLst, x_tOf, x_tBl, x_dChain, x_tAndD, x_tOrD, x_tNotD, x_vAnd, x_vOr, x_vNot, x_dIf, x_dNeg, x_dIsN, x_dNotN, x_dNo, x_dR1, x_dR2, x_dLR, x_dIsi, x_sSkip, x_sBreak, x_sCont, x_sSeq, x_sIf, x_sDrop, x_sRet, x_asg, x_sSet, x_gNm, x_gN, x_gC, x_gTp, x_sAsg, x_sPar, x_g1, x_g2, x_go1, x_callD0, x_callD1, parOf, putV, lstOf, setL, frOf, Sl.view, add_int, sub_int, int_int, ixl, ixt, len_lst, len_tup, lt_int, gt_int, le_int, ge_int, eq_int, ne_int, at0, at1, at2, at3, notNo, isNone, tupOf, x_dBk, isi_non_int, isi_non_bool, isi_non_str, isi_non_tuple, isi_non_list, isi_bl_int, isi_bl_bool, isi_bl_str, isi_bl_tuple, isi_bl_list, isi_int_int, isi_int_bool, isi_int_str, isi_int_tuple, isi_int_list, isi_str_int, isi_str_bool, isi_str_str, isi_str_tuple, isi_str_list, isi_tup_int, isi_tup_bool, isi_tup_str, isi_tup_tuple, isi_tup_list, isi_lst_int, isi_lst_bool, isi_lst_str, isi_lst_tuple, isi_lst_list, eq_bl, ne_bl, truth, parIn, parBack, hX, ha]
  | true =>
    obtain ⟨m, n, rfl, rfl, rfl⟩ := hr rfl
    simp [fo_ok, th_nx, th_rt, th_bk, th_ct, op_s, ob_ok, oo_s, de_v, de_s, ds_n, ds_c, ts_n, ts_c, tv_v, tv_s, fl_rt, fl_nx, x_dHV, x_dVar, x_dC, x_dVH, x_dIt, x_dRg, x_tYesD, x_dU, x_sPut, x_d2, x_aNil, x_aCons, x_dN, x_pNone, x_pSome, x_dSl, x_dTup, x_dOV, x_dVO, x_dLst, x_tOf, x_tBl, x_dChain, x_tAndD, x_tOrD, x_tNotD, x_vAnd, x_vOr, x_vNot, x_dIf, x_dNeg, x_dIsN, x_dNotN, x_dNo, x_dR1, x_dR2, x_dLR, x_dIsi, x_sSkip, x_sBreak, x_sCont, x_sSeq, x_sIf, x_sDrop, x_sRet, x_asg, x_sSet, x_gNm, x_gN, x_gC, x_gTp, x_sAsg, x_sPar, x_g1, x_g2, x_go1, x_callD0, x_callD1, parOf, putV, lstOf, setL, frOf, Sl.view, add_int, sub_int, int_int, ixl, ixt, len_lst, len_tup, lt_int, gt_int, le_int, ge_int, eq_int, ne_int, at0, at1, at2, at3, notNo, isNone, tupOf, x_dBk, isi_non_int, isi_non_bool, isi_non_str, isi_non_tuple, isi_non_list, isi_bl_int, isi_bl_bool, isi_bl_str, isi_bl_tuple, isi_bl_list, isi_int_int, isi_int_bool, isi_int_str, isi_int_tuple, isi_int_list, isi_str_int, isi_str_bool, isi_str_str, isi_str_tuple, isi_str_list, isi_tup_int, isi_tup_bool, isi_tup_str, isi_tup_tuple, isi_tup_list, isi_lst_int, isi_lst_bool, isi_lst_str, isi_lst_tuple, isi_lst_list, eq_bl, ne_bl, truth, parIn, parBack, hX, ha]
def le2 (a b : Val) : Bool := match a, b with | .int a, .int b => decide (a ≤ b) | _, _ => false
theorem lstay_ok : StayOk E__law_is_stay := by
  refine ⟨rfl, fun L x h => ?_⟩
  rw [s__law_is_stay]
  cases x with
  | tup xs =>
    match xs, h with
    | [], _ => simp [D__law_is_stay, fo_ok, th_nx, th_rt, th_bk, th_ct, op_s, ob_ok, oo_s, de_v, de_s, ds_n, ds_c, ts_n, ts_c, tv_v, tv_s, fl_rt, fl_nx, x_dHV, x_dVar, x_dC, x_dVH, x_dIt, x_dRg, x_tYesD, x_dU, x_sPut, x_d2, x_aNil, x_aCons, x_dN, x_pNone, x_pSome, x_dSl, x_dTup, x_dOV, x_dVO, x_dLst, x_tOf, x_tBl, x_dChain, x_tAndD, x_tOrD, x_tNotD, x_vAnd, x_vOr, x_vNot, x_dIf, x_dNeg, x_dIsN, x_dNotN, x_dNo, x_dR1, x_dR2, x_dLR, x_dIsi, x_sSkip, x_sBreak, x_sCont, x_sSeq, x_sIf, x_sDrop, x_sRet, x_asg, x_sSet, x_gNm, x_gN, x_gC, x_gTp, x_sAsg, x_sPar, x_g1, x_g2, x_go1, x_callD0, x_callD1, parOf, putV, lstOf, setL, frOf, Sl.view, add_int, sub_int, int_int, ixl, ixt, len_lst, len_tup, lt_int, gt_int, le_int, ge_int, eq_int, ne_int, at0, at1, at2, at3, notNo, isNone, tupOf, x_dBk, isi_non_int, isi_non_bool, isi_non_str, isi_non_tuple, isi_non_list, isi_bl_int, isi_bl_bool, isi_bl_str, isi_bl_tuple, isi_bl_list, isi_int_int, isi_int_bool, isi_int_str, isi_int_tuple, isi_int_list, isi_str_int, isi_str_bool, isi_str_str, isi_str_tuple, isi_str_list, isi_tup_int, isi_tup_bool, isi_tup_str, isi_tup_tuple, isi_tup_list, isi_lst_int, isi_lst_bool, isi_lst_str, isi_lst_tuple, isi_lst_list, eq_bl, ne_bl, truth, parIn, parBack, stayB]
    | [a], _ => simp [D__law_is_stay, fo_ok, th_nx, th_rt, th_bk, th_ct, op_s, ob_ok, oo_s, de_v, de_s, ds_n, ds_c, ts_n, ts_c, tv_v, tv_s, fl_rt, fl_nx, x_dHV, x_dVar, x_dC, x_dVH, x_dIt, x_dRg, x_tYesD, x_dU, x_sPut, x_d2, x_aNil, x_aCons, x_dN, x_pNone, x_pSome, x_dSl, x_dTup, x_dOV, x_dVO, x_dLst, x_tOf, x_tBl, x_dChain, x_tAndD, x_tOrD, x_tNotD, x_vAnd, x_vOr, x_vNot, x_dIf, x_dNeg, x_dIsN, x_dNotN, x_dNo, x_dR1, x_dR2, x_dLR, x_dIsi, x_sSkip, x_sBreak, x_sCont, x_sSeq, x_sIf, x_sDrop, x_sRet, x_asg, x_sSet, x_gNm, x_gN, x_gC, x_gTp, x_sAsg, x_sPar, x_g1, x_g2, x_go1, x_callD0, x_callD1, parOf, putV, lstOf, setL, frOf, Sl.view, add_int, sub_int, int_int, ixl, ixt, len_lst, len_tup, lt_int, gt_int, le_int, ge_int, eq_int, ne_int, at0, at1, at2, at3, notNo, isNone, tupOf, x_dBk, isi_non_int, isi_non_bool, isi_non_str, isi_non_tuple, isi_non_list, isi_bl_int, isi_bl_bool, isi_bl_str, isi_bl_tuple, isi_bl_list, isi_int_int, isi_int_bool, isi_int_str, isi_int_tuple, isi_int_list, isi_str_int, isi_str_bool, isi_str_str, isi_str_tuple, isi_str_list, isi_tup_int, isi_tup_bool, isi_tup_str, isi_tup_tuple, isi_tup_list, isi_lst_int, isi_lst_bool, isi_lst_str, isi_lst_tuple, isi_lst_list, eq_bl, ne_bl, truth, parIn, parBack, stayB]
    | a :: b :: c :: r, _ =>
      have : ¬ ((r.length : Int) + 1 + 1 + 1 = 2) := by omega
      simp [D__law_is_stay, fo_ok, th_nx, th_rt, th_bk, th_ct, op_s, ob_ok, oo_s, de_v, de_s, ds_n, ds_c, ts_n, ts_c, tv_v, tv_s, fl_rt, fl_nx, x_dHV, x_dVar, x_dC, x_dVH, x_dIt, x_dRg, x_tYesD, x_dU, x_sPut, x_d2, x_aNil, x_aCons, x_dN, x_pNone, x_pSome, x_dSl, x_dTup, x_dOV, x_dVO, x_dLst, x_tOf, x_tBl, x_dChain, x_tAndD, x_tOrD, x_tNotD, x_vAnd, x_vOr, x_vNot, x_dIf, x_dNeg, x_dIsN, x_dNotN, x_dNo, x_dR1, x_dR2, x_dLR, x_dIsi, x_sSkip, x_sBreak, x_sCont, x_sSeq, x_sIf, x_sDrop, x_sRet, x_asg, x_sSet, x_gNm, x_gN, x_gC, x_gTp, x_sAsg, x_sPar, x_g1, x_g2, x_go1, x_callD0, x_callD1, parOf, putV, lstOf, setL, frOf, Sl.view, add_int, sub_int, int_int, ixl, ixt, len_lst, len_tup, lt_int, gt_int, le_int, ge_int, eq_int, ne_int, at0, at1, at2, at3, notNo, isNone, tupOf, x_dBk, isi_non_int, isi_non_bool, isi_non_str, isi_non_tuple, isi_non_list, isi_bl_int, isi_bl_bool, isi_bl_str, isi_bl_tuple, isi_bl_list, isi_int_int, isi_int_bool, isi_int_str, isi_int_tuple, isi_int_list, isi_str_int, isi_str_bool, isi_str_str, isi_str_tuple, isi_str_list, isi_tup_int, isi_tup_bool, isi_tup_str, isi_tup_tuple, isi_tup_list, isi_lst_int, isi_lst_bool, isi_lst_str, isi_lst_tuple, isi_lst_list, eq_bl, ne_bl, truth, parIn, parBack, stayB, this]
    | [a, b], h =>
      have h2 : nices L [a, b] = true := by simp only [nice, Bool.and_eq_true] at h; exact h.2
      have k4 : stayB (.tup [a, b]) = ([a, b].all (fun x => cnt 0 1000000 x) && le2 a b) := by
        rw [List.all_cons, List.all_cons, List.all_nil, Bool.and_true]
        rfl
      rw [k4]
      exact lstay_fin _ a b _ _ (lstay_lc L a b h2) (all_map (fun x => cnt 0 1000000 x) [a, b]) _ fun q => by
        obtain ⟨m, rfl⟩ := cnt_int (List.all_eq_true.mp q a (by simp))
        obtain ⟨n, rfl⟩ := cnt_int (List.all_eq_true.mp q b (by simp))
        exact ⟨m, n, rfl, rfl, rfl⟩
  | int n => simp [D__law_is_stay, fo_ok, th_nx, th_rt, th_bk, th_ct, op_s, ob_ok, oo_s, de_v, de_s, ds_n, ds_c, ts_n, ts_c, tv_v, tv_s, fl_rt, fl_nx, x_dHV, x_dVar, x_dC, x_dVH, x_dIt, x_dRg, x_tYesD, x_dU, x_sPut, x_d2, x_aNil, x_aCons, x_dN, x_pNone, x_pSome, x_dSl, x_dTup, x_dOV, x_dVO, x_dLst, x_tOf, x_tBl, x_dChain, x_tAndD, x_tOrD, x_tNotD, x_vAnd, x_vOr, x_vNot, x_dIf, x_dNeg, x_dIsN, x_dNotN, x_dNo, x_dR1, x_dR2, x_dLR, x_dIsi, x_sSkip, x_sBreak, x_sCont, x_sSeq, x_sIf, x_sDrop, x_sRet, x_asg, x_sSet, x_gNm, x_gN, x_gC, x_gTp, x_sAsg, x_sPar, x_g1, x_g2, x_go1, x_callD0, x_callD1, parOf, putV, lstOf, setL, frOf, Sl.view, add_int, sub_int, int_int, ixl, ixt, len_lst, len_tup, lt_int, gt_int, le_int, ge_int, eq_int, ne_int, at0, at1, at2, at3, notNo, isNone, tupOf, x_dBk, isi_non_int, isi_non_bool, isi_non_str, isi_non_tuple, isi_non_list, isi_bl_int, isi_bl_bool, isi_bl_str, isi_bl_tuple, isi_bl_list, isi_int_int, isi_int_bool, isi_int_str, isi_int_tuple, isi_int_list, isi_str_int, isi_str_bool, isi_str_str, isi_str_tuple, isi_str_list, isi_tup_int, isi_tup_bool, isi_tup_str, isi_tup_tuple, isi_tup_list, isi_lst_int, isi_lst_bool, isi_lst_str, isi_lst_tuple, isi_lst_list, eq_bl, ne_bl, truth, parIn, parBack, stayB]
  | bl b => simp [D__law_is_stay, fo_ok, th_nx, th_rt, th_bk, th_ct, op_s, ob_ok, oo_s, de_v, de_s, ds_n, ds_c, ts_n, ts_c, tv_v, tv_s, fl_rt, fl_nx, x_dHV, x_dVar, x_dC, x_dVH, x_dIt, x_dRg, x_tYesD, x_dU, x_sPut, x_d2, x_aNil, x_aCons, x_dN, x_pNone, x_pSome, x_dSl, x_dTup, x_dOV, x_dVO, x_dLst, x_tOf, x_tBl, x_dChain, x_tAndD, x_tOrD, x_tNotD, x_vAnd, x_vOr, x_vNot, x_dIf, x_dNeg, x_dIsN, x_dNotN, x_dNo, x_dR1, x_dR2, x_dLR, x_dIsi, x_sSkip, x_sBreak, x_sCont, x_sSeq, x_sIf, x_sDrop, x_sRet, x_asg, x_sSet, x_gNm, x_gN, x_gC, x_gTp, x_sAsg, x_sPar, x_g1, x_g2, x_go1, x_callD0, x_callD1, parOf, putV, lstOf, setL, frOf, Sl.view, add_int, sub_int, int_int, ixl, ixt, len_lst, len_tup, lt_int, gt_int, le_int, ge_int, eq_int, ne_int, at0, at1, at2, at3, notNo, isNone, tupOf, x_dBk, isi_non_int, isi_non_bool, isi_non_str, isi_non_tuple, isi_non_list, isi_bl_int, isi_bl_bool, isi_bl_str, isi_bl_tuple, isi_bl_list, isi_int_int, isi_int_bool, isi_int_str, isi_int_tuple, isi_int_list, isi_str_int, isi_str_bool, isi_str_str, isi_str_tuple, isi_str_list, isi_tup_int, isi_tup_bool, isi_tup_str, isi_tup_tuple, isi_tup_list, isi_lst_int, isi_lst_bool, isi_lst_str, isi_lst_tuple, isi_lst_list, eq_bl, ne_bl, truth, parIn, parBack, stayB]
  | str s => simp [D__law_is_stay, fo_ok, th_nx, th_rt, th_bk, th_ct, op_s, ob_ok, oo_s, de_v, de_s, ds_n, ds_c, ts_n, ts_c, tv_v, tv_s, fl_rt, fl_nx, x_dHV, x_dVar, x_dC, x_dVH, x_dIt, x_dRg, x_tYesD, x_dU, x_sPut, x_d2, x_aNil, x_aCons, x_dN, x_pNone, x_pSome, x_dSl, x_dTup, x_dOV, x_dVO, x_dLst, x_tOf, x_tBl, x_dChain, x_tAndD, x_tOrD, x_tNotD, x_vAnd, x_vOr, x_vNot, x_dIf, x_dNeg, x_dIsN, x_dNotN, x_dNo, x_dR1, x_dR2, x_dLR, x_dIsi, x_sSkip, x_sBreak, x_sCont, x_sSeq, x_sIf, x_sDrop, x_sRet, x_asg, x_sSet, x_gNm, x_gN, x_gC, x_gTp, x_sAsg, x_sPar, x_g1, x_g2, x_go1, x_callD0, x_callD1, parOf, putV, lstOf, setL, frOf, Sl.view, add_int, sub_int, int_int, ixl, ixt, len_lst, len_tup, lt_int, gt_int, le_int, ge_int, eq_int, ne_int, at0, at1, at2, at3, notNo, isNone, tupOf, x_dBk, isi_non_int, isi_non_bool, isi_non_str, isi_non_tuple, isi_non_list, isi_bl_int, isi_bl_bool, isi_bl_str, isi_bl_tuple, isi_bl_list, isi_int_int, isi_int_bool, isi_int_str, isi_int_tuple, isi_int_list, isi_str_int, isi_str_bool, isi_str_str, isi_str_tuple, isi_str_list, isi_tup_int, isi_tup_bool, isi_tup_str, isi_tup_tuple, isi_tup_list, isi_lst_int, isi_lst_bool, isi_lst_str, isi_lst_tuple, isi_lst_list, eq_bl, ne_bl, truth, parIn, parBack, stayB]
  | non => simp [D__law_is_stay, fo_ok, th_nx, th_rt, th_bk, th_ct, op_s, ob_ok, oo_s, de_v, de_s, ds_n, ds_c, ts_n, ts_c, tv_v, tv_s, fl_rt, fl_nx, x_dHV, x_dVar, x_dC, x_dVH, x_dIt, x_dRg, x_tYesD, x_dU, x_sPut, x_d2, x_aNil, x_aCons, x_dN, x_pNone, x_pSome, x_dSl, x_dTup, x_dOV, x_dVO, x_dLst, x_tOf, x_tBl, x_dChain, x_tAndD, x_tOrD, x_tNotD, x_vAnd, x_vOr, x_vNot, x_dIf, x_dNeg, x_dIsN, x_dNotN, x_dNo, x_dR1, x_dR2, x_dLR, x_dIsi, x_sSkip, x_sBreak, x_sCont, x_sSeq, x_sIf, x_sDrop, x_sRet, x_asg, x_sSet, x_gNm, x_gN, x_gC, x_gTp, x_sAsg, x_sPar, x_g1, x_g2, x_go1, x_callD0, x_callD1, parOf, putV, lstOf, setL, frOf, Sl.view, add_int, sub_int, int_int, ixl, ixt, len_lst, len_tup, lt_int, gt_int, le_int, ge_int, eq_int, ne_int, at0, at1, at2, at3, notNo, isNone, tupOf, x_dBk, isi_non_int, isi_non_bool, isi_non_str, isi_non_tuple, isi_non_list, isi_bl_int, isi_bl_bool, isi_bl_str, isi_bl_tuple, isi_bl_list, isi_int_int, isi_int_bool, isi_int_str, isi_int_tuple, isi_int_list, isi_str_int, isi_str_bool, isi_str_str, isi_str_tuple, isi_str_list, isi_tup_int, isi_tup_bool, isi_tup_str, isi_tup_tuple, isi_tup_list, isi_lst_int, isi_lst_bool, isi_lst_str, isi_lst_tuple, isi_lst_list, eq_bl, ne_bl, truth, parIn, parBack, stayB]
  | _ => simp [nice] at h
/-! ### two bools -/
theorem same_bl (n : Nat) (b : Bool) : (E__law_same (n + 1)).sem [.fz (.bl b), .fz (.bl b)] = .ok (.fz (.bl true), .no) := by
  rw [s__law_same]
  generalize E__law_same n = e
  simp [D__law_same, fo_ok, th_nx, th_rt, th_bk, th_ct, op_s, ob_ok, oo_s, de_v, de_s, ds_n, ds_c, ts_n, ts_c, tv_v, tv_s, fl_rt, fl_nx, x_dHV, x_dVar, x_dC, x_dVH, x_dIt, x_dRg, x_tYesD, x_dU, x_sPut, x_d2, x_aNil, x_aCons, x_dN, x_pNone, x_pSome, x_dSl, x_dTup, x_dOV, x_dVO, x_dLst, x_tOf, x_tBl, x_dChain, x_tAndD, x_tOrD, x_tNotD, x_vAnd, x_vOr, x_vNot, x_dIf, x_dNeg, x_dIsN, x_dNotN, x_dNo, x_dR1, x_dR2, x_dLR, x_dIsi, x_sSkip, x_sBreak, x_sCont, x_sSeq, x_sIf, x_sDrop, x_sRet, x_asg, x_sSet, x_gNm, x_gN, x_gC, x_gTp, x_sAsg, x_sPar, x_g1, x_g2, x_go1, x_callD0, x_callD1, parOf, putV, lstOf, setL, frOf, Sl.view, add_int, sub_int, int_int, ixl, ixt, len_lst, len_tup, lt_int, gt_int, le_int, ge_int, eq_int, ne_int, at0, at1, at2, at3, notNo, isNone, tupOf, x_dBk, isi_non_int, isi_non_bool, isi_non_str, isi_non_tuple, isi_non_list, isi_bl_int, isi_bl_bool, isi_bl_str, isi_bl_tuple, isi_bl_list, isi_int_int, isi_int_bool, isi_int_str, isi_int_tuple, isi_int_list, isi_str_int, isi_str_bool, isi_str_str, isi_str_tuple, isi_str_list, isi_tup_int, isi_tup_bool, isi_tup_str, isi_tup_tuple, isi_tup_list, isi_lst_int, isi_lst_bool, isi_lst_str, isi_lst_tuple, isi_lst_list, eq_bl, ne_bl, truth, parIn, parBack]

/-! ### rows of stays judged -/
def staysB (n : Int) : Val → Bool
  | .tup xs => decide ((xs.length : Int) = n) && xs.all stayB
  | _ => false
def AreOk (e : FnE) : Prop := e.np = 2 ∧ ∀ (L : Nat) (n : Int) (x : Val), L ≤ 1000000 → nice L x = true → e.sem [.fz (.int n), .fz x] = .ok (.fz (.bl (staysB n x)), .no)
theorem are_lc (e : FnE) (he : StayOk e) (L : Nat) (n : Int) (xs : List Val) (hL : L ≤ 1000000) (h : nice L (.tup xs) = true) : dLc (dIt (dVH (dVar 1))) (gNm 2) tYesD (dVO (callD0 e (aCons (dVar 2) aNil))) [2] [.fz (.int n), .fz (.tup xs), .no] = .ok (.own (xs.map fun x => .bl (stayB x)), [.fz (.int n), .fz (.tup xs), .no]) := by
  obtain ⟨np, hx⟩ := he
  simp only [nice, Bool.and_eq_true, decide_eq_true_eq] at h
  have hv : ∀ x ∈ xs, e.sem [.fz x] = .ok (.fz (.bl (stayB x)), .no) := fun x hm => hx L x (nices_all.mp h.2 x hm)
  have k1 := lcL_map1 (g := gNm 2) (t := tYesD) (e := dVO (callD0 e (aCons (dVar 2) aNil))) (vs := [2]) id (fun x => .bl (stayB x)) [.fz (.int n), .fz (.tup xs), .no] xs fun x hm => by
    have := hv x hm
    generalize Val.tup xs = v
    exact ⟨[.fz (.int n), .fz v, .fz x], [.fz (.int n), .fz v, .fz x], [.fz (.int n), .fz v, .fz x], by simp [gNm], rfl, by simp [fo_ok, th_nx, th_rt, th_bk, th_ct, op_s, ob_ok, oo_s, de_v, de_s, ds_n, ds_c, ts_n, ts_c, tv_v, tv_s, fl_rt, fl_nx, x_dHV, x_dVar, x_dC, x_dVH, x_dIt, x_dRg, x_tYesD, x_dU, x_sPut, x_d2, x_aNil, x_aCons, x_dN, x_pNone, x_pSome, x_dSl, x_dTup, x_dOV, x_dVO, x_dLst, x_tOf, x_tBl, x_dChain, x_tAndD, x_tOrD, x_tNotD, x_vAnd, x_vOr, x_vNot, x_dIf, x_dNeg, x_dIsN, x_dNotN, x_dNo, x_dR1, x_dR2, x_dLR, x_dIsi, x_sSkip, x_sBreak, x_sCont, x_sSeq, x_sIf, x_sDrop, x_sRet, x_asg, x_sSet, x_gNm, x_gN, x_gC, x_gTp, x_sAsg, x_sPar, x_g1, x_g2, x_go1, x_callD0, x_callD1, parOf, putV, lstOf, setL, frOf, Sl.view, add_int, sub_int, int_int, ixl, ixt, len_lst, len_tup, lt_int, gt_int, le_int, ge_int, eq_int, ne_int, at0, at1, at2, at3, notNo, isNone, tupOf, x_dBk, isi_non_int, isi_non_bool, isi_non_str, isi_non_tuple, isi_non_list, isi_bl_int, isi_bl_bool, isi_bl_str, isi_bl_tuple, isi_bl_list, isi_int_int, isi_int_bool, isi_int_str, isi_int_tuple, isi_int_list, isi_str_int, isi_str_bool, isi_str_str, isi_str_tuple, isi_str_list, isi_tup_int, isi_tup_bool, isi_tup_str, isi_tup_tuple, isi_tup_list, isi_lst_int, isi_lst_bool, isi_lst_str, isi_lst_tuple, isi_lst_list, eq_bl, ne_bl, truth, parIn, parBack, np, this], by simp [wipeE]⟩
  rw [List.map_id] at k1
  exact lc_eq (it := dIt (dVH (dVar 1))) (xs := xs) (ρ := [.fz (.int n), .fz (.tup xs), .no]) (ρ1 := [.fz (.int n), .fz (.tup xs), .no]) (by simp [fo_ok, th_nx, th_rt, th_bk, th_ct, op_s, ob_ok, oo_s, de_v, de_s, ds_n, ds_c, ts_n, ts_c, tv_v, tv_s, fl_rt, fl_nx, x_dHV, x_dVar, x_dC, x_dVH, x_dIt, x_dRg, x_tYesD, x_dU, x_sPut, x_d2, x_aNil, x_aCons, x_dN, x_pNone, x_pSome, x_dSl, x_dTup, x_dOV, x_dVO, x_dLst, x_tOf, x_tBl, x_dChain, x_tAndD, x_tOrD, x_tNotD, x_vAnd, x_vOr, x_vNot, x_dIf, x_dNeg, x_dIsN, x_dNotN, x_dNo, x_dR1, x_dR2, x_dLR, x_dIsi, x_sSkip, x_sBreak, x_sCont, x_sSeq, x_sIf, x_sDrop, x_sRet, x_asg, x_sSet, x_gNm, x_gN, x_gC, x_gTp, x_sAsg, x_sPar, x_g1, x_g2, x_go1, x_callD0, x_callD1, parOf, putV, lstOf, setL, frOf, Sl.view, add_int, sub_int, int_int, ixl, ixt, len_lst, len_tup, lt_int, gt_int, le_int, ge_int, eq_int, ne_int, at0, at1, at2, at3, notNo, isNone, tupOf, x_dBk, isi_non_int, isi_non_bool, isi_non_str, isi_non_tuple, isi_non_list, isi_bl_int, isi_bl_bool, isi_bl_str, isi_bl_tuple, isi_bl_list, isi_int_int, isi_int_bool, isi_int_str, isi_int_tuple, isi_int_list, isi_str_int, isi_str_bool, isi_str_str, isi_str_tuple, isi_str_list, isi_tup_int, isi_tup_bool, isi_tup_str, isi_tup_tuple, isi_tup_list, isi_lst_int, isi_lst_bool, isi_lst_str, isi_lst_tuple, isi_lst_list, eq_bl, ne_bl, truth, parIn, parBack, goesV]) (ok_size (by omega)) (by rw [show wipeE [Sl.fz (.int n), .fz (.tup xs), .no] [2] = [.fz (.int n), .fz (.tup xs), .no] from rfl]; exact k1)
theorem are_fin (X : DO) (n : Int) (v : Val) (m : Int) (ys : List Val) (q : Bool) (ht : isiV "tuple" v = some (.bl true)) (hl : lenV v = some (.int m)) (hX : X [.fz (.int n), .fz v, .no] = .ok (.own ys, [.fz (.int n), .fz v, .no])) (ha : allV (.lst ys) = some (.bl q)) :
    flRes 2 none ((sRet (dOV (vAnd (dIsi "tuple" (dVar 1)) (vAnd (d2 eqV (dHV (dN (g1 lenV) (aCons (dVar 1) aNil))) (dVar 0)) (dN (g1 allV) (aCons (dHV (dVO X)) aNil)))))) [.fz (.int n), .fz v, .no]) = .ok (.fz (.bl (decide (m = n) && q)), .no) := by
  by_cases h : m = n
  · simp [fo_ok, th_nx, th_rt, th_bk, th_ct, op_s, ob_ok, oo_s, de_v, de_s, ds_n, ds_c, ts_n, ts_c, tv_v, tv_s, fl_rt, fl_nx, x_dHV, x_dVar, x_dC, x_dVH, x_dIt, x_dRg, x_tYesD, x_dU, x_sPut, x_d2, x_aNil, x_aCons, x_dN, x_pNone, x_pSome, x_dSl, x_dTup, x_dOV, x_dVO, x_dLst, x_tOf, x_tBl, x_dChain, x_tAndD, x_tOrD, x_tNotD, x_vAnd, x_vOr, x_vNot, x_dIf, x_dNeg, x_dIsN, x_dNotN, x_dNo, x_dR1, x_dR2, x_dLR, x_dIsi, x_sSkip, x_sBreak, x_sCont, x_sSeq, x_sIf, x_sDrop, x_sRet, x_asg, x_sSet, x_gNm, x_gN, x_gC, x_gTp, x_sAsg, x_sPar, x_g1, x_g2, x_go1, x_callD0, x_callD1, parOf, putV, lstOf, setL, frOf, Sl.view, add_int, sub_int, int_int, ixl, ixt, len_lst, len_tup, lt_int, gt_int, le_int, ge_int, eq_int, ne_int, at0, at1, at2, at3, notNo, isNone, tupOf, x_dBk, isi_non_int, isi_non_bool, isi_non_str, isi_non_tuple, isi_non_list, isi_bl_int, isi_bl_bool, isi_bl_str, isi_bl_tuple, isi_bl_list, isi_int_int, isi_int_bool, isi_int_str, isi_int_tuple, isi_int_list, isi_str_int, isi_str_bool, isi_str_str, isi_str_tuple, isi_str_list, isi_tup_int, isi_tup_bool, isi_tup_str, isi_tup_tuple, isi_tup_list, isi_lst_int, isi_lst_bool, isi_lst_str, isi_lst_tuple, isi_lst_list, eq_bl, ne_bl, truth, parIn, parBack, ht, hl, hX, ha, h]
  · simp [fo_ok, th_nx, th_rt, th_bk, th_ct, op_s, ob_ok, oo_s, de_v, de_s, ds_n, ds_c, ts_n, ts_c, tv_v, tv_s, fl_rt, fl_nx, x_dHV, x_dVar, x_dC, x_dVH, x_dIt, x_dRg, x_tYesD, x_dU, x_sPut, x_d2, x_aNil, x_aCons, x_dN, x_pNone, x_pSome, x_dSl, x_dTup, x_dOV, x_dVO, x_dLst, x_tOf, x_tBl, x_dChain, x_tAndD, x_tOrD, x_tNotD, x_vAnd, x_vOr, x_vNot, x_dIf, x_dNeg, x_dIsN, x_dNotN, x_dNo, x_dR1, x_dR2, x_dLR, x_dIsi, x_sSkip, x_sBreak, x_sCont, x_sSeq, x_sIf, x_sDrop, x_sRet, x_asg, x_sSet, x_gNm, x_gN, x_gC, x_gTp, x_sAsg, x_sPar, x_g1, x_g2, x_go1, x_callD0, x_callD1, parOf, putV, lstOf, setL, frOf, Sl.view, add_int, sub_int, int_int, ixl, ixt, len_lst, len_tup, lt_int, gt_int, le_int, ge_int, eq_int, ne_int, at0, at1, at2, at3, notNo, isNone, tupOf, x_dBk, isi_non_int, isi_non_bool, isi_non_str, isi_non_tuple, isi_non_list, isi_bl_int, isi_bl_bool, isi_bl_str, isi_bl_tuple, isi_bl_list, isi_int_int, isi_int_bool, isi_int_str, isi_int_tuple, isi_int_list, isi_str_int, isi_str_bool, isi_str_str, isi_str_tuple, isi_str_list, isi_tup_int, isi_tup_bool, isi_tup_str, isi_tup_tuple, isi_tup_list, isi_lst_int, isi_lst_bool, isi_lst_str, isi_lst_tuple, isi_lst_list, eq_bl, ne_bl, truth, parIn, parBack, ht, hl, hX, ha, h]
theorem are_no (X : DO) (n : Int) (v : Val) (ht : isiV "tuple" v = some (.bl false)) :
    flRes 2 none ((sRet (dOV (vAnd (dIsi "tuple" (dVar 1)) (vAnd (d2 eqV (dHV (dN (g1 lenV) (aCons (dVar 1) aNil))) (dVar 0)) (dN (g1 allV) (aCons (dHV (dVO X)) aNil)))))) [.fz (.int n), .fz v, .no]) = .ok (.fz (.bl false), .no) := by
  simp [fo_ok, th_nx, th_rt, th_bk, th_ct, op_s, ob_ok, oo_s, de_v, de_s, ds_n, ds_c, ts_n, ts_c, tv_v, tv_s, fl_rt, fl_nx, x_dHV, x_dVar, x_dC, x_dVH, x_dIt, x_dRg, x_tYesD, x_dU, x_sPut, x_d2, x_aNil, x_aCons, x_dN, x_pNone, x_pSome, x_dSl, x_dTup, x_dOV, x_dVO, x_dLst, x_tOf, x_tBl, x_dChain, x_tAndD, x_tOrD, x_tNotD, x_vAnd, x_vOr, x_vNot, x_dIf, x_dNeg, x_dIsN, x_dNotN, x_dNo, x_dR1, x_dR2, x_dLR, x_dIsi, x_sSkip, x_sBreak, x_sCont, x_sSeq, x_sIf, x_sDrop, x_sRet, x_asg, x_sSet, x_gNm, x_gN, x_gC, x_gTp, x_sAsg, x_sPar, x_g1, x_g2, x_go1, x_callD0, x_callD1, parOf, putV, lstOf, setL, frOf, Sl.view, add_int, sub_int, int_int, ixl, ixt, len_lst, len_tup, lt_int, gt_int, le_int, ge_int, eq_int, ne_int, at0, at1, at2, at3, notNo, isNone, tupOf, x_dBk, isi_non_int, isi_non_bool, isi_non_str, isi_non_tuple, isi_non_list, isi_bl_int, isi_bl_bool, isi_bl_str, isi_bl_tuple, isi_bl_list, isi_int_int, isi_int_bool, isi_int_str, isi_int_tuple, isi_int_list, isi_str_int, isi_str_bool, isi_str_str, isi_str_tuple, isi_str_list, isi_tup_int, isi_tup_bool, isi_tup_str, isi_tup_tuple, isi_tup_list, isi_lst_int, isi_lst_bool, isi_lst_str, isi_lst_tuple, isi_lst_list, eq_bl, ne_bl, truth, parIn, parBack, ht]
theorem are_core (e : FnE) (he : StayOk e) (L : Nat) (n : Int) (x : Val) (hL : L ≤ 1000000) (h : nice L x = true) : flRes 2 none ((sRet (dOV (vAnd (dIsi "tuple" (dVar 1)) (vAnd (d2 eqV (dHV (dN (g1 lenV) (aCons (dVar 1) aNil))) (dVar 0)) (dN (g1 allV) (aCons (dHV (dVO (dLc (dIt (dVH (dVar 1))) (gNm 2) tYesD (dVO (callD0 e (aCons (dVar 2) aNil))) [2]))) aNil)))))) [.fz (.int n), .fz x, .no]) = .ok (.fz (.bl (staysB n x)), .no) := by
  cases x with
  | tup xs => exact are_fin _ n _ xs.length _ _ (isi_tup_tuple xs) rfl (are_lc e he L n xs hL h) (all_map stayB xs)
  | int i => exact are_no _ n _ (isi_int_tuple i)
  | bl b => exact are_no _ n _ (isi_bl_tuple b)
  | str s => exact are_no _ n _ (isi_str_tuple s)
  | non => exact are_no _ n _ isi_non_tuple
  | _ => simp [nice] at h
theorem are_ok : AreOk E_are_stays := ⟨rfl, fun L n x hL h => by rw [s_are_stays]; exact are_core E_is_stay stay_ok L n x hL h⟩
theorem lare_ok : AreOk E__law_are_stays := ⟨rfl, fun L n x hL h => by rw [s__law_are_stays]; exact are_core E__law_is_stay lstay_ok L n x hL h⟩
/-! ### who met -/
abbrev Pr := Int × Int
def stV (S : List Pr) : Val := .tup (S.map prV)
def meetP (p q : Pr) : Bool := decide (p.1 ≤ q.2) && decide (q.1 ≤ p.2)
def befP (p q : Pr) : Bool := decide (p.2 < q.1)
def MeetOk (e : FnE) : Prop := e.np = 2 ∧ ∀ p q : Pr, e.sem [.fz (prV p), .fz (prV q)] = .ok (.fz (.bl (meetP p q)), .no)
theorem meet_ok : MeetOk E_do_meet := by
  refine ⟨rfl, fun p q => ?_⟩
  rw [s_do_meet]
  by_cases h : p.1 ≤ q.2 <;> simp [D_do_meet, fo_ok, th_nx, th_rt, th_bk, th_ct, op_s, ob_ok, oo_s, de_v, de_s, ds_n, ds_c, ts_n, ts_c, tv_v, tv_s, fl_rt, fl_nx, x_dHV, x_dVar, x_dC, x_dVH, x_dIt, x_dRg, x_tYesD, x_dU, x_sPut, x_d2, x_aNil, x_aCons, x_dN, x_pNone, x_pSome, x_dSl, x_dTup, x_dOV, x_dVO, x_dLst, x_tOf, x_tBl, x_dChain, x_tAndD, x_tOrD, x_tNotD, x_vAnd, x_vOr, x_vNot, x_dIf, x_dNeg, x_dIsN, x_dNotN, x_dNo, x_dR1, x_dR2, x_dLR, x_dIsi, x_sSkip, x_sBreak, x_sCont, x_sSeq, x_sIf, x_sDrop, x_sRet, x_asg, x_sSet, x_gNm, x_gN, x_gC, x_gTp, x_sAsg, x_sPar, x_g1, x_g2, x_go1, x_callD0, x_callD1, parOf, putV, lstOf, setL, frOf, Sl.view, add_int, sub_int, int_int, ixl, ixt, len_lst, len_tup, lt_int, gt_int, le_int, ge_int, eq_int, ne_int, at0, at1, at2, at3, notNo, isNone, tupOf, x_dBk, isi_non_int, isi_non_bool, isi_non_str, isi_non_tuple, isi_non_list, isi_bl_int, isi_bl_bool, isi_bl_str, isi_bl_tuple, isi_bl_list, isi_int_int, isi_int_bool, isi_int_str, isi_int_tuple, isi_int_list, isi_str_int, isi_str_bool, isi_str_str, isi_str_tuple, isi_str_list, isi_tup_int, isi_tup_bool, isi_tup_str, isi_tup_tuple, isi_tup_list, isi_lst_int, isi_lst_bool, isi_lst_str, isi_lst_tuple, isi_lst_list, eq_bl, ne_bl, truth, parIn, parBack, prV, meetP, h]
def BefOk (e : FnE) : Prop := e.np = 2 ∧ ∀ p q : Pr, e.sem [.fz (prV p), .fz (prV q)] = .ok (.fz (.bl (befP p q)), .no)
theorem bef_ok : BefOk E_is_before := by
  refine ⟨rfl, fun p q => ?_⟩
  rw [s_is_before]
  simp [D_is_before, fo_ok, th_nx, th_rt, th_bk, th_ct, op_s, ob_ok, oo_s, de_v, de_s, ds_n, ds_c, ts_n, ts_c, tv_v, tv_s, fl_rt, fl_nx, x_dHV, x_dVar, x_dC, x_dVH, x_dIt, x_dRg, x_tYesD, x_dU, x_sPut, x_d2, x_aNil, x_aCons, x_dN, x_pNone, x_pSome, x_dSl, x_dTup, x_dOV, x_dVO, x_dLst, x_tOf, x_tBl, x_dChain, x_tAndD, x_tOrD, x_tNotD, x_vAnd, x_vOr, x_vNot, x_dIf, x_dNeg, x_dIsN, x_dNotN, x_dNo, x_dR1, x_dR2, x_dLR, x_dIsi, x_sSkip, x_sBreak, x_sCont, x_sSeq, x_sIf, x_sDrop, x_sRet, x_asg, x_sSet, x_gNm, x_gN, x_gC, x_gTp, x_sAsg, x_sPar, x_g1, x_g2, x_go1, x_callD0, x_callD1, parOf, putV, lstOf, setL, frOf, Sl.view, add_int, sub_int, int_int, ixl, ixt, len_lst, len_tup, lt_int, gt_int, le_int, ge_int, eq_int, ne_int, at0, at1, at2, at3, notNo, isNone, tupOf, x_dBk, isi_non_int, isi_non_bool, isi_non_str, isi_non_tuple, isi_non_list, isi_bl_int, isi_bl_bool, isi_bl_str, isi_bl_tuple, isi_bl_list, isi_int_int, isi_int_bool, isi_int_str, isi_int_tuple, isi_int_list, isi_str_int, isi_str_bool, isi_str_str, isi_str_tuple, isi_str_list, isi_tup_int, isi_tup_bool, isi_tup_str, isi_tup_tuple, isi_tup_list, isi_lst_int, isi_lst_bool, isi_lst_str, isi_lst_tuple, isi_lst_list, eq_bl, ne_bl, truth, parIn, parBack, prV, befP]
def gt (S : List Pr) (i : Int) : Pr := (S[i.toNat]?).getD (0, 0)
def meet (S : List Pr) (i j : Int) : Bool := meetP (gt S i) (gt S j)
def prs (n : Int) (p : Int → Int → Bool) : List (Int × Int) := (rangeI 0 n).flatMap fun i => ((rangeI (i + 1) n).filter fun j => p i j).map fun j => (i, j)
theorem mem_prs {n : Int} {p : Int → Int → Bool} {i j : Int} : (i, j) ∈ prs n p ↔ 0 ≤ i ∧ i < j ∧ j < n ∧ p i j = true := by
  unfold prs
  simp only [List.mem_flatMap, List.mem_map, List.mem_filter, mem_rangeI, Prod.mk.injEq]
  constructor
  · rintro ⟨a, ⟨h1, h2⟩, b, ⟨⟨h3, h4⟩, h5⟩, rfl, rfl⟩
    exact ⟨h1, by omega, h4, h5⟩
  · rintro ⟨h1, h2, h3, h4⟩
    exact ⟨i, ⟨h1, by omega⟩, j, ⟨⟨by omega, h3⟩, h4⟩, rfl, rfl⟩
theorem atI_row (S : List Pr) {i : Int} (h0 : 0 ≤ i) (h1 : i < S.length) : L2.atI (S.map prV) i = some (prV (gt S i)) := by
  rw [atI_int h0 (by simpa using h1), List.getElem?_map]
  have : i.toNat < S.length := by omega
  simp [this, gt]
theorem sum_le : ∀ (l : List Nat) (k : Nat), (∀ x ∈ l, x ≤ k) → l.sum ≤ l.length * k := by
  intro l k hl
  induction l with
  | nil => simp
  | cons x xs ih =>
    have a := hl x List.mem_cons_self
    have b := ih fun y hy => hl y (List.mem_cons_of_mem _ hy)
    simp only [List.sum_cons, List.length_cons, Nat.succ_mul]
    omega
theorem prs_len {n : Int} {p : Int → Int → Bool} (hn : n ≤ 100) : (prs n p).length ≤ 10000 := by
  unfold prs
  rw [List.length_flatMap]
  have := sum_le ((rangeI 0 n).map fun i => (((rangeI (i + 1) n).filter fun j => p i j).map fun j => (i, j)).length) 100 (by
    intro x hx
    obtain ⟨i, hi, rfl⟩ := List.mem_map.mp hx
    rw [List.length_map]
    have h1 := List.length_filter_le (fun j => p i j) (rangeI (i + 1) n)
    rw [length_rangeI] at h1
    have := mem_rangeI.mp hi
    omega)
  rw [List.length_map, length_rangeI] at this
  omega
def landOf (S : List Pr) : Val := .tup [.int S.length, .tup ((prs S.length (meet S)).map prV)]
def ShownOk (e : FnE) : Prop := e.np = 1 ∧ ∀ S : List Pr, S.length ≤ 100 → e.sem [.fz (stV S)] = .ok (.fz (landOf S), .no)
theorem shown_fin (X : DO) (v : Val) (n : Int) (ys : List Val) (h5 : lenV v = some (.int n)) (h3 : X [.fz v, .fz (.int n), .no, .no] = .ok (.own ys, [.fz v, .fz (.int n), .no, .no])) :
    (sSeq (sSet 1 (dOV (dN (g1 lenV) (aCons (dVar 0) aNil)))) (sRet (dOV (dTup (aCons (dVar 1) (aCons (dHV (dN (g1 tupV) (aCons (dHV (dVO X)) aNil))) aNil)))))) [.fz v, .no, .no, .no] = .rt (.fz (.tup [.int n, .tup ys])) [.fz v, .fz (.int n), .no, .no] := by
  have h4 : (2:Nat) ≤ sizeLine := ok_size (by decide)
  simp [fo_ok, th_nx, th_rt, th_bk, th_ct, op_s, ob_ok, oo_s, de_v, de_s, ds_n, ds_c, ts_n, ts_c, tv_v, tv_s, fl_rt, fl_nx, x_dHV, x_dVar, x_dC, x_dVH, x_dIt, x_dRg, x_tYesD, x_dU, x_sPut, x_d2, x_aNil, x_aCons, x_dN, x_pNone, x_pSome, x_dSl, x_dTup, x_dOV, x_dVO, x_dLst, x_tOf, x_tBl, x_dChain, x_tAndD, x_tOrD, x_tNotD, x_vAnd, x_vOr, x_vNot, x_dIf, x_dNeg, x_dIsN, x_dNotN, x_dNo, x_dR1, x_dR2, x_dLR, x_dIsi, x_sSkip, x_sBreak, x_sCont, x_sSeq, x_sIf, x_sDrop, x_sRet, x_asg, x_sSet, x_gNm, x_gN, x_gC, x_gTp, x_sAsg, x_sPar, x_g1, x_g2, x_go1, x_callD0, x_callD1, parOf, putV, lstOf, setL, frOf, Sl.view, add_int, sub_int, int_int, ixl, ixt, len_lst, len_tup, lt_int, gt_int, le_int, ge_int, eq_int, ne_int, at0, at1, at2, at3, notNo, isNone, tupOf, x_dBk, isi_non_int, isi_non_bool, isi_non_str, isi_non_tuple, isi_non_list, isi_bl_int, isi_bl_bool, isi_bl_str, isi_bl_tuple, isi_bl_list, isi_int_int, isi_int_bool, isi_int_str, isi_int_tuple, isi_int_list, isi_str_int, isi_str_bool, isi_str_str, isi_str_tuple, isi_str_list, isi_tup_int, isi_tup_bool, isi_tup_str, isi_tup_tuple, isi_tup_list, isi_lst_int, isi_lst_bool, isi_lst_str, isi_lst_tuple, isi_lst_list, eq_bl, ne_bl, truth, parIn, parBack, h3, h4, h5, tupV]
theorem len_st (S : List Pr) : lenV (stV S) = some (.int S.length) := by simp [stV, lenV]
theorem ix_st (S : List Pr) {i : Int} (h0 : 0 ≤ i) (h1 : i < S.length) : ixV (stV S) (.int i) = some (prV (gt S i)) := atI_row S h0 h1
theorem graph_core (e : FnE) (he : MeetOk e) (S : List Pr) (hn : S.length ≤ 100) : D_graph_of e [.fz (stV S), .no, .no, .no] = .rt (.fz (landOf S)) [.fz (stV S), .fz (.int S.length), .no, .no] := by
  obtain ⟨np, hx⟩ := he
  have hix := fun i (h0 : 0 ≤ i) h1 => ix_st S (i := i) h0 h1
  have hls := len_st S
  unfold landOf
  generalize stV S = v at *
  have h1 := lcO_map (g := gNm 2) (t := tYesD) (f := lcL2 (dRg (dR2 (d2 addV (dVar 2) (dHV (dC (.int 1)))) (dVH (dVar 1)))) (gNm 3) (tOf (dHV (dVO (callD0 e (aCons (dHV (d2 ixV (dVar 0) (dVar 2))) (aCons (dHV (d2 ixV (dVar 0) (dVar 3))) aNil)))))) (dTup (aCons (dVar 2) (aCons (dVar 3) aNil))) [3]) (vs := [2, 3])
    Val.int (fun i => (((rangeI (i + 1) S.length).filter fun j => meet S i j).map fun j => (i, j)).map prV) [.fz v, .fz (.int S.length), .no, .no] (rangeI 0 S.length) fun i hi => by
      have hi := mem_rangeI.mp hi
      refine ⟨[.fz v, .fz (.int S.length), .fz (.int i), .no], [.fz v, .fz (.int S.length), .fz (.int i), .no], [.fz v, .fz (.int S.length), .fz (.int i), .no], by simp [gNm], rfl, ?_, by simp [wipeE]⟩
      rw [lcL2_eq (rg2 (m := i + 1) (n := S.length) (ρ1 := [.fz v, .fz (.int S.length), .fz (.int i), .no]) (ρ2 := [.fz v, .fz (.int S.length), .fz (.int i), .no]) (by simp [fo_ok, th_nx, th_rt, th_bk, th_ct, op_s, ob_ok, oo_s, de_v, de_s, ds_n, ds_c, ts_n, ts_c, tv_v, tv_s, fl_rt, fl_nx, x_dHV, x_dVar, x_dC, x_dVH, x_dIt, x_dRg, x_tYesD, x_dU, x_sPut, x_d2, x_aNil, x_aCons, x_dN, x_pNone, x_pSome, x_dSl, x_dTup, x_dOV, x_dVO, x_dLst, x_tOf, x_tBl, x_dChain, x_tAndD, x_tOrD, x_tNotD, x_vAnd, x_vOr, x_vNot, x_dIf, x_dNeg, x_dIsN, x_dNotN, x_dNo, x_dR1, x_dR2, x_dLR, x_dIsi, x_sSkip, x_sBreak, x_sCont, x_sSeq, x_sIf, x_sDrop, x_sRet, x_asg, x_sSet, x_gNm, x_gN, x_gC, x_gTp, x_sAsg, x_sPar, x_g1, x_g2, x_go1, x_callD0, x_callD1, parOf, putV, lstOf, setL, frOf, Sl.view, add_int, sub_int, int_int, ixl, ixt, len_lst, len_tup, lt_int, gt_int, le_int, ge_int, eq_int, ne_int, at0, at1, at2, at3, notNo, isNone, tupOf, x_dBk, isi_non_int, isi_non_bool, isi_non_str, isi_non_tuple, isi_non_list, isi_bl_int, isi_bl_bool, isi_bl_str, isi_bl_tuple, isi_bl_list, isi_int_int, isi_int_bool, isi_int_str, isi_int_tuple, isi_int_list, isi_str_int, isi_str_bool, isi_str_str, isi_str_tuple, isi_str_list, isi_tup_int, isi_tup_bool, isi_tup_str, isi_tup_tuple, isi_tup_list, isi_lst_int, isi_lst_bool, isi_lst_str, isi_lst_tuple, isi_lst_list, eq_bl, ne_bl, truth, parIn, parBack]) (by simp [fo_ok, th_nx, th_rt, th_bk, th_ct, op_s, ob_ok, oo_s, de_v, de_s, ds_n, ds_c, ts_n, ts_c, tv_v, tv_s, fl_rt, fl_nx, x_dHV, x_dVar, x_dC, x_dVH, x_dIt, x_dRg, x_tYesD, x_dU, x_sPut, x_d2, x_aNil, x_aCons, x_dN, x_pNone, x_pSome, x_dSl, x_dTup, x_dOV, x_dVO, x_dLst, x_tOf, x_tBl, x_dChain, x_tAndD, x_tOrD, x_tNotD, x_vAnd, x_vOr, x_vNot, x_dIf, x_dNeg, x_dIsN, x_dNotN, x_dNo, x_dR1, x_dR2, x_dLR, x_dIsi, x_sSkip, x_sBreak, x_sCont, x_sSeq, x_sIf, x_sDrop, x_sRet, x_asg, x_sSet, x_gNm, x_gN, x_gC, x_gTp, x_sAsg, x_sPar, x_g1, x_g2, x_go1, x_callD0, x_callD1, parOf, putV, lstOf, setL, frOf, Sl.view, add_int, sub_int, int_int, ixl, ixt, len_lst, len_tup, lt_int, gt_int, le_int, ge_int, eq_int, ne_int, at0, at1, at2, at3, notNo, isNone, tupOf, x_dBk, isi_non_int, isi_non_bool, isi_non_str, isi_non_tuple, isi_non_list, isi_bl_int, isi_bl_bool, isi_bl_str, isi_bl_tuple, isi_bl_list, isi_int_int, isi_int_bool, isi_int_str, isi_int_tuple, isi_int_list, isi_str_int, isi_str_bool, isi_str_str, isi_str_tuple, isi_str_list, isi_tup_int, isi_tup_bool, isi_tup_str, isi_tup_tuple, isi_tup_list, isi_lst_int, isi_lst_bool, isi_lst_str, isi_lst_tuple, isi_lst_list, eq_bl, ne_bl, truth, parIn, parBack]) (by omega) (by omega)) (ok_size (by rw [List.length_map, length_rangeI]; omega)) (ys := (((rangeI (i + 1) S.length).filter fun j => meet S i j).map fun j => (i, j)).map prV) (ρ2 := [.fz v, .fz (.int S.length), .fz (.int i), .no]) ?_]
      · simp [rest, keepFz]
      · have h2 := lcL_map (g := gNm 3) (t := tOf (dHV (dVO (callD0 e (aCons (dHV (d2 ixV (dVar 0) (dVar 2))) (aCons (dHV (d2 ixV (dVar 0) (dVar 3))) aNil)))))) (e := dTup (aCons (dVar 2) (aCons (dVar 3) aNil))) (vs := [3]) Val.int (fun j => meet S i j) (fun j => prV (i, j)) [.fz v, .fz (.int S.length), .fz (.int i), .no] (rangeI (i + 1) S.length) fun j hj => by
          have hj := mem_rangeI.mp hj
          have e1 := hix i hi.1 hi.2
          have e2 := hix j (by omega) hj.2
          have e3 := hx (gt S i) (gt S j)
          have h2s : (2:Nat) ≤ sizeLine := ok_size (by decide)
          refine ⟨[.fz v, .fz (.int S.length), .fz (.int i), .fz (.int j)], [.fz v, .fz (.int S.length), .fz (.int i), .fz (.int j)], by simp [gNm], ?_, ?_⟩
          · unfold meet
            generalize prV (gt S i) = a at *
            generalize prV (gt S j) = b at *
            simp [fo_ok, th_nx, th_rt, th_bk, th_ct, op_s, ob_ok, oo_s, de_v, de_s, ds_n, ds_c, ts_n, ts_c, tv_v, tv_s, fl_rt, fl_nx, x_dHV, x_dVar, x_dC, x_dVH, x_dIt, x_dRg, x_tYesD, x_dU, x_sPut, x_d2, x_aNil, x_aCons, x_dN, x_pNone, x_pSome, x_dSl, x_dTup, x_dOV, x_dVO, x_dLst, x_tOf, x_tBl, x_dChain, x_tAndD, x_tOrD, x_tNotD, x_vAnd, x_vOr, x_vNot, x_dIf, x_dNeg, x_dIsN, x_dNotN, x_dNo, x_dR1, x_dR2, x_dLR, x_dIsi, x_sSkip, x_sBreak, x_sCont, x_sSeq, x_sIf, x_sDrop, x_sRet, x_asg, x_sSet, x_gNm, x_gN, x_gC, x_gTp, x_sAsg, x_sPar, x_g1, x_g2, x_go1, x_callD0, x_callD1, parOf, putV, lstOf, setL, frOf, Sl.view, add_int, sub_int, int_int, ixl, ixt, len_lst, len_tup, lt_int, gt_int, le_int, ge_int, eq_int, ne_int, at0, at1, at2, at3, notNo, isNone, tupOf, x_dBk, isi_non_int, isi_non_bool, isi_non_str, isi_non_tuple, isi_non_list, isi_bl_int, isi_bl_bool, isi_bl_str, isi_bl_tuple, isi_bl_list, isi_int_int, isi_int_bool, isi_int_str, isi_int_tuple, isi_int_list, isi_str_int, isi_str_bool, isi_str_str, isi_str_tuple, isi_str_list, isi_tup_int, isi_tup_bool, isi_tup_str, isi_tup_tuple, isi_tup_list, isi_lst_int, isi_lst_bool, isi_lst_str, isi_lst_tuple, isi_lst_list, eq_bl, ne_bl, truth, parIn, parBack, np, e1, e2, e3]
          · cases meet S i j <;> simp [fo_ok, th_nx, th_rt, th_bk, th_ct, op_s, ob_ok, oo_s, de_v, de_s, ds_n, ds_c, ts_n, ts_c, tv_v, tv_s, fl_rt, fl_nx, x_dHV, x_dVar, x_dC, x_dVH, x_dIt, x_dRg, x_tYesD, x_dU, x_sPut, x_d2, x_aNil, x_aCons, x_dN, x_pNone, x_pSome, x_dSl, x_dTup, x_dOV, x_dVO, x_dLst, x_tOf, x_tBl, x_dChain, x_tAndD, x_tOrD, x_tNotD, x_vAnd, x_vOr, x_vNot, x_dIf, x_dNeg, x_dIsN, x_dNotN, x_dNo, x_dR1, x_dR2, x_dLR, x_dIsi, x_sSkip, x_sBreak, x_sCont, x_sSeq, x_sIf, x_sDrop, x_sRet, x_asg, x_sSet, x_gNm, x_gN, x_gC, x_gTp, x_sAsg, x_sPar, x_g1, x_g2, x_go1, x_callD0, x_callD1, parOf, putV, lstOf, setL, frOf, Sl.view, add_int, sub_int, int_int, ixl, ixt, len_lst, len_tup, lt_int, gt_int, le_int, ge_int, eq_int, ne_int, at0, at1, at2, at3, notNo, isNone, tupOf, x_dBk, isi_non_int, isi_non_bool, isi_non_str, isi_non_tuple, isi_non_list, isi_bl_int, isi_bl_bool, isi_bl_str, isi_bl_tuple, isi_bl_list, isi_int_int, isi_int_bool, isi_int_str, isi_int_tuple, isi_int_list, isi_str_int, isi_str_bool, isi_str_str, isi_str_tuple, isi_str_list, isi_tup_int, isi_tup_bool, isi_tup_str, isi_tup_tuple, isi_tup_list, isi_lst_int, isi_lst_bool, isi_lst_str, isi_lst_tuple, isi_lst_list, eq_bl, ne_bl, truth, parIn, parBack, wipeE, h2s, prV]
        rw [show wipeE [Sl.fz v, .fz (.int S.length), .fz (.int i), .no] [3] = [.fz v, .fz (.int S.length), .fz (.int i), .no] from rfl, h2, List.map_map]
        rfl
  have h2 : lcO (gNm 2) tYesD (lcL2 (dRg (dR2 (d2 addV (dVar 2) (dHV (dC (.int 1)))) (dVH (dVar 1)))) (gNm 3) (tOf (dHV (dVO (callD0 e (aCons (dHV (d2 ixV (dVar 0) (dVar 2))) (aCons (dHV (d2 ixV (dVar 0) (dVar 3))) aNil)))))) (dTup (aCons (dVar 2) (aCons (dVar 3) aNil))) [3]) [2, 3] ((rangeI 0 S.length).map .int) (wipeE [.fz v, .fz (.int S.length), .no, .no] [2, 3]) = some ((prs S.length (meet S)).map prV, [.fz v, .fz (.int S.length), .no, .no]) := by
    rw [show wipeE [Sl.fz v, .fz (.int S.length), .no, .no] [2, 3] = [.fz v, .fz (.int S.length), .no, .no] from rfl, h1]
    unfold prs
    rw [List.map_flatMap]
  have h3 := lc2_eq (rg1 (d := dVH (dVar 1)) (ρ := [.fz v, .fz (.int S.length), .no, .no]) (ρ' := [.fz v, .fz (.int S.length), .no, .no]) (n := S.length) (by simp [fo_ok, th_nx, th_rt, th_bk, th_ct, op_s, ob_ok, oo_s, de_v, de_s, ds_n, ds_c, ts_n, ts_c, tv_v, tv_s, fl_rt, fl_nx, x_dHV, x_dVar, x_dC, x_dVH, x_dIt, x_dRg, x_tYesD, x_dU, x_sPut, x_d2, x_aNil, x_aCons, x_dN, x_pNone, x_pSome, x_dSl, x_dTup, x_dOV, x_dVO, x_dLst, x_tOf, x_tBl, x_dChain, x_tAndD, x_tOrD, x_tNotD, x_vAnd, x_vOr, x_vNot, x_dIf, x_dNeg, x_dIsN, x_dNotN, x_dNo, x_dR1, x_dR2, x_dLR, x_dIsi, x_sSkip, x_sBreak, x_sCont, x_sSeq, x_sIf, x_sDrop, x_sRet, x_asg, x_sSet, x_gNm, x_gN, x_gC, x_gTp, x_sAsg, x_sPar, x_g1, x_g2, x_go1, x_callD0, x_callD1, parOf, putV, lstOf, setL, frOf, Sl.view, add_int, sub_int, int_int, ixl, ixt, len_lst, len_tup, lt_int, gt_int, le_int, ge_int, eq_int, ne_int, at0, at1, at2, at3, notNo, isNone, tupOf, x_dBk, isi_non_int, isi_non_bool, isi_non_str, isi_non_tuple, isi_non_list, isi_bl_int, isi_bl_bool, isi_bl_str, isi_bl_tuple, isi_bl_list, isi_int_int, isi_int_bool, isi_int_str, isi_int_tuple, isi_int_list, isi_str_int, isi_str_bool, isi_str_str, isi_str_tuple, isi_str_list, isi_tup_int, isi_tup_bool, isi_tup_str, isi_tup_tuple, isi_tup_list, isi_lst_int, isi_lst_bool, isi_lst_str, isi_lst_tuple, isi_lst_list, eq_bl, ne_bl, truth, parIn, parBack]) (by omega)) h2 (ok_size (by rw [List.length_map]; exact Nat.le_trans (prs_len (by omega)) (by decide)))
  exact shown_fin _ _ _ _ hls h3
theorem graph_ok : ShownOk E_graph_of := ⟨rfl, fun S hn => by
  rw [s_graph_of, graph_core E_do_meet meet_ok S hn]
  simp [fo_ok, th_nx, th_rt, th_bk, th_ct, op_s, ob_ok, oo_s, de_v, de_s, ds_n, ds_c, ts_n, ts_c, tv_v, tv_s, fl_rt, fl_nx, x_dHV, x_dVar, x_dC, x_dVH, x_dIt, x_dRg, x_tYesD, x_dU, x_sPut, x_d2, x_aNil, x_aCons, x_dN, x_pNone, x_pSome, x_dSl, x_dTup, x_dOV, x_dVO, x_dLst, x_tOf, x_tBl, x_dChain, x_tAndD, x_tOrD, x_tNotD, x_vAnd, x_vOr, x_vNot, x_dIf, x_dNeg, x_dIsN, x_dNotN, x_dNo, x_dR1, x_dR2, x_dLR, x_dIsi, x_sSkip, x_sBreak, x_sCont, x_sSeq, x_sIf, x_sDrop, x_sRet, x_asg, x_sSet, x_gNm, x_gN, x_gC, x_gTp, x_sAsg, x_sPar, x_g1, x_g2, x_go1, x_callD0, x_callD1, parOf, putV, lstOf, setL, frOf, Sl.view, add_int, sub_int, int_int, ixl, ixt, len_lst, len_tup, lt_int, gt_int, le_int, ge_int, eq_int, ne_int, at0, at1, at2, at3, notNo, isNone, tupOf, x_dBk, isi_non_int, isi_non_bool, isi_non_str, isi_non_tuple, isi_non_list, isi_bl_int, isi_bl_bool, isi_bl_str, isi_bl_tuple, isi_bl_list, isi_int_int, isi_int_bool, isi_int_str, isi_int_tuple, isi_int_list, isi_str_int, isi_str_bool, isi_str_str, isi_str_tuple, isi_str_list, isi_tup_int, isi_tup_bool, isi_tup_str, isi_tup_tuple, isi_tup_list, isi_lst_int, isi_lst_bool, isi_lst_str, isi_lst_tuple, isi_lst_list, eq_bl, ne_bl, truth, parIn, parBack]⟩

/-! ### who met, by the law -/
def row (S : List Pr) (i : Int) : List (Int × Int) := ((rangeI (i + 1) S.length).filter fun j => meet S i j).map fun j => (i, j)
theorem prs_row (S : List Pr) : prs S.length (meet S) = (rangeI 0 S.length).flatMap (row S) := rfl
theorem row_len (S : List Pr) (i : Int) (h0 : 0 ≤ i) (hn : S.length ≤ 100) : (row S i).length ≤ 100 := by
  unfold row
  rw [List.length_map]
  have h1 := List.length_filter_le (fun j => meet S i j) (rangeI (i + 1) S.length)
  rw [length_rangeI] at h1
  omega
theorem lshown_row (S : List Pr) (hn : S.length ≤ 100) (i : Int) (h0 : 0 ≤ i) (h1 : i < S.length) (s2 : Sl) : dLc (dRg (dR2 (d2 addV (dVar 3) (dHV (dC (.int 1)))) (dVH (dVar 1)))) (gNm 4) (tAndD (tBl (d2 leV (dHV (d2 ixV (dHV (d2 ixV (dVar 0) (dVar 3))) (dHV (dC (.int 0))))) (dHV (d2 ixV (dHV (d2 ixV (dVar 0) (dVar 4))) (dHV (dC (.int 1))))))) (tBl (d2 leV (dHV (d2 ixV (dHV (d2 ixV (dVar 0) (dVar 4))) (dHV (dC (.int 0))))) (dHV (d2 ixV (dHV (d2 ixV (dVar 0) (dVar 3))) (dHV (dC (.int 1)))))))) (dTup (aCons (dVar 3) (aCons (dVar 4) aNil))) [4] [.fz (stV S), .fz (.int S.length), s2, .fz (.int i), .no] = .ok (.own ((row S i).map prV), [.fz (stV S), .fz (.int S.length), s2, .fz (.int i), .no]) := by
  have hix := fun i (h0 : 0 ≤ i) h1 => ix_st S (i := i) h0 h1
  generalize stV S = v at *
  have h2s : (2:Nat) ≤ sizeLine := ok_size (by decide)
  have h2 := lcL_map (g := gNm 4) (t := (tAndD (tBl (d2 leV (dHV (d2 ixV (dHV (d2 ixV (dVar 0) (dVar 3))) (dHV (dC (.int 0))))) (dHV (d2 ixV (dHV (d2 ixV (dVar 0) (dVar 4))) (dHV (dC (.int 1))))))) (tBl (d2 leV (dHV (d2 ixV (dHV (d2 ixV (dVar 0) (dVar 4))) (dHV (dC (.int 0))))) (dHV (d2 ixV (dHV (d2 ixV (dVar 0) (dVar 3))) (dHV (dC (.int 1))))))))) (e := dTup (aCons (dVar 3) (aCons (dVar 4) aNil))) (vs := [4]) Val.int (fun j => meet S i j) (fun j => prV (i, j)) [.fz v, .fz (.int S.length), s2, .fz (.int i), .no] (rangeI (i + 1) S.length) fun j hj => by
    have hj := mem_rangeI.mp hj
    have e1 := hix i h0 h1
    have e2 := hix j (by omega) hj.2
    refine ⟨[.fz v, .fz (.int S.length), s2, .fz (.int i), .fz (.int j)], [.fz v, .fz (.int S.length), s2, .fz (.int i), .fz (.int j)], by simp [gNm], ?_, ?_⟩
    · unfold meet
      generalize gt S i = a at *
      generalize gt S j = b at *
      have a0 : ixV (prV a) (.int 0) = some (.int a.1) := at0 _ _
      have a1 : ixV (prV a) (.int 1) = some (.int a.2) := at1 _ _ _
      have b0 : ixV (prV b) (.int 0) = some (.int b.1) := at0 _ _
      have b1 : ixV (prV b) (.int 1) = some (.int b.2) := at1 _ _ _
      by_cases h : a.1 ≤ b.2
      · simp [fo_ok, th_nx, th_rt, th_bk, th_ct, op_s, ob_ok, oo_s, de_v, de_s, ds_n, ds_c, ts_n, ts_c, tv_v, tv_s, fl_rt, fl_nx, x_dHV, x_dVar, x_dC, x_dVH, x_dIt, x_dRg, x_tYesD, x_dU, x_sPut, x_d2, x_aNil, x_aCons, x_dN, x_pNone, x_pSome, x_dSl, x_dTup, x_dOV, x_dVO, x_dLst, x_tOf, x_tBl, x_dChain, x_tAndD, x_tOrD, x_tNotD, x_vAnd, x_vOr, x_vNot, x_dIf, x_dNeg, x_dIsN, x_dNotN, x_dNo, x_dR1, x_dR2, x_dLR, x_dIsi, x_sSkip, x_sBreak, x_sCont, x_sSeq, x_sIf, x_sDrop, x_sRet, x_asg, x_sSet, x_gNm, x_gN, x_gC, x_gTp, x_sAsg, x_sPar, x_g1, x_g2, x_go1, x_callD0, x_callD1, parOf, putV, lstOf, setL, frOf, Sl.view, add_int, sub_int, int_int, ixl, ixt, len_lst, len_tup, lt_int, gt_int, le_int, ge_int, eq_int, ne_int, at0, at1, at2, at3, notNo, isNone, tupOf, x_dBk, isi_non_int, isi_non_bool, isi_non_str, isi_non_tuple, isi_non_list, isi_bl_int, isi_bl_bool, isi_bl_str, isi_bl_tuple, isi_bl_list, isi_int_int, isi_int_bool, isi_int_str, isi_int_tuple, isi_int_list, isi_str_int, isi_str_bool, isi_str_str, isi_str_tuple, isi_str_list, isi_tup_int, isi_tup_bool, isi_tup_str, isi_tup_tuple, isi_tup_list, isi_lst_int, isi_lst_bool, isi_lst_str, isi_lst_tuple, isi_lst_list, eq_bl, ne_bl, truth, parIn, parBack, e1, e2, a0, a1, b0, b1, h, meetP]
      · simp [fo_ok, th_nx, th_rt, th_bk, th_ct, op_s, ob_ok, oo_s, de_v, de_s, ds_n, ds_c, ts_n, ts_c, tv_v, tv_s, fl_rt, fl_nx, x_dHV, x_dVar, x_dC, x_dVH, x_dIt, x_dRg, x_tYesD, x_dU, x_sPut, x_d2, x_aNil, x_aCons, x_dN, x_pNone, x_pSome, x_dSl, x_dTup, x_dOV, x_dVO, x_dLst, x_tOf, x_tBl, x_dChain, x_tAndD, x_tOrD, x_tNotD, x_vAnd, x_vOr, x_vNot, x_dIf, x_dNeg, x_dIsN, x_dNotN, x_dNo, x_dR1, x_dR2, x_dLR, x_dIsi, x_sSkip, x_sBreak, x_sCont, x_sSeq, x_sIf, x_sDrop, x_sRet, x_asg, x_sSet, x_gNm, x_gN, x_gC, x_gTp, x_sAsg, x_sPar, x_g1, x_g2, x_go1, x_callD0, x_callD1, parOf, putV, lstOf, setL, frOf, Sl.view, add_int, sub_int, int_int, ixl, ixt, len_lst, len_tup, lt_int, gt_int, le_int, ge_int, eq_int, ne_int, at0, at1, at2, at3, notNo, isNone, tupOf, x_dBk, isi_non_int, isi_non_bool, isi_non_str, isi_non_tuple, isi_non_list, isi_bl_int, isi_bl_bool, isi_bl_str, isi_bl_tuple, isi_bl_list, isi_int_int, isi_int_bool, isi_int_str, isi_int_tuple, isi_int_list, isi_str_int, isi_str_bool, isi_str_str, isi_str_tuple, isi_str_list, isi_tup_int, isi_tup_bool, isi_tup_str, isi_tup_tuple, isi_tup_list, isi_lst_int, isi_lst_bool, isi_lst_str, isi_lst_tuple, isi_lst_list, eq_bl, ne_bl, truth, parIn, parBack, e1, e2, a0, a1, b0, b1, h, meetP]
    · cases meet S i j <;> simp [fo_ok, th_nx, th_rt, th_bk, th_ct, op_s, ob_ok, oo_s, de_v, de_s, ds_n, ds_c, ts_n, ts_c, tv_v, tv_s, fl_rt, fl_nx, x_dHV, x_dVar, x_dC, x_dVH, x_dIt, x_dRg, x_tYesD, x_dU, x_sPut, x_d2, x_aNil, x_aCons, x_dN, x_pNone, x_pSome, x_dSl, x_dTup, x_dOV, x_dVO, x_dLst, x_tOf, x_tBl, x_dChain, x_tAndD, x_tOrD, x_tNotD, x_vAnd, x_vOr, x_vNot, x_dIf, x_dNeg, x_dIsN, x_dNotN, x_dNo, x_dR1, x_dR2, x_dLR, x_dIsi, x_sSkip, x_sBreak, x_sCont, x_sSeq, x_sIf, x_sDrop, x_sRet, x_asg, x_sSet, x_gNm, x_gN, x_gC, x_gTp, x_sAsg, x_sPar, x_g1, x_g2, x_go1, x_callD0, x_callD1, parOf, putV, lstOf, setL, frOf, Sl.view, add_int, sub_int, int_int, ixl, ixt, len_lst, len_tup, lt_int, gt_int, le_int, ge_int, eq_int, ne_int, at0, at1, at2, at3, notNo, isNone, tupOf, x_dBk, isi_non_int, isi_non_bool, isi_non_str, isi_non_tuple, isi_non_list, isi_bl_int, isi_bl_bool, isi_bl_str, isi_bl_tuple, isi_bl_list, isi_int_int, isi_int_bool, isi_int_str, isi_int_tuple, isi_int_list, isi_str_int, isi_str_bool, isi_str_str, isi_str_tuple, isi_str_list, isi_tup_int, isi_tup_bool, isi_tup_str, isi_tup_tuple, isi_tup_list, isi_lst_int, isi_lst_bool, isi_lst_str, isi_lst_tuple, isi_lst_list, eq_bl, ne_bl, truth, parIn, parBack, wipeE, h2s, prV]
  exact lc_eq (rg2 (m := i + 1) (n := S.length) (ρ1 := [.fz v, .fz (.int S.length), s2, .fz (.int i), .no]) (ρ2 := [.fz v, .fz (.int S.length), s2, .fz (.int i), .no]) (by simp [fo_ok, th_nx, th_rt, th_bk, th_ct, op_s, ob_ok, oo_s, de_v, de_s, ds_n, ds_c, ts_n, ts_c, tv_v, tv_s, fl_rt, fl_nx, x_dHV, x_dVar, x_dC, x_dVH, x_dIt, x_dRg, x_tYesD, x_dU, x_sPut, x_d2, x_aNil, x_aCons, x_dN, x_pNone, x_pSome, x_dSl, x_dTup, x_dOV, x_dVO, x_dLst, x_tOf, x_tBl, x_dChain, x_tAndD, x_tOrD, x_tNotD, x_vAnd, x_vOr, x_vNot, x_dIf, x_dNeg, x_dIsN, x_dNotN, x_dNo, x_dR1, x_dR2, x_dLR, x_dIsi, x_sSkip, x_sBreak, x_sCont, x_sSeq, x_sIf, x_sDrop, x_sRet, x_asg, x_sSet, x_gNm, x_gN, x_gC, x_gTp, x_sAsg, x_sPar, x_g1, x_g2, x_go1, x_callD0, x_callD1, parOf, putV, lstOf, setL, frOf, Sl.view, add_int, sub_int, int_int, ixl, ixt, len_lst, len_tup, lt_int, gt_int, le_int, ge_int, eq_int, ne_int, at0, at1, at2, at3, notNo, isNone, tupOf, x_dBk, isi_non_int, isi_non_bool, isi_non_str, isi_non_tuple, isi_non_list, isi_bl_int, isi_bl_bool, isi_bl_str, isi_bl_tuple, isi_bl_list, isi_int_int, isi_int_bool, isi_int_str, isi_int_tuple, isi_int_list, isi_str_int, isi_str_bool, isi_str_str, isi_str_tuple, isi_str_list, isi_tup_int, isi_tup_bool, isi_tup_str, isi_tup_tuple, isi_tup_list, isi_lst_int, isi_lst_bool, isi_lst_str, isi_lst_tuple, isi_lst_list, eq_bl, ne_bl, truth, parIn, parBack]) (by simp [fo_ok, th_nx, th_rt, th_bk, th_ct, op_s, ob_ok, oo_s, de_v, de_s, ds_n, ds_c, ts_n, ts_c, tv_v, tv_s, fl_rt, fl_nx, x_dHV, x_dVar, x_dC, x_dVH, x_dIt, x_dRg, x_tYesD, x_dU, x_sPut, x_d2, x_aNil, x_aCons, x_dN, x_pNone, x_pSome, x_dSl, x_dTup, x_dOV, x_dVO, x_dLst, x_tOf, x_tBl, x_dChain, x_tAndD, x_tOrD, x_tNotD, x_vAnd, x_vOr, x_vNot, x_dIf, x_dNeg, x_dIsN, x_dNotN, x_dNo, x_dR1, x_dR2, x_dLR, x_dIsi, x_sSkip, x_sBreak, x_sCont, x_sSeq, x_sIf, x_sDrop, x_sRet, x_asg, x_sSet, x_gNm, x_gN, x_gC, x_gTp, x_sAsg, x_sPar, x_g1, x_g2, x_go1, x_callD0, x_callD1, parOf, putV, lstOf, setL, frOf, Sl.view, add_int, sub_int, int_int, ixl, ixt, len_lst, len_tup, lt_int, gt_int, le_int, ge_int, eq_int, ne_int, at0, at1, at2, at3, notNo, isNone, tupOf, x_dBk, isi_non_int, isi_non_bool, isi_non_str, isi_non_tuple, isi_non_list, isi_bl_int, isi_bl_bool, isi_bl_str, isi_bl_tuple, isi_bl_list, isi_int_int, isi_int_bool, isi_int_str, isi_int_tuple, isi_int_list, isi_str_int, isi_str_bool, isi_str_str, isi_str_tuple, isi_str_list, isi_tup_int, isi_tup_bool, isi_tup_str, isi_tup_tuple, isi_tup_list, isi_lst_int, isi_lst_bool, isi_lst_str, isi_lst_tuple, isi_lst_list, eq_bl, ne_bl, truth, parIn, parBack]) (by omega) (by omega)) (ok_size (by rw [List.length_map, length_rangeI]; omega)) (ys := (row S i).map prV) (ρ2 := [.fz v, .fz (.int S.length), s2, .fz (.int i), .no]) (by
    rw [show wipeE [Sl.fz v, .fz (.int S.length), s2, .fz (.int i), .no] [4] = [.fz v, .fz (.int S.length), s2, .fz (.int i), .no] from rfl, h2]
    unfold row
    rw [List.map_map]
    rfl)
theorem ext_row (X : DO) (v : Val) (n i : Int) (out ys : List Val) (hX : X [.fz v, .fz (.int n), .own out, .fz (.int i), .no] = .ok (.own ys, [.fz v, .fz (.int n), .own out, .fz (.int i), .no])) (hs : out.length + ys.length ≤ sizeLine) :
    sDrop (dOV (dU extV 2 (aCons (dHV (dVO X)) aNil))) [.fz v, .fz (.int n), .own out, .fz (.int i), .no] = .nx [.fz v, .fz (.int n), .own (out ++ ys), .fz (.int i), .no] := by
  simp [fo_ok, th_nx, th_rt, th_bk, th_ct, op_s, ob_ok, oo_s, de_v, de_s, ds_n, ds_c, ts_n, ts_c, tv_v, tv_s, fl_rt, fl_nx, x_dHV, x_dVar, x_dC, x_dVH, x_dIt, x_dRg, x_tYesD, x_dU, x_sPut, x_d2, x_aNil, x_aCons, x_dN, x_pNone, x_pSome, x_dSl, x_dTup, x_dOV, x_dVO, x_dLst, x_tOf, x_tBl, x_dChain, x_tAndD, x_tOrD, x_tNotD, x_vAnd, x_vOr, x_vNot, x_dIf, x_dNeg, x_dIsN, x_dNotN, x_dNo, x_dR1, x_dR2, x_dLR, x_dIsi, x_sSkip, x_sBreak, x_sCont, x_sSeq, x_sIf, x_sDrop, x_sRet, x_asg, x_sSet, x_gNm, x_gN, x_gC, x_gTp, x_sAsg, x_sPar, x_g1, x_g2, x_go1, x_callD0, x_callD1, parOf, putV, lstOf, setL, frOf, Sl.view, add_int, sub_int, int_int, ixl, ixt, len_lst, len_tup, lt_int, gt_int, le_int, ge_int, eq_int, ne_int, at0, at1, at2, at3, notNo, isNone, tupOf, x_dBk, isi_non_int, isi_non_bool, isi_non_str, isi_non_tuple, isi_non_list, isi_bl_int, isi_bl_bool, isi_bl_str, isi_bl_tuple, isi_bl_list, isi_int_int, isi_int_bool, isi_int_str, isi_int_tuple, isi_int_list, isi_str_int, isi_str_bool, isi_str_str, isi_str_tuple, isi_str_list, isi_tup_int, isi_tup_bool, isi_tup_str, isi_tup_tuple, isi_tup_list, isi_lst_int, isi_lst_bool, isi_lst_str, isi_lst_tuple, isi_lst_list, eq_bl, ne_bl, truth, parIn, parBack, hX, extV, hs]
theorem lshown_core (S : List Pr) (hn : S.length ≤ 100) : flRes 1 none (D__law_shown [.fz (stV S), .no, .no, .no, .no]) = .ok (.fz (landOf S), .no) := by
  have lp := forL_all (g := gNm 3) (b := (sDrop (dOV (dU extV 2 (aCons (dHV (dVO (dLc (dRg (dR2 (d2 addV (dVar 3) (dHV (dC (.int 1)))) (dVH (dVar 1)))) (gNm 4) (tAndD (tBl (d2 leV (dHV (d2 ixV (dHV (d2 ixV (dVar 0) (dVar 3))) (dHV (dC (.int 0))))) (dHV (d2 ixV (dHV (d2 ixV (dVar 0) (dVar 4))) (dHV (dC (.int 1))))))) (tBl (d2 leV (dHV (d2 ixV (dHV (d2 ixV (dVar 0) (dVar 4))) (dHV (dC (.int 0))))) (dHV (d2 ixV (dHV (d2 ixV (dVar 0) (dVar 3))) (dHV (dC (.int 1)))))))) (dTup (aCons (dVar 3) (aCons (dVar 4) aNil))) [4]))) aNil)))))
    Val.int (rangeI 0 S.length) (fun pre ρ => ∃ s3, ρ = [.fz (stV S), .fz (.int S.length), .own ((pre.flatMap (row S)).map prV), s3, .no]) (ρ := [.fz (stV S), .fz (.int S.length), .own [], .no, .no]) ⟨.no, rfl⟩ fun pre a post ρ e0 h => by
      obtain ⟨s3, rfl⟩ := h
      have hm : ∀ x ∈ pre ++ a :: post, 0 ≤ x ∧ x < S.length := fun x hx => by rw [← e0] at hx; exact mem_rangeI.mp hx
      have ha := hm a (by simp)
      have hpl : pre.length ≤ 100 := by
        have := congrArg List.length e0
        rw [length_rangeI, List.length_append] at this
        omega
      have hl : (pre.flatMap (row S)).length ≤ 10000 := by
        rw [List.length_flatMap]
        have := sum_le (pre.map fun i => (row S i).length) 100 (by
          intro x hx
          obtain ⟨i, hi, rfl⟩ := List.mem_map.mp hx
          exact row_len S i (hm i (by simp [hi])).1 hn)
        rw [List.length_map] at this
        omega
      have hr := row_len S a ha.1 hn
      refine ⟨[.fz (stV S), .fz (.int S.length), .own ((pre.flatMap (row S)).map prV), .fz (.int a), .no], _, by simp [gNm], .inl (ext_row _ _ _ _ ((pre.flatMap (row S)).map prV) ((row S a).map prV) (lshown_row S hn a ha.1 ha.2 _) (ok_size (by rw [List.length_map, List.length_map]; omega))), .fz (.int a), ?_⟩
      rw [List.flatMap_append, List.map_append]
      simp
  obtain ⟨ρ', h1, s3, rfl⟩ := lp
  rw [← prs_row] at h1
  have hls := len_st S
  have h2s : (2:Nat) ≤ sizeLine := ok_size (by decide)
  have fr := for_eq (rg1 (d := dVH (dVar 1)) (ρ := [.fz (stV S), .fz (.int S.length), .own [], .no, .no]) (ρ' := [.fz (stV S), .fz (.int S.length), .own [], .no, .no]) (n := S.length) (by simp [fo_ok, th_nx, th_rt, th_bk, th_ct, op_s, ob_ok, oo_s, de_v, de_s, ds_n, ds_c, ts_n, ts_c, tv_v, tv_s, fl_rt, fl_nx, x_dHV, x_dVar, x_dC, x_dVH, x_dIt, x_dRg, x_tYesD, x_dU, x_sPut, x_d2, x_aNil, x_aCons, x_dN, x_pNone, x_pSome, x_dSl, x_dTup, x_dOV, x_dVO, x_dLst, x_tOf, x_tBl, x_dChain, x_tAndD, x_tOrD, x_tNotD, x_vAnd, x_vOr, x_vNot, x_dIf, x_dNeg, x_dIsN, x_dNotN, x_dNo, x_dR1, x_dR2, x_dLR, x_dIsi, x_sSkip, x_sBreak, x_sCont, x_sSeq, x_sIf, x_sDrop, x_sRet, x_asg, x_sSet, x_gNm, x_gN, x_gC, x_gTp, x_sAsg, x_sPar, x_g1, x_g2, x_go1, x_callD0, x_callD1, parOf, putV, lstOf, setL, frOf, Sl.view, add_int, sub_int, int_int, ixl, ixt, len_lst, len_tup, lt_int, gt_int, le_int, ge_int, eq_int, ne_int, at0, at1, at2, at3, notNo, isNone, tupOf, x_dBk, isi_non_int, isi_non_bool, isi_non_str, isi_non_tuple, isi_non_list, isi_bl_int, isi_bl_bool, isi_bl_str, isi_bl_tuple, isi_bl_list, isi_int_int, isi_int_bool, isi_int_str, isi_int_tuple, isi_int_list, isi_str_int, isi_str_bool, isi_str_str, isi_str_tuple, isi_str_list, isi_tup_int, isi_tup_bool, isi_tup_str, isi_tup_tuple, isi_tup_list, isi_lst_int, isi_lst_bool, isi_lst_str, isi_lst_tuple, isi_lst_list, eq_bl, ne_bl, truth, parIn, parBack]) (by omega)) (g := gNm 3) (b := (sDrop (dOV (dU extV 2 (aCons (dHV (dVO (dLc (dRg (dR2 (d2 addV (dVar 3) (dHV (dC (.int 1)))) (dVH (dVar 1)))) (gNm 4) (tAndD (tBl (d2 leV (dHV (d2 ixV (dHV (d2 ixV (dVar 0) (dVar 3))) (dHV (dC (.int 0))))) (dHV (d2 ixV (dHV (d2 ixV (dVar 0) (dVar 4))) (dHV (dC (.int 1))))))) (tBl (d2 leV (dHV (d2 ixV (dHV (d2 ixV (dVar 0) (dVar 4))) (dHV (dC (.int 0))))) (dHV (d2 ixV (dHV (d2 ixV (dVar 0) (dVar 3))) (dHV (dC (.int 1)))))))) (dTup (aCons (dVar 3) (aCons (dVar 4) aNil))) [4]))) aNil)))))
  unfold landOf
  unfold D__law_shown
  rw [seq_nx (ρ' := [.fz (stV S), .fz (.int S.length), .no, .no, .no]) (by simp [fo_ok, th_nx, th_rt, th_bk, th_ct, op_s, ob_ok, oo_s, de_v, de_s, ds_n, ds_c, ts_n, ts_c, tv_v, tv_s, fl_rt, fl_nx, x_dHV, x_dVar, x_dC, x_dVH, x_dIt, x_dRg, x_tYesD, x_dU, x_sPut, x_d2, x_aNil, x_aCons, x_dN, x_pNone, x_pSome, x_dSl, x_dTup, x_dOV, x_dVO, x_dLst, x_tOf, x_tBl, x_dChain, x_tAndD, x_tOrD, x_tNotD, x_vAnd, x_vOr, x_vNot, x_dIf, x_dNeg, x_dIsN, x_dNotN, x_dNo, x_dR1, x_dR2, x_dLR, x_dIsi, x_sSkip, x_sBreak, x_sCont, x_sSeq, x_sIf, x_sDrop, x_sRet, x_asg, x_sSet, x_gNm, x_gN, x_gC, x_gTp, x_sAsg, x_sPar, x_g1, x_g2, x_go1, x_callD0, x_callD1, parOf, putV, lstOf, setL, frOf, Sl.view, add_int, sub_int, int_int, ixl, ixt, len_lst, len_tup, lt_int, gt_int, le_int, ge_int, eq_int, ne_int, at0, at1, at2, at3, notNo, isNone, tupOf, x_dBk, isi_non_int, isi_non_bool, isi_non_str, isi_non_tuple, isi_non_list, isi_bl_int, isi_bl_bool, isi_bl_str, isi_bl_tuple, isi_bl_list, isi_int_int, isi_int_bool, isi_int_str, isi_int_tuple, isi_int_list, isi_str_int, isi_str_bool, isi_str_str, isi_str_tuple, isi_str_list, isi_tup_int, isi_tup_bool, isi_tup_str, isi_tup_tuple, isi_tup_list, isi_lst_int, isi_lst_bool, isi_lst_str, isi_lst_tuple, isi_lst_list, eq_bl, ne_bl, truth, parIn, parBack, hls])]
  rw [seq_nx (ρ' := [.fz (stV S), .fz (.int S.length), .own [], .no, .no]) (by simp [fo_ok, th_nx, th_rt, th_bk, th_ct, op_s, ob_ok, oo_s, de_v, de_s, ds_n, ds_c, ts_n, ts_c, tv_v, tv_s, fl_rt, fl_nx, x_dHV, x_dVar, x_dC, x_dVH, x_dIt, x_dRg, x_tYesD, x_dU, x_sPut, x_d2, x_aNil, x_aCons, x_dN, x_pNone, x_pSome, x_dSl, x_dTup, x_dOV, x_dVO, x_dLst, x_tOf, x_tBl, x_dChain, x_tAndD, x_tOrD, x_tNotD, x_vAnd, x_vOr, x_vNot, x_dIf, x_dNeg, x_dIsN, x_dNotN, x_dNo, x_dR1, x_dR2, x_dLR, x_dIsi, x_sSkip, x_sBreak, x_sCont, x_sSeq, x_sIf, x_sDrop, x_sRet, x_asg, x_sSet, x_gNm, x_gN, x_gC, x_gTp, x_sAsg, x_sPar, x_g1, x_g2, x_go1, x_callD0, x_callD1, parOf, putV, lstOf, setL, frOf, Sl.view, add_int, sub_int, int_int, ixl, ixt, len_lst, len_tup, lt_int, gt_int, le_int, ge_int, eq_int, ne_int, at0, at1, at2, at3, notNo, isNone, tupOf, x_dBk, isi_non_int, isi_non_bool, isi_non_str, isi_non_tuple, isi_non_list, isi_bl_int, isi_bl_bool, isi_bl_str, isi_bl_tuple, isi_bl_list, isi_int_int, isi_int_bool, isi_int_str, isi_int_tuple, isi_int_list, isi_str_int, isi_str_bool, isi_str_str, isi_str_tuple, isi_str_list, isi_tup_int, isi_tup_bool, isi_tup_str, isi_tup_tuple, isi_tup_list, isi_lst_int, isi_lst_bool, isi_lst_str, isi_lst_tuple, isi_lst_list, eq_bl, ne_bl, truth, parIn, parBack])]
  rw [seq_nx (fr.trans h1)]
  generalize stV S = v
  generalize (prs S.length (meet S)).map prV = ys
  simp [fo_ok, th_nx, th_rt, th_bk, th_ct, op_s, ob_ok, oo_s, de_v, de_s, ds_n, ds_c, ts_n, ts_c, tv_v, tv_s, fl_rt, fl_nx, x_dHV, x_dVar, x_dC, x_dVH, x_dIt, x_dRg, x_tYesD, x_dU, x_sPut, x_d2, x_aNil, x_aCons, x_dN, x_pNone, x_pSome, x_dSl, x_dTup, x_dOV, x_dVO, x_dLst, x_tOf, x_tBl, x_dChain, x_tAndD, x_tOrD, x_tNotD, x_vAnd, x_vOr, x_vNot, x_dIf, x_dNeg, x_dIsN, x_dNotN, x_dNo, x_dR1, x_dR2, x_dLR, x_dIsi, x_sSkip, x_sBreak, x_sCont, x_sSeq, x_sIf, x_sDrop, x_sRet, x_asg, x_sSet, x_gNm, x_gN, x_gC, x_gTp, x_sAsg, x_sPar, x_g1, x_g2, x_go1, x_callD0, x_callD1, parOf, putV, lstOf, setL, frOf, Sl.view, add_int, sub_int, int_int, ixl, ixt, len_lst, len_tup, lt_int, gt_int, le_int, ge_int, eq_int, ne_int, at0, at1, at2, at3, notNo, isNone, tupOf, x_dBk, isi_non_int, isi_non_bool, isi_non_str, isi_non_tuple, isi_non_list, isi_bl_int, isi_bl_bool, isi_bl_str, isi_bl_tuple, isi_bl_list, isi_int_int, isi_int_bool, isi_int_str, isi_int_tuple, isi_int_list, isi_str_int, isi_str_bool, isi_str_str, isi_str_tuple, isi_str_list, isi_tup_int, isi_tup_bool, isi_tup_str, isi_tup_tuple, isi_tup_list, isi_lst_int, isi_lst_bool, isi_lst_str, isi_lst_tuple, isi_lst_list, eq_bl, ne_bl, truth, parIn, parBack, h2s, tupV]
theorem lshown_ok : ShownOk E__law_shown := ⟨rfl, fun S hn => by rw [s__law_shown]; exact lshown_core S hn⟩

/-! ### timetables judged -/
theorem stays_pr : ∀ {xs : List Val}, xs.all stayB = true → ∃ S : List Pr, xs = S.map prV
  | [], _ => ⟨[], rfl⟩
  | x :: xs, h => by
    rw [List.all_cons, Bool.and_eq_true] at h
    obtain ⟨S, rfl⟩ := stays_pr h.2
    have h1 := h.1
    match x, h1 with
    | .tup [a, b], h1 =>
      have h2 : (cnt 0 1000000 a && cnt 0 1000000 b && le2 a b) = true := h1
      simp only [Bool.and_eq_true] at h2
      obtain ⟨m, rfl⟩ := cnt_int h2.1.1
      obtain ⟨n, rfl⟩ := cnt_int h2.1.2
      exact ⟨(m, n) :: S, rfl⟩
theorem stays_st {n : Int} {v : Val} (h : staysB n v = true) : ∃ S : List Pr, v = stV S ∧ (S.length : Int) = n := by
  cases v with
  | tup xs =>
    have h2 : (decide ((xs.length : Int) = n) && xs.all stayB) = true := h
    rw [Bool.and_eq_true, decide_eq_true_eq] at h2
    obtain ⟨S, rfl⟩ := stays_pr h2.2
    exact ⟨S, rfl, by simpa using h2.1⟩
  | _ => cases h
def TimeOk (e : FnE) : Prop := e.np = 2 ∧ ∀ (L : Nat) (n : Int) (w v : Val), L ≤ 1000000 → nice L v = true → n ≤ 100 →
  (staysB n v = false → e.sem [.fz (.tup [.int n, w]), .fz v] = .ok (.fz (.bl false), .no)) ∧
  (∀ (S : List Pr) (q : Bool), v = stV S → staysB n v = true → eqV (landOf S) (.tup [.int n, w]) = some (.bl q) → e.sem [.fz (.tup [.int n, w]), .fz v] = .ok (.fz (.bl q), .no))
theorem time_core (ea eg : FnE) (ha : AreOk ea) (hg : ShownOk eg) (L : Nat) (n : Int) (w v : Val) (hL : L ≤ 1000000) (hv : nice L v = true) (hn : n ≤ 100) :
  (staysB n v = false → flRes 2 none (D_is_timetable ea eg [.fz (.tup [.int n, w]), .fz v]) = .ok (.fz (.bl false), .no)) ∧
  (∀ (S : List Pr) (q : Bool), v = stV S → staysB n v = true → eqV (landOf S) (.tup [.int n, w]) = some (.bl q) → flRes 2 none (D_is_timetable ea eg [.fz (.tup [.int n, w]), .fz v]) = .ok (.fz (.bl q), .no)) := by
  obtain ⟨na, xa⟩ := ha
  obtain ⟨ng, xg⟩ := hg
  have h1 := xa L n v hL hv
  constructor
  · intro h
    rw [h] at h1
    simp [D_is_timetable, fo_ok, th_nx, th_rt, th_bk, th_ct, op_s, ob_ok, oo_s, de_v, de_s, ds_n, ds_c, ts_n, ts_c, tv_v, tv_s, fl_rt, fl_nx, x_dHV, x_dVar, x_dC, x_dVH, x_dIt, x_dRg, x_tYesD, x_dU, x_sPut, x_d2, x_aNil, x_aCons, x_dN, x_pNone, x_pSome, x_dSl, x_dTup, x_dOV, x_dVO, x_dLst, x_tOf, x_tBl, x_dChain, x_tAndD, x_tOrD, x_tNotD, x_vAnd, x_vOr, x_vNot, x_dIf, x_dNeg, x_dIsN, x_dNotN, x_dNo, x_dR1, x_dR2, x_dLR, x_dIsi, x_sSkip, x_sBreak, x_sCont, x_sSeq, x_sIf, x_sDrop, x_sRet, x_asg, x_sSet, x_gNm, x_gN, x_gC, x_gTp, x_sAsg, x_sPar, x_g1, x_g2, x_go1, x_callD0, x_callD1, parOf, putV, lstOf, setL, frOf, Sl.view, add_int, sub_int, int_int, ixl, ixt, len_lst, len_tup, lt_int, gt_int, le_int, ge_int, eq_int, ne_int, at0, at1, at2, at3, notNo, isNone, tupOf, x_dBk, isi_non_int, isi_non_bool, isi_non_str, isi_non_tuple, isi_non_list, isi_bl_int, isi_bl_bool, isi_bl_str, isi_bl_tuple, isi_bl_list, isi_int_int, isi_int_bool, isi_int_str, isi_int_tuple, isi_int_list, isi_str_int, isi_str_bool, isi_str_str, isi_str_tuple, isi_str_list, isi_tup_int, isi_tup_bool, isi_tup_str, isi_tup_tuple, isi_tup_list, isi_lst_int, isi_lst_bool, isi_lst_str, isi_lst_tuple, isi_lst_list, eq_bl, ne_bl, truth, parIn, parBack, na, h1]
  · intro S q e h e2
    rw [h] at h1
    have hs : S.length ≤ 100 := by
      obtain ⟨S2, e3, h3⟩ := stays_st h
      have e4 : S.length = S2.length := by
        have := congrArg (fun x => lenV x) (e.symm.trans e3)
        have h9 : (S.length : Int) = S2.length := by simpa [stV, lenV] using this
        omega
      omega
    have h2 := xg S hs
    subst e
    generalize stV S = u at *
    generalize landOf S = l at *
    simp [D_is_timetable, fo_ok, th_nx, th_rt, th_bk, th_ct, op_s, ob_ok, oo_s, de_v, de_s, ds_n, ds_c, ts_n, ts_c, tv_v, tv_s, fl_rt, fl_nx, x_dHV, x_dVar, x_dC, x_dVH, x_dIt, x_dRg, x_tYesD, x_dU, x_sPut, x_d2, x_aNil, x_aCons, x_dN, x_pNone, x_pSome, x_dSl, x_dTup, x_dOV, x_dVO, x_dLst, x_tOf, x_tBl, x_dChain, x_tAndD, x_tOrD, x_tNotD, x_vAnd, x_vOr, x_vNot, x_dIf, x_dNeg, x_dIsN, x_dNotN, x_dNo, x_dR1, x_dR2, x_dLR, x_dIsi, x_sSkip, x_sBreak, x_sCont, x_sSeq, x_sIf, x_sDrop, x_sRet, x_asg, x_sSet, x_gNm, x_gN, x_gC, x_gTp, x_sAsg, x_sPar, x_g1, x_g2, x_go1, x_callD0, x_callD1, parOf, putV, lstOf, setL, frOf, Sl.view, add_int, sub_int, int_int, ixl, ixt, len_lst, len_tup, lt_int, gt_int, le_int, ge_int, eq_int, ne_int, at0, at1, at2, at3, notNo, isNone, tupOf, x_dBk, isi_non_int, isi_non_bool, isi_non_str, isi_non_tuple, isi_non_list, isi_bl_int, isi_bl_bool, isi_bl_str, isi_bl_tuple, isi_bl_list, isi_int_int, isi_int_bool, isi_int_str, isi_int_tuple, isi_int_list, isi_str_int, isi_str_bool, isi_str_str, isi_str_tuple, isi_str_list, isi_tup_int, isi_tup_bool, isi_tup_str, isi_tup_tuple, isi_tup_list, isi_lst_int, isi_lst_bool, isi_lst_str, isi_lst_tuple, isi_lst_list, eq_bl, ne_bl, truth, parIn, parBack, na, ng, h1, h2, e2]
theorem time_ok : TimeOk E_is_timetable := ⟨rfl, fun L n w v hL hv hn => by
  rw [s_is_timetable]
  exact time_core E_are_stays E_graph_of are_ok graph_ok L n w v hL hv hn⟩
/-! ### the hours, and who met -/
def hrs (S : List Pr) : List Int := S.flatMap fun p => [p.1, p.2]
theorem intsOf_ints : ∀ (ns : List Int), intsOf (ns.map .int) = some ns
  | [] => rfl
  | n :: ns => by
    show (intsOf (ns.map .int)).map (n :: ·) = _
    rw [intsOf_ints ns]; rfl
def HoursOk (e : FnE) : Prop := e.np = 1 ∧ ∀ S : List Pr, S.length ≤ 24 → e.sem [.fz (stV S)] = .ok (.fz (.tup ((sdL (hrs S)).map .int)), .no)
theorem hrs_len (S : List Pr) : (hrs S).length = 2 * S.length := by
  induction S with
  | nil => rfl
  | cons p S ih => unfold hrs at *; rw [List.flatMap_cons, List.length_append, ih, List.length_cons]; simp; omega
theorem sd_hrs (S : List Pr) (h : S.length ≤ 24) : sdV (.lst ((hrs S).map .int)) = some ((sdL (hrs S)).map .int) := by
  have h1 : seqOf (.lst ((hrs S).map .int)) = some (hrs S) := intsOf_ints _
  unfold sdV
  rw [h1, Option.bind_some, if_pos]
  have := hrs_len S
  have := ddI_le (hrs S)
  omega
theorem hours_lc (S : List Pr) (h : S.length ≤ 24) : dLc2 (dIt (dVH (dVar 0))) (gNm 1) tYesD (dIt (dVH (dVar 1))) (gNm 2) tYesD (dVH (dVar 2)) [1, 2] [2] [.fz (stV S), .no, .no] = .ok (.own ((hrs S).map .int), [.fz (stV S), .no, .no]) := by
  have h1 := lcO_map (g := gNm 1) (t := tYesD) (f := lcL2 (dIt (dVH (dVar 1))) (gNm 2) tYesD (dVH (dVar 2)) [2]) (vs := [1, 2]) prV (fun p => [.int p.1, .int p.2]) [.fz (stV S), .no, .no] S fun p hp => by
    generalize stV S = v
    refine ⟨[.fz v, .fz (prV p), .no], [.fz v, .fz (prV p), .no], [.fz v, .fz (prV p), .no], by simp [gNm], rfl, ?_, by simp [wipeE]⟩
    have k := lcL_map1 (g := gNm 2) (t := tYesD) (e := dVH (dVar 2)) (vs := [2]) Val.int Val.int [.fz v, .fz (prV p), .no] [p.1, p.2] fun k hk => by
      generalize prV p = u
      exact ⟨[.fz v, .fz u, .fz (.int k)], [.fz v, .fz u, .fz (.int k)], [.fz v, .fz u, .fz (.int k)], by simp [gNm], rfl, by simp [fo_ok, th_nx, th_rt, th_bk, th_ct, op_s, ob_ok, oo_s, de_v, de_s, ds_n, ds_c, ts_n, ts_c, tv_v, tv_s, fl_rt, fl_nx, x_dHV, x_dVar, x_dC, x_dVH, x_dIt, x_dRg, x_tYesD, x_dU, x_sPut, x_d2, x_aNil, x_aCons, x_dN, x_pNone, x_pSome, x_dSl, x_dTup, x_dOV, x_dVO, x_dLst, x_tOf, x_tBl, x_dChain, x_tAndD, x_tOrD, x_tNotD, x_vAnd, x_vOr, x_vNot, x_dIf, x_dNeg, x_dIsN, x_dNotN, x_dNo, x_dR1, x_dR2, x_dLR, x_dIsi, x_sSkip, x_sBreak, x_sCont, x_sSeq, x_sIf, x_sDrop, x_sRet, x_asg, x_sSet, x_gNm, x_gN, x_gC, x_gTp, x_sAsg, x_sPar, x_g1, x_g2, x_go1, x_callD0, x_callD1, parOf, putV, lstOf, setL, frOf, Sl.view, add_int, sub_int, int_int, ixl, ixt, len_lst, len_tup, lt_int, gt_int, le_int, ge_int, eq_int, ne_int, at0, at1, at2, at3, notNo, isNone, tupOf, x_dBk, isi_non_int, isi_non_bool, isi_non_str, isi_non_tuple, isi_non_list, isi_bl_int, isi_bl_bool, isi_bl_str, isi_bl_tuple, isi_bl_list, isi_int_int, isi_int_bool, isi_int_str, isi_int_tuple, isi_int_list, isi_str_int, isi_str_bool, isi_str_str, isi_str_tuple, isi_str_list, isi_tup_int, isi_tup_bool, isi_tup_str, isi_tup_tuple, isi_tup_list, isi_lst_int, isi_lst_bool, isi_lst_str, isi_lst_tuple, isi_lst_list, eq_bl, ne_bl, truth, parIn, parBack], by simp [wipeE]⟩
    exact lcL2_eq (xs := [p.1, p.2].map Val.int) (ρ1 := [.fz v, .fz (prV p), .no]) (by simp [fo_ok, th_nx, th_rt, th_bk, th_ct, op_s, ob_ok, oo_s, de_v, de_s, ds_n, ds_c, ts_n, ts_c, tv_v, tv_s, fl_rt, fl_nx, x_dHV, x_dVar, x_dC, x_dVH, x_dIt, x_dRg, x_tYesD, x_dU, x_sPut, x_d2, x_aNil, x_aCons, x_dN, x_pNone, x_pSome, x_dSl, x_dTup, x_dOV, x_dVO, x_dLst, x_tOf, x_tBl, x_dChain, x_tAndD, x_tOrD, x_tNotD, x_vAnd, x_vOr, x_vNot, x_dIf, x_dNeg, x_dIsN, x_dNotN, x_dNo, x_dR1, x_dR2, x_dLR, x_dIsi, x_sSkip, x_sBreak, x_sCont, x_sSeq, x_sIf, x_sDrop, x_sRet, x_asg, x_sSet, x_gNm, x_gN, x_gC, x_gTp, x_sAsg, x_sPar, x_g1, x_g2, x_go1, x_callD0, x_callD1, parOf, putV, lstOf, setL, frOf, Sl.view, add_int, sub_int, int_int, ixl, ixt, len_lst, len_tup, lt_int, gt_int, le_int, ge_int, eq_int, ne_int, at0, at1, at2, at3, notNo, isNone, tupOf, x_dBk, isi_non_int, isi_non_bool, isi_non_str, isi_non_tuple, isi_non_list, isi_bl_int, isi_bl_bool, isi_bl_str, isi_bl_tuple, isi_bl_list, isi_int_int, isi_int_bool, isi_int_str, isi_int_tuple, isi_int_list, isi_str_int, isi_str_bool, isi_str_str, isi_str_tuple, isi_str_list, isi_tup_int, isi_tup_bool, isi_tup_str, isi_tup_tuple, isi_tup_list, isi_lst_int, isi_lst_bool, isi_lst_str, isi_lst_tuple, isi_lst_list, eq_bl, ne_bl, truth, parIn, parBack, goesV, prV]) (ok_size (by simp)) (ρ2 := [.fz v, .fz (prV p), .no]) k
  have h2 : lcO (gNm 1) tYesD (lcL2 (dIt (dVH (dVar 1))) (gNm 2) tYesD (dVH (dVar 2)) [2]) [1, 2] (S.map prV) (wipeE [.fz (stV S), .no, .no] [1, 2]) = some ((hrs S).map .int, [.fz (stV S), .no, .no]) := by
    rw [show wipeE [Sl.fz (stV S), .no, .no] [1, 2] = [.fz (stV S), .no, .no] from rfl, h1]
    unfold hrs
    rw [List.map_flatMap]
    rfl
  exact lc2_eq (xs := S.map prV) (ρ1 := [.fz (stV S), .no, .no]) (by simp [fo_ok, th_nx, th_rt, th_bk, th_ct, op_s, ob_ok, oo_s, de_v, de_s, ds_n, ds_c, ts_n, ts_c, tv_v, tv_s, fl_rt, fl_nx, x_dHV, x_dVar, x_dC, x_dVH, x_dIt, x_dRg, x_tYesD, x_dU, x_sPut, x_d2, x_aNil, x_aCons, x_dN, x_pNone, x_pSome, x_dSl, x_dTup, x_dOV, x_dVO, x_dLst, x_tOf, x_tBl, x_dChain, x_tAndD, x_tOrD, x_tNotD, x_vAnd, x_vOr, x_vNot, x_dIf, x_dNeg, x_dIsN, x_dNotN, x_dNo, x_dR1, x_dR2, x_dLR, x_dIsi, x_sSkip, x_sBreak, x_sCont, x_sSeq, x_sIf, x_sDrop, x_sRet, x_asg, x_sSet, x_gNm, x_gN, x_gC, x_gTp, x_sAsg, x_sPar, x_g1, x_g2, x_go1, x_callD0, x_callD1, parOf, putV, lstOf, setL, frOf, Sl.view, add_int, sub_int, int_int, ixl, ixt, len_lst, len_tup, lt_int, gt_int, le_int, ge_int, eq_int, ne_int, at0, at1, at2, at3, notNo, isNone, tupOf, x_dBk, isi_non_int, isi_non_bool, isi_non_str, isi_non_tuple, isi_non_list, isi_bl_int, isi_bl_bool, isi_bl_str, isi_bl_tuple, isi_bl_list, isi_int_int, isi_int_bool, isi_int_str, isi_int_tuple, isi_int_list, isi_str_int, isi_str_bool, isi_str_str, isi_str_tuple, isi_str_list, isi_tup_int, isi_tup_bool, isi_tup_str, isi_tup_tuple, isi_tup_list, isi_lst_int, isi_lst_bool, isi_lst_str, isi_lst_tuple, isi_lst_list, eq_bl, ne_bl, truth, parIn, parBack, stV, goesV]) h2 (ok_size (by rw [List.length_map, hrs_len]; omega))
theorem hours_fin (X : DO) (v : Val) (ys zs : List Val) (hX : X [.fz v, .no, .no] = .ok (.own ys, [.fz v, .no, .no])) (hs : sdV (.lst ys) = some zs) :
    flRes 1 none ((sRet (dOV (dN (g1 tupV) (aCons (dHV (dVO (dNo (go1 sdV) (aCons (dHV (dVO X)) aNil)))) aNil)))) [.fz v, .no, .no]) = .ok (.fz (.tup zs), .no) := by
  simp [fo_ok, th_nx, th_rt, th_bk, th_ct, op_s, ob_ok, oo_s, de_v, de_s, ds_n, ds_c, ts_n, ts_c, tv_v, tv_s, fl_rt, fl_nx, x_dHV, x_dVar, x_dC, x_dVH, x_dIt, x_dRg, x_tYesD, x_dU, x_sPut, x_d2, x_aNil, x_aCons, x_dN, x_pNone, x_pSome, x_dSl, x_dTup, x_dOV, x_dVO, x_dLst, x_tOf, x_tBl, x_dChain, x_tAndD, x_tOrD, x_tNotD, x_vAnd, x_vOr, x_vNot, x_dIf, x_dNeg, x_dIsN, x_dNotN, x_dNo, x_dR1, x_dR2, x_dLR, x_dIsi, x_sSkip, x_sBreak, x_sCont, x_sSeq, x_sIf, x_sDrop, x_sRet, x_asg, x_sSet, x_gNm, x_gN, x_gC, x_gTp, x_sAsg, x_sPar, x_g1, x_g2, x_go1, x_callD0, x_callD1, parOf, putV, lstOf, setL, frOf, Sl.view, add_int, sub_int, int_int, ixl, ixt, len_lst, len_tup, lt_int, gt_int, le_int, ge_int, eq_int, ne_int, at0, at1, at2, at3, notNo, isNone, tupOf, x_dBk, isi_non_int, isi_non_bool, isi_non_str, isi_non_tuple, isi_non_list, isi_bl_int, isi_bl_bool, isi_bl_str, isi_bl_tuple, isi_bl_list, isi_int_int, isi_int_bool, isi_int_str, isi_int_tuple, isi_int_list, isi_str_int, isi_str_bool, isi_str_str, isi_str_tuple, isi_str_list, isi_tup_int, isi_tup_bool, isi_tup_str, isi_tup_tuple, isi_tup_list, isi_lst_int, isi_lst_bool, isi_lst_str, isi_lst_tuple, isi_lst_list, eq_bl, ne_bl, truth, parIn, parBack, hX, hs, tupV]
theorem hours_ok : HoursOk E_hours_of := ⟨rfl, fun S h => by
  rw [s_hours_of]
  exact hours_fin _ _ _ _ (hours_lc S h) (sd_hrs S h)⟩

/-! ### the drawn stays -/
def MetOk (e : FnE) : Prop := e.np = 3 ∧ ∀ (n i j : Int) (P : List (Int × Int)), e.sem [.fz (.tup [.int n, .tup (P.map prV)]), .fz (.int i), .fz (.int j)] = .ok (.fz (.bl (decide ((if j < i then j else i, if i < j then j else i) ∈ P))), .no)
theorem met_ok : MetOk E__law_met := by
  refine ⟨rfl, fun n i j P => ?_⟩
  have h2s : (2:Nat) ≤ sizeLine := ok_size (by decide)
  have h1 := (in_prs (if j < i then j else i, if i < j then j else i) P).2.1
  rw [s__law_met]
  generalize hP : P.map prV = Q at *
  have h3 : inV (.tup [.int (if j < i then j else i), .int (if i < j then j else i)]) (.tup Q) = _ := h1
  simp [D__law_met, fo_ok, th_nx, th_rt, th_bk, th_ct, op_s, ob_ok, oo_s, de_v, de_s, ds_n, ds_c, ts_n, ts_c, tv_v, tv_s, fl_rt, fl_nx, x_dHV, x_dVar, x_dC, x_dVH, x_dIt, x_dRg, x_tYesD, x_dU, x_sPut, x_d2, x_aNil, x_aCons, x_dN, x_pNone, x_pSome, x_dSl, x_dTup, x_dOV, x_dVO, x_dLst, x_tOf, x_tBl, x_dChain, x_tAndD, x_tOrD, x_tNotD, x_vAnd, x_vOr, x_vNot, x_dIf, x_dNeg, x_dIsN, x_dNotN, x_dNo, x_dR1, x_dR2, x_dLR, x_dIsi, x_sSkip, x_sBreak, x_sCont, x_sSeq, x_sIf, x_sDrop, x_sRet, x_asg, x_sSet, x_gNm, x_gN, x_gC, x_gTp, x_sAsg, x_sPar, x_g1, x_g2, x_go1, x_callD0, x_callD1, parOf, putV, lstOf, setL, frOf, Sl.view, add_int, sub_int, int_int, ixl, ixt, len_lst, len_tup, lt_int, gt_int, le_int, ge_int, eq_int, ne_int, at0, at1, at2, at3, notNo, isNone, tupOf, x_dBk, isi_non_int, isi_non_bool, isi_non_str, isi_non_tuple, isi_non_list, isi_bl_int, isi_bl_bool, isi_bl_str, isi_bl_tuple, isi_bl_list, isi_int_int, isi_int_bool, isi_int_str, isi_int_tuple, isi_int_list, isi_str_int, isi_str_bool, isi_str_str, isi_str_tuple, isi_str_list, isi_tup_int, isi_tup_bool, isi_tup_str, isi_tup_tuple, isi_tup_list, isi_lst_int, isi_lst_bool, isi_lst_str, isi_lst_tuple, isi_lst_list, eq_bl, ne_bl, truth, parIn, parBack, min2V, max2V, h2s, h3]
def GoodS (S : List Pr) : Prop := ∀ p ∈ S, 0 ≤ p.1 ∧ p.1 ≤ p.2 ∧ p.2 ≤ 1000000
def LateOk (e : FnE) : Prop := e.np = 2 ∧ ∀ (t : Tape) (n : Nat), n ≤ 24 → ∃ (t' : Tape) (S : List Pr), e.sem [.par t.v, .fz (.int n)] = .ok (.fz (stV S), .par t'.v) ∧ S.length = n ∧ GoodS S
theorem srt_int_eq (xs : List Int) : srt Val.int xs = xs.mergeSort fun a b => decide (a ≤ b) := by
  unfold srt
  have h : (fun a b => PySem.W.dataLe false Val.py (Val.int a) (Val.int b)) = fun a b : Int => decide (a ≤ b) := by
    have := PySem.W.dataLe_int (β := Val) (fun v => match v with | .int n => n | _ => 0)
    funext a b
    rw [PySem.W.dataLe_eq]
    show (!PySem.W.dataLt (Val.int b).py (Val.int a).py) = _
    show (!PySem.W.dataLt (.int b) (.int a)) = _
    rw [PySem.W.dataLt_int]
    by_cases h : a ≤ b
    · have : ¬ b < a := by omega
      simp [h, this]
    · have : b < a := by omega
      simp [h, this]
  rw [h]
theorem sort2 (a b : Int) : ∃ x y : Int, sortV (.lst [.int a, .int b]) = some [.int x, .int y] ∧ x ≤ y ∧ ((x = a ∧ y = b) ∨ (x = b ∧ y = a)) := by
  have h := sort_ints [a, b] (ok_size (by simp))
  rw [srt_int_eq] at h
  by_cases c : a ≤ b
  · have e : [a, b].mergeSort (fun a b => decide (a ≤ b)) = [a, b] := List.mergeSort_of_pairwise (by simp [c])
    rw [e] at h
    exact ⟨a, b, h, c, .inl ⟨rfl, rfl⟩⟩
  · have e : [a, b].mergeSort (fun a b => decide (a ≤ b)) = [b, a] := by
      simp [List.mergeSort, List.MergeSort.Internal.splitInTwo, List.merge, c]
    rw [e] at h
    exact ⟨b, a, h, by omega, .inr ⟨rfl, rfl⟩⟩
theorem late_step (e : FnE) (np : e.np = 2) (tv t2v t3v : List Val) (w top k : Val) (out : List Val) (a b : Val) (ss : List Val) (h1 : e.sem [.par tv, .fz top] = .ok (.fz a, .par t2v)) (h2 : e.sem [.par t2v, .fz top] = .ok (.fz b, .par t3v)) (hs : sortV (.lst [a, b]) = some ss) (hl : out.length < sizeLine) :
    sDrop (dOV (dU appV 3 (aCons (dHV (dN (g1 tupV) (aCons (dHV (dVO (dNo (go1 sortV) (aCons (dHV (dVO (dLst (aCons (dHV (dVO (callD1 e 0 (aCons (dVar 0) (aCons (dVar 2) aNil))))) (aCons (dHV (dVO (callD1 e 0 (aCons (dVar 0) (aCons (dVar 2) aNil))))) aNil))))) aNil)))) aNil))) aNil))) [.par tv, .fz w, .fz top, .own out, .fz k] = .nx [.par t3v, .fz w, .fz top, .own (out ++ [.tup ss]), .fz k] := by
  have h2s : (2:Nat) ≤ sizeLine := ok_size (by decide)
  simp [fo_ok, th_nx, th_rt, th_bk, th_ct, op_s, ob_ok, oo_s, de_v, de_s, ds_n, ds_c, ts_n, ts_c, tv_v, tv_s, fl_rt, fl_nx, x_dHV, x_dVar, x_dC, x_dVH, x_dIt, x_dRg, x_tYesD, x_dU, x_sPut, x_d2, x_aNil, x_aCons, x_dN, x_pNone, x_pSome, x_dSl, x_dTup, x_dOV, x_dVO, x_dLst, x_tOf, x_tBl, x_dChain, x_tAndD, x_tOrD, x_tNotD, x_vAnd, x_vOr, x_vNot, x_dIf, x_dNeg, x_dIsN, x_dNotN, x_dNo, x_dR1, x_dR2, x_dLR, x_dIsi, x_sSkip, x_sBreak, x_sCont, x_sSeq, x_sIf, x_sDrop, x_sRet, x_asg, x_sSet, x_gNm, x_gN, x_gC, x_gTp, x_sAsg, x_sPar, x_g1, x_g2, x_go1, x_callD0, x_callD1, parOf, putV, lstOf, setL, frOf, Sl.view, add_int, sub_int, int_int, ixl, ixt, len_lst, len_tup, lt_int, gt_int, le_int, ge_int, eq_int, ne_int, at0, at1, at2, at3, notNo, isNone, tupOf, x_dBk, isi_non_int, isi_non_bool, isi_non_str, isi_non_tuple, isi_non_list, isi_bl_int, isi_bl_bool, isi_bl_str, isi_bl_tuple, isi_bl_list, isi_int_int, isi_int_bool, isi_int_str, isi_int_tuple, isi_int_list, isi_str_int, isi_str_bool, isi_str_str, isi_str_tuple, isi_str_list, isi_tup_int, isi_tup_bool, isi_tup_str, isi_tup_tuple, isi_tup_list, isi_lst_int, isi_lst_bool, isi_lst_str, isi_lst_tuple, isi_lst_list, eq_bl, ne_bl, truth, parIn, parBack, np, h1, h2, h2s, hs, tupV, appV, hl]
theorem late_core (e : FnE) (he : TakeOk e) (t : Tape) (n : Nat) (hn : n ≤ 24) : ∃ (t' : Tape) (S : List Pr), flRes 2 (some 0) (D__law_late e [.par t.v, .fz (.int n), .no, .no, .no]) = .ok (.fz (stV S), .par t'.v) ∧ S.length = n ∧ GoodS S := by
  obtain ⟨np, hx⟩ := he
  obtain ⟨d0, t1, hd0, ht1⟩ := hx t 4 (by decide) (by decide)
  have htop : ∃ top : Int, L2.atI [Val.int 5, .int 12, .int 1000, .int 1000001] (d0 : Int) = some (.int top) ∧ 0 < top ∧ top ≤ 1000001 := by
    have : d0 = 0 ∨ d0 = 1 ∨ d0 = 2 ∨ d0 = 3 := by omega
    rcases this with rfl | rfl | rfl | rfl
    · exact ⟨5, at0 _ _, by decide, by decide⟩
    · exact ⟨12, at1 _ _ _, by decide, by decide⟩
    · exact ⟨1000, at2 _ _ _ _, by decide, by decide⟩
    · exact ⟨1000001, at3 _ _ _ _ _, by decide, by decide⟩
  obtain ⟨top, ht, tp0, tp1⟩ := htop
  have lp := forL_all (g := gNm 4) (b := sDrop (dOV (dU appV 3 (aCons (dHV (dN (g1 tupV) (aCons (dHV (dVO (dNo (go1 sortV) (aCons (dHV (dVO (dLst (aCons (dHV (dVO (callD1 e 0 (aCons (dVar 0) (aCons (dVar 2) aNil))))) (aCons (dHV (dVO (callD1 e 0 (aCons (dVar 0) (aCons (dVar 2) aNil))))) aNil))))) aNil)))) aNil))) aNil)))) Val.int (rangeI 0 n)
    (fun pre ρ => ∃ (t : Tape) (S : List Pr) (s4 : Sl), ρ = [.par t.v, .fz (.int n), .fz (.int top), .own (S.map prV), s4] ∧ S.length = pre.length ∧ GoodS S)
    (ρ := [.par t1.v, .fz (.int n), .fz (.int top), .own [], .no]) ⟨t1, [], .no, rfl, rfl, by intro p hp; cases hp⟩ fun pre a post ρ e0 h => by
      obtain ⟨t, S, s4, rfl, hl, hg⟩ := h
      have hlen : pre.length < n := by
        have := congrArg List.length e0
        rw [length_rangeI, List.length_append, List.length_cons] at this
        omega
      obtain ⟨d1, t2, hd1, ht2⟩ := hx t top tp0 (by omega)
      obtain ⟨d2, t3, hd2, ht3⟩ := hx t2 top tp0 (by omega)
      obtain ⟨x, y, hs, hxy, hor⟩ := sort2 d1 d2
      refine ⟨[.par t.v, .fz (.int n), .fz (.int top), .own (S.map prV), .fz (.int a)], _, by simp [gNm], .inl (late_step e np t.v t2.v t3.v (.int n) (.int top) (.int a) (S.map prV) _ _ _ ht2 ht3 hs (by rw [List.length_map]; have : (1000:Nat) ≤ sizeLine := ok_size (by decide); omega)), t3, S ++ [(x, y)], .fz (.int a), ?_, ?_, ?_⟩
      · rw [List.map_append]; rfl
      · rw [List.length_append, List.length_append, hl]; rfl
      · intro p hp
        rcases List.mem_append.mp hp with h | h
        · exact hg p h
        · rw [List.mem_singleton.mp h]
          rcases hor with ⟨rfl, rfl⟩ | ⟨rfl, rfl⟩
          · exact ⟨by omega, hxy, by show (d2 : Int) ≤ _; omega⟩
          · exact ⟨by show 0 ≤ (d2 : Int); omega, hxy, by show (d1 : Int) ≤ _; omega⟩
  obtain ⟨ρ', h1, t4, S, s4, rfl, hl, hg⟩ := lp
  rw [length_rangeI] at hl
  refine ⟨t4, S, ?_, by omega, hg⟩
  have h4s : (4:Nat) ≤ sizeLine := ok_size (by decide)
  unfold D__law_late
  rw [seq_nx (ρ' := [.par t1.v, .fz (.int n), .fz (.int top), .no, .no]) (by simp [fo_ok, th_nx, th_rt, th_bk, th_ct, op_s, ob_ok, oo_s, de_v, de_s, ds_n, ds_c, ts_n, ts_c, tv_v, tv_s, fl_rt, fl_nx, x_dHV, x_dVar, x_dC, x_dVH, x_dIt, x_dRg, x_tYesD, x_dU, x_sPut, x_d2, x_aNil, x_aCons, x_dN, x_pNone, x_pSome, x_dSl, x_dTup, x_dOV, x_dVO, x_dLst, x_tOf, x_tBl, x_dChain, x_tAndD, x_tOrD, x_tNotD, x_vAnd, x_vOr, x_vNot, x_dIf, x_dNeg, x_dIsN, x_dNotN, x_dNo, x_dR1, x_dR2, x_dLR, x_dIsi, x_sSkip, x_sBreak, x_sCont, x_sSeq, x_sIf, x_sDrop, x_sRet, x_asg, x_sSet, x_gNm, x_gN, x_gC, x_gTp, x_sAsg, x_sPar, x_g1, x_g2, x_go1, x_callD0, x_callD1, parOf, putV, lstOf, setL, frOf, Sl.view, add_int, sub_int, int_int, ixl, ixt, len_lst, len_tup, lt_int, gt_int, le_int, ge_int, eq_int, ne_int, at0, at1, at2, at3, notNo, isNone, tupOf, x_dBk, isi_non_int, isi_non_bool, isi_non_str, isi_non_tuple, isi_non_list, isi_bl_int, isi_bl_bool, isi_bl_str, isi_bl_tuple, isi_bl_list, isi_int_int, isi_int_bool, isi_int_str, isi_int_tuple, isi_int_list, isi_str_int, isi_str_bool, isi_str_str, isi_str_tuple, isi_str_list, isi_tup_int, isi_tup_bool, isi_tup_str, isi_tup_tuple, isi_tup_list, isi_lst_int, isi_lst_bool, isi_lst_str, isi_lst_tuple, isi_lst_list, eq_bl, ne_bl, truth, parIn, parBack, np, ht1, h4s, ht])]
  rw [seq_nx (ρ' := [.par t1.v, .fz (.int n), .fz (.int top), .own [], .no]) (by simp [fo_ok, th_nx, th_rt, th_bk, th_ct, op_s, ob_ok, oo_s, de_v, de_s, ds_n, ds_c, ts_n, ts_c, tv_v, tv_s, fl_rt, fl_nx, x_dHV, x_dVar, x_dC, x_dVH, x_dIt, x_dRg, x_tYesD, x_dU, x_sPut, x_d2, x_aNil, x_aCons, x_dN, x_pNone, x_pSome, x_dSl, x_dTup, x_dOV, x_dVO, x_dLst, x_tOf, x_tBl, x_dChain, x_tAndD, x_tOrD, x_tNotD, x_vAnd, x_vOr, x_vNot, x_dIf, x_dNeg, x_dIsN, x_dNotN, x_dNo, x_dR1, x_dR2, x_dLR, x_dIsi, x_sSkip, x_sBreak, x_sCont, x_sSeq, x_sIf, x_sDrop, x_sRet, x_asg, x_sSet, x_gNm, x_gN, x_gC, x_gTp, x_sAsg, x_sPar, x_g1, x_g2, x_go1, x_callD0, x_callD1, parOf, putV, lstOf, setL, frOf, Sl.view, add_int, sub_int, int_int, ixl, ixt, len_lst, len_tup, lt_int, gt_int, le_int, ge_int, eq_int, ne_int, at0, at1, at2, at3, notNo, isNone, tupOf, x_dBk, isi_non_int, isi_non_bool, isi_non_str, isi_non_tuple, isi_non_list, isi_bl_int, isi_bl_bool, isi_bl_str, isi_bl_tuple, isi_bl_list, isi_int_int, isi_int_bool, isi_int_str, isi_int_tuple, isi_int_list, isi_str_int, isi_str_bool, isi_str_str, isi_str_tuple, isi_str_list, isi_tup_int, isi_tup_bool, isi_tup_str, isi_tup_tuple, isi_tup_list, isi_lst_int, isi_lst_bool, isi_lst_str, isi_lst_tuple, isi_lst_list, eq_bl, ne_bl, truth, parIn, parBack])]
  rw [seq_nx ((for_eq (rg1 (d := dVH (dVar 1)) (ρ := [.par t1.v, .fz (.int n), .fz (.int top), .own [], .no]) (ρ' := [.par t1.v, .fz (.int n), .fz (.int top), .own [], .no]) (n := n) (by simp [fo_ok, th_nx, th_rt, th_bk, th_ct, op_s, ob_ok, oo_s, de_v, de_s, ds_n, ds_c, ts_n, ts_c, tv_v, tv_s, fl_rt, fl_nx, x_dHV, x_dVar, x_dC, x_dVH, x_dIt, x_dRg, x_tYesD, x_dU, x_sPut, x_d2, x_aNil, x_aCons, x_dN, x_pNone, x_pSome, x_dSl, x_dTup, x_dOV, x_dVO, x_dLst, x_tOf, x_tBl, x_dChain, x_tAndD, x_tOrD, x_tNotD, x_vAnd, x_vOr, x_vNot, x_dIf, x_dNeg, x_dIsN, x_dNotN, x_dNo, x_dR1, x_dR2, x_dLR, x_dIsi, x_sSkip, x_sBreak, x_sCont, x_sSeq, x_sIf, x_sDrop, x_sRet, x_asg, x_sSet, x_gNm, x_gN, x_gC, x_gTp, x_sAsg, x_sPar, x_g1, x_g2, x_go1, x_callD0, x_callD1, parOf, putV, lstOf, setL, frOf, Sl.view, add_int, sub_int, int_int, ixl, ixt, len_lst, len_tup, lt_int, gt_int, le_int, ge_int, eq_int, ne_int, at0, at1, at2, at3, notNo, isNone, tupOf, x_dBk, isi_non_int, isi_non_bool, isi_non_str, isi_non_tuple, isi_non_list, isi_bl_int, isi_bl_bool, isi_bl_str, isi_bl_tuple, isi_bl_list, isi_int_int, isi_int_bool, isi_int_str, isi_int_tuple, isi_int_list, isi_str_int, isi_str_bool, isi_str_str, isi_str_tuple, isi_str_list, isi_tup_int, isi_tup_bool, isi_tup_str, isi_tup_tuple, isi_tup_list, isi_lst_int, isi_lst_bool, isi_lst_str, isi_lst_tuple, isi_lst_list, eq_bl, ne_bl, truth, parIn, parBack]) (by omega))).trans h1)]
  unfold stV
  generalize S.map prV = ys
  simp [fo_ok, th_nx, th_rt, th_bk, th_ct, op_s, ob_ok, oo_s, de_v, de_s, ds_n, ds_c, ts_n, ts_c, tv_v, tv_s, fl_rt, fl_nx, x_dHV, x_dVar, x_dC, x_dVH, x_dIt, x_dRg, x_tYesD, x_dU, x_sPut, x_d2, x_aNil, x_aCons, x_dN, x_pNone, x_pSome, x_dSl, x_dTup, x_dOV, x_dVO, x_dLst, x_tOf, x_tBl, x_dChain, x_tAndD, x_tOrD, x_tNotD, x_vAnd, x_vOr, x_vNot, x_dIf, x_dNeg, x_dIsN, x_dNotN, x_dNo, x_dR1, x_dR2, x_dLR, x_dIsi, x_sSkip, x_sBreak, x_sCont, x_sSeq, x_sIf, x_sDrop, x_sRet, x_asg, x_sSet, x_gNm, x_gN, x_gC, x_gTp, x_sAsg, x_sPar, x_g1, x_g2, x_go1, x_callD0, x_callD1, parOf, putV, lstOf, setL, frOf, Sl.view, add_int, sub_int, int_int, ixl, ixt, len_lst, len_tup, lt_int, gt_int, le_int, ge_int, eq_int, ne_int, at0, at1, at2, at3, notNo, isNone, tupOf, x_dBk, isi_non_int, isi_non_bool, isi_non_str, isi_non_tuple, isi_non_list, isi_bl_int, isi_bl_bool, isi_bl_str, isi_bl_tuple, isi_bl_list, isi_int_int, isi_int_bool, isi_int_str, isi_int_tuple, isi_int_list, isi_str_int, isi_str_bool, isi_str_str, isi_str_tuple, isi_str_list, isi_tup_int, isi_tup_bool, isi_tup_str, isi_tup_tuple, isi_tup_list, isi_lst_int, isi_lst_bool, isi_lst_str, isi_lst_tuple, isi_lst_list, eq_bl, ne_bl, truth, parIn, parBack, tupV]
theorem late_ok : LateOk E__law_late := ⟨rfl, fun t n hn => by rw [s__law_late]; exact late_core E__law_take take_ok t n hn⟩

/-! ### a value spoilt -/
mutual
def itv (L : Nat) : Val → Bool
  | .tup xs => decide (xs.length ≤ L) && itvs L xs
  | .int _ => true
  | _ => false
def itvs (L : Nat) : List Val → Bool
  | [] => true
  | x :: xs => itv L x && itvs L xs
end
theorem itvs_all {L : Nat} {xs : List Val} : itvs L xs = true ↔ ∀ x ∈ xs, itv L x = true := by
  induction xs with
  | nil => simp [itvs]
  | cons x xs ih => simp [itvs, ih]
mutual
theorem itv_nice {L : Nat} : ∀ {x : Val}, itv L x = true → nice L x = true
  | .tup xs, g => by
    simp only [itv, nice, Bool.and_eq_true] at g ⊢
    exact ⟨g.1, itvs_nice g.2⟩
  | .int _, _ => rfl
theorem itvs_nice {L : Nat} : ∀ {xs : List Val}, itvs L xs = true → nices L xs = true
  | [], _ => rfl
  | x :: xs, g => by
    simp only [itvs, nices, Bool.and_eq_true] at g ⊢
    exact ⟨itv_nice g.1, itvs_nice g.2⟩
end
theorem cutL_mem {α : Type} {xs : List α} {lo hi : Option Int} {x : α} (h : x ∈ cutL xs lo hi) : x ∈ xs := List.mem_of_mem_drop (List.mem_of_mem_take h)
theorem cutL_len {α : Type} (xs : List α) (lo hi : Option Int) : (cutL xs lo hi).length ≤ xs.length := by
  unfold cutL
  rw [List.length_take, List.length_drop]
  omega
theorem backL_mem {α : Type} {xs : List α} {lo hi : Option Int} {x : α} (h : x ∈ backL xs lo hi) : x ∈ xs := by
  unfold backL at h
  obtain ⟨m, _, e⟩ := List.mem_filterMap.mp h
  exact List.mem_of_getElem? e
theorem nice_tup {L : Nat} {ys : List Val} (h : ∀ y ∈ ys, nice L y = true) (hl : ys.length ≤ L) : nice L (.tup ys) = true := by
  simp only [nice, Bool.and_eq_true, decide_eq_true_eq]
  exact ⟨hl, nices_all.mpr h⟩
theorem pick_row (e : FnE) (he : TakeOk e) (t : Tape) (v : Val) (s2 : Sl) (rows : List Val) (h : rows ≠ []) (hl : rows.length ≤ 1000) (s3 : Sl) (hs3 : s3 = .own rows ∨ s3 = .fz (.lst rows)) : ∃ (t' : Tape) (y : Val), y ∈ rows ∧
    (sRet (dOV (d2 ixV (dVar 3) (dHV (dVO (callD1 e 0 (aCons (dVar 0) (aCons (dHV (dN (g1 lenV) (aCons (dVar 3) aNil))) aNil)))))))) [.par t.v, .fz v, s2, s3] = .rt (.fz y) [.par t'.v, .fz v, s2, s3] := by
  obtain ⟨np, hx⟩ := he
  have hp : 0 < rows.length := by cases rows with | nil => exact absurd rfl h | cons _ _ => simp
  obtain ⟨d, t', hd, ht⟩ := hx t rows.length (by omega) (by omega)
  have hd2 : d < rows.length := by omega
  have e1 : L2.atI rows (d : Int) = some rows[d] := by rw [atI_nat hd2]; simp [hd2]
  refine ⟨t', rows[d], List.getElem_mem hd2, ?_⟩
  generalize rows[d] = y at *
  rcases hs3 with rfl | rfl
  · simp [fo_ok, th_nx, th_rt, th_bk, th_ct, op_s, ob_ok, oo_s, de_v, de_s, ds_n, ds_c, ts_n, ts_c, tv_v, tv_s, fl_rt, fl_nx, x_dHV, x_dVar, x_dC, x_dVH, x_dIt, x_dRg, x_tYesD, x_dU, x_sPut, x_d2, x_aNil, x_aCons, x_dN, x_pNone, x_pSome, x_dSl, x_dTup, x_dOV, x_dVO, x_dLst, x_tOf, x_tBl, x_dChain, x_tAndD, x_tOrD, x_tNotD, x_vAnd, x_vOr, x_vNot, x_dIf, x_dNeg, x_dIsN, x_dNotN, x_dNo, x_dR1, x_dR2, x_dLR, x_dIsi, x_sSkip, x_sBreak, x_sCont, x_sSeq, x_sIf, x_sDrop, x_sRet, x_asg, x_sSet, x_gNm, x_gN, x_gC, x_gTp, x_sAsg, x_sPar, x_g1, x_g2, x_go1, x_callD0, x_callD1, parOf, putV, lstOf, setL, frOf, Sl.view, add_int, sub_int, int_int, ixl, ixt, len_lst, len_tup, lt_int, gt_int, le_int, ge_int, eq_int, ne_int, at0, at1, at2, at3, notNo, isNone, tupOf, x_dBk, isi_non_int, isi_non_bool, isi_non_str, isi_non_tuple, isi_non_list, isi_bl_int, isi_bl_bool, isi_bl_str, isi_bl_tuple, isi_bl_list, isi_int_int, isi_int_bool, isi_int_str, isi_int_tuple, isi_int_list, isi_str_int, isi_str_bool, isi_str_str, isi_str_tuple, isi_str_list, isi_tup_int, isi_tup_bool, isi_tup_str, isi_tup_tuple, isi_tup_list, isi_lst_int, isi_lst_bool, isi_lst_str, isi_lst_tuple, isi_lst_list, eq_bl, ne_bl, truth, parIn, parBack, np, ht, e1]
  · simp [fo_ok, th_nx, th_rt, th_bk, th_ct, op_s, ob_ok, oo_s, de_v, de_s, ds_n, ds_c, ts_n, ts_c, tv_v, tv_s, fl_rt, fl_nx, x_dHV, x_dVar, x_dC, x_dVH, x_dIt, x_dRg, x_tYesD, x_dU, x_sPut, x_d2, x_aNil, x_aCons, x_dN, x_pNone, x_pSome, x_dSl, x_dTup, x_dOV, x_dVO, x_dLst, x_tOf, x_tBl, x_dChain, x_tAndD, x_tOrD, x_tNotD, x_vAnd, x_vOr, x_vNot, x_dIf, x_dNeg, x_dIsN, x_dNotN, x_dNo, x_dR1, x_dR2, x_dLR, x_dIsi, x_sSkip, x_sBreak, x_sCont, x_sSeq, x_sIf, x_sDrop, x_sRet, x_asg, x_sSet, x_gNm, x_gN, x_gC, x_gTp, x_sAsg, x_sPar, x_g1, x_g2, x_go1, x_callD0, x_callD1, parOf, putV, lstOf, setL, frOf, Sl.view, add_int, sub_int, int_int, ixl, ixt, len_lst, len_tup, lt_int, gt_int, le_int, ge_int, eq_int, ne_int, at0, at1, at2, at3, notNo, isNone, tupOf, x_dBk, isi_non_int, isi_non_bool, isi_non_str, isi_non_tuple, isi_non_list, isi_bl_int, isi_bl_bool, isi_bl_str, isi_bl_tuple, isi_bl_list, isi_int_int, isi_int_bool, isi_int_str, isi_int_tuple, isi_int_list, isi_str_int, isi_str_bool, isi_str_str, isi_str_tuple, isi_str_list, isi_tup_int, isi_tup_bool, isi_tup_str, isi_tup_tuple, isi_tup_list, isi_lst_int, isi_lst_bool, isi_lst_str, isi_lst_tuple, isi_lst_list, eq_bl, ne_bl, truth, parIn, parBack, np, ht, e1]
def base0 : List Val := [.non, .tup [], .int 0, .int 1, .bl true, .bl false, .str "a", .int (-1), .tup [.int 0], .tup [.tup [.int 0, .int 0]]]
theorem base_nice {L : Nat} (hL : 2 ≤ L) : ∀ y ∈ base0, nice L y = true := by
  intro y hy
  have h1 : 1 ≤ L := by omega
  simp only [base0, List.mem_cons, List.not_mem_nil, or_false] at hy
  rcases hy with rfl | rfl | rfl | rfl | rfl | rfl | rfl | rfl | rfl | rfl <;> simp [nice, nices, h1, hL]
theorem rows_make (ρ : Ev.Env) (h : ρ.length = 4) (b0 b1 b2 b3 : Sl) (e : ρ = [b0, b1, b2, b3]) : (sSet 3 (dLst (aCons (dHV (dC .non)) (aCons (dHV (dTup aNil)) (aCons (dHV (dC (.int 0))) (aCons (dHV (dC (.int 1))) (aCons (dHV (dC (.bl true))) (aCons (dHV (dC (.bl false))) (aCons (dHV (dC (.str "a"))) (aCons (dHV (dNeg (dC (.int 1)))) (aCons (dHV (dTup (aCons (dHV (dC (.int 0))) aNil))) (aCons (dHV (dTup (aCons (dHV (dTup (aCons (dHV (dC (.int 0))) (aCons (dHV (dC (.int 0))) aNil)))) aNil))) aNil)))))))))))) ρ = .nx [b0, b1, b2, .own base0] := by
  subst e
  have h0 : (10:Nat) ≤ sizeLine := ok_size (by decide)
  have h1 : (1:Nat) ≤ sizeLine := ok_size (by decide)
  have h2 : (2:Nat) ≤ sizeLine := ok_size (by decide)
  have h3 : (0:Nat) ≤ sizeLine := Nat.zero_le _
  simp [fo_ok, th_nx, th_rt, th_bk, th_ct, op_s, ob_ok, oo_s, de_v, de_s, ds_n, ds_c, ts_n, ts_c, tv_v, tv_s, fl_rt, fl_nx, x_dHV, x_dVar, x_dC, x_dVH, x_dIt, x_dRg, x_tYesD, x_dU, x_sPut, x_d2, x_aNil, x_aCons, x_dN, x_pNone, x_pSome, x_dSl, x_dTup, x_dOV, x_dVO, x_dLst, x_tOf, x_tBl, x_dChain, x_tAndD, x_tOrD, x_tNotD, x_vAnd, x_vOr, x_vNot, x_dIf, x_dNeg, x_dIsN, x_dNotN, x_dNo, x_dR1, x_dR2, x_dLR, x_dIsi, x_sSkip, x_sBreak, x_sCont, x_sSeq, x_sIf, x_sDrop, x_sRet, x_asg, x_sSet, x_gNm, x_gN, x_gC, x_gTp, x_sAsg, x_sPar, x_g1, x_g2, x_go1, x_callD0, x_callD1, parOf, putV, lstOf, setL, frOf, Sl.view, add_int, sub_int, int_int, ixl, ixt, len_lst, len_tup, lt_int, gt_int, le_int, ge_int, eq_int, ne_int, at0, at1, at2, at3, notNo, isNone, tupOf, x_dBk, isi_non_int, isi_non_bool, isi_non_str, isi_non_tuple, isi_non_list, isi_bl_int, isi_bl_bool, isi_bl_str, isi_bl_tuple, isi_bl_list, isi_int_int, isi_int_bool, isi_int_str, isi_int_tuple, isi_int_list, isi_str_int, isi_str_bool, isi_str_str, isi_str_tuple, isi_str_list, isi_tup_int, isi_tup_bool, isi_tup_str, isi_tup_tuple, isi_tup_list, isi_lst_int, isi_lst_bool, isi_lst_str, isi_lst_tuple, isi_lst_list, eq_bl, ne_bl, truth, parIn, parBack, h0, h1, h2, base0]
theorem int_rows (n : Int) (t : Sl) (s2 : Sl) : (sIf (tOf (dHV (dIsi "int" (dVar 1)))) (sSet 3 (dOV (d2 addV (dVar 3) (dHV (dVO (dLst (aCons (dHV (d2 addV (dVar 1) (dHV (dC (.int 1))))) (aCons (dHV (d2 subV (dVar 1) (dHV (dC (.int 1))))) (aCons (dHV (d2 eqV (dVar 1) (dHV (dC (.int 1))))) (aCons (dHV (d2 addV (dVar 1) (dHV (dC (.int 1))))) aNil)))))))))) sSkip) [t, .fz (.int n), s2, .own base0] = .nx [t, .fz (.int n), s2, .fz (.lst (base0 ++ [.int (n + 1), .int (n - 1), .bl (decide (n = 1)), .int (n + 1)]))] := by
  have h0 : (4:Nat) ≤ sizeLine := ok_size (by decide)
  have h1 : base0.length + 4 ≤ sizeLine := ok_size (by decide)
  generalize base0 = b at *
  simp [fo_ok, th_nx, th_rt, th_bk, th_ct, op_s, ob_ok, oo_s, de_v, de_s, ds_n, ds_c, ts_n, ts_c, tv_v, tv_s, fl_rt, fl_nx, x_dHV, x_dVar, x_dC, x_dVH, x_dIt, x_dRg, x_tYesD, x_dU, x_sPut, x_d2, x_aNil, x_aCons, x_dN, x_pNone, x_pSome, x_dSl, x_dTup, x_dOV, x_dVO, x_dLst, x_tOf, x_tBl, x_dChain, x_tAndD, x_tOrD, x_tNotD, x_vAnd, x_vOr, x_vNot, x_dIf, x_dNeg, x_dIsN, x_dNotN, x_dNo, x_dR1, x_dR2, x_dLR, x_dIsi, x_sSkip, x_sBreak, x_sCont, x_sSeq, x_sIf, x_sDrop, x_sRet, x_asg, x_sSet, x_gNm, x_gN, x_gC, x_gTp, x_sAsg, x_sPar, x_g1, x_g2, x_go1, x_callD0, x_callD1, parOf, putV, lstOf, setL, frOf, Sl.view, add_int, sub_int, int_int, ixl, ixt, len_lst, len_tup, lt_int, gt_int, le_int, ge_int, eq_int, ne_int, at0, at1, at2, at3, notNo, isNone, tupOf, x_dBk, isi_non_int, isi_non_bool, isi_non_str, isi_non_tuple, isi_non_list, isi_bl_int, isi_bl_bool, isi_bl_str, isi_bl_tuple, isi_bl_list, isi_int_int, isi_int_bool, isi_int_str, isi_int_tuple, isi_int_list, isi_str_int, isi_str_bool, isi_str_str, isi_str_tuple, isi_str_list, isi_tup_int, isi_tup_bool, isi_tup_str, isi_tup_tuple, isi_tup_list, isi_lst_int, isi_lst_bool, isi_lst_str, isi_lst_tuple, isi_lst_list, eq_bl, ne_bl, truth, parIn, parBack, h0, addV, h1]
def tupRows (xs : List Val) : List Val := [.tup (cutL xs none (some (-1))), .tup (xs ++ cutL xs (some (-1)) none), .tup (backL xs none none), .tup (xs ++ [.tup [.int 0, .int 0]]), .tup [.tup xs], .tup (cutL xs (some 1) none)]
theorem tup_rows (xs : List Val) (hl : xs.length ≤ 1000) (t : Sl) (s2 : Sl) : (sIf (tOf (dHV (dIsi "tuple" (dVar 1)))) (sSet 3 (dOV (d2 addV (dVar 3) (dHV (dVO (dLst (aCons (dHV (dSl (dVar 1) pNone (pSome (dNeg (dC (.int 1)))))) (aCons (dHV (d2 addV (dVar 1) (dHV (dSl (dVar 1) (pSome (dNeg (dC (.int 1)))) pNone)))) (aCons (dHV (dBk (dVar 1) pNone pNone)) (aCons (dHV (d2 addV (dVar 1) (dHV (dTup (aCons (dHV (dTup (aCons (dHV (dC (.int 0))) (aCons (dHV (dC (.int 0))) aNil)))) aNil))))) (aCons (dHV (dTup (aCons (dVar 1) aNil))) (aCons (dHV (dSl (dVar 1) (pSome (dC (.int 1))) pNone)) aNil)))))))))))) sSkip) [t, .fz (.tup xs), s2, .own base0] = .nx [t, .fz (.tup xs), s2, .fz (.lst (base0 ++ tupRows xs))] := by
  have h0 : (6:Nat) ≤ sizeLine := ok_size (by decide)
  have h1 : base0.length + 6 ≤ sizeLine := ok_size (by decide)
  have h2 : (1:Nat) ≤ sizeLine := ok_size (by decide)
  have h3 : (2:Nat) ≤ sizeLine := ok_size (by decide)
  have h4 := cutL_len xs (some (-1)) none
  have h5 : xs.length + (cutL xs (some (-1)) none).length ≤ sizeLine := ok_size (by omega)
  have h6 : xs.length + 1 ≤ sizeLine := ok_size (by omega)
  unfold tupRows
  generalize base0 = b at *
  simp [fo_ok, th_nx, th_rt, th_bk, th_ct, op_s, ob_ok, oo_s, de_v, de_s, ds_n, ds_c, ts_n, ts_c, tv_v, tv_s, fl_rt, fl_nx, x_dHV, x_dVar, x_dC, x_dVH, x_dIt, x_dRg, x_tYesD, x_dU, x_sPut, x_d2, x_aNil, x_aCons, x_dN, x_pNone, x_pSome, x_dSl, x_dTup, x_dOV, x_dVO, x_dLst, x_tOf, x_tBl, x_dChain, x_tAndD, x_tOrD, x_tNotD, x_vAnd, x_vOr, x_vNot, x_dIf, x_dNeg, x_dIsN, x_dNotN, x_dNo, x_dR1, x_dR2, x_dLR, x_dIsi, x_sSkip, x_sBreak, x_sCont, x_sSeq, x_sIf, x_sDrop, x_sRet, x_asg, x_sSet, x_gNm, x_gN, x_gC, x_gTp, x_sAsg, x_sPar, x_g1, x_g2, x_go1, x_callD0, x_callD1, parOf, putV, lstOf, setL, frOf, Sl.view, add_int, sub_int, int_int, ixl, ixt, len_lst, len_tup, lt_int, gt_int, le_int, ge_int, eq_int, ne_int, at0, at1, at2, at3, notNo, isNone, tupOf, x_dBk, isi_non_int, isi_non_bool, isi_non_str, isi_non_tuple, isi_non_list, isi_bl_int, isi_bl_bool, isi_bl_str, isi_bl_tuple, isi_bl_list, isi_int_int, isi_int_bool, isi_int_str, isi_int_tuple, isi_int_list, isi_str_int, isi_str_bool, isi_str_str, isi_str_tuple, isi_str_list, isi_tup_int, isi_tup_bool, isi_tup_str, isi_tup_tuple, isi_tup_list, isi_lst_int, isi_lst_bool, isi_lst_str, isi_lst_tuple, isi_lst_list, eq_bl, ne_bl, truth, parIn, parBack, h0, h1, h2, h3, h5, h6, addV, slV, backV]

/-! ### spoilt, all of it -/
def SpOk (e : FnE) (m : Nat) : Prop := ∀ (L : Nat) (t : Tape) (x : Val), 2 ≤ L → L ≤ 900 → itv L x = true → dp x < m → ∃ (t' : Tape) (y : Val), e.sem [.par t.v, .fz x] = .ok (.fz y, .par t'.v) ∧ nice (L + 2) y = true
theorem cut_last {α : Type} (xs : List α) : (cutL xs (some (-1)) none).length ≤ 1 := by
  unfold cutL
  rw [List.length_take, List.length_drop]
  have h1 : HT.sIx xs.length 0 (some (-1)) = xs.length - 1 := by
    unfold HT.sIx
    simp
    omega
  have h2 : HT.sIx xs.length xs.length none = xs.length := rfl
  rw [h1, h2]
  omega
theorem rows_nice {L : Nat} {xs : List Val} (hL : 2 ≤ L) (h : itv L (.tup xs) = true) : ∀ y ∈ base0 ++ tupRows xs, nice (L + 2) y = true := by
  intro y hy
  rcases List.mem_append.mp hy with h1 | h1
  · exact base_nice (by omega) y h1
  · have hn := itv_nice h
    simp only [nice, Bool.and_eq_true, decide_eq_true_eq] at hn
    have hx : ∀ z ∈ xs, nice (L + 2) z = true := fun z hz => nice_mono (by omega) (nices_all.mp hn.2 z hz)
    simp only [tupRows, List.mem_cons, List.not_mem_nil, or_false] at h1
    rcases h1 with rfl | rfl | rfl | rfl | rfl | rfl
    · exact nice_tup (fun z hz => hx z (cutL_mem hz)) (by have := cutL_len xs none (some (-1)); omega)
    · refine nice_tup (fun z hz => ?_) ?_
      · rcases List.mem_append.mp hz with h | h
        · exact hx z h
        · exact hx z (cutL_mem h)
      · rw [List.length_append]
        have := cut_last xs
        omega
    · exact nice_tup (fun z hz => hx z (backL_mem hz)) (by have := backL_len xs none none; omega)
    · refine nice_tup (fun z hz => ?_) (by rw [List.length_append]; simp; omega)
      rcases List.mem_append.mp hz with h | h
      · exact hx z h
      · rw [List.mem_singleton.mp h]
        simp [nice, nices]
    · refine nice_tup (fun z hz => ?_) (by simp)
      rw [List.mem_singleton.mp hz]
      exact nice_tup hx (by omega)
    · exact nice_tup (fun z hz => hx z (cutL_mem hz)) (by have := cutL_len xs (some 1) none; omega)
theorem sp_cut (et es : FnE) (np : et.np = 2) (tv t1v t2v t3v : List Val) (xs : List Val) (d0 d1 : Int) (p : d0 > 0) (hne : xs ≠ []) (hl : xs.length ≤ 1000) (h1 : et.sem [.par tv, .fz (.int 4)] = .ok (.fz (.int d0), .par t1v)) (h2 : et.sem [.par t1v, .fz (.int xs.length)] = .ok (.fz (.int d1), .par t2v)) (h3 : et.sem [.par t2v, .fz (.int 8)] = .ok (.fz (.int 0), .par t3v)) :
    D__law_spoilt et es [.par tv, .fz (.tup xs), .no, .no] = .rt (.fz (.tup (cutL xs none (some d1) ++ cutL xs (some (d1 + 1)) none))) [.par t3v, .fz (.tup xs), .fz (.int d1), .no] := by
  have e1 : (0:Int) < xs.length := by cases xs with | nil => exact absurd rfl hne | cons _ _ => simp
  have e2 : (cutL xs none (some d1)).length + (cutL xs (some (d1 + 1)) none).length ≤ sizeLine := ok_size (by have := cutL_len xs none (some d1); have := cutL_len xs (some (d1 + 1)) none; omega)
  unfold D__law_spoilt
  refine seq_rt ?_
  rw [if_t (ρ' := [.par t1v, .fz (.tup xs), .no, .no]) (by simp [fo_ok, th_nx, th_rt, th_bk, th_ct, op_s, ob_ok, oo_s, de_v, de_s, ds_n, ds_c, ts_n, ts_c, tv_v, tv_s, fl_rt, fl_nx, x_dHV, x_dVar, x_dC, x_dVH, x_dIt, x_dRg, x_tYesD, x_dU, x_sPut, x_d2, x_aNil, x_aCons, x_dN, x_pNone, x_pSome, x_dSl, x_dTup, x_dOV, x_dVO, x_dLst, x_tOf, x_tBl, x_dChain, x_tAndD, x_tOrD, x_tNotD, x_vAnd, x_vOr, x_vNot, x_dIf, x_dNeg, x_dIsN, x_dNotN, x_dNo, x_dR1, x_dR2, x_dLR, x_dIsi, x_sSkip, x_sBreak, x_sCont, x_sSeq, x_sIf, x_sDrop, x_sRet, x_asg, x_sSet, x_gNm, x_gN, x_gC, x_gTp, x_sAsg, x_sPar, x_g1, x_g2, x_go1, x_callD0, x_callD1, parOf, putV, lstOf, setL, frOf, Sl.view, add_int, sub_int, int_int, ixl, ixt, len_lst, len_tup, lt_int, gt_int, le_int, ge_int, eq_int, ne_int, at0, at1, at2, at3, notNo, isNone, tupOf, x_dBk, isi_non_int, isi_non_bool, isi_non_str, isi_non_tuple, isi_non_list, isi_bl_int, isi_bl_bool, isi_bl_str, isi_bl_tuple, isi_bl_list, isi_int_int, isi_int_bool, isi_int_str, isi_int_tuple, isi_int_list, isi_str_int, isi_str_bool, isi_str_str, isi_str_tuple, isi_str_list, isi_tup_int, isi_tup_bool, isi_tup_str, isi_tup_tuple, isi_tup_list, isi_lst_int, isi_lst_bool, isi_lst_str, isi_lst_tuple, isi_lst_list, eq_bl, ne_bl, truth, parIn, parBack, np, hne, h1, p])]
  rw [seq_nx (ρ' := [.par t2v, .fz (.tup xs), .fz (.int d1), .no]) (by simp [fo_ok, th_nx, th_rt, th_bk, th_ct, op_s, ob_ok, oo_s, de_v, de_s, ds_n, ds_c, ts_n, ts_c, tv_v, tv_s, fl_rt, fl_nx, x_dHV, x_dVar, x_dC, x_dVH, x_dIt, x_dRg, x_tYesD, x_dU, x_sPut, x_d2, x_aNil, x_aCons, x_dN, x_pNone, x_pSome, x_dSl, x_dTup, x_dOV, x_dVO, x_dLst, x_tOf, x_tBl, x_dChain, x_tAndD, x_tOrD, x_tNotD, x_vAnd, x_vOr, x_vNot, x_dIf, x_dNeg, x_dIsN, x_dNotN, x_dNo, x_dR1, x_dR2, x_dLR, x_dIsi, x_sSkip, x_sBreak, x_sCont, x_sSeq, x_sIf, x_sDrop, x_sRet, x_asg, x_sSet, x_gNm, x_gN, x_gC, x_gTp, x_sAsg, x_sPar, x_g1, x_g2, x_go1, x_callD0, x_callD1, parOf, putV, lstOf, setL, frOf, Sl.view, add_int, sub_int, int_int, ixl, ixt, len_lst, len_tup, lt_int, gt_int, le_int, ge_int, eq_int, ne_int, at0, at1, at2, at3, notNo, isNone, tupOf, x_dBk, isi_non_int, isi_non_bool, isi_non_str, isi_non_tuple, isi_non_list, isi_bl_int, isi_bl_bool, isi_bl_str, isi_bl_tuple, isi_bl_list, isi_int_int, isi_int_bool, isi_int_str, isi_int_tuple, isi_int_list, isi_str_int, isi_str_bool, isi_str_str, isi_str_tuple, isi_str_list, isi_tup_int, isi_tup_bool, isi_tup_str, isi_tup_tuple, isi_tup_list, isi_lst_int, isi_lst_bool, isi_lst_str, isi_lst_tuple, isi_lst_list, eq_bl, ne_bl, truth, parIn, parBack, np, h2])]
  refine seq_rt ?_
  rw [if_t (ρ' := [.par t3v, .fz (.tup xs), .fz (.int d1), .no]) (by simp [fo_ok, th_nx, th_rt, th_bk, th_ct, op_s, ob_ok, oo_s, de_v, de_s, ds_n, ds_c, ts_n, ts_c, tv_v, tv_s, fl_rt, fl_nx, x_dHV, x_dVar, x_dC, x_dVH, x_dIt, x_dRg, x_tYesD, x_dU, x_sPut, x_d2, x_aNil, x_aCons, x_dN, x_pNone, x_pSome, x_dSl, x_dTup, x_dOV, x_dVO, x_dLst, x_tOf, x_tBl, x_dChain, x_tAndD, x_tOrD, x_tNotD, x_vAnd, x_vOr, x_vNot, x_dIf, x_dNeg, x_dIsN, x_dNotN, x_dNo, x_dR1, x_dR2, x_dLR, x_dIsi, x_sSkip, x_sBreak, x_sCont, x_sSeq, x_sIf, x_sDrop, x_sRet, x_asg, x_sSet, x_gNm, x_gN, x_gC, x_gTp, x_sAsg, x_sPar, x_g1, x_g2, x_go1, x_callD0, x_callD1, parOf, putV, lstOf, setL, frOf, Sl.view, add_int, sub_int, int_int, ixl, ixt, len_lst, len_tup, lt_int, gt_int, le_int, ge_int, eq_int, ne_int, at0, at1, at2, at3, notNo, isNone, tupOf, x_dBk, isi_non_int, isi_non_bool, isi_non_str, isi_non_tuple, isi_non_list, isi_bl_int, isi_bl_bool, isi_bl_str, isi_bl_tuple, isi_bl_list, isi_int_int, isi_int_bool, isi_int_str, isi_int_tuple, isi_int_list, isi_str_int, isi_str_bool, isi_str_str, isi_str_tuple, isi_str_list, isi_tup_int, isi_tup_bool, isi_tup_str, isi_tup_tuple, isi_tup_list, isi_lst_int, isi_lst_bool, isi_lst_str, isi_lst_tuple, isi_lst_list, eq_bl, ne_bl, truth, parIn, parBack, np, h3])]
  simp [fo_ok, th_nx, th_rt, th_bk, th_ct, op_s, ob_ok, oo_s, de_v, de_s, ds_n, ds_c, ts_n, ts_c, tv_v, tv_s, fl_rt, fl_nx, x_dHV, x_dVar, x_dC, x_dVH, x_dIt, x_dRg, x_tYesD, x_dU, x_sPut, x_d2, x_aNil, x_aCons, x_dN, x_pNone, x_pSome, x_dSl, x_dTup, x_dOV, x_dVO, x_dLst, x_tOf, x_tBl, x_dChain, x_tAndD, x_tOrD, x_tNotD, x_vAnd, x_vOr, x_vNot, x_dIf, x_dNeg, x_dIsN, x_dNotN, x_dNo, x_dR1, x_dR2, x_dLR, x_dIsi, x_sSkip, x_sBreak, x_sCont, x_sSeq, x_sIf, x_sDrop, x_sRet, x_asg, x_sSet, x_gNm, x_gN, x_gC, x_gTp, x_sAsg, x_sPar, x_g1, x_g2, x_go1, x_callD0, x_callD1, parOf, putV, lstOf, setL, frOf, Sl.view, add_int, sub_int, int_int, ixl, ixt, len_lst, len_tup, lt_int, gt_int, le_int, ge_int, eq_int, ne_int, at0, at1, at2, at3, notNo, isNone, tupOf, x_dBk, isi_non_int, isi_non_bool, isi_non_str, isi_non_tuple, isi_non_list, isi_bl_int, isi_bl_bool, isi_bl_str, isi_bl_tuple, isi_bl_list, isi_int_int, isi_int_bool, isi_int_str, isi_int_tuple, isi_int_list, isi_str_int, isi_str_bool, isi_str_str, isi_str_tuple, isi_str_list, isi_tup_int, isi_tup_bool, isi_tup_str, isi_tup_tuple, isi_tup_list, isi_lst_int, isi_lst_bool, isi_lst_str, isi_lst_tuple, isi_lst_list, eq_bl, ne_bl, truth, parIn, parBack, slV, addV, e2]
theorem sp_in (et es : FnE) (np : et.np = 2) (nps : es.np = 2) (tv t1v t2v t3v t4v : List Val) (xs : List Val) (d0 d1 d2 : Int) (z y : Val) (p : d0 > 0) (p2 : d2 ≠ 0) (hl : xs.length ≤ 1000) (hz : L2.atI xs d1 = some z) (hne : xs ≠ []) (h1 : et.sem [.par tv, .fz (.int 4)] = .ok (.fz (.int d0), .par t1v)) (h2 : et.sem [.par t1v, .fz (.int xs.length)] = .ok (.fz (.int d1), .par t2v)) (h3 : et.sem [.par t2v, .fz (.int 8)] = .ok (.fz (.int d2), .par t3v))
    (h4 : es.sem [.par t3v, .fz z] = .ok (.fz y, .par t4v)) :
    D__law_spoilt et es [.par tv, .fz (.tup xs), .no, .no] = .rt (.fz (.tup (cutL xs none (some d1) ++ [y] ++ cutL xs (some (d1 + 1)) none))) [.par t4v, .fz (.tup xs), .fz (.int d1), .no] := by
  have l1 := cutL_len xs none (some d1)
  have l2 := cutL_len xs (some (d1 + 1)) none
  have e2 : (cutL xs none (some d1)).length + 1 ≤ sizeLine := ok_size (by omega)
  have e3 : (cutL xs none (some d1)).length + 1 + (cutL xs (some (d1 + 1)) none).length ≤ sizeLine := ok_size (by omega)
  have e4 : (cutL xs none (some d1)).length + ((cutL xs (some (d1 + 1)) none).length + 1) ≤ sizeLine := ok_size (by omega)
  have e5 : (1:Nat) ≤ sizeLine := ok_size (by decide)
  unfold D__law_spoilt
  refine seq_rt ?_
  rw [if_t (ρ' := [.par t1v, .fz (.tup xs), .no, .no]) (by simp [fo_ok, th_nx, th_rt, th_bk, th_ct, op_s, ob_ok, oo_s, de_v, de_s, ds_n, ds_c, ts_n, ts_c, tv_v, tv_s, fl_rt, fl_nx, x_dHV, x_dVar, x_dC, x_dVH, x_dIt, x_dRg, x_tYesD, x_dU, x_sPut, x_d2, x_aNil, x_aCons, x_dN, x_pNone, x_pSome, x_dSl, x_dTup, x_dOV, x_dVO, x_dLst, x_tOf, x_tBl, x_dChain, x_tAndD, x_tOrD, x_tNotD, x_vAnd, x_vOr, x_vNot, x_dIf, x_dNeg, x_dIsN, x_dNotN, x_dNo, x_dR1, x_dR2, x_dLR, x_dIsi, x_sSkip, x_sBreak, x_sCont, x_sSeq, x_sIf, x_sDrop, x_sRet, x_asg, x_sSet, x_gNm, x_gN, x_gC, x_gTp, x_sAsg, x_sPar, x_g1, x_g2, x_go1, x_callD0, x_callD1, parOf, putV, lstOf, setL, frOf, Sl.view, add_int, sub_int, int_int, ixl, ixt, len_lst, len_tup, lt_int, gt_int, le_int, ge_int, eq_int, ne_int, at0, at1, at2, at3, notNo, isNone, tupOf, x_dBk, isi_non_int, isi_non_bool, isi_non_str, isi_non_tuple, isi_non_list, isi_bl_int, isi_bl_bool, isi_bl_str, isi_bl_tuple, isi_bl_list, isi_int_int, isi_int_bool, isi_int_str, isi_int_tuple, isi_int_list, isi_str_int, isi_str_bool, isi_str_str, isi_str_tuple, isi_str_list, isi_tup_int, isi_tup_bool, isi_tup_str, isi_tup_tuple, isi_tup_list, isi_lst_int, isi_lst_bool, isi_lst_str, isi_lst_tuple, isi_lst_list, eq_bl, ne_bl, truth, parIn, parBack, np, hne, h1, p])]
  rw [seq_nx (ρ' := [.par t2v, .fz (.tup xs), .fz (.int d1), .no]) (by simp [fo_ok, th_nx, th_rt, th_bk, th_ct, op_s, ob_ok, oo_s, de_v, de_s, ds_n, ds_c, ts_n, ts_c, tv_v, tv_s, fl_rt, fl_nx, x_dHV, x_dVar, x_dC, x_dVH, x_dIt, x_dRg, x_tYesD, x_dU, x_sPut, x_d2, x_aNil, x_aCons, x_dN, x_pNone, x_pSome, x_dSl, x_dTup, x_dOV, x_dVO, x_dLst, x_tOf, x_tBl, x_dChain, x_tAndD, x_tOrD, x_tNotD, x_vAnd, x_vOr, x_vNot, x_dIf, x_dNeg, x_dIsN, x_dNotN, x_dNo, x_dR1, x_dR2, x_dLR, x_dIsi, x_sSkip, x_sBreak, x_sCont, x_sSeq, x_sIf, x_sDrop, x_sRet, x_asg, x_sSet, x_gNm, x_gN, x_gC, x_gTp, x_sAsg, x_sPar, x_g1, x_g2, x_go1, x_callD0, x_callD1, parOf, putV, lstOf, setL, frOf, Sl.view, add_int, sub_int, int_int, ixl, ixt, len_lst, len_tup, lt_int, gt_int, le_int, ge_int, eq_int, ne_int, at0, at1, at2, at3, notNo, isNone, tupOf, x_dBk, isi_non_int, isi_non_bool, isi_non_str, isi_non_tuple, isi_non_list, isi_bl_int, isi_bl_bool, isi_bl_str, isi_bl_tuple, isi_bl_list, isi_int_int, isi_int_bool, isi_int_str, isi_int_tuple, isi_int_list, isi_str_int, isi_str_bool, isi_str_str, isi_str_tuple, isi_str_list, isi_tup_int, isi_tup_bool, isi_tup_str, isi_tup_tuple, isi_tup_list, isi_lst_int, isi_lst_bool, isi_lst_str, isi_lst_tuple, isi_lst_list, eq_bl, ne_bl, truth, parIn, parBack, np, h2])]
  rw [seq_nx (ρ' := [.par t3v, .fz (.tup xs), .fz (.int d1), .no]) (by rw [if_f (ρ' := [.par t3v, .fz (.tup xs), .fz (.int d1), .no]) (by simp [fo_ok, th_nx, th_rt, th_bk, th_ct, op_s, ob_ok, oo_s, de_v, de_s, ds_n, ds_c, ts_n, ts_c, tv_v, tv_s, fl_rt, fl_nx, x_dHV, x_dVar, x_dC, x_dVH, x_dIt, x_dRg, x_tYesD, x_dU, x_sPut, x_d2, x_aNil, x_aCons, x_dN, x_pNone, x_pSome, x_dSl, x_dTup, x_dOV, x_dVO, x_dLst, x_tOf, x_tBl, x_dChain, x_tAndD, x_tOrD, x_tNotD, x_vAnd, x_vOr, x_vNot, x_dIf, x_dNeg, x_dIsN, x_dNotN, x_dNo, x_dR1, x_dR2, x_dLR, x_dIsi, x_sSkip, x_sBreak, x_sCont, x_sSeq, x_sIf, x_sDrop, x_sRet, x_asg, x_sSet, x_gNm, x_gN, x_gC, x_gTp, x_sAsg, x_sPar, x_g1, x_g2, x_go1, x_callD0, x_callD1, parOf, putV, lstOf, setL, frOf, Sl.view, add_int, sub_int, int_int, ixl, ixt, len_lst, len_tup, lt_int, gt_int, le_int, ge_int, eq_int, ne_int, at0, at1, at2, at3, notNo, isNone, tupOf, x_dBk, isi_non_int, isi_non_bool, isi_non_str, isi_non_tuple, isi_non_list, isi_bl_int, isi_bl_bool, isi_bl_str, isi_bl_tuple, isi_bl_list, isi_int_int, isi_int_bool, isi_int_str, isi_int_tuple, isi_int_list, isi_str_int, isi_str_bool, isi_str_str, isi_str_tuple, isi_str_list, isi_tup_int, isi_tup_bool, isi_tup_str, isi_tup_tuple, isi_tup_list, isi_lst_int, isi_lst_bool, isi_lst_str, isi_lst_tuple, isi_lst_list, eq_bl, ne_bl, truth, parIn, parBack, np, h3, p2])]; rfl)]
  simp [fo_ok, th_nx, th_rt, th_bk, th_ct, op_s, ob_ok, oo_s, de_v, de_s, ds_n, ds_c, ts_n, ts_c, tv_v, tv_s, fl_rt, fl_nx, x_dHV, x_dVar, x_dC, x_dVH, x_dIt, x_dRg, x_tYesD, x_dU, x_sPut, x_d2, x_aNil, x_aCons, x_dN, x_pNone, x_pSome, x_dSl, x_dTup, x_dOV, x_dVO, x_dLst, x_tOf, x_tBl, x_dChain, x_tAndD, x_tOrD, x_tNotD, x_vAnd, x_vOr, x_vNot, x_dIf, x_dNeg, x_dIsN, x_dNotN, x_dNo, x_dR1, x_dR2, x_dLR, x_dIsi, x_sSkip, x_sBreak, x_sCont, x_sSeq, x_sIf, x_sDrop, x_sRet, x_asg, x_sSet, x_gNm, x_gN, x_gC, x_gTp, x_sAsg, x_sPar, x_g1, x_g2, x_go1, x_callD0, x_callD1, parOf, putV, lstOf, setL, frOf, Sl.view, add_int, sub_int, int_int, ixl, ixt, len_lst, len_tup, lt_int, gt_int, le_int, ge_int, eq_int, ne_int, at0, at1, at2, at3, notNo, isNone, tupOf, x_dBk, isi_non_int, isi_non_bool, isi_non_str, isi_non_tuple, isi_non_list, isi_bl_int, isi_bl_bool, isi_bl_str, isi_bl_tuple, isi_bl_list, isi_int_int, isi_int_bool, isi_int_str, isi_int_tuple, isi_int_list, isi_str_int, isi_str_bool, isi_str_str, isi_str_tuple, isi_str_list, isi_tup_int, isi_tup_bool, isi_tup_str, isi_tup_tuple, isi_tup_list, isi_lst_int, isi_lst_bool, isi_lst_str, isi_lst_tuple, isi_lst_list, eq_bl, ne_bl, truth, parIn, parBack, slV, addV, nps, hz, h4, e2, e3, e4, e5]

theorem seq_if_f {c : DT} {a b : DS} {ρ ρ' : Ev.Env} (h : c ρ = .ok (false, ρ')) : sSeq (sIf c a sSkip) b ρ = b ρ' := seq_nx ((if_f h).trans rfl)
theorem sp_flat (et es : FnE) (he : TakeOk et) (L : Nat) (t : Tape) (x : Val) (hL : 2 ≤ L) (hL2 : L ≤ 900) (hi : itv L x = true) (ρ : Ev.Env) (t1 : Tape) (hρ : ρ = [.par t1.v, .fz x, .no, .no])
  (h0 : (sIf (tAndD (tOf (dHV (dIsi "tuple" (dVar 1)))) (tAndD (tBl (d2 gtV (dHV (dN (g1 lenV) (aCons (dVar 1) aNil))) (dHV (dC (.int 0))))) (tBl (d2 gtV (dHV (dVO (callD1 et 0 (aCons (dVar 0) (aCons (dHV (dC (.int 4))) aNil))))) (dHV (dC (.int 0))))))) (sSeq (sSet 2 (callD1 et 0 (aCons (dVar 0) (aCons (dHV (dN (g1 lenV) (aCons (dVar 1) aNil))) aNil))))
  (sSeq (sIf (tBl (d2 eqV (dHV (dVO (callD1 et 0 (aCons (dVar 0) (aCons (dHV (dC (.int 8))) aNil))))) (dHV (dC (.int 0))))) (sRet (dOV (d2 addV (dHV (dSl (dVar 1) pNone (pSome (dVH (dVar 2))))) (dHV (dSl (dVar 1) (pSome (d2 addV (dVar 2) (dHV (dC (.int 1))))) pNone))))) sSkip)
  (sRet (dOV (d2 addV (dHV (d2 addV (dHV (dSl (dVar 1) pNone (pSome (dVH (dVar 2))))) (dHV (dTup (aCons (dHV (dVO (callD1 es 0 (aCons (dVar 0) (aCons (dHV (d2 ixV (dVar 1) (dVar 2))) aNil))))) aNil))))) (dHV (dSl (dVar 1) (pSome (d2 addV (dVar 2) (dHV (dC (.int 1))))) pNone))))))) sSkip) [.par t.v, .fz x, .no, .no] = .nx ρ) :
    ∃ (t' : Tape) (y : Val) (s3 : Sl), D__law_spoilt et es [.par t.v, .fz x, .no, .no] = .rt (.fz y) [.par t'.v, .fz x, .no, s3] ∧ nice (L + 2) y = true := by
  subst hρ
  have rm := rows_make [.par t1.v, .fz x, .no, .no] rfl (.par t1.v) (.fz x) .no .no rfl
  cases x with
  | int n =>
    obtain ⟨t', y, hy, hp⟩ := pick_row et he t1 (.int n) .no (base0 ++ [.int (n + 1), .int (n - 1), .bl (decide (n = 1)), .int (n + 1)]) (by simp) (by simp [base0]) (.fz (.lst (base0 ++ [.int (n + 1), .int (n - 1), .bl (decide (n = 1)), .int (n + 1)]))) (.inr rfl)
    refine ⟨t', y, .fz (.lst (base0 ++ [.int (n + 1), .int (n - 1), .bl (decide (n = 1)), .int (n + 1)])), ?_, ?_⟩
    · unfold D__law_spoilt
      rw [seq_nx h0, seq_nx rm, seq_nx (int_rows n _ _), seq_if_f (ρ' := [.par t1.v, .fz (.int n), .no, .fz (.lst (base0 ++ [.int (n + 1), .int (n - 1), .bl (decide (n = 1)), .int (n + 1)]))]) (by generalize base0 ++ [.int (n + 1), .int (n - 1), .bl (decide (n = 1)), .int (n + 1)] = b; simp [fo_ok, th_nx, th_rt, th_bk, th_ct, op_s, ob_ok, oo_s, de_v, de_s, ds_n, ds_c, ts_n, ts_c, tv_v, tv_s, fl_rt, fl_nx, x_dHV, x_dVar, x_dC, x_dVH, x_dIt, x_dRg, x_tYesD, x_dU, x_sPut, x_d2, x_aNil, x_aCons, x_dN, x_pNone, x_pSome, x_dSl, x_dTup, x_dOV, x_dVO, x_dLst, x_tOf, x_tBl, x_dChain, x_tAndD, x_tOrD, x_tNotD, x_vAnd, x_vOr, x_vNot, x_dIf, x_dNeg, x_dIsN, x_dNotN, x_dNo, x_dR1, x_dR2, x_dLR, x_dIsi, x_sSkip, x_sBreak, x_sCont, x_sSeq, x_sIf, x_sDrop, x_sRet, x_asg, x_sSet, x_gNm, x_gN, x_gC, x_gTp, x_sAsg, x_sPar, x_g1, x_g2, x_go1, x_callD0, x_callD1, parOf, putV, lstOf, setL, frOf, Sl.view, add_int, sub_int, int_int, ixl, ixt, len_lst, len_tup, lt_int, gt_int, le_int, ge_int, eq_int, ne_int, at0, at1, at2, at3, notNo, isNone, tupOf, x_dBk, isi_non_int, isi_non_bool, isi_non_str, isi_non_tuple, isi_non_list, isi_bl_int, isi_bl_bool, isi_bl_str, isi_bl_tuple, isi_bl_list, isi_int_int, isi_int_bool, isi_int_str, isi_int_tuple, isi_int_list, isi_str_int, isi_str_bool, isi_str_str, isi_str_tuple, isi_str_list, isi_tup_int, isi_tup_bool, isi_tup_str, isi_tup_tuple, isi_tup_list, isi_lst_int, isi_lst_bool, isi_lst_str, isi_lst_tuple, isi_lst_list, eq_bl, ne_bl, truth, parIn, parBack])]
      exact hp
    · rcases List.mem_append.mp hy with h | h
      · exact base_nice (by omega) y h
      · simp only [List.mem_cons, List.not_mem_nil, or_false] at h
        rcases h with rfl | rfl | rfl | rfl <;> rfl
  | tup xs =>
    have hl : xs.length ≤ L := by simp only [itv, Bool.and_eq_true, decide_eq_true_eq] at hi; exact hi.1
    obtain ⟨t', y, hy, hp⟩ := pick_row et he t1 (.tup xs) .no (base0 ++ tupRows xs) (by simp [base0]) (by simp [base0, tupRows]) (.fz (.lst (base0 ++ tupRows xs))) (.inr rfl)
    refine ⟨t', y, .fz (.lst (base0 ++ tupRows xs)), ?_, rows_nice hL hi y hy⟩
    unfold D__law_spoilt
    rw [seq_nx h0, seq_nx rm, seq_if_f (ρ' := [.par t1.v, .fz (.tup xs), .no, .own base0]) (by generalize base0 = b; simp [fo_ok, th_nx, th_rt, th_bk, th_ct, op_s, ob_ok, oo_s, de_v, de_s, ds_n, ds_c, ts_n, ts_c, tv_v, tv_s, fl_rt, fl_nx, x_dHV, x_dVar, x_dC, x_dVH, x_dIt, x_dRg, x_tYesD, x_dU, x_sPut, x_d2, x_aNil, x_aCons, x_dN, x_pNone, x_pSome, x_dSl, x_dTup, x_dOV, x_dVO, x_dLst, x_tOf, x_tBl, x_dChain, x_tAndD, x_tOrD, x_tNotD, x_vAnd, x_vOr, x_vNot, x_dIf, x_dNeg, x_dIsN, x_dNotN, x_dNo, x_dR1, x_dR2, x_dLR, x_dIsi, x_sSkip, x_sBreak, x_sCont, x_sSeq, x_sIf, x_sDrop, x_sRet, x_asg, x_sSet, x_gNm, x_gN, x_gC, x_gTp, x_sAsg, x_sPar, x_g1, x_g2, x_go1, x_callD0, x_callD1, parOf, putV, lstOf, setL, frOf, Sl.view, add_int, sub_int, int_int, ixl, ixt, len_lst, len_tup, lt_int, gt_int, le_int, ge_int, eq_int, ne_int, at0, at1, at2, at3, notNo, isNone, tupOf, x_dBk, isi_non_int, isi_non_bool, isi_non_str, isi_non_tuple, isi_non_list, isi_bl_int, isi_bl_bool, isi_bl_str, isi_bl_tuple, isi_bl_list, isi_int_int, isi_int_bool, isi_int_str, isi_int_tuple, isi_int_list, isi_str_int, isi_str_bool, isi_str_str, isi_str_tuple, isi_str_list, isi_tup_int, isi_tup_bool, isi_tup_str, isi_tup_tuple, isi_tup_list, isi_lst_int, isi_lst_bool, isi_lst_str, isi_lst_tuple, isi_lst_list, eq_bl, ne_bl, truth, parIn, parBack]), seq_nx (tup_rows xs (by omega) _ _)]
    exact hp
  | _ => cases hi

theorem dp_lt {z : Val} {xs : List Val} (h : z ∈ xs) : dp z < dp (.tup xs) := by
  have e : dp (.tup xs) = PyData.depthAll (pys xs) + 1 := by simp [dp, Val.py, PyData.depth]
  rw [e]
  have : ∀ ys : List Val, z ∈ ys → dp z ≤ PyData.depthAll (pys ys) := by
    intro ys
    induction ys with
    | nil => intro h; cases h
    | cons y ys ih =>
      intro h
      simp only [pys, PyData.depthAll]
      rcases List.mem_cons.mp h with rfl | h
      · unfold dp; omega
      · have := ih h; omega
  have := this xs h
  omega
theorem cut_two {α : Type} (xs : List α) (d : Nat) (h : d < xs.length) : (cutL xs none (some (d : Int))).length = d ∧ (cutL xs (some ((d : Int) + 1)) none).length = xs.length - (d + 1) := by
  have h1 : HT.sIx xs.length xs.length (some (d : Int)) = d := by
    unfold HT.sIx
    have : ¬ ((d : Int) < 0) := by omega
    simp [this]
    omega
  have h2 : HT.sIx xs.length 0 (some ((d : Int) + 1)) = d + 1 := by
    unfold HT.sIx
    have : ¬ ((d : Int) + 1 < 0) := by omega
    simp [this]
    omega
  have h3 : HT.sIx xs.length 0 none = 0 := rfl
  have h4 : HT.sIx xs.length xs.length none = xs.length := rfl
  unfold cutL
  rw [h1, h2, h3, h4]
  simp
  omega
theorem sp_core (et es : FnE) (he : TakeOk et) (nps : es.np = 2) (m : Nat) (hs : SpOk es m) (L : Nat) (t : Tape) (x : Val) (hL : 2 ≤ L) (hL2 : L ≤ 900) (hi : itv L x = true) (hd : dp x < m + 1) :
    ∃ (t' : Tape) (y : Val), flRes 2 (some 0) (D__law_spoilt et es [.par t.v, .fz x, .no, .no]) = .ok (.fz y, .par t'.v) ∧ nice (L + 2) y = true := by
  have fin : ∀ (t' : Tape) (y : Val) (s2 s3 : Sl), D__law_spoilt et es [.par t.v, .fz x, .no, .no] = .rt (.fz y) [.par t'.v, .fz x, s2, s3] → flRes 2 (some 0) (D__law_spoilt et es [.par t.v, .fz x, .no, .no]) = .ok (.fz y, .par t'.v) := fun t' y s2 s3 h => by
    rw [h]; simp [fo_ok, th_nx, th_rt, th_bk, th_ct, op_s, ob_ok, oo_s, de_v, de_s, ds_n, ds_c, ts_n, ts_c, tv_v, tv_s, fl_rt, fl_nx, x_dHV, x_dVar, x_dC, x_dVH, x_dIt, x_dRg, x_tYesD, x_dU, x_sPut, x_d2, x_aNil, x_aCons, x_dN, x_pNone, x_pSome, x_dSl, x_dTup, x_dOV, x_dVO, x_dLst, x_tOf, x_tBl, x_dChain, x_tAndD, x_tOrD, x_tNotD, x_vAnd, x_vOr, x_vNot, x_dIf, x_dNeg, x_dIsN, x_dNotN, x_dNo, x_dR1, x_dR2, x_dLR, x_dIsi, x_sSkip, x_sBreak, x_sCont, x_sSeq, x_sIf, x_sDrop, x_sRet, x_asg, x_sSet, x_gNm, x_gN, x_gC, x_gTp, x_sAsg, x_sPar, x_g1, x_g2, x_go1, x_callD0, x_callD1, parOf, putV, lstOf, setL, frOf, Sl.view, add_int, sub_int, int_int, ixl, ixt, len_lst, len_tup, lt_int, gt_int, le_int, ge_int, eq_int, ne_int, at0, at1, at2, at3, notNo, isNone, tupOf, x_dBk, isi_non_int, isi_non_bool, isi_non_str, isi_non_tuple, isi_non_list, isi_bl_int, isi_bl_bool, isi_bl_str, isi_bl_tuple, isi_bl_list, isi_int_int, isi_int_bool, isi_int_str, isi_int_tuple, isi_int_list, isi_str_int, isi_str_bool, isi_str_str, isi_str_tuple, isi_str_list, isi_tup_int, isi_tup_bool, isi_tup_str, isi_tup_tuple, isi_tup_list, isi_lst_int, isi_lst_bool, isi_lst_str, isi_lst_tuple, isi_lst_list, eq_bl, ne_bl, truth, parIn, parBack]
  have flat : ∀ t1 : Tape, _ → ∃ (t' : Tape) (y : Val), flRes 2 (some 0) (D__law_spoilt et es [.par t.v, .fz x, .no, .no]) = .ok (.fz y, .par t'.v) ∧ nice (L + 2) y = true := fun t1 h0 => by
    obtain ⟨t', y, s3, h, hn⟩ := sp_flat et es he L t x hL hL2 hi _ t1 rfl h0
    exact ⟨t', y, fin _ _ _ _ h, hn⟩
  obtain ⟨np, hx⟩ := id he
  cases x with
  | int n =>
    refine flat t ?_
    rw [if_f (ρ' := [.par t.v, .fz (.int n), .no, .no]) (by simp [fo_ok, th_nx, th_rt, th_bk, th_ct, op_s, ob_ok, oo_s, de_v, de_s, ds_n, ds_c, ts_n, ts_c, tv_v, tv_s, fl_rt, fl_nx, x_dHV, x_dVar, x_dC, x_dVH, x_dIt, x_dRg, x_tYesD, x_dU, x_sPut, x_d2, x_aNil, x_aCons, x_dN, x_pNone, x_pSome, x_dSl, x_dTup, x_dOV, x_dVO, x_dLst, x_tOf, x_tBl, x_dChain, x_tAndD, x_tOrD, x_tNotD, x_vAnd, x_vOr, x_vNot, x_dIf, x_dNeg, x_dIsN, x_dNotN, x_dNo, x_dR1, x_dR2, x_dLR, x_dIsi, x_sSkip, x_sBreak, x_sCont, x_sSeq, x_sIf, x_sDrop, x_sRet, x_asg, x_sSet, x_gNm, x_gN, x_gC, x_gTp, x_sAsg, x_sPar, x_g1, x_g2, x_go1, x_callD0, x_callD1, parOf, putV, lstOf, setL, frOf, Sl.view, add_int, sub_int, int_int, ixl, ixt, len_lst, len_tup, lt_int, gt_int, le_int, ge_int, eq_int, ne_int, at0, at1, at2, at3, notNo, isNone, tupOf, x_dBk, isi_non_int, isi_non_bool, isi_non_str, isi_non_tuple, isi_non_list, isi_bl_int, isi_bl_bool, isi_bl_str, isi_bl_tuple, isi_bl_list, isi_int_int, isi_int_bool, isi_int_str, isi_int_tuple, isi_int_list, isi_str_int, isi_str_bool, isi_str_str, isi_str_tuple, isi_str_list, isi_tup_int, isi_tup_bool, isi_tup_str, isi_tup_tuple, isi_tup_list, isi_lst_int, isi_lst_bool, isi_lst_str, isi_lst_tuple, isi_lst_list, eq_bl, ne_bl, truth, parIn, parBack])]
    rfl
  | tup xs =>
    have hit := hi
    simp only [itv, Bool.and_eq_true, decide_eq_true_eq] at hit
    by_cases hne : xs = []
    · subst hne
      refine flat t ?_
      rw [if_f (ρ' := [.par t.v, .fz (.tup []), .no, .no]) (by simp [fo_ok, th_nx, th_rt, th_bk, th_ct, op_s, ob_ok, oo_s, de_v, de_s, ds_n, ds_c, ts_n, ts_c, tv_v, tv_s, fl_rt, fl_nx, x_dHV, x_dVar, x_dC, x_dVH, x_dIt, x_dRg, x_tYesD, x_dU, x_sPut, x_d2, x_aNil, x_aCons, x_dN, x_pNone, x_pSome, x_dSl, x_dTup, x_dOV, x_dVO, x_dLst, x_tOf, x_tBl, x_dChain, x_tAndD, x_tOrD, x_tNotD, x_vAnd, x_vOr, x_vNot, x_dIf, x_dNeg, x_dIsN, x_dNotN, x_dNo, x_dR1, x_dR2, x_dLR, x_dIsi, x_sSkip, x_sBreak, x_sCont, x_sSeq, x_sIf, x_sDrop, x_sRet, x_asg, x_sSet, x_gNm, x_gN, x_gC, x_gTp, x_sAsg, x_sPar, x_g1, x_g2, x_go1, x_callD0, x_callD1, parOf, putV, lstOf, setL, frOf, Sl.view, add_int, sub_int, int_int, ixl, ixt, len_lst, len_tup, lt_int, gt_int, le_int, ge_int, eq_int, ne_int, at0, at1, at2, at3, notNo, isNone, tupOf, x_dBk, isi_non_int, isi_non_bool, isi_non_str, isi_non_tuple, isi_non_list, isi_bl_int, isi_bl_bool, isi_bl_str, isi_bl_tuple, isi_bl_list, isi_int_int, isi_int_bool, isi_int_str, isi_int_tuple, isi_int_list, isi_str_int, isi_str_bool, isi_str_str, isi_str_tuple, isi_str_list, isi_tup_int, isi_tup_bool, isi_tup_str, isi_tup_tuple, isi_tup_list, isi_lst_int, isi_lst_bool, isi_lst_str, isi_lst_tuple, isi_lst_list, eq_bl, ne_bl, truth, parIn, parBack])]
      rfl
    · have hp : 0 < xs.length := by cases xs with | nil => exact absurd rfl hne | cons _ _ => simp
      obtain ⟨d0, t1, hd0, h1⟩ := hx t 4 (by decide) (by decide)
      by_cases z0 : d0 = 0
      · subst z0
        refine flat t1 ?_
        rw [if_f (ρ' := [.par t1.v, .fz (.tup xs), .no, .no]) (by simp [fo_ok, th_nx, th_rt, th_bk, th_ct, op_s, ob_ok, oo_s, de_v, de_s, ds_n, ds_c, ts_n, ts_c, tv_v, tv_s, fl_rt, fl_nx, x_dHV, x_dVar, x_dC, x_dVH, x_dIt, x_dRg, x_tYesD, x_dU, x_sPut, x_d2, x_aNil, x_aCons, x_dN, x_pNone, x_pSome, x_dSl, x_dTup, x_dOV, x_dVO, x_dLst, x_tOf, x_tBl, x_dChain, x_tAndD, x_tOrD, x_tNotD, x_vAnd, x_vOr, x_vNot, x_dIf, x_dNeg, x_dIsN, x_dNotN, x_dNo, x_dR1, x_dR2, x_dLR, x_dIsi, x_sSkip, x_sBreak, x_sCont, x_sSeq, x_sIf, x_sDrop, x_sRet, x_asg, x_sSet, x_gNm, x_gN, x_gC, x_gTp, x_sAsg, x_sPar, x_g1, x_g2, x_go1, x_callD0, x_callD1, parOf, putV, lstOf, setL, frOf, Sl.view, add_int, sub_int, int_int, ixl, ixt, len_lst, len_tup, lt_int, gt_int, le_int, ge_int, eq_int, ne_int, at0, at1, at2, at3, notNo, isNone, tupOf, x_dBk, isi_non_int, isi_non_bool, isi_non_str, isi_non_tuple, isi_non_list, isi_bl_int, isi_bl_bool, isi_bl_str, isi_bl_tuple, isi_bl_list, isi_int_int, isi_int_bool, isi_int_str, isi_int_tuple, isi_int_list, isi_str_int, isi_str_bool, isi_str_str, isi_str_tuple, isi_str_list, isi_tup_int, isi_tup_bool, isi_tup_str, isi_tup_tuple, isi_tup_list, isi_lst_int, isi_lst_bool, isi_lst_str, isi_lst_tuple, isi_lst_list, eq_bl, ne_bl, truth, parIn, parBack, np, hne, h1])]
        rfl
      · obtain ⟨d1, t2, hd1, h2⟩ := hx t1 xs.length (by omega) (by omega)
        obtain ⟨d2, t3, hd2, h3⟩ := hx t2 8 (by decide) (by decide)
        have hn := nices_all.mp (itvs_nice hit.2)
        have hx2 : ∀ z ∈ xs, nice (L + 2) z = true := fun z hz => nice_mono (by omega) (hn z hz)
        by_cases z2 : d2 = 0
        · subst z2
          refine ⟨t3, _, fin _ _ _ _ (sp_cut et es np t.v t1.v t2.v t3.v xs d0 d1 (by omega) hne (by omega) h1 h2 h3), nice_tup (fun z hz => ?_) ?_⟩
          · rcases List.mem_append.mp hz with h | h
            · exact hx2 z (cutL_mem h)
            · exact hx2 z (cutL_mem h)
          · have := cut_two xs d1 (by omega)
            rw [List.length_append]
            omega
        · have hd1n : d1 < xs.length := by omega
          have hmem : xs[d1] ∈ xs := List.getElem_mem hd1n
          have e1 : L2.atI xs (d1 : Int) = some xs[d1] := by rw [atI_nat hd1n]; simp [hd1n]
          obtain ⟨t4, y, h4, hy⟩ := hs L t3 xs[d1] hL hL2 (itvs_all.mp hit.2 _ hmem) (by
            have := dp_lt hmem
            omega)
          refine ⟨t4, _, fin _ _ _ _ (sp_in et es np nps t.v t1.v t2.v t3.v t4.v xs d0 d1 d2 _ y (by omega) (by omega) (by omega) e1 hne h1 h2 h3 h4), nice_tup (fun z hz => ?_) ?_⟩
          · rcases List.mem_append.mp hz with h | h
            · rcases List.mem_append.mp h with h | h
              · exact hx2 z (cutL_mem h)
              · rw [List.mem_singleton.mp h]; exact hy
            · exact hx2 z (cutL_mem h)
          · have := cut_two xs d1 (by omega)
            rw [List.length_append, List.length_append, List.length_singleton]
            omega
  | _ => cases hi
theorem sp_ok : ∀ m : Nat, SpOk (E__law_spoilt m) m
  | 0 => fun _ _ _ _ _ _ h => absurd h (Nat.not_lt_zero _)
  | m + 1 => fun L t x h1 h2 h3 h4 => by
    rw [s__law_spoilt]
    exact sp_core E__law_take (E__law_spoilt m) take_ok (lv__law_spoilt m).2.2 m (sp_ok m) L t x h1 h2 h3 h4

/-! ### the law: values spoilt -/
theorem prV_itv (p : Pr) {L : Nat} (h : 2 ≤ L) : itv L (prV p) = true := by simp [prV, itv, itvs, h]
theorem stV_itv (S : List Pr) {L : Nat} (h : 2 ≤ L) (hl : S.length ≤ L) : itv L (stV S) = true := by
  simp only [stV, itv, Bool.and_eq_true, decide_eq_true_eq, List.length_map]
  exact ⟨hl, itvs_all.mpr fun x hx => by obtain ⟨p, _, rfl⟩ := List.mem_map.mp hx; exact prV_itv p h⟩
theorem dp_st (S : List Pr) : dp (stV S) ≤ 2 := dp_tup fun x hx => by obtain ⟨p, _, rfl⟩ := List.mem_map.mp hx; rw [dp_pr]; omega
theorem gd_st (S : List Pr) : gd (stV S) = true := by unfold stV gd; exact gds_prs S
theorem wd_pr (p : Pr) : wd (prV p) = true := by simp [prV, wd, wds]
theorem wd_prs {S : List Pr} (h : S.length ≤ 1000000) : wd (.tup (S.map prV)) = true := by
  simp only [wd, Bool.and_eq_true, decide_eq_true_eq, List.length_map]
  exact ⟨h, wds_all.mpr fun x hx => by obtain ⟨p, _, rfl⟩ := List.mem_map.mp hx; exact wd_pr p⟩
theorem gd_land (S : List Pr) : gd (landOf S) = true := by
  have := gds_prs (prs S.length (meet S))
  simp [landOf, gd, gds, this]
theorem dp_land (S : List Pr) : dp (landOf S) ≤ 3 := dp_tup fun x hx => by
  rcases List.mem_cons.mp hx with rfl | hx
  · rw [dp_int]; omega
  · rw [List.mem_singleton.mp hx]; exact dp_tup fun x hx => by obtain ⟨p, _, rfl⟩ := List.mem_map.mp hx; rw [dp_pr]; omega
theorem wd_land (S : List Pr) (h : S.length ≤ 100) : wd (landOf S) = true := by
  have := wd_prs (S := prs S.length (meet S)) (Nat.le_trans (prs_len (by omega)) (by omega))
  simp [landOf, wd, wds] at *
  exact this
def SmOk (e : FnE) : Prop := e.np = 2 ∧ SameOk e 8 ∧ ∀ b, e.sem [.fz (.bl b), .fz (.bl b)] = .ok (.fz (.bl true), .no)
theorem SmOk.bl {e : FnE} (h : SmOk e) (b : Bool) : e.sem [.fz (.bl b), .fz (.bl b)] = .ok (.fz (.bl true), .no) := h.2.2 b
theorem sm_ok : SmOk (E__law_same 8) := ⟨(lv__law_same 8).2.2, same_ok 8, same_bl 7⟩
theorem is_stay_ex (e : FnE) (h : StayOk e) {L : Nat} {x : Val} (hn : nice L x = true) : ∃ b, e.sem [.fz x] = .ok (.fz (.bl b), .no) := ⟨_, h.2 L x hn⟩
def SpzOk (e : FnE) : Prop := e.np = 2 ∧ SpOk e 8

theorem l3_a (esm ear elar etm elsh : FnE) (hsm : SmOk esm) (har : AreOk ear) (hlar : AreOk elar) (htm : TimeOk etm) (hsh : ShownOk elsh) (s1 : Sl) (S : List Pr) (hl : S.length ≤ 24) (v : Val) (hv : nice 902 v = true) (s0 s5 s6 s7 : Sl) (r : List Sl) :
    (sIf (tOrD (tNotD (tOf (dHV (dVO (callD0 esm (aCons (dHV (dVO (callD0 ear (aCons (dVar 2) (aCons (dVar 8) aNil))))) (aCons (dHV (dVO (callD0 elar (aCons (dVar 2) (aCons (dVar 8) aNil))))) aNil))))))) (tNotD (tOf (dHV (dVO (callD0 esm (aCons (dHV (dVO (callD0 etm (aCons (dVar 4) (aCons (dVar 8) aNil))))) (aCons (dHV (vAnd (dVO (callD0 elar (aCons (dVar 2) (aCons (dVar 8) aNil)))) (d2 eqV (dHV (dVO (callD0 elsh (aCons (dVar 8) aNil)))) (dVar 4)))) aNil)))))))) (sRet (dOV (dC (.bl false)))) sSkip)
    (s0 :: s1 :: .fz (.int S.length) :: .fz (stV S) :: .fz (landOf S) :: s5 :: s6 :: s7 :: .fz v :: r) = .nx (s0 :: s1 :: .fz (.int S.length) :: .fz (stV S) :: .fz (landOf S) :: s5 :: s6 :: s7 :: .fz v :: r) := by
  have hb := hsm.bl
  have n1 := hsm.1; have n2 := har.1; have n3 := hlar.1; have n4 := htm.1; have n5 := hsh.1
  have a1 := har.2 902 S.length v (by omega) hv
  have a2 := hlar.2 902 S.length v (by omega) hv
  have a3 := htm.2 902 S.length (.tup ((prs S.length (meet S)).map prV)) v (by omega) hv (by omega)
  have e0 : landOf S = .tup [.int S.length, .tup ((prs S.length (meet S)).map prV)] := rfl
  rw [← e0] at a3
  cases hs : staysB S.length v with
  | false =>
    have a4 := a3.1 hs
    rw [hs] at a1 a2
    simp [z_wE, z_deS, z_drK, z_dsC, z_consO, z_tvS, z_tkK, z_tkK2, z_tsC, z_tkC, z_tkD, y_dHV, z_kHV, y_dVar, z_vFz, z_vOwn, z_vPar, z_vOdK, z_vOdT, z_vLck, z_vBox, z_vPbx, z_vOw2, y_dC, y_dVH, z_kVH, y_dIt, z_kIt, y_dRg, z_kRg, y_tYes, y_d2, z_k2a, z_k2b, z_k2c, y_aNil, y_aCons, z_kA, z_kA2, y_dN, z_kN, z_kN2, y_pNone, y_pSome, z_kPS, y_dSl, z_kSl, z_kSl2, z_kSl3, z_kSl4, y_dBk, z_kBk, z_kBk2, z_kBk3, z_kBk4, y_dTup, z_kT, z_kT2, y_dOV, z_kOV, y_dVO, z_kVO, y_dLst, z_kLst, z_kLst2, y_tOf, z_kTO, z_kTO2, y_tBl, z_kBl, y_dChain, z_kC1, z_kC2, z_kC3, z_kC4, z_kC5, y_tAnd, y_tOr, y_tNot, z_kAnd, z_kOr, z_kNot, i_and, i_or, i_vand, i_vor, y_vAnd, y_vOr, z_kvAndB, z_kvOrB, y_vNot, z_kvNot, z_kvNot2, z_kvNot3, y_dIf, z_kIf, y_dNeg, z_kNeg, y_dIsN, y_dNotN, z_kIsN, z_kNotN, y_dNo, z_kNo, z_kNo2, z_kNo3, y_dR1, z_kR1, y_dR2, z_kR2, z_kR3, y_dLR, z_kLR, y_dIsi, z_kIsi, z_kIsi2, y_call0, z_kC0, z_kC0b, z_kC0c, y_call1, z_kD1, z_kD2, z_kD3, z_kD4, z_kD5, z_kD6, z_kD7, y_dU, z_lstO, z_kU1, z_kU2, z_kU3, z_kU4, z_kU5, z_kU6, y_sSeq, y_sIf, z_kSIf, y_sDrop, y_sRet, y_sSet, z_kDrop, z_kRet, z_kSet, y_sAsg, z_kAsg, z_kAsg2, y_gC, z_gK, y_gN, y_gTp, z_gT, y_gNm, z_ok, y_sPut, z_kPut, z_kPut2, z_kPut3, z_kPut4, z_kPut5, z_kPut6, y_sPar, z_kPar, z_kPar2, y_sFor, z_kFor, y_sForV, z_kFV, z_kFV2s, z_kFV2n, y_sSkip, y_sBreak, y_sCont, y_fRt, z_kFl2, y_fNx, z_kFl3, ob_ok, ob_exc, ob_bad, oo_s, de_v, ds_n, ts_n, tv_v, fo_ok, of_bad, th_nx, th_rt, th_bk, th_ct, th_bad, szk, parOf, putV, lstOf, setL, frOf, Sl.view, add_int, sub_int, int_int, ixl, ixt, len_lst, len_tup, lt_int, gt_int, le_int, ge_int, eq_int, ne_int, at0, at1, at2, at3, notNo, isNone, tupOf, eq_bl, ne_bl, truth, parIn, parBack, x_g1, x_g2, x_go1, len_scr, isi_non_int, isi_non_bool, isi_non_str, isi_non_tuple, isi_non_list, isi_bl_int, isi_bl_bool, isi_bl_str, isi_bl_tuple, isi_bl_list, isi_int_int, isi_int_bool, isi_int_str, isi_int_tuple, isi_int_list, isi_str_int, isi_str_bool, isi_str_str, isi_str_tuple, isi_str_list, isi_tup_int, isi_tup_bool, isi_tup_str, isi_tup_tuple, isi_tup_list, isi_lst_int, isi_lst_bool, isi_lst_str, isi_lst_tuple, isi_lst_list, z_kpN, z_kpF, n1, n2, n3, n4, n5, a1, a2, a4, hb]
  | true =>
    obtain ⟨S', rfl, hl'⟩ := stays_st hs
    obtain ⟨b, e1⟩ : ∃ b, eqV (landOf S') (landOf S) = some (.bl b) := ⟨_, eq_gd (gd_land S') (gd_land S) (.inl (by have := dp_land S'; omega))⟩
    have a4 := a3.2 S' _ rfl hs e1
    have a5 := hsh.2 S' (by omega)
    rw [hs] at a1 a2
    generalize landOf S = l at *
    generalize landOf S' = l' at *
    generalize stV S' = v' at *
    generalize stV S = v at *
    simp [z_wE, z_deS, z_drK, z_dsC, z_consO, z_tvS, z_tkK, z_tkK2, z_tsC, z_tkC, z_tkD, y_dHV, z_kHV, y_dVar, z_vFz, z_vOwn, z_vPar, z_vOdK, z_vOdT, z_vLck, z_vBox, z_vPbx, z_vOw2, y_dC, y_dVH, z_kVH, y_dIt, z_kIt, y_dRg, z_kRg, y_tYes, y_d2, z_k2a, z_k2b, z_k2c, y_aNil, y_aCons, z_kA, z_kA2, y_dN, z_kN, z_kN2, y_pNone, y_pSome, z_kPS, y_dSl, z_kSl, z_kSl2, z_kSl3, z_kSl4, y_dBk, z_kBk, z_kBk2, z_kBk3, z_kBk4, y_dTup, z_kT, z_kT2, y_dOV, z_kOV, y_dVO, z_kVO, y_dLst, z_kLst, z_kLst2, y_tOf, z_kTO, z_kTO2, y_tBl, z_kBl, y_dChain, z_kC1, z_kC2, z_kC3, z_kC4, z_kC5, y_tAnd, y_tOr, y_tNot, z_kAnd, z_kOr, z_kNot, i_and, i_or, i_vand, i_vor, y_vAnd, y_vOr, z_kvAndB, z_kvOrB, y_vNot, z_kvNot, z_kvNot2, z_kvNot3, y_dIf, z_kIf, y_dNeg, z_kNeg, y_dIsN, y_dNotN, z_kIsN, z_kNotN, y_dNo, z_kNo, z_kNo2, z_kNo3, y_dR1, z_kR1, y_dR2, z_kR2, z_kR3, y_dLR, z_kLR, y_dIsi, z_kIsi, z_kIsi2, y_call0, z_kC0, z_kC0b, z_kC0c, y_call1, z_kD1, z_kD2, z_kD3, z_kD4, z_kD5, z_kD6, z_kD7, y_dU, z_lstO, z_kU1, z_kU2, z_kU3, z_kU4, z_kU5, z_kU6, y_sSeq, y_sIf, z_kSIf, y_sDrop, y_sRet, y_sSet, z_kDrop, z_kRet, z_kSet, y_sAsg, z_kAsg, z_kAsg2, y_gC, z_gK, y_gN, y_gTp, z_gT, y_gNm, z_ok, y_sPut, z_kPut, z_kPut2, z_kPut3, z_kPut4, z_kPut5, z_kPut6, y_sPar, z_kPar, z_kPar2, y_sFor, z_kFor, y_sForV, z_kFV, z_kFV2s, z_kFV2n, y_sSkip, y_sBreak, y_sCont, y_fRt, z_kFl2, y_fNx, z_kFl3, ob_ok, ob_exc, ob_bad, oo_s, de_v, ds_n, ts_n, tv_v, fo_ok, of_bad, th_nx, th_rt, th_bk, th_ct, th_bad, szk, parOf, putV, lstOf, setL, frOf, Sl.view, add_int, sub_int, int_int, ixl, ixt, len_lst, len_tup, lt_int, gt_int, le_int, ge_int, eq_int, ne_int, at0, at1, at2, at3, notNo, isNone, tupOf, eq_bl, ne_bl, truth, parIn, parBack, x_g1, x_g2, x_go1, len_scr, isi_non_int, isi_non_bool, isi_non_str, isi_non_tuple, isi_non_list, isi_bl_int, isi_bl_bool, isi_bl_str, isi_bl_tuple, isi_bl_list, isi_int_int, isi_int_bool, isi_int_str, isi_int_tuple, isi_int_list, isi_str_int, isi_str_bool, isi_str_str, isi_str_tuple, isi_str_list, isi_tup_int, isi_tup_bool, isi_tup_str, isi_tup_tuple, isi_tup_list, isi_lst_int, isi_lst_bool, isi_lst_str, isi_lst_tuple, isi_lst_list, z_kpN, z_kpF, n1, n2, n3, n4, n5, a1, a2, a4, a5, e1, hb]

theorem l3_b (esp esm est elst : FnE) (hsp : SpzOk esp) (hsm : SmOk esm) (hst : StayOk est) (hlst : StayOk elst) (t : Tape) (S : List Pr) (hl : S.length ≤ 24) (k : Int) (s0 s4 s5 s6 s8 : Sl) (r : List Sl) :
    ∃ (t' : Tape) (s8' : Sl), (sSeq (sSet 8 (dOV (dIf (tBl (d2 gtV (dVar 2) (dHV (dC (.int 0))))) (dVO (callD1 esp 0 (aCons (dVar 1) (aCons (dHV (d2 ixV (dVar 3) (dHV (dC (.int 0))))) aNil)))) (dTup (aCons (dVar 7) (aCons (dHV (dC (.int 3))) aNil))))))
  (sIf (tNotD (tOf (dHV (dVO (callD0 esm (aCons (dHV (dVO (callD0 est (aCons (dVar 8) aNil)))) (aCons (dHV (dVO (callD0 elst (aCons (dVar 8) aNil)))) aNil))))))) (sRet (dOV (dC (.bl false)))) sSkip))
    (s0 :: .own t.v :: .fz (.int S.length) :: .fz (stV S) :: s4 :: s5 :: s6 :: .fz (.int k) :: s8 :: r) = .nx (s0 :: .own t'.v :: .fz (.int S.length) :: .fz (stV S) :: s4 :: s5 :: s6 :: .fz (.int k) :: s8' :: r) := by
  have hb := hsm.bl
  have n1 := hsm.1; have n2 := hst.1; have n3 := hlst.1; have n4 := hsp.1
  have fin : ∀ (t' : Tape) (v : Val), nice 902 v = true → (sIf (tNotD (tOf (dHV (dVO (callD0 esm (aCons (dHV (dVO (callD0 est (aCons (dVar 8) aNil)))) (aCons (dHV (dVO (callD0 elst (aCons (dVar 8) aNil)))) aNil))))))) (sRet (dOV (dC (.bl false)))) sSkip)
    (s0 :: .own t'.v :: .fz (.int S.length) :: .fz (stV S) :: s4 :: s5 :: s6 :: .fz (.int k) :: .fz v :: r) = .nx (s0 :: .own t'.v :: .fz (.int S.length) :: .fz (stV S) :: s4 :: s5 :: s6 :: .fz (.int k) :: .fz v :: r) := fun t' v hv => by
    have a1 := hst.2 902 v hv
    have a2 := hlst.2 902 v hv
    simp [z_wE, z_deS, z_drK, z_dsC, z_consO, z_tvS, z_tkK, z_tkK2, z_tsC, z_tkC, z_tkD, y_dHV, z_kHV, y_dVar, z_vFz, z_vOwn, z_vPar, z_vOdK, z_vOdT, z_vLck, z_vBox, z_vPbx, z_vOw2, y_dC, y_dVH, z_kVH, y_dIt, z_kIt, y_dRg, z_kRg, y_tYes, y_d2, z_k2a, z_k2b, z_k2c, y_aNil, y_aCons, z_kA, z_kA2, y_dN, z_kN, z_kN2, y_pNone, y_pSome, z_kPS, y_dSl, z_kSl, z_kSl2, z_kSl3, z_kSl4, y_dBk, z_kBk, z_kBk2, z_kBk3, z_kBk4, y_dTup, z_kT, z_kT2, y_dOV, z_kOV, y_dVO, z_kVO, y_dLst, z_kLst, z_kLst2, y_tOf, z_kTO, z_kTO2, y_tBl, z_kBl, y_dChain, z_kC1, z_kC2, z_kC3, z_kC4, z_kC5, y_tAnd, y_tOr, y_tNot, z_kAnd, z_kOr, z_kNot, i_and, i_or, i_vand, i_vor, y_vAnd, y_vOr, z_kvAndB, z_kvOrB, y_vNot, z_kvNot, z_kvNot2, z_kvNot3, y_dIf, z_kIf, y_dNeg, z_kNeg, y_dIsN, y_dNotN, z_kIsN, z_kNotN, y_dNo, z_kNo, z_kNo2, z_kNo3, y_dR1, z_kR1, y_dR2, z_kR2, z_kR3, y_dLR, z_kLR, y_dIsi, z_kIsi, z_kIsi2, y_call0, z_kC0, z_kC0b, z_kC0c, y_call1, z_kD1, z_kD2, z_kD3, z_kD4, z_kD5, z_kD6, z_kD7, y_dU, z_lstO, z_kU1, z_kU2, z_kU3, z_kU4, z_kU5, z_kU6, y_sSeq, y_sIf, z_kSIf, y_sDrop, y_sRet, y_sSet, z_kDrop, z_kRet, z_kSet, y_sAsg, z_kAsg, z_kAsg2, y_gC, z_gK, y_gN, y_gTp, z_gT, y_gNm, z_ok, y_sPut, z_kPut, z_kPut2, z_kPut3, z_kPut4, z_kPut5, z_kPut6, y_sPar, z_kPar, z_kPar2, y_sFor, z_kFor, y_sForV, z_kFV, z_kFV2s, z_kFV2n, y_sSkip, y_sBreak, y_sCont, y_fRt, z_kFl2, y_fNx, z_kFl3, ob_ok, ob_exc, ob_bad, oo_s, de_v, ds_n, ts_n, tv_v, fo_ok, of_bad, th_nx, th_rt, th_bk, th_ct, th_bad, szk, parOf, putV, lstOf, setL, frOf, Sl.view, add_int, sub_int, int_int, ixl, ixt, len_lst, len_tup, lt_int, gt_int, le_int, ge_int, eq_int, ne_int, at0, at1, at2, at3, notNo, isNone, tupOf, eq_bl, ne_bl, truth, parIn, parBack, x_g1, x_g2, x_go1, len_scr, isi_non_int, isi_non_bool, isi_non_str, isi_non_tuple, isi_non_list, isi_bl_int, isi_bl_bool, isi_bl_str, isi_bl_tuple, isi_bl_list, isi_int_int, isi_int_bool, isi_int_str, isi_int_tuple, isi_int_list, isi_str_int, isi_str_bool, isi_str_str, isi_str_tuple, isi_str_list, isi_tup_int, isi_tup_bool, isi_tup_str, isi_tup_tuple, isi_tup_list, isi_lst_int, isi_lst_bool, isi_lst_str, isi_lst_tuple, isi_lst_list, z_kpN, z_kpF, n1, n2, n3, a1, a2, hb]
  cases S with
  | nil =>
    refine ⟨t, .fz (.tup [.int k, .int 3]), ?_⟩
    have := fin t (.tup [.int k, .int 3]) (by simp [nice, nices])
    simp [y_sSeq]
    simp [z_wE, z_deS, z_drK, z_dsC, z_consO, z_tvS, z_tkK, z_tkK2, z_tsC, z_tkC, z_tkD, y_dHV, z_kHV, y_dVar, z_vFz, z_vOwn, z_vPar, z_vOdK, z_vOdT, z_vLck, z_vBox, z_vPbx, z_vOw2, y_dC, y_dVH, z_kVH, y_dIt, z_kIt, y_dRg, z_kRg, y_tYes, y_d2, z_k2a, z_k2b, z_k2c, y_aNil, y_aCons, z_kA, z_kA2, y_dN, z_kN, z_kN2, y_pNone, y_pSome, z_kPS, y_dSl, z_kSl, z_kSl2, z_kSl3, z_kSl4, y_dBk, z_kBk, z_kBk2, z_kBk3, z_kBk4, y_dTup, z_kT, z_kT2, y_dOV, z_kOV, y_dVO, z_kVO, y_dLst, z_kLst, z_kLst2, y_tOf, z_kTO, z_kTO2, y_tBl, z_kBl, y_dChain, z_kC1, z_kC2, z_kC3, z_kC4, z_kC5, y_tAnd, y_tOr, y_tNot, z_kAnd, z_kOr, z_kNot, i_and, i_or, i_vand, i_vor, y_vAnd, y_vOr, z_kvAndB, z_kvOrB, y_vNot, z_kvNot, z_kvNot2, z_kvNot3, y_dIf, z_kIf, y_dNeg, z_kNeg, y_dIsN, y_dNotN, z_kIsN, z_kNotN, y_dNo, z_kNo, z_kNo2, z_kNo3, y_dR1, z_kR1, y_dR2, z_kR2, z_kR3, y_dLR, z_kLR, y_dIsi, z_kIsi, z_kIsi2, y_call0, z_kC0, z_kC0b, z_kC0c, y_call1, z_kD1, z_kD2, z_kD3, z_kD4, z_kD5, z_kD6, z_kD7, y_dU, z_lstO, z_kU1, z_kU2, z_kU3, z_kU4, z_kU5, z_kU6, y_sSeq, y_sIf, z_kSIf, y_sDrop, y_sRet, y_sSet, z_kDrop, z_kRet, z_kSet, y_sAsg, z_kAsg, z_kAsg2, y_gC, z_gK, y_gN, y_gTp, z_gT, y_gNm, z_ok, y_sPut, z_kPut, z_kPut2, z_kPut3, z_kPut4, z_kPut5, z_kPut6, y_sPar, z_kPar, z_kPar2, y_sFor, z_kFor, y_sForV, z_kFV, z_kFV2s, z_kFV2n, y_sSkip, y_sBreak, y_sCont, y_fRt, z_kFl2, y_fNx, z_kFl3, ob_ok, ob_exc, ob_bad, oo_s, de_v, ds_n, ts_n, tv_v, fo_ok, of_bad, th_nx, th_rt, th_bk, th_ct, th_bad, szk, parOf, putV, lstOf, setL, frOf, Sl.view, add_int, sub_int, int_int, ixl, ixt, len_lst, len_tup, lt_int, gt_int, le_int, ge_int, eq_int, ne_int, at0, at1, at2, at3, notNo, isNone, tupOf, eq_bl, ne_bl, truth, parIn, parBack, x_g1, x_g2, x_go1, len_scr, isi_non_int, isi_non_bool, isi_non_str, isi_non_tuple, isi_non_list, isi_bl_int, isi_bl_bool, isi_bl_str, isi_bl_tuple, isi_bl_list, isi_int_int, isi_int_bool, isi_int_str, isi_int_tuple, isi_int_list, isi_str_int, isi_str_bool, isi_str_str, isi_str_tuple, isi_str_list, isi_tup_int, isi_tup_bool, isi_tup_str, isi_tup_tuple, isi_tup_list, isi_lst_int, isi_lst_bool, isi_lst_str, isi_lst_tuple, isi_lst_list, z_kpN, z_kpF] at this ⊢
    exact this
  | cons p S =>
    obtain ⟨t1, v, e1, hv⟩ := hsp.2 900 t (prV p) (by omega) (by omega) (prV_itv p (by omega)) (by rw [dp_pr]; omega)
    refine ⟨t1, .fz v, ?_⟩
    have := fin t1 v hv
    have e2 : ixV (stV (p :: S)) (.int 0) = some (prV p) := by simp [stV, z_wE, z_deS, z_drK, z_dsC, z_consO, z_tvS, z_tkK, z_tkK2, z_tsC, z_tkC, z_tkD, y_dHV, z_kHV, y_dVar, z_vFz, z_vOwn, z_vPar, z_vOdK, z_vOdT, z_vLck, z_vBox, z_vPbx, z_vOw2, y_dC, y_dVH, z_kVH, y_dIt, z_kIt, y_dRg, z_kRg, y_tYes, y_d2, z_k2a, z_k2b, z_k2c, y_aNil, y_aCons, z_kA, z_kA2, y_dN, z_kN, z_kN2, y_pNone, y_pSome, z_kPS, y_dSl, z_kSl, z_kSl2, z_kSl3, z_kSl4, y_dBk, z_kBk, z_kBk2, z_kBk3, z_kBk4, y_dTup, z_kT, z_kT2, y_dOV, z_kOV, y_dVO, z_kVO, y_dLst, z_kLst, z_kLst2, y_tOf, z_kTO, z_kTO2, y_tBl, z_kBl, y_dChain, z_kC1, z_kC2, z_kC3, z_kC4, z_kC5, y_tAnd, y_tOr, y_tNot, z_kAnd, z_kOr, z_kNot, i_and, i_or, i_vand, i_vor, y_vAnd, y_vOr, z_kvAndB, z_kvOrB, y_vNot, z_kvNot, z_kvNot2, z_kvNot3, y_dIf, z_kIf, y_dNeg, z_kNeg, y_dIsN, y_dNotN, z_kIsN, z_kNotN, y_dNo, z_kNo, z_kNo2, z_kNo3, y_dR1, z_kR1, y_dR2, z_kR2, z_kR3, y_dLR, z_kLR, y_dIsi, z_kIsi, z_kIsi2, y_call0, z_kC0, z_kC0b, z_kC0c, y_call1, z_kD1, z_kD2, z_kD3, z_kD4, z_kD5, z_kD6, z_kD7, y_dU, z_lstO, z_kU1, z_kU2, z_kU3, z_kU4, z_kU5, z_kU6, y_sSeq, y_sIf, z_kSIf, y_sDrop, y_sRet, y_sSet, z_kDrop, z_kRet, z_kSet, y_sAsg, z_kAsg, z_kAsg2, y_gC, z_gK, y_gN, y_gTp, z_gT, y_gNm, z_ok, y_sPut, z_kPut, z_kPut2, z_kPut3, z_kPut4, z_kPut5, z_kPut6, y_sPar, z_kPar, z_kPar2, y_sFor, z_kFor, y_sForV, z_kFV, z_kFV2s, z_kFV2n, y_sSkip, y_sBreak, y_sCont, y_fRt, z_kFl2, y_fNx, z_kFl3, ob_ok, ob_exc, ob_bad, oo_s, de_v, ds_n, ts_n, tv_v, fo_ok, of_bad, th_nx, th_rt, th_bk, th_ct, th_bad, szk, parOf, putV, lstOf, setL, frOf, Sl.view, add_int, sub_int, int_int, ixl, ixt, len_lst, len_tup, lt_int, gt_int, le_int, ge_int, eq_int, ne_int, at0, at1, at2, at3, notNo, isNone, tupOf, eq_bl, ne_bl, truth, parIn, parBack, x_g1, x_g2, x_go1, len_scr, isi_non_int, isi_non_bool, isi_non_str, isi_non_tuple, isi_non_list, isi_bl_int, isi_bl_bool, isi_bl_str, isi_bl_tuple, isi_bl_list, isi_int_int, isi_int_bool, isi_int_str, isi_int_tuple, isi_int_list, isi_str_int, isi_str_bool, isi_str_str, isi_str_tuple, isi_str_list, isi_tup_int, isi_tup_bool, isi_tup_str, isi_tup_tuple, isi_tup_list, isi_lst_int, isi_lst_bool, isi_lst_str, isi_lst_tuple, isi_lst_list, z_kpN, z_kpF]
    have e3 : (0:Int) < ((p :: S).length : Nat) := by simp
    generalize stV (p :: S) = u at *
    generalize prV p = w at *
    generalize (((p :: S).length : Nat) : Int) = m at *
    rw [y_sSeq]
    have e4 : ∀ b, (sSet 8 (dOV (dIf (tBl (d2 gtV (dVar 2) (dHV (dC (.int 0))))) (dVO (callD1 esp 0 (aCons (dVar 1) (aCons (dHV (d2 ixV (dVar 3) (dHV (dC (.int 0))))) aNil)))) (dTup (aCons (dVar 7) (aCons (dHV (dC (.int 3))) aNil))))))
      (s0 :: .own t.v :: .fz (.int m) :: .fz u :: s4 :: s5 :: s6 :: .fz (.int k) :: b :: r) = .nx (s0 :: .own t1.v :: .fz (.int m) :: .fz u :: s4 :: s5 :: s6 :: .fz (.int k) :: .fz v :: r) := fun b => by
      simp [z_wE, z_deS, z_drK, z_dsC, z_consO, z_tvS, z_tkK, z_tkK2, z_tsC, z_tkC, z_tkD, y_dHV, z_kHV, y_dVar, z_vFz, z_vOwn, z_vPar, z_vOdK, z_vOdT, z_vLck, z_vBox, z_vPbx, z_vOw2, y_dC, y_dVH, z_kVH, y_dIt, z_kIt, y_dRg, z_kRg, y_tYes, y_d2, z_k2a, z_k2b, z_k2c, y_aNil, y_aCons, z_kA, z_kA2, y_dN, z_kN, z_kN2, y_pNone, y_pSome, z_kPS, y_dSl, z_kSl, z_kSl2, z_kSl3, z_kSl4, y_dBk, z_kBk, z_kBk2, z_kBk3, z_kBk4, y_dTup, z_kT, z_kT2, y_dOV, z_kOV, y_dVO, z_kVO, y_dLst, z_kLst, z_kLst2, y_tOf, z_kTO, z_kTO2, y_tBl, z_kBl, y_dChain, z_kC1, z_kC2, z_kC3, z_kC4, z_kC5, y_tAnd, y_tOr, y_tNot, z_kAnd, z_kOr, z_kNot, i_and, i_or, i_vand, i_vor, y_vAnd, y_vOr, z_kvAndB, z_kvOrB, y_vNot, z_kvNot, z_kvNot2, z_kvNot3, y_dIf, z_kIf, y_dNeg, z_kNeg, y_dIsN, y_dNotN, z_kIsN, z_kNotN, y_dNo, z_kNo, z_kNo2, z_kNo3, y_dR1, z_kR1, y_dR2, z_kR2, z_kR3, y_dLR, z_kLR, y_dIsi, z_kIsi, z_kIsi2, y_call0, z_kC0, z_kC0b, z_kC0c, y_call1, z_kD1, z_kD2, z_kD3, z_kD4, z_kD5, z_kD6, z_kD7, y_dU, z_lstO, z_kU1, z_kU2, z_kU3, z_kU4, z_kU5, z_kU6, y_sSeq, y_sIf, z_kSIf, y_sDrop, y_sRet, y_sSet, z_kDrop, z_kRet, z_kSet, y_sAsg, z_kAsg, z_kAsg2, y_gC, z_gK, y_gN, y_gTp, z_gT, y_gNm, z_ok, y_sPut, z_kPut, z_kPut2, z_kPut3, z_kPut4, z_kPut5, z_kPut6, y_sPar, z_kPar, z_kPar2, y_sFor, z_kFor, y_sForV, z_kFV, z_kFV2s, z_kFV2n, y_sSkip, y_sBreak, y_sCont, y_fRt, z_kFl2, y_fNx, z_kFl3, ob_ok, ob_exc, ob_bad, oo_s, de_v, ds_n, ts_n, tv_v, fo_ok, of_bad, th_nx, th_rt, th_bk, th_ct, th_bad, szk, parOf, putV, lstOf, setL, frOf, Sl.view, add_int, sub_int, int_int, ixl, ixt, len_lst, len_tup, lt_int, gt_int, le_int, ge_int, eq_int, ne_int, at0, at1, at2, at3, notNo, isNone, tupOf, eq_bl, ne_bl, truth, parIn, parBack, x_g1, x_g2, x_go1, len_scr, isi_non_int, isi_non_bool, isi_non_str, isi_non_tuple, isi_non_list, isi_bl_int, isi_bl_bool, isi_bl_str, isi_bl_tuple, isi_bl_list, isi_int_int, isi_int_bool, isi_int_str, isi_int_tuple, isi_int_list, isi_str_int, isi_str_bool, isi_str_str, isi_str_tuple, isi_str_list, isi_tup_int, isi_tup_bool, isi_tup_str, isi_tup_tuple, isi_tup_list, isi_lst_int, isi_lst_bool, isi_lst_str, isi_lst_tuple, isi_lst_list, z_kpN, z_kpF, n4, e1, e2, e3]
    rw [e4, th_nx]
    exact this

/-! ### the law: its loops -/
theorem f4_go (S : List Pr) (hl : S.length ≤ 24) (s0 s1 s2 s4 s6 : Sl) (r : List Sl) :
    ∃ s6', F4_law (s0 :: s1 :: s2 :: .fz (stV S) :: s4 :: .own [] :: s6 :: r) = .nx (s0 :: s1 :: s2 :: .fz (stV S) :: s4 :: .own ((hrs S).map .int) :: s6' :: r) := by
  have lp := forL_nm (i := 6) (b := L4_law) prV S
    (fun pre ρ => ∃ s6, ρ = s0 :: s1 :: s2 :: .fz (stV S) :: s4 :: .own ((hrs pre).map .int) :: s6 :: r)
    (ρ := s0 :: s1 :: s2 :: .fz (stV S) :: s4 :: .own [] :: s6 :: r) ⟨s6, rfl⟩ fun pre a post ρ e h => by
      obtain ⟨s6, rfl⟩ := h
      have h1 : (hrs pre).length ≤ 48 := by
        have := hrs_len pre
        have : pre.length ≤ S.length := by rw [e]; simp
        omega
      refine ⟨by simp, s0 :: s1 :: s2 :: .fz (stV S) :: s4 :: .own ((hrs (pre ++ [a])).map .int) :: .fz (prV a) :: r, .inl ?_, ⟨_, rfl⟩⟩
      have h2 : (hrs (pre ++ [a])).map Val.int = (hrs pre).map .int ++ [.int a.1, .int a.2] := by unfold hrs; rw [List.flatMap_append, List.map_append]; rfl
      rw [h2]
      have h3 : ((hrs pre).map Val.int).length + 2 ≤ 1000000 := by rw [List.length_map]; omega
      generalize (hrs pre).map Val.int = ys at *
      generalize stV S = u
      simp [L4_law, z_wE, z_deS, z_drK, z_dsC, z_consO, z_tvS, z_tkK, z_tkK2, z_tsC, z_tkC, z_tkD, y_dHV, z_kHV, y_dVar, z_vFz, z_vOwn, z_vPar, z_vOdK, z_vOdT, z_vLck, z_vBox, z_vPbx, z_vOw2, y_dC, y_dVH, z_kVH, y_dIt, z_kIt, y_dRg, z_kRg, y_tYes, y_d2, z_k2a, z_k2b, z_k2c, y_aNil, y_aCons, z_kA, z_kA2, y_dN, z_kN, z_kN2, y_pNone, y_pSome, z_kPS, y_dSl, z_kSl, z_kSl2, z_kSl3, z_kSl4, y_dBk, z_kBk, z_kBk2, z_kBk3, z_kBk4, y_dTup, z_kT, z_kT2, y_dOV, z_kOV, y_dVO, z_kVO, y_dLst, z_kLst, z_kLst2, y_tOf, z_kTO, z_kTO2, y_tBl, z_kBl, y_dChain, z_kC1, z_kC2, z_kC3, z_kC4, z_kC5, y_tAnd, y_tOr, y_tNot, z_kAnd, z_kOr, z_kNot, i_and, i_or, i_vand, i_vor, y_vAnd, y_vOr, z_kvAndB, z_kvOrB, y_vNot, z_kvNot, z_kvNot2, z_kvNot3, y_dIf, z_kIf, y_dNeg, z_kNeg, y_dIsN, y_dNotN, z_kIsN, z_kNotN, y_dNo, z_kNo, z_kNo2, z_kNo3, y_dR1, z_kR1, y_dR2, z_kR2, z_kR3, y_dLR, z_kLR, y_dIsi, z_kIsi, z_kIsi2, y_call0, z_kC0, z_kC0b, z_kC0c, y_call1, z_kD1, z_kD2, z_kD3, z_kD4, z_kD5, z_kD6, z_kD7, y_dU, z_lstO, z_kU1, z_kU2, z_kU3, z_kU4, z_kU5, z_kU6, y_sSeq, y_sIf, z_kSIf, y_sDrop, y_sRet, y_sSet, z_kDrop, z_kRet, z_kSet, y_sAsg, z_kAsg, z_kAsg2, y_gC, z_gK, y_gN, y_gTp, z_gT, y_gNm, z_ok, y_sPut, z_kPut, z_kPut2, z_kPut3, z_kPut4, z_kPut5, z_kPut6, y_sPar, z_kPar, z_kPar2, y_sFor, z_kFor, y_sForV, z_kFV, z_kFV2s, z_kFV2n, y_sSkip, y_sBreak, y_sCont, y_fRt, z_kFl2, y_fNx, z_kFl3, ob_ok, ob_exc, ob_bad, oo_s, de_v, ds_n, ts_n, tv_v, fo_ok, of_bad, th_nx, th_rt, th_bk, th_ct, th_bad, szk, parOf, putV, lstOf, setL, frOf, Sl.view, add_int, sub_int, int_int, ixl, ixt, len_lst, len_tup, lt_int, gt_int, le_int, ge_int, eq_int, ne_int, at0, at1, at2, at3, notNo, isNone, tupOf, eq_bl, ne_bl, truth, parIn, parBack, x_g1, x_g2, x_go1, len_scr, isi_non_int, isi_non_bool, isi_non_str, isi_non_tuple, isi_non_list, isi_bl_int, isi_bl_bool, isi_bl_str, isi_bl_tuple, isi_bl_list, isi_int_int, isi_int_bool, isi_int_str, isi_int_tuple, isi_int_list, isi_str_int, isi_str_bool, isi_str_str, isi_str_tuple, isi_str_list, isi_tup_int, isi_tup_bool, isi_tup_str, isi_tup_tuple, isi_tup_list, isi_lst_int, isi_lst_bool, isi_lst_str, isi_lst_tuple, isi_lst_list, z_kpN, z_kpF, prV, extV, h3]
  obtain ⟨ρ', h1, s6', rfl⟩ := lp
  refine ⟨s6', ?_⟩
  unfold F4_law
  simp [z_wE, z_deS, z_drK, z_dsC, z_consO, z_tvS, z_tkK, z_tkK2, z_tsC, z_tkC, z_tkD, y_dHV, z_kHV, y_dVar, z_vFz, z_vOwn, z_vPar, z_vOdK, z_vOdT, z_vLck, z_vBox, z_vPbx, z_vOw2, y_dC, y_dVH, z_kVH, y_dIt, z_kIt, y_dRg, z_kRg, y_tYes, y_d2, z_k2a, z_k2b, z_k2c, y_aNil, y_aCons, z_kA, z_kA2, y_dN, z_kN, z_kN2, y_pNone, y_pSome, z_kPS, y_dSl, z_kSl, z_kSl2, z_kSl3, z_kSl4, y_dBk, z_kBk, z_kBk2, z_kBk3, z_kBk4, y_dTup, z_kT, z_kT2, y_dOV, z_kOV, y_dVO, z_kVO, y_dLst, z_kLst, z_kLst2, y_tOf, z_kTO, z_kTO2, y_tBl, z_kBl, y_dChain, z_kC1, z_kC2, z_kC3, z_kC4, z_kC5, y_tAnd, y_tOr, y_tNot, z_kAnd, z_kOr, z_kNot, i_and, i_or, i_vand, i_vor, y_vAnd, y_vOr, z_kvAndB, z_kvOrB, y_vNot, z_kvNot, z_kvNot2, z_kvNot3, y_dIf, z_kIf, y_dNeg, z_kNeg, y_dIsN, y_dNotN, z_kIsN, z_kNotN, y_dNo, z_kNo, z_kNo2, z_kNo3, y_dR1, z_kR1, y_dR2, z_kR2, z_kR3, y_dLR, z_kLR, y_dIsi, z_kIsi, z_kIsi2, y_call0, z_kC0, z_kC0b, z_kC0c, y_call1, z_kD1, z_kD2, z_kD3, z_kD4, z_kD5, z_kD6, z_kD7, y_dU, z_lstO, z_kU1, z_kU2, z_kU3, z_kU4, z_kU5, z_kU6, y_sSeq, y_sIf, z_kSIf, y_sDrop, y_sRet, y_sSet, z_kDrop, z_kRet, z_kSet, y_sAsg, z_kAsg, z_kAsg2, y_gC, z_gK, y_gN, y_gTp, z_gT, y_gNm, z_ok, y_sPut, z_kPut, z_kPut2, z_kPut3, z_kPut4, z_kPut5, z_kPut6, y_sPar, z_kPar, z_kPar2, y_sFor, z_kFor, y_sForV, z_kFV, z_kFV2s, z_kFV2n, y_sSkip, y_sBreak, y_sCont, y_fRt, z_kFl2, y_fNx, z_kFl3, ob_ok, ob_exc, ob_bad, oo_s, de_v, ds_n, ts_n, tv_v, fo_ok, of_bad, th_nx, th_rt, th_bk, th_ct, th_bad, szk, parOf, putV, lstOf, setL, frOf, Sl.view, add_int, sub_int, int_int, ixl, ixt, len_lst, len_tup, lt_int, gt_int, le_int, ge_int, eq_int, ne_int, at0, at1, at2, at3, notNo, isNone, tupOf, eq_bl, ne_bl, truth, parIn, parBack, x_g1, x_g2, x_go1, len_scr, isi_non_int, isi_non_bool, isi_non_str, isi_non_tuple, isi_non_list, isi_bl_int, isi_bl_bool, isi_bl_str, isi_bl_tuple, isi_bl_list, isi_int_int, isi_int_bool, isi_int_str, isi_int_tuple, isi_int_list, isi_str_int, isi_str_bool, isi_str_str, isi_str_tuple, isi_str_list, isi_tup_int, isi_tup_bool, isi_tup_str, isi_tup_tuple, isi_tup_list, isi_lst_int, isi_lst_bool, isi_lst_str, isi_lst_tuple, isi_lst_list, z_kpN, z_kpF, stV, goesV]
  exact h1
theorem same_hours (esm : FnE) (hsm : SmOk esm) (S : List Pr) (hl : S.length ≤ 24) : esm.sem [.fz (.tup ((sdL (hrs S)).map .int)), .fz (.tup ((sdL (hrs S)).map .int))] = .ok (.fz (.bl true), .no) := by
  have hlen : (sdL (hrs S)).length ≤ 48 := by have := sdL_len (hrs S); have := ddI_le (hrs S); have := hrs_len S; omega
  exact hsm.2.1 (.tup ((sdL (hrs S)).map .int)) (by simp only [gd]; exact gds_ints _) (by have : dp (.tup ((sdL (hrs S)).map .int)) ≤ 1 := dp_tup fun x hx => (by obtain ⟨n, _, rfl⟩ := List.mem_map.mp hx; rw [dp_int]; omega); omega)
    (by simp only [wd, Bool.and_eq_true, decide_eq_true_eq, List.length_map]; exact ⟨by omega, wds_all.mpr fun x hx => by obtain ⟨n, _, rfl⟩ := List.mem_map.mp hx; rfl⟩)
def Env7 (S : List Pr) (ρ : Ev.Env) : Prop := ∃ (s0 : Sl) (t : Tape) (s5 s6 s7 s8 s9 s10 s11 s12 s13 : Sl), ρ = [s0, .own t.v, .fz (.int S.length), .fz (stV S), .fz (landOf S), s5, s6, s7, s8, s9, s10, s11, s12, s13, .no]
theorem f3_go (esp esm ear elar etm elsh est elst : FnE) (hsp : SpzOk esp) (hsm : SmOk esm) (har : AreOk ear) (hlar : AreOk elar) (htm : TimeOk etm) (hsh : ShownOk elsh) (hst : StayOk est) (hlst : StayOk elst) (S : List Pr) (hl : S.length ≤ 24) (ρ : Ev.Env) (h : Env7 S ρ) :
    ∃ ρ', F3_law esp esm ear elar etm elsh est elst ρ = .nx ρ' ∧ Env7 S ρ' := by
  have lp := forL_nm0 (i := 7) (b := L3_law esp esm ear elar etm elsh est elst) Val.int (rangeI 0 6) (Env7 S) h fun a ρ ha h => by
    obtain ⟨s0, t, s5, s6, s7, s8, s9, s10, s11, s12, s13, rfl⟩ := h
    obtain ⟨t1, v, e1, hv⟩ := hsp.2 900 t (stV S) (by omega) (by omega) (stV_itv S (by omega) (by omega)) (by have := dp_st S; omega)
    have e2 := l3_a esm ear elar etm elsh hsm har hlar htm hsh (.own t1.v) S hl v hv s0 s5 s6 (.fz (.int a)) [s9, s10, s11, s12, s13, .no]
    obtain ⟨t2, s8', e3⟩ := l3_b esp esm est elst hsp hsm hst hlst t1 S hl a s0 (.fz (landOf S)) s5 s6 (.fz v) [s9, s10, s11, s12, s13, .no]
    refine ⟨by simp, _, .inl ?_, s0, t2, s5, s6, .fz (.int a), s8', s9, s10, s11, s12, s13, rfl⟩
    have n4 := hsp.1
    unfold L3_law
    show sSeq _ _ [s0, .own t.v, .fz (.int S.length), .fz (stV S), .fz (landOf S), s5, s6, .fz (.int a), s8, s9, s10, s11, s12, s13, .no] = _
    rw [seq_nx (ρ' := [s0, .own t1.v, .fz (.int S.length), .fz (stV S), .fz (landOf S), s5, s6, .fz (.int a), .fz v, s9, s10, s11, s12, s13, .no])]
    · rw [seq_nx e2]; exact e3
    · generalize stV S = u at *
      generalize landOf S = w at *
      simp [z_wE, z_deS, z_drK, z_dsC, z_consO, z_tvS, z_tkK, z_tkK2, z_tsC, z_tkC, z_tkD, y_dHV, z_kHV, y_dVar, z_vFz, z_vOwn, z_vPar, z_vOdK, z_vOdT, z_vLck, z_vBox, z_vPbx, z_vOw2, y_dC, y_dVH, z_kVH, y_dIt, z_kIt, y_dRg, z_kRg, y_tYes, y_d2, z_k2a, z_k2b, z_k2c, y_aNil, y_aCons, z_kA, z_kA2, y_dN, z_kN, z_kN2, y_pNone, y_pSome, z_kPS, y_dSl, z_kSl, z_kSl2, z_kSl3, z_kSl4, y_dBk, z_kBk, z_kBk2, z_kBk3, z_kBk4, y_dTup, z_kT, z_kT2, y_dOV, z_kOV, y_dVO, z_kVO, y_dLst, z_kLst, z_kLst2, y_tOf, z_kTO, z_kTO2, y_tBl, z_kBl, y_dChain, z_kC1, z_kC2, z_kC3, z_kC4, z_kC5, y_tAnd, y_tOr, y_tNot, z_kAnd, z_kOr, z_kNot, i_and, i_or, i_vand, i_vor, y_vAnd, y_vOr, z_kvAndB, z_kvOrB, y_vNot, z_kvNot, z_kvNot2, z_kvNot3, y_dIf, z_kIf, y_dNeg, z_kNeg, y_dIsN, y_dNotN, z_kIsN, z_kNotN, y_dNo, z_kNo, z_kNo2, z_kNo3, y_dR1, z_kR1, y_dR2, z_kR2, z_kR3, y_dLR, z_kLR, y_dIsi, z_kIsi, z_kIsi2, y_call0, z_kC0, z_kC0b, z_kC0c, y_call1, z_kD1, z_kD2, z_kD3, z_kD4, z_kD5, z_kD6, z_kD7, y_dU, z_lstO, z_kU1, z_kU2, z_kU3, z_kU4, z_kU5, z_kU6, y_sSeq, y_sIf, z_kSIf, y_sDrop, y_sRet, y_sSet, z_kDrop, z_kRet, z_kSet, y_sAsg, z_kAsg, z_kAsg2, y_gC, z_gK, y_gN, y_gTp, z_gT, y_gNm, z_ok, y_sPut, z_kPut, z_kPut2, z_kPut3, z_kPut4, z_kPut5, z_kPut6, y_sPar, z_kPar, z_kPar2, y_sFor, z_kFor, y_sForV, z_kFV, z_kFV2s, z_kFV2n, y_sSkip, y_sBreak, y_sCont, y_fRt, z_kFl2, y_fNx, z_kFl3, ob_ok, ob_exc, ob_bad, oo_s, de_v, ds_n, ts_n, tv_v, fo_ok, of_bad, th_nx, th_rt, th_bk, th_ct, th_bad, szk, parOf, putV, lstOf, setL, frOf, Sl.view, add_int, sub_int, int_int, ixl, ixt, len_lst, len_tup, lt_int, gt_int, le_int, ge_int, eq_int, ne_int, at0, at1, at2, at3, notNo, isNone, tupOf, eq_bl, ne_bl, truth, parIn, parBack, x_g1, x_g2, x_go1, len_scr, isi_non_int, isi_non_bool, isi_non_str, isi_non_tuple, isi_non_list, isi_bl_int, isi_bl_bool, isi_bl_str, isi_bl_tuple, isi_bl_list, isi_int_int, isi_int_bool, isi_int_str, isi_int_tuple, isi_int_list, isi_str_int, isi_str_bool, isi_str_str, isi_str_tuple, isi_str_list, isi_tup_int, isi_tup_bool, isi_tup_str, isi_tup_tuple, isi_tup_list, isi_lst_int, isi_lst_bool, isi_lst_str, isi_lst_tuple, isi_lst_list, z_kpN, z_kpF, n4, e1]
  obtain ⟨ρ', h1, h2⟩ := lp
  refine ⟨ρ', ?_, h2⟩
  unfold F3_law
  simp [z_wE, z_deS, z_drK, z_dsC, z_consO, z_tvS, z_tkK, z_tkK2, z_tsC, z_tkC, z_tkD, y_dHV, z_kHV, y_dVar, z_vFz, z_vOwn, z_vPar, z_vOdK, z_vOdT, z_vLck, z_vBox, z_vPbx, z_vOw2, y_dC, y_dVH, z_kVH, y_dIt, z_kIt, y_dRg, z_kRg, y_tYes, y_d2, z_k2a, z_k2b, z_k2c, y_aNil, y_aCons, z_kA, z_kA2, y_dN, z_kN, z_kN2, y_pNone, y_pSome, z_kPS, y_dSl, z_kSl, z_kSl2, z_kSl3, z_kSl4, y_dBk, z_kBk, z_kBk2, z_kBk3, z_kBk4, y_dTup, z_kT, z_kT2, y_dOV, z_kOV, y_dVO, z_kVO, y_dLst, z_kLst, z_kLst2, y_tOf, z_kTO, z_kTO2, y_tBl, z_kBl, y_dChain, z_kC1, z_kC2, z_kC3, z_kC4, z_kC5, y_tAnd, y_tOr, y_tNot, z_kAnd, z_kOr, z_kNot, i_and, i_or, i_vand, i_vor, y_vAnd, y_vOr, z_kvAndB, z_kvOrB, y_vNot, z_kvNot, z_kvNot2, z_kvNot3, y_dIf, z_kIf, y_dNeg, z_kNeg, y_dIsN, y_dNotN, z_kIsN, z_kNotN, y_dNo, z_kNo, z_kNo2, z_kNo3, y_dR1, z_kR1, y_dR2, z_kR2, z_kR3, y_dLR, z_kLR, y_dIsi, z_kIsi, z_kIsi2, y_call0, z_kC0, z_kC0b, z_kC0c, y_call1, z_kD1, z_kD2, z_kD3, z_kD4, z_kD5, z_kD6, z_kD7, y_dU, z_lstO, z_kU1, z_kU2, z_kU3, z_kU4, z_kU5, z_kU6, y_sSeq, y_sIf, z_kSIf, y_sDrop, y_sRet, y_sSet, z_kDrop, z_kRet, z_kSet, y_sAsg, z_kAsg, z_kAsg2, y_gC, z_gK, y_gN, y_gTp, z_gT, y_gNm, z_ok, y_sPut, z_kPut, z_kPut2, z_kPut3, z_kPut4, z_kPut5, z_kPut6, y_sPar, z_kPar, z_kPar2, y_sFor, z_kFor, y_sForV, z_kFV, z_kFV2s, z_kFV2n, y_sSkip, y_sBreak, y_sCont, y_fRt, z_kFl2, y_fNx, z_kFl3, ob_ok, ob_exc, ob_bad, oo_s, de_v, ds_n, ts_n, tv_v, fo_ok, of_bad, th_nx, th_rt, th_bk, th_ct, th_bad, szk, parOf, putV, lstOf, setL, frOf, Sl.view, add_int, sub_int, int_int, ixl, ixt, len_lst, len_tup, lt_int, gt_int, le_int, ge_int, eq_int, ne_int, at0, at1, at2, at3, notNo, isNone, tupOf, eq_bl, ne_bl, truth, parIn, parBack, x_g1, x_g2, x_go1, len_scr, isi_non_int, isi_non_bool, isi_non_str, isi_non_tuple, isi_non_list, isi_bl_int, isi_bl_bool, isi_bl_str, isi_bl_tuple, isi_bl_list, isi_int_int, isi_int_bool, isi_int_str, isi_int_tuple, isi_int_list, isi_str_int, isi_str_bool, isi_str_str, isi_str_tuple, isi_str_list, isi_tup_int, isi_tup_bool, isi_tup_str, isi_tup_tuple, isi_tup_list, isi_lst_int, isi_lst_bool, isi_lst_str, isi_lst_tuple, isi_lst_list, z_kpN, z_kpF, rOk]
  exact h1

/-! ### the law: two of them -/
theorem meet_symm (S : List Pr) (i j : Int) : meet S i j = meet S j i := by unfold meet meetP; rw [Bool.and_comm]
def lo2 (i j : Int) : Int := if j < i then j else i
def hi2 (i j : Int) : Int := if i < j then j else i
theorem met_meet (S : List Pr) {i j : Int} (h0 : 0 ≤ i) (h1 : i < S.length) (h2 : 0 ≤ j) (h3 : j < S.length) (hne : i ≠ j) : decide ((lo2 i j, hi2 i j) ∈ prs S.length (meet S)) = meet S i j := by
  rw [Bool.eq_iff_iff, decide_eq_true_eq, mem_prs]
  unfold lo2 hi2
  by_cases h : j < i
  · have h' : ¬ i < j := by omega
    rw [if_pos h, if_neg h', meet_symm S j i]
    exact ⟨fun z => z.2.2.2, fun z => ⟨h2, h, h1, z⟩⟩
  · have h' : i < j := by omega
    rw [if_neg h, if_pos h']
    exact ⟨fun z => z.2.2.2, fun z => ⟨h0, h', h3, z⟩⟩
theorem ne_pr (a m : Pr) : neV (prV a) (.tup [.int m.1, .int m.2]) = some (.bl (!decide (a = m))) := by
  show neV (prV a) (prV m) = _
  unfold neV
  rw [eqB_b (b := decide (a = m)) (gd_pr a) (gd_pr m) (.inl (by rw [dp_pr]; omega))]
  · rfl
  · rw [decide_eq_true_eq]
    exact ⟨fun h => by rw [h], fun h => pr_inj h⟩
theorem c1_ok (S : List Pr) (hl : S.length ≤ 24) (i j : Int) (s0 s1 s2 s3 s5 s6 s7 s8 s11 s12 s13 : Sl) :
    C1_law [s0, s1, s2, s3, .fz (landOf S), s5, s6, s7, s8, .fz (.int i), .fz (.int j), s11, s12, s13, .no] = .ok (.own (((prs S.length (meet S)).filter fun a => !decide (a = (lo2 i j, hi2 i j))).map prV), [s0, s1, s2, s3, .fz (landOf S), s5, s6, s7, s8, .fz (.int i), .fz (.int j), s11, s12, s13, .no]) := by
  unfold C1_law
  rw [dLc_nm prV (fun a => !decide (a = (lo2 i j, hi2 i j))) prV (xs := prs S.length (meet S)) (by unfold landOf; simp [z_wE, z_deS, z_drK, z_dsC, z_consO, z_tvS, z_tkK, z_tkK2, z_tsC, z_tkC, z_tkD, y_dHV, z_kHV, y_dVar, z_vFz, z_vOwn, z_vPar, z_vOdK, z_vOdT, z_vLck, z_vBox, z_vPbx, z_vOw2, y_dC, y_dVH, z_kVH, y_dIt, z_kIt, y_dRg, z_kRg, y_tYes, y_d2, z_k2a, z_k2b, z_k2c, y_aNil, y_aCons, z_kA, z_kA2, y_dN, z_kN, z_kN2, y_pNone, y_pSome, z_kPS, y_dSl, z_kSl, z_kSl2, z_kSl3, z_kSl4, y_dBk, z_kBk, z_kBk2, z_kBk3, z_kBk4, y_dTup, z_kT, z_kT2, y_dOV, z_kOV, y_dVO, z_kVO, y_dLst, z_kLst, z_kLst2, y_tOf, z_kTO, z_kTO2, y_tBl, z_kBl, y_dChain, z_kC1, z_kC2, z_kC3, z_kC4, z_kC5, y_tAnd, y_tOr, y_tNot, z_kAnd, z_kOr, z_kNot, i_and, i_or, i_vand, i_vor, y_vAnd, y_vOr, z_kvAndB, z_kvOrB, y_vNot, z_kvNot, z_kvNot2, z_kvNot3, y_dIf, z_kIf, y_dNeg, z_kNeg, y_dIsN, y_dNotN, z_kIsN, z_kNotN, y_dNo, z_kNo, z_kNo2, z_kNo3, y_dR1, z_kR1, y_dR2, z_kR2, z_kR3, y_dLR, z_kLR, y_dIsi, z_kIsi, z_kIsi2, y_call0, z_kC0, z_kC0b, z_kC0c, y_call1, z_kD1, z_kD2, z_kD3, z_kD4, z_kD5, z_kD6, z_kD7, y_dU, z_lstO, z_kU1, z_kU2, z_kU3, z_kU4, z_kU5, z_kU6, y_sSeq, y_sIf, z_kSIf, y_sDrop, y_sRet, y_sSet, z_kDrop, z_kRet, z_kSet, y_sAsg, z_kAsg, z_kAsg2, y_gC, z_gK, y_gN, y_gTp, z_gT, y_gNm, z_ok, y_sPut, z_kPut, z_kPut2, z_kPut3, z_kPut4, z_kPut5, z_kPut6, y_sPar, z_kPar, z_kPar2, y_sFor, z_kFor, y_sForV, z_kFV, z_kFV2s, z_kFV2n, y_sSkip, y_sBreak, y_sCont, y_fRt, z_kFl2, y_fNx, z_kFl3, ob_ok, ob_exc, ob_bad, oo_s, de_v, ds_n, ts_n, tv_v, fo_ok, of_bad, th_nx, th_rt, th_bk, th_ct, th_bad, szk, parOf, putV, lstOf, setL, frOf, Sl.view, add_int, sub_int, int_int, ixl, ixt, len_lst, len_tup, lt_int, gt_int, le_int, ge_int, eq_int, ne_int, at0, at1, at2, at3, notNo, isNone, tupOf, eq_bl, ne_bl, truth, parIn, parBack, x_g1, x_g2, x_go1, len_scr, isi_non_int, isi_non_bool, isi_non_str, isi_non_tuple, isi_non_list, isi_bl_int, isi_bl_bool, isi_bl_str, isi_bl_tuple, isi_bl_list, isi_int_int, isi_int_bool, isi_int_str, isi_int_tuple, isi_int_list, isi_str_int, isi_str_bool, isi_str_str, isi_str_tuple, isi_str_list, isi_tup_int, isi_tup_bool, isi_tup_str, isi_tup_tuple, isi_tup_list, isi_lst_int, isi_lst_bool, isi_lst_str, isi_lst_tuple, isi_lst_list, z_kpN, z_kpF, goesV]) (Nat.le_trans (prs_len (by omega)) (by omega)) (by simp) fun a ha => ?_]
  · simp [z_wE, z_deS, z_drK, z_dsC, z_consO, z_tvS, z_tkK, z_tkK2, z_tsC, z_tkC, z_tkD, y_dHV, z_kHV, y_dVar, z_vFz, z_vOwn, z_vPar, z_vOdK, z_vOdT, z_vLck, z_vBox, z_vPbx, z_vOw2, y_dC, y_dVH, z_kVH, y_dIt, z_kIt, y_dRg, z_kRg, y_tYes, y_d2, z_k2a, z_k2b, z_k2c, y_aNil, y_aCons, z_kA, z_kA2, y_dN, z_kN, z_kN2, y_pNone, y_pSome, z_kPS, y_dSl, z_kSl, z_kSl2, z_kSl3, z_kSl4, y_dBk, z_kBk, z_kBk2, z_kBk3, z_kBk4, y_dTup, z_kT, z_kT2, y_dOV, z_kOV, y_dVO, z_kVO, y_dLst, z_kLst, z_kLst2, y_tOf, z_kTO, z_kTO2, y_tBl, z_kBl, y_dChain, z_kC1, z_kC2, z_kC3, z_kC4, z_kC5, y_tAnd, y_tOr, y_tNot, z_kAnd, z_kOr, z_kNot, i_and, i_or, i_vand, i_vor, y_vAnd, y_vOr, z_kvAndB, z_kvOrB, y_vNot, z_kvNot, z_kvNot2, z_kvNot3, y_dIf, z_kIf, y_dNeg, z_kNeg, y_dIsN, y_dNotN, z_kIsN, z_kNotN, y_dNo, z_kNo, z_kNo2, z_kNo3, y_dR1, z_kR1, y_dR2, z_kR2, z_kR3, y_dLR, z_kLR, y_dIsi, z_kIsi, z_kIsi2, y_call0, z_kC0, z_kC0b, z_kC0c, y_call1, z_kD1, z_kD2, z_kD3, z_kD4, z_kD5, z_kD6, z_kD7, y_dU, z_lstO, z_kU1, z_kU2, z_kU3, z_kU4, z_kU5, z_kU6, y_sSeq, y_sIf, z_kSIf, y_sDrop, y_sRet, y_sSet, z_kDrop, z_kRet, z_kSet, y_sAsg, z_kAsg, z_kAsg2, y_gC, z_gK, y_gN, y_gTp, z_gT, y_gNm, z_ok, y_sPut, z_kPut, z_kPut2, z_kPut3, z_kPut4, z_kPut5, z_kPut6, y_sPar, z_kPar, z_kPar2, y_sFor, z_kFor, y_sForV, z_kFV, z_kFV2s, z_kFV2n, y_sSkip, y_sBreak, y_sCont, y_fRt, z_kFl2, y_fNx, z_kFl3, ob_ok, ob_exc, ob_bad, oo_s, de_v, ds_n, ts_n, tv_v, fo_ok, of_bad, th_nx, th_rt, th_bk, th_ct, th_bad, szk, parOf, putV, lstOf, setL, frOf, Sl.view, add_int, sub_int, int_int, ixl, ixt, len_lst, len_tup, lt_int, gt_int, le_int, ge_int, eq_int, ne_int, at0, at1, at2, at3, notNo, isNone, tupOf, eq_bl, ne_bl, truth, parIn, parBack, x_g1, x_g2, x_go1, len_scr, isi_non_int, isi_non_bool, isi_non_str, isi_non_tuple, isi_non_list, isi_bl_int, isi_bl_bool, isi_bl_str, isi_bl_tuple, isi_bl_list, isi_int_int, isi_int_bool, isi_int_str, isi_int_tuple, isi_int_list, isi_str_int, isi_str_bool, isi_str_str, isi_str_tuple, isi_str_list, isi_tup_int, isi_tup_bool, isi_tup_str, isi_tup_tuple, isi_tup_list, isi_lst_int, isi_lst_bool, isi_lst_str, isi_lst_tuple, isi_lst_list, z_kpN, z_kpF]
  · have h2 := ne_pr a (lo2 i j, hi2 i j)
    unfold lo2 hi2 at h2 ⊢
    generalize prV a = u at *
    generalize landOf S = w at *
    simp [z_wE, z_deS, z_drK, z_dsC, z_consO, z_tvS, z_tkK, z_tkK2, z_tsC, z_tkC, z_tkD, y_dHV, z_kHV, y_dVar, z_vFz, z_vOwn, z_vPar, z_vOdK, z_vOdT, z_vLck, z_vBox, z_vPbx, z_vOw2, y_dC, y_dVH, z_kVH, y_dIt, z_kIt, y_dRg, z_kRg, y_tYes, y_d2, z_k2a, z_k2b, z_k2c, y_aNil, y_aCons, z_kA, z_kA2, y_dN, z_kN, z_kN2, y_pNone, y_pSome, z_kPS, y_dSl, z_kSl, z_kSl2, z_kSl3, z_kSl4, y_dBk, z_kBk, z_kBk2, z_kBk3, z_kBk4, y_dTup, z_kT, z_kT2, y_dOV, z_kOV, y_dVO, z_kVO, y_dLst, z_kLst, z_kLst2, y_tOf, z_kTO, z_kTO2, y_tBl, z_kBl, y_dChain, z_kC1, z_kC2, z_kC3, z_kC4, z_kC5, y_tAnd, y_tOr, y_tNot, z_kAnd, z_kOr, z_kNot, i_and, i_or, i_vand, i_vor, y_vAnd, y_vOr, z_kvAndB, z_kvOrB, y_vNot, z_kvNot, z_kvNot2, z_kvNot3, y_dIf, z_kIf, y_dNeg, z_kNeg, y_dIsN, y_dNotN, z_kIsN, z_kNotN, y_dNo, z_kNo, z_kNo2, z_kNo3, y_dR1, z_kR1, y_dR2, z_kR2, z_kR3, y_dLR, z_kLR, y_dIsi, z_kIsi, z_kIsi2, y_call0, z_kC0, z_kC0b, z_kC0c, y_call1, z_kD1, z_kD2, z_kD3, z_kD4, z_kD5, z_kD6, z_kD7, y_dU, z_lstO, z_kU1, z_kU2, z_kU3, z_kU4, z_kU5, z_kU6, y_sSeq, y_sIf, z_kSIf, y_sDrop, y_sRet, y_sSet, z_kDrop, z_kRet, z_kSet, y_sAsg, z_kAsg, z_kAsg2, y_gC, z_gK, y_gN, y_gTp, z_gT, y_gNm, z_ok, y_sPut, z_kPut, z_kPut2, z_kPut3, z_kPut4, z_kPut5, z_kPut6, y_sPar, z_kPar, z_kPar2, y_sFor, z_kFor, y_sForV, z_kFV, z_kFV2s, z_kFV2n, y_sSkip, y_sBreak, y_sCont, y_fRt, z_kFl2, y_fNx, z_kFl3, ob_ok, ob_exc, ob_bad, oo_s, de_v, ds_n, ts_n, tv_v, fo_ok, of_bad, th_nx, th_rt, th_bk, th_ct, th_bad, szk, parOf, putV, lstOf, setL, frOf, Sl.view, add_int, sub_int, int_int, ixl, ixt, len_lst, len_tup, lt_int, gt_int, le_int, ge_int, eq_int, ne_int, at0, at1, at2, at3, notNo, isNone, tupOf, eq_bl, ne_bl, truth, parIn, parBack, x_g1, x_g2, x_go1, len_scr, isi_non_int, isi_non_bool, isi_non_str, isi_non_tuple, isi_non_list, isi_bl_int, isi_bl_bool, isi_bl_str, isi_bl_tuple, isi_bl_list, isi_int_int, isi_int_bool, isi_int_str, isi_int_tuple, isi_int_list, isi_str_int, isi_str_bool, isi_str_str, isi_str_tuple, isi_str_list, isi_tup_int, isi_tup_bool, isi_tup_str, isi_tup_tuple, isi_tup_list, isi_lst_int, isi_lst_bool, isi_lst_str, isi_lst_tuple, isi_lst_list, z_kpN, z_kpF, min2V, max2V, h2]
theorem filt_all (L : List Pr) (m : Pr) : (L.filter fun a => !decide (a = m)) = L ↔ m ∉ L := by
  rw [List.filter_eq_self]
  constructor
  · intro h hm
    have := h m hm
    simp at this
  · intro h a ha
    simp
    intro e
    exact h (e ▸ ha)
theorem prs_inj {L L' : List Pr} (h : L.map prV = L'.map prV) : L = L' := by
  induction L generalizing L' with
  | nil => cases L' with | nil => rfl | cons _ _ => cases h
  | cons a L ih => cases L' with
    | nil => cases h
    | cons b L' =>
      rw [List.map_cons, List.map_cons] at h
      injection h with h1 h2
      rw [pr_inj h1, ih h2]
theorem eq_less (S : List Pr) (hl : S.length ≤ 24) (m : Pr) : eqV (landOf S) (.tup [.int S.length, .tup (((prs S.length (meet S)).filter fun a => !decide (a = m)).map prV)]) = some (.bl (!decide (m ∈ prs S.length (meet S)))) := by
  have g2 : gd (.tup [.int S.length, .tup (((prs S.length (meet S)).filter fun a => !decide (a = m)).map prV)]) = true := by
    have := gds_prs ((prs S.length (meet S)).filter fun a => !decide (a = m))
    simp [gd, gds, this]
  unfold eqV
  rw [eqB_b (b := !decide (m ∈ prs S.length (meet S))) (gd_land S) g2 (.inl (by have := dp_land S; omega))]
  · rfl
  · have := filt_all (prs S.length (meet S)) m
    rw [Bool.not_eq_true', decide_eq_false_iff_not, ← this]
    unfold landOf
    constructor
    · intro h; rw [h]
    · intro h
      injection h with h
      injection h with _ h
      injection h with h _
      injection h with h
      exact (prs_inj h).symm
abbrev Env8 := Env7
theorem one_of (p q : Pr) (hp : p.1 ≤ p.2) (hq : q.1 ≤ q.2) : ((if meetP p q = true then (1:Int) else 0) + if befP p q = true then 1 else 0) + (if befP q p = true then 1 else 0) = 1 := by
  unfold meetP befP
  by_cases h1 : p.1 ≤ q.2 <;> by_cases h2 : q.1 ≤ p.2
  · have : ¬ p.2 < q.1 := by omega
    have : ¬ q.2 < p.1 := by omega
    simp [*]
  · have : p.2 < q.1 := by omega
    have : ¬ q.2 < p.1 := by omega
    simp [*]
  · have : ¬ p.2 < q.1 := by omega
    have : q.2 < p.1 := by omega
    simp [*]
  · omega
theorem cut2 (i j : Int) (os : List Int) : cutL ((i :: j :: os).map Val.int) none (some 2) = [.int i, .int j] := by
  have e1 : ∀ n, HT.sIx n 0 none = 0 := fun _ => rfl
  have e2 : HT.sIx ((i :: j :: os).map Val.int).length ((i :: j :: os).map Val.int).length (some 2) = 2 := by
    unfold HT.sIx
    simp
  unfold cutL
  rw [e1, e2]
  simp
theorem st_good {S : List Pr} (hg : GoodS S) : staysB S.length (stV S) = true := by
  simp only [staysB, stV, List.length_map, decide_true, Bool.true_and, List.all_eq_true]
  intro x hx
  obtain ⟨p, hp, rfl⟩ := List.mem_map.mp hx
  obtain ⟨h1, h2, h3⟩ := hg p hp
  have h4 : 0 ≤ p.2 := by omega
  have h5 : p.1 ≤ 1000000 := by omega
  simp [prV, stayB, cnt, le2, *]


theorem mixed2 (e : FnE) (he : MixedOk e) (t : Tape) (n : Nat) (h1 : 1 < n) (h2 : n ≤ 24) : ∃ (t' : Tape) (i j : Int) (os : List Int), e.sem [.par t.v, .fz (.lst ((rangeI 0 n).map .int))] = .ok (.own ((i :: j :: os).map .int), .par t'.v) ∧ 0 ≤ i ∧ i < n ∧ 0 ≤ j ∧ j < n ∧ i ≠ j := by
  obtain ⟨t', os, e1, hp⟩ := he.2 t (rangeI 0 n) (by rw [length_rangeI]; omega)
  have hl := hp.length_eq
  rw [length_rangeI] at hl
  have hm : ∀ x ∈ os, 0 ≤ x ∧ x < n := fun x hx => mem_rangeI.mp (hp.mem_iff.mp hx)
  have hnd : os.Nodup := hp.nodup_iff.mpr (by unfold rangeI; exact List.Pairwise.map _ (fun a b h => by intro z; apply h; omega) List.nodup_range)
  match os, hl, hm, hnd, e1 with
  | [], hl, _, _, _ => simp at hl; omega
  | [_], hl, _, _, _ => simp at hl; omega
  | i :: j :: os, _, hm, hnd, e1 =>
    have a := hm i (by simp)
    have b := hm j (by simp)
    refine ⟨t', i, j, os, e1, a.1, a.2, b.1, b.2, ?_⟩
    have := (List.nodup_cons.mp hnd).1
    intro h
    exact this (by rw [h]; simp)
theorem l2_go (emx esm edm elm eib etm : FnE) (hmx : MixedOk emx) (hsm : SmOk esm) (hdm : MeetOk edm) (hlm : MetOk elm) (hib : BefOk eib) (htm : TimeOk etm) (S : List Pr) (hg : GoodS S) (hl : S.length ≤ 24) (hl2 : 1 < S.length) (ρ : Ev.Env) (h : Env8 S ρ) (k : Int) :
    ∃ ρ', L2_law emx esm edm elm eib etm (ρ.set 7 (.fz (.int k))) = .nx ρ' ∧ Env8 S ρ' := by
  obtain ⟨s0, t, s5, s6, s7, s8, s9, s10, s11, s12, s13, rfl⟩ := h
  obtain ⟨t1, i, j, os, e1, i0, i1, j0, j1, hne⟩ := mixed2 emx hmx t S.length hl2 hl
  have hb := hsm.bl
  have n1 := hmx.1; have n2 := hsm.1; have n3 := hdm.1; have n4 := hlm.1; have n5 := hib.1; have n6 := htm.1
  have c2 := cut2 i j os
  have a1 := ix_st S i0 i1
  have a2 := ix_st S j0 j1
  have gi : (gt S i).1 ≤ (gt S i).2 := by
    have : i.toNat < S.length := by omega
    have e : gt S i = S[i.toNat] := by unfold gt; simp [this]
    rw [e]; exact (hg _ (List.getElem_mem this)).2.1
  have gj : (gt S j).1 ≤ (gt S j).2 := by
    have : j.toNat < S.length := by omega
    have e : gt S j = S[j.toNat] := by unfold gt; simp [this]
    rw [e]; exact (hg _ (List.getElem_mem this)).2.1
  have b1 := hdm.2 (gt S i) (gt S j)
  have b2 := hib.2 (gt S i) (gt S j)
  have b3 := hib.2 (gt S j) (gt S i)
  have b4 := hlm.2 S.length i j (prs S.length (meet S))
  have b5 := met_meet S i0 i1 j0 j1 hne
  have b6 : meet S i j = meetP (gt S i) (gt S j) := rfl
  unfold lo2 hi2 at b5
  rw [b5, b6] at b4
  have el : landOf S = .tup [.int S.length, .tup ((prs S.length (meet S)).map prV)] := rfl
  rw [← el] at b4
  have one := one_of (gt S i) (gt S j) gi gj
  have x1 : ixV (prV (gt S i)) (.int 1) = some (.int (gt S i).2) := by simp [prV, z_wE, z_deS, z_drK, z_dsC, z_consO, z_tvS, z_tkK, z_tkK2, z_tsC, z_tkC, z_tkD, y_dHV, z_kHV, y_dVar, z_vFz, z_vOwn, z_vPar, z_vOdK, z_vOdT, z_vLck, z_vBox, z_vPbx, z_vOw2, y_dC, y_dVH, z_kVH, y_dIt, z_kIt, y_dRg, z_kRg, y_tYes, y_d2, z_k2a, z_k2b, z_k2c, y_aNil, y_aCons, z_kA, z_kA2, y_dN, z_kN, z_kN2, y_pNone, y_pSome, z_kPS, y_dSl, z_kSl, z_kSl2, z_kSl3, z_kSl4, y_dBk, z_kBk, z_kBk2, z_kBk3, z_kBk4, y_dTup, z_kT, z_kT2, y_dOV, z_kOV, y_dVO, z_kVO, y_dLst, z_kLst, z_kLst2, y_tOf, z_kTO, z_kTO2, y_tBl, z_kBl, y_dChain, z_kC1, z_kC2, z_kC3, z_kC4, z_kC5, y_tAnd, y_tOr, y_tNot, z_kAnd, z_kOr, z_kNot, i_and, i_or, i_vand, i_vor, y_vAnd, y_vOr, z_kvAndB, z_kvOrB, y_vNot, z_kvNot, z_kvNot2, z_kvNot3, y_dIf, z_kIf, y_dNeg, z_kNeg, y_dIsN, y_dNotN, z_kIsN, z_kNotN, y_dNo, z_kNo, z_kNo2, z_kNo3, y_dR1, z_kR1, y_dR2, z_kR2, z_kR3, y_dLR, z_kLR, y_dIsi, z_kIsi, z_kIsi2, y_call0, z_kC0, z_kC0b, z_kC0c, y_call1, z_kD1, z_kD2, z_kD3, z_kD4, z_kD5, z_kD6, z_kD7, y_dU, z_lstO, z_kU1, z_kU2, z_kU3, z_kU4, z_kU5, z_kU6, y_sSeq, y_sIf, z_kSIf, y_sDrop, y_sRet, y_sSet, z_kDrop, z_kRet, z_kSet, y_sAsg, z_kAsg, z_kAsg2, y_gC, z_gK, y_gN, y_gTp, z_gT, y_gNm, z_ok, y_sPut, z_kPut, z_kPut2, z_kPut3, z_kPut4, z_kPut5, z_kPut6, y_sPar, z_kPar, z_kPar2, y_sFor, z_kFor, y_sForV, z_kFV, z_kFV2s, z_kFV2n, y_sSkip, y_sBreak, y_sCont, y_fRt, z_kFl2, y_fNx, z_kFl3, ob_ok, ob_exc, ob_bad, oo_s, de_v, ds_n, ts_n, tv_v, fo_ok, of_bad, th_nx, th_rt, th_bk, th_ct, th_bad, szk, parOf, putV, lstOf, setL, frOf, Sl.view, add_int, sub_int, int_int, ixl, ixt, len_lst, len_tup, lt_int, gt_int, le_int, ge_int, eq_int, ne_int, at0, at1, at2, at3, notNo, isNone, tupOf, eq_bl, ne_bl, truth, parIn, parBack, x_g1, x_g2, x_go1, len_scr, isi_non_int, isi_non_bool, isi_non_str, isi_non_tuple, isi_non_list, isi_bl_int, isi_bl_bool, isi_bl_str, isi_bl_tuple, isi_bl_list, isi_int_int, isi_int_bool, isi_int_str, isi_int_tuple, isi_int_list, isi_str_int, isi_str_bool, isi_str_str, isi_str_tuple, isi_str_list, isi_tup_int, isi_tup_bool, isi_tup_str, isi_tup_tuple, isi_tup_list, isi_lst_int, isi_lst_bool, isi_lst_str, isi_lst_tuple, isi_lst_list, z_kpN, z_kpF]
  have x2 : ixV (prV (gt S j)) (.int 0) = some (.int (gt S j).1) := by simp [prV, z_wE, z_deS, z_drK, z_dsC, z_consO, z_tvS, z_tkK, z_tkK2, z_tsC, z_tkC, z_tkD, y_dHV, z_kHV, y_dVar, z_vFz, z_vOwn, z_vPar, z_vOdK, z_vOdT, z_vLck, z_vBox, z_vPbx, z_vOw2, y_dC, y_dVH, z_kVH, y_dIt, z_kIt, y_dRg, z_kRg, y_tYes, y_d2, z_k2a, z_k2b, z_k2c, y_aNil, y_aCons, z_kA, z_kA2, y_dN, z_kN, z_kN2, y_pNone, y_pSome, z_kPS, y_dSl, z_kSl, z_kSl2, z_kSl3, z_kSl4, y_dBk, z_kBk, z_kBk2, z_kBk3, z_kBk4, y_dTup, z_kT, z_kT2, y_dOV, z_kOV, y_dVO, z_kVO, y_dLst, z_kLst, z_kLst2, y_tOf, z_kTO, z_kTO2, y_tBl, z_kBl, y_dChain, z_kC1, z_kC2, z_kC3, z_kC4, z_kC5, y_tAnd, y_tOr, y_tNot, z_kAnd, z_kOr, z_kNot, i_and, i_or, i_vand, i_vor, y_vAnd, y_vOr, z_kvAndB, z_kvOrB, y_vNot, z_kvNot, z_kvNot2, z_kvNot3, y_dIf, z_kIf, y_dNeg, z_kNeg, y_dIsN, y_dNotN, z_kIsN, z_kNotN, y_dNo, z_kNo, z_kNo2, z_kNo3, y_dR1, z_kR1, y_dR2, z_kR2, z_kR3, y_dLR, z_kLR, y_dIsi, z_kIsi, z_kIsi2, y_call0, z_kC0, z_kC0b, z_kC0c, y_call1, z_kD1, z_kD2, z_kD3, z_kD4, z_kD5, z_kD6, z_kD7, y_dU, z_lstO, z_kU1, z_kU2, z_kU3, z_kU4, z_kU5, z_kU6, y_sSeq, y_sIf, z_kSIf, y_sDrop, y_sRet, y_sSet, z_kDrop, z_kRet, z_kSet, y_sAsg, z_kAsg, z_kAsg2, y_gC, z_gK, y_gN, y_gTp, z_gT, y_gNm, z_ok, y_sPut, z_kPut, z_kPut2, z_kPut3, z_kPut4, z_kPut5, z_kPut6, y_sPar, z_kPar, z_kPar2, y_sFor, z_kFor, y_sForV, z_kFV, z_kFV2s, z_kFV2n, y_sSkip, y_sBreak, y_sCont, y_fRt, z_kFl2, y_fNx, z_kFl3, ob_ok, ob_exc, ob_bad, oo_s, de_v, ds_n, ts_n, tv_v, fo_ok, of_bad, th_nx, th_rt, th_bk, th_ct, th_bad, szk, parOf, putV, lstOf, setL, frOf, Sl.view, add_int, sub_int, int_int, ixl, ixt, len_lst, len_tup, lt_int, gt_int, le_int, ge_int, eq_int, ne_int, at0, at1, at2, at3, notNo, isNone, tupOf, eq_bl, ne_bl, truth, parIn, parBack, x_g1, x_g2, x_go1, len_scr, isi_non_int, isi_non_bool, isi_non_str, isi_non_tuple, isi_non_list, isi_bl_int, isi_bl_bool, isi_bl_str, isi_bl_tuple, isi_bl_list, isi_int_int, isi_int_bool, isi_int_str, isi_int_tuple, isi_int_list, isi_str_int, isi_str_bool, isi_str_str, isi_str_tuple, isi_str_list, isi_tup_int, isi_tup_bool, isi_tup_str, isi_tup_tuple, isi_tup_list, isi_lst_int, isi_lst_bool, isi_lst_str, isi_lst_tuple, isi_lst_list, z_kpN, z_kpF]
  have bf : befP (gt S i) (gt S j) = decide ((gt S i).2 < (gt S j).1) := rfl
  have tm := (htm.2 1000 S.length (.tup (((prs S.length (meet S)).filter fun a => !decide (a = (lo2 i j, hi2 i j))).map prV)) (stV S) (by omega) (itv_nice (stV_itv S (by omega) (by omega))) (by omega)).2 S _ rfl (st_good hg) (eq_less S hl (lo2 i j, hi2 i j))
  have b5' : decide ((lo2 i j, hi2 i j) ∈ prs S.length (meet S)) = meet S i j := met_meet S i0 i1 j0 j1 hne
  rw [b5', b6] at tm
  have c1 := c1_ok S hl i j s0 (.own t1.v) (.fz (.int S.length)) (.fz (stV S)) s5 s6 (.fz (.int k)) s8 (.fz (prV (gt S i))) (.fz (prV (gt S j))) s13
  have rg : rgOk 0 S.length = true := by unfold rgOk; simp; omega
  have sl : slV (.lst ((i :: j :: os).map .int)) none (some 2) = some (.lst [.int i, .int j]) := by show some (Val.lst (cutL _ _ _)) = _; rw [c2]
  refine ⟨[s0, .own t1.v, .fz (.int S.length), .fz (stV S), .fz (landOf S), s5, s6, .fz (.int k), s8, .fz (.int i), .fz (.int j), .fz (prV (gt S i)), .fz (prV (gt S j)), .own (((prs S.length (meet S)).filter fun a => !decide (a = (lo2 i j, hi2 i j))).map prV), .no], ?_, s0, t1, s5, s6, _, s8, _, _, _, _, _, rfl⟩
  rw [bf] at b2 one
  simp only [decide_eq_true_eq] at one
  generalize ((prs S.length (meet S)).filter fun a => !decide (a = (lo2 i j, hi2 i j))).map prV = ys at *
  generalize landOf S = w at *
  generalize stV S = u at *
  generalize prV (gt S i) = p at *
  generalize prV (gt S j) = q at *
  generalize meetP (gt S i) (gt S j) = bm at *
  generalize befP (gt S j) (gt S i) = bb at *
  generalize hxs : (i :: j :: os).map Val.int = xs at *
  clear b5 b5' b6 el gi gj hg hmx hsm hdm hlm hib htm c2 hxs bf i0 i1 j0 j1 hne
  unfold L2_law
  simp -implicitDefEqProofs [z_wE, z_deS, z_drK, z_dsC, z_consO, z_tvS, z_tkK, z_tkK2, z_tsC, z_tkC, z_tkD, y_dHV, z_kHV, y_dVar, z_vFz, z_vOwn, z_vPar, z_vOdK, z_vOdT, z_vLck, z_vBox, z_vPbx, z_vOw2, y_dC, y_dVH, z_kVH, y_dIt, z_kIt, y_dRg, z_kRg, y_tYes, y_d2, z_k2a, z_k2b, z_k2c, y_aNil, y_aCons, z_kA, z_kA2, y_dN, z_kN, z_kN2, y_pNone, y_pSome, z_kPS, y_dSl, z_kSl, z_kSl2, z_kSl3, z_kSl4, y_dBk, z_kBk, z_kBk2, z_kBk3, z_kBk4, y_dTup, z_kT, z_kT2, y_dOV, z_kOV, y_dVO, z_kVO, y_dLst, z_kLst, z_kLst2, y_tOf, z_kTO, z_kTO2, y_tBl, z_kBl, y_dChain, z_kC1, z_kC2, z_kC3, z_kC4, z_kC5, y_tAnd, y_tOr, y_tNot, z_kAnd, z_kOr, z_kNot, i_and, i_or, i_vand, i_vor, y_vAnd, y_vOr, z_kvAndB, z_kvOrB, y_vNot, z_kvNot, z_kvNot2, z_kvNot3, y_dIf, z_kIf, y_dNeg, z_kNeg, y_dIsN, y_dNotN, z_kIsN, z_kNotN, y_dNo, z_kNo, z_kNo2, z_kNo3, y_dR1, z_kR1, y_dR2, z_kR2, z_kR3, y_dLR, z_kLR, y_dIsi, z_kIsi, z_kIsi2, y_call0, z_kC0, z_kC0b, z_kC0c, y_call1, z_kD1, z_kD2, z_kD3, z_kD4, z_kD5, z_kD6, z_kD7, y_dU, z_lstO, z_kU1, z_kU2, z_kU3, z_kU4, z_kU5, z_kU6, y_sSeq, y_sIf, z_kSIf, y_sDrop, y_sRet, y_sSet, z_kDrop, z_kRet, z_kSet, y_sAsg, z_kAsg, z_kAsg2, y_gC, z_gK, y_gN, y_gTp, z_gT, y_gNm, z_ok, y_sPut, z_kPut, z_kPut2, z_kPut3, z_kPut4, z_kPut5, z_kPut6, y_sPar, z_kPar, z_kPar2, y_sFor, z_kFor, y_sForV, z_kFV, z_kFV2s, z_kFV2n, y_sSkip, y_sBreak, y_sCont, y_fRt, z_kFl2, y_fNx, z_kFl3, ob_ok, ob_exc, ob_bad, oo_s, de_v, ds_n, ts_n, tv_v, fo_ok, of_bad, th_nx, th_rt, th_bk, th_ct, th_bad, szk, parOf, putV, lstOf, setL, frOf, Sl.view, add_int, sub_int, int_int, ixl, ixt, len_lst, len_tup, lt_int, gt_int, le_int, ge_int, eq_int, ne_int, at0, at1, at2, at3, notNo, isNone, tupOf, eq_bl, ne_bl, truth, parIn, parBack, x_g1, x_g2, x_go1, len_scr, isi_non_int, isi_non_bool, isi_non_str, isi_non_tuple, isi_non_list, isi_bl_int, isi_bl_bool, isi_bl_str, isi_bl_tuple, isi_bl_list, isi_int_int, isi_int_bool, isi_int_str, isi_int_tuple, isi_int_list, isi_str_int, isi_str_bool, isi_str_str, isi_str_tuple, isi_str_list, isi_tup_int, isi_tup_bool, isi_tup_str, isi_tup_tuple, isi_tup_list, isi_lst_int, isi_lst_bool, isi_lst_str, isi_lst_tuple, isi_lst_list, z_kpN, z_kpF, n1, n2, n3, n4, n5, n6, e1, sl, a1, a2, b1, b2, b3, b4, hb, x1, x2, rg, intV, one, tupV, tm, c1]

theorem f2_go (emx esm edm elm eib etm : FnE) (hmx : MixedOk emx) (hsm : SmOk esm) (hdm : MeetOk edm) (hlm : MetOk elm) (hib : BefOk eib) (htm : TimeOk etm) (S : List Pr) (hg : GoodS S) (hl : S.length ≤ 24) (ρ : Ev.Env) (h : Env8 S ρ) :
    ∃ ρ', F2_law emx esm edm elm eib etm ρ = .nx ρ' ∧ Env8 S ρ' := by
  have key : ∀ m : Int, m = 0 ∨ (m = 8 ∧ 1 < S.length) → ∃ ρ', forL (gNm 7) (L2_law emx esm edm elm eib etm) ((rangeI 0 m).map .int) ρ = .nx ρ' ∧ Env8 S ρ' := fun m hm => by
    rcases hm with rfl | ⟨rfl, h2⟩
    · exact ⟨ρ, rfl, h⟩
    · exact forL_nm0 (i := 7) Val.int (rangeI 0 8) (Env8 S) h fun a ρ ha h => by
        obtain ⟨ρ', h3, h4⟩ := l2_go emx esm edm elm eib etm hmx hsm hdm hlm hib htm S hg hl h2 ρ h a
        obtain ⟨s0, t, s5, s6, s7, s8, s9, s10, s11, s12, s13, rfl⟩ := h
        exact ⟨by simp, ρ', .inl h3, h4⟩
  have h0 := h
  obtain ⟨s0, t, s5, s6, s7, s8, s9, s10, s11, s12, s13, rfl⟩ := h
  unfold F2_law
  by_cases h2 : 1 < S.length
  · obtain ⟨ρ', h3, h4⟩ := key 8 (.inr ⟨rfl, h2⟩)
    refine ⟨ρ', ?_, h4⟩
    rw [← h3]
    have : (1:Int) < S.length := by omega
    simp -implicitDefEqProofs [z_wE, z_deS, z_drK, z_dsC, z_consO, z_tvS, z_tkK, z_tkK2, z_tsC, z_tkC, z_tkD, y_dHV, z_kHV, y_dVar, z_vFz, z_vOwn, z_vPar, z_vOdK, z_vOdT, z_vLck, z_vBox, z_vPbx, z_vOw2, y_dC, y_dVH, z_kVH, y_dIt, z_kIt, y_dRg, z_kRg, y_tYes, y_d2, z_k2a, z_k2b, z_k2c, y_aNil, y_aCons, z_kA, z_kA2, y_dN, z_kN, z_kN2, y_pNone, y_pSome, z_kPS, y_dSl, z_kSl, z_kSl2, z_kSl3, z_kSl4, y_dBk, z_kBk, z_kBk2, z_kBk3, z_kBk4, y_dTup, z_kT, z_kT2, y_dOV, z_kOV, y_dVO, z_kVO, y_dLst, z_kLst, z_kLst2, y_tOf, z_kTO, z_kTO2, y_tBl, z_kBl, y_dChain, z_kC1, z_kC2, z_kC3, z_kC4, z_kC5, y_tAnd, y_tOr, y_tNot, z_kAnd, z_kOr, z_kNot, i_and, i_or, i_vand, i_vor, y_vAnd, y_vOr, z_kvAndB, z_kvOrB, y_vNot, z_kvNot, z_kvNot2, z_kvNot3, y_dIf, z_kIf, y_dNeg, z_kNeg, y_dIsN, y_dNotN, z_kIsN, z_kNotN, y_dNo, z_kNo, z_kNo2, z_kNo3, y_dR1, z_kR1, y_dR2, z_kR2, z_kR3, y_dLR, z_kLR, y_dIsi, z_kIsi, z_kIsi2, y_call0, z_kC0, z_kC0b, z_kC0c, y_call1, z_kD1, z_kD2, z_kD3, z_kD4, z_kD5, z_kD6, z_kD7, y_dU, z_lstO, z_kU1, z_kU2, z_kU3, z_kU4, z_kU5, z_kU6, y_sSeq, y_sIf, z_kSIf, y_sDrop, y_sRet, y_sSet, z_kDrop, z_kRet, z_kSet, y_sAsg, z_kAsg, z_kAsg2, y_gC, z_gK, y_gN, y_gTp, z_gT, y_gNm, z_ok, y_sPut, z_kPut, z_kPut2, z_kPut3, z_kPut4, z_kPut5, z_kPut6, y_sPar, z_kPar, z_kPar2, y_sFor, z_kFor, y_sForV, z_kFV, z_kFV2s, z_kFV2n, y_sSkip, y_sBreak, y_sCont, y_fRt, z_kFl2, y_fNx, z_kFl3, ob_ok, ob_exc, ob_bad, oo_s, de_v, ds_n, ts_n, tv_v, fo_ok, of_bad, th_nx, th_rt, th_bk, th_ct, th_bad, szk, parOf, putV, lstOf, setL, frOf, Sl.view, add_int, sub_int, int_int, ixl, ixt, len_lst, len_tup, lt_int, gt_int, le_int, ge_int, eq_int, ne_int, at0, at1, at2, at3, notNo, isNone, tupOf, eq_bl, ne_bl, truth, parIn, parBack, x_g1, x_g2, x_go1, len_scr, isi_non_int, isi_non_bool, isi_non_str, isi_non_tuple, isi_non_list, isi_bl_int, isi_bl_bool, isi_bl_str, isi_bl_tuple, isi_bl_list, isi_int_int, isi_int_bool, isi_int_str, isi_int_tuple, isi_int_list, isi_str_int, isi_str_bool, isi_str_str, isi_str_tuple, isi_str_list, isi_tup_int, isi_tup_bool, isi_tup_str, isi_tup_tuple, isi_tup_list, isi_lst_int, isi_lst_bool, isi_lst_str, isi_lst_tuple, isi_lst_list, z_kpN, z_kpF, this, rOk]
  · obtain ⟨ρ', h3, h4⟩ := key 0 (.inl rfl)
    refine ⟨ρ', ?_, h4⟩
    rw [← h3]
    have : ¬ (1:Int) < S.length := by omega
    simp -implicitDefEqProofs [z_wE, z_deS, z_drK, z_dsC, z_consO, z_tvS, z_tkK, z_tkK2, z_tsC, z_tkC, z_tkD, y_dHV, z_kHV, y_dVar, z_vFz, z_vOwn, z_vPar, z_vOdK, z_vOdT, z_vLck, z_vBox, z_vPbx, z_vOw2, y_dC, y_dVH, z_kVH, y_dIt, z_kIt, y_dRg, z_kRg, y_tYes, y_d2, z_k2a, z_k2b, z_k2c, y_aNil, y_aCons, z_kA, z_kA2, y_dN, z_kN, z_kN2, y_pNone, y_pSome, z_kPS, y_dSl, z_kSl, z_kSl2, z_kSl3, z_kSl4, y_dBk, z_kBk, z_kBk2, z_kBk3, z_kBk4, y_dTup, z_kT, z_kT2, y_dOV, z_kOV, y_dVO, z_kVO, y_dLst, z_kLst, z_kLst2, y_tOf, z_kTO, z_kTO2, y_tBl, z_kBl, y_dChain, z_kC1, z_kC2, z_kC3, z_kC4, z_kC5, y_tAnd, y_tOr, y_tNot, z_kAnd, z_kOr, z_kNot, i_and, i_or, i_vand, i_vor, y_vAnd, y_vOr, z_kvAndB, z_kvOrB, y_vNot, z_kvNot, z_kvNot2, z_kvNot3, y_dIf, z_kIf, y_dNeg, z_kNeg, y_dIsN, y_dNotN, z_kIsN, z_kNotN, y_dNo, z_kNo, z_kNo2, z_kNo3, y_dR1, z_kR1, y_dR2, z_kR2, z_kR3, y_dLR, z_kLR, y_dIsi, z_kIsi, z_kIsi2, y_call0, z_kC0, z_kC0b, z_kC0c, y_call1, z_kD1, z_kD2, z_kD3, z_kD4, z_kD5, z_kD6, z_kD7, y_dU, z_lstO, z_kU1, z_kU2, z_kU3, z_kU4, z_kU5, z_kU6, y_sSeq, y_sIf, z_kSIf, y_sDrop, y_sRet, y_sSet, z_kDrop, z_kRet, z_kSet, y_sAsg, z_kAsg, z_kAsg2, y_gC, z_gK, y_gN, y_gTp, z_gT, y_gNm, z_ok, y_sPut, z_kPut, z_kPut2, z_kPut3, z_kPut4, z_kPut5, z_kPut6, y_sPar, z_kPar, z_kPar2, y_sFor, z_kFor, y_sForV, z_kFV, z_kFV2s, z_kFV2n, y_sSkip, y_sBreak, y_sCont, y_fRt, z_kFl2, y_fNx, z_kFl3, ob_ok, ob_exc, ob_bad, oo_s, de_v, ds_n, ts_n, tv_v, fo_ok, of_bad, th_nx, th_rt, th_bk, th_ct, th_bad, szk, parOf, putV, lstOf, setL, frOf, Sl.view, add_int, sub_int, int_int, ixl, ixt, len_lst, len_tup, lt_int, gt_int, le_int, ge_int, eq_int, ne_int, at0, at1, at2, at3, notNo, isNone, tupOf, eq_bl, ne_bl, truth, parIn, parBack, x_g1, x_g2, x_go1, len_scr, isi_non_int, isi_non_bool, isi_non_str, isi_non_tuple, isi_non_list, isi_bl_int, isi_bl_bool, isi_bl_str, isi_bl_tuple, isi_bl_list, isi_int_int, isi_int_bool, isi_int_str, isi_int_tuple, isi_int_list, isi_str_int, isi_str_bool, isi_str_str, isi_str_tuple, isi_str_list, isi_tup_int, isi_tup_bool, isi_tup_str, isi_tup_tuple, isi_tup_list, isi_lst_int, isi_lst_bool, isi_lst_str, isi_lst_tuple, isi_lst_list, z_kpN, z_kpF, this, rOk]
def EnvL (ρ : Ev.Env) : Prop := ∃ (s0 : Sl) (t : Tape) (s2 s3 s4 s5 s6 s7 s8 s9 s10 s11 s12 s13 : Sl), ρ = [s0, .own t.v, s2, s3, s4, s5, s6, s7, s8, s9, s10, s11, s12, s13, .no]
theorem l1_go (elt esh ear esm egr etm eho esp elar est elst emx edm elm eib : FnE) (hlt : LateOk elt) (hsh : ShownOk esh) (har : AreOk ear) (hsm : SmOk esm) (hgr : ShownOk egr) (htm : TimeOk etm) (hho : HoursOk eho) (hsp : SpzOk esp) (hlar : AreOk elar) (hst : StayOk est) (hlst : StayOk elst) (hmx : MixedOk emx) (hdm : MeetOk edm) (hlm : MetOk elm) (hib : BefOk eib)
    (n : Nat) (hn : n ≤ 24) (ρ : Ev.Env) (h : EnvL ρ) : ∃ ρ', L1_law elt esh ear esm egr etm eho esp elar est elst emx edm elm eib (ρ.set 2 (.fz (.int n))) = .nx ρ' ∧ EnvL ρ' := by
  obtain ⟨s0, t, s2, s3, s4, s5, s6, s7, s8, s9, s10, s11, s12, s13, rfl⟩ := h
  obtain ⟨t1, S, e1, hl, hg⟩ := hlt.2 t n hn
  have hS : S.length ≤ 24 := by omega
  have n1 := hlt.1; have n2 := hsh.1; have n3 := har.1; have n4 := hsm.1; have n5 := hgr.1; have n6 := htm.1
  have a1 := hsh.2 S (by omega)
  have a2 := hgr.2 S (by omega)
  have a3 := har.2 1000 n (stV S) (by omega) (itv_nice (stV_itv S (by omega) (by omega)))
  have sg := st_good hg
  rw [← hl, sg] at a3
  have a4 := hsm.2.1 (landOf S) (gd_land S) (by have := dp_land S; omega) (wd_land S (by omega))
  have eq1 : eqV (landOf S) (landOf S) = some (.bl true) := by
    unfold eqV
    rw [eqB_b (b := true) (gd_land S) (gd_land S) (.inl (by have := dp_land S; omega)) (by simp)]
    rfl
  have a5 := (htm.2 1000 S.length (.tup ((prs S.length (meet S)).map prV)) (stV S) (by omega) (itv_nice (stV_itv S (by omega) (by omega))) (by omega)).2 S true rfl sg eq1
  have el : landOf S = .tup [.int S.length, .tup ((prs S.length (meet S)).map prV)] := rfl
  rw [← el] at a5
  have isT : isntBV (.bl true) (.bl true) = some (.bl false) := rfl
  obtain ⟨s6', f4⟩ := f4_go S hS s0 (.own t1.v) (.fz (.int n)) (.fz (landOf S)) s6 [s7, s8, s9, s10, s11, s12, s13, .no]
  have hc1 := hho.2 S hS
  have hc2 := sd_hrs S hS
  have hc3 := same_hours esm hsm S hS
  have n7 := hho.1
  have st7 : Env7 S [s0, .own t1.v, .fz (.int n), .fz (stV S), .fz (landOf S), .own ((hrs S).map .int), s6', s7, s8, s9, s10, s11, s12, s13, .no] := ⟨s0, t1, _, s6', s7, s8, s9, s10, s11, s12, s13, by rw [hl]⟩
  obtain ⟨ρ3, f3, h3⟩ := f3_go esp esm ear elar etm esh est elst hsp hsm har hlar htm hsh hst hlst S hS _ st7
  obtain ⟨ρ2, f2, h2⟩ := f2_go emx esm edm elm eib etm hmx hsm hdm hlm hib htm S hg hS ρ3 h3
  refine ⟨ρ2, ?_, ?_⟩
  · rw [hl] at a3
    generalize stV S = u at *
    generalize landOf S = w at *
    generalize (sdL (hrs S)).map Val.int = zs at *
    generalize (hrs S).map Val.int = ys at *
    clear el eq1
    unfold L1_law
    simp -implicitDefEqProofs [z_wE, z_deS, z_drK, z_dsC, z_consO, z_tvS, z_tkK, z_tkK2, z_tsC, z_tkC, z_tkD, y_dHV, z_kHV, y_dVar, z_vFz, z_vOwn, z_vPar, z_vOdK, z_vOdT, z_vLck, z_vBox, z_vPbx, z_vOw2, y_dC, y_dVH, z_kVH, y_dIt, z_kIt, y_dRg, z_kRg, y_tYes, y_d2, z_k2a, z_k2b, z_k2c, y_aNil, y_aCons, z_kA, z_kA2, y_dN, z_kN, z_kN2, y_pNone, y_pSome, z_kPS, y_dSl, z_kSl, z_kSl2, z_kSl3, z_kSl4, y_dBk, z_kBk, z_kBk2, z_kBk3, z_kBk4, y_dTup, z_kT, z_kT2, y_dOV, z_kOV, y_dVO, z_kVO, y_dLst, z_kLst, z_kLst2, y_tOf, z_kTO, z_kTO2, y_tBl, z_kBl, y_dChain, z_kC1, z_kC2, z_kC3, z_kC4, z_kC5, y_tAnd, y_tOr, y_tNot, z_kAnd, z_kOr, z_kNot, i_and, i_or, i_vand, i_vor, y_vAnd, y_vOr, z_kvAndB, z_kvOrB, y_vNot, z_kvNot, z_kvNot2, z_kvNot3, y_dIf, z_kIf, y_dNeg, z_kNeg, y_dIsN, y_dNotN, z_kIsN, z_kNotN, y_dNo, z_kNo, z_kNo2, z_kNo3, y_dR1, z_kR1, y_dR2, z_kR2, z_kR3, y_dLR, z_kLR, y_dIsi, z_kIsi, z_kIsi2, y_call0, z_kC0, z_kC0b, z_kC0c, y_call1, z_kD1, z_kD2, z_kD3, z_kD4, z_kD5, z_kD6, z_kD7, y_dU, z_lstO, z_kU1, z_kU2, z_kU3, z_kU4, z_kU5, z_kU6, y_sSeq, y_sIf, z_kSIf, y_sDrop, y_sRet, y_sSet, z_kDrop, z_kRet, z_kSet, y_sAsg, z_kAsg, z_kAsg2, y_gC, z_gK, y_gN, y_gTp, z_gT, y_gNm, z_ok, y_sPut, z_kPut, z_kPut2, z_kPut3, z_kPut4, z_kPut5, z_kPut6, y_sPar, z_kPar, z_kPar2, y_sFor, z_kFor, y_sForV, z_kFV, z_kFV2s, z_kFV2n, y_sSkip, y_sBreak, y_sCont, y_fRt, z_kFl2, y_fNx, z_kFl3, ob_ok, ob_exc, ob_bad, oo_s, de_v, ds_n, ts_n, tv_v, fo_ok, of_bad, th_nx, th_rt, th_bk, th_ct, th_bad, szk, parOf, putV, lstOf, setL, frOf, Sl.view, add_int, sub_int, int_int, ixl, ixt, len_lst, len_tup, lt_int, gt_int, le_int, ge_int, eq_int, ne_int, at0, at1, at2, at3, notNo, isNone, tupOf, eq_bl, ne_bl, truth, parIn, parBack, x_g1, x_g2, x_go1, len_scr, isi_non_int, isi_non_bool, isi_non_str, isi_non_tuple, isi_non_list, isi_bl_int, isi_bl_bool, isi_bl_str, isi_bl_tuple, isi_bl_list, isi_int_int, isi_int_bool, isi_int_str, isi_int_tuple, isi_int_list, isi_str_int, isi_str_bool, isi_str_str, isi_str_tuple, isi_str_list, isi_tup_int, isi_tup_bool, isi_tup_str, isi_tup_tuple, isi_tup_list, isi_lst_int, isi_lst_bool, isi_lst_str, isi_lst_tuple, isi_lst_list, z_kpN, z_kpF, n1, n2, n3, n4, n5, n6, e1, a1, a2, a3, a4, a5, isT, f4, hc1, hc2, hc3, n7, tupV, f3, f2]
  · obtain ⟨s0, t, s5, s6, s7, s8, s9, s10, s11, s12, s13, rfl⟩ := h2
    exact ⟨s0, t, _, _, _, s5, s6, s7, s8, s9, s10, s11, s12, s13, rfl⟩
theorem law_core (esm elm etm edm eib emx elst est esp elar ear esh eho egr elt etk etp : FnE) (hlt : LateOk elt) (hsh : ShownOk esh) (har : AreOk ear) (hsm : SmOk esm) (hgr : ShownOk egr) (htm : TimeOk etm) (hho : HoursOk eho) (hsp : SpzOk esp) (hlar : AreOk elar) (hst : StayOk est) (hlst : StayOk elst) (hmx : MixedOk emx) (hdm : MeetOk edm) (hlm : MetOk elm) (hib : BefOk eib) (htk : TakeOk etk) (htp : TapeOk etp)
    (ns : List Int) (hl : ns.length ≤ 63) : flRes 1 none (D_law esm elm etm edm eib emx elst est esp elar ear esh eho egr elt etk etp [.fz (.scr ns), .no, .no, .no, .no, .no, .no, .no, .no, .no, .no, .no, .no, .no, .no]) = .ok (.fz (.bl true), .no) := by
  obtain ⟨t, e1⟩ := htp.2 ns hl
  have n1 := htp.1; have n2 := hst.1; have n3 := htk.1
  have b1 := hst.2 10 (prV (0, 1000000)) (by simp [prV, nice, nices])
  have b2 := hst.2 10 (prV (0, 1000001)) (by simp [prV, nice, nices])
  have b3 := hst.2 10 (prV (-1, 3)) (by simp [prV, nice, nices])
  have b4 := hst.2 10 (prV (4, 3)) (by simp [prV, nice, nices])
  have c1 : stayB (prV (0, 1000000)) = true := rfl
  have c2 : stayB (prV (0, 1000001)) = false := rfl
  have c3 : stayB (prV (-1, 3)) = false := rfl
  have c4 : stayB (prV (4, 3)) = false := rfl
  rw [c1] at b1; rw [c2] at b2; rw [c3] at b3; rw [c4] at b4
  simp only [prV] at b1 b2 b3 b4
  obtain ⟨d, t1, hd, e2⟩ := htk.2 t 7 (by decide) (by decide)
  have i1 : isntBV (.bl true) (.bl true) = some (.bl false) := rfl
  have i2 : isntBV (.bl false) (.bl false) = some (.bl false) := rfl
  have lp := forL_nm0 (i := 2) (b := L1_law elt esh ear esm egr etm eho esp elar est elst emx edm elm eib) (fun n : Nat => Val.int n) [d, 24] EnvL (ρ := [.fz (.scr ns), .own t1.v, .no, .no, .no, .no, .no, .no, .no, .no, .no, .no, .no, .no, .no]) ⟨_, t1, _, _, _, _, _, _, _, _, _, _, _, _, rfl⟩ fun a ρ ha h => by
    have : a ≤ 24 := by
      rcases List.mem_cons.mp ha with rfl | ha
      · omega
      · rw [List.mem_singleton.mp ha]; omega
    obtain ⟨ρ', h1, h2⟩ := l1_go elt esh ear esm egr etm eho esp elar est elst emx edm elm eib hlt hsh har hsm hgr htm hho hsp hlar hst hlst hmx hdm hlm hib a this ρ h
    obtain ⟨s0, t, s2, s3, s4, s5, s6, s7, s8, s9, s10, s11, s12, s13, rfl⟩ := h
    exact ⟨by simp, ρ', .inl h1, h2⟩
  obtain ⟨ρ', f1, s0, t', s2, s3, s4, s5, s6, s7, s8, s9, s10, s11, s12, s13, rfl⟩ := lp
  have F1 : F1_law etk elt esh ear esm egr etm eho esp elar est elst emx edm elm eib [.fz (.scr ns), .own t.v, .no, .no, .no, .no, .no, .no, .no, .no, .no, .no, .no, .no, .no] = .nx [s0, .own t'.v, s2, s3, s4, s5, s6, s7, s8, s9, s10, s11, s12, s13, .no] := by
    rw [← f1]
    unfold F1_law
    simp -implicitDefEqProofs [z_wE, z_deS, z_drK, z_dsC, z_consO, z_tvS, z_tkK, z_tkK2, z_tsC, z_tkC, z_tkD, y_dHV, z_kHV, y_dVar, z_vFz, z_vOwn, z_vPar, z_vOdK, z_vOdT, z_vLck, z_vBox, z_vPbx, z_vOw2, y_dC, y_dVH, z_kVH, y_dIt, z_kIt, y_dRg, z_kRg, y_tYes, y_d2, z_k2a, z_k2b, z_k2c, y_aNil, y_aCons, z_kA, z_kA2, y_dN, z_kN, z_kN2, y_pNone, y_pSome, z_kPS, y_dSl, z_kSl, z_kSl2, z_kSl3, z_kSl4, y_dBk, z_kBk, z_kBk2, z_kBk3, z_kBk4, y_dTup, z_kT, z_kT2, y_dOV, z_kOV, y_dVO, z_kVO, y_dLst, z_kLst, z_kLst2, y_tOf, z_kTO, z_kTO2, y_tBl, z_kBl, y_dChain, z_kC1, z_kC2, z_kC3, z_kC4, z_kC5, y_tAnd, y_tOr, y_tNot, z_kAnd, z_kOr, z_kNot, i_and, i_or, i_vand, i_vor, y_vAnd, y_vOr, z_kvAndB, z_kvOrB, y_vNot, z_kvNot, z_kvNot2, z_kvNot3, y_dIf, z_kIf, y_dNeg, z_kNeg, y_dIsN, y_dNotN, z_kIsN, z_kNotN, y_dNo, z_kNo, z_kNo2, z_kNo3, y_dR1, z_kR1, y_dR2, z_kR2, z_kR3, y_dLR, z_kLR, y_dIsi, z_kIsi, z_kIsi2, y_call0, z_kC0, z_kC0b, z_kC0c, y_call1, z_kD1, z_kD2, z_kD3, z_kD4, z_kD5, z_kD6, z_kD7, y_dU, z_lstO, z_kU1, z_kU2, z_kU3, z_kU4, z_kU5, z_kU6, y_sSeq, y_sIf, z_kSIf, y_sDrop, y_sRet, y_sSet, z_kDrop, z_kRet, z_kSet, y_sAsg, z_kAsg, z_kAsg2, y_gC, z_gK, y_gN, y_gTp, z_gT, y_gNm, z_ok, y_sPut, z_kPut, z_kPut2, z_kPut3, z_kPut4, z_kPut5, z_kPut6, y_sPar, z_kPar, z_kPar2, y_sFor, z_kFor, y_sForV, z_kFV, z_kFV2s, z_kFV2n, y_sSkip, y_sBreak, y_sCont, y_fRt, z_kFl2, y_fNx, z_kFl3, ob_ok, ob_exc, ob_bad, oo_s, de_v, ds_n, ts_n, tv_v, fo_ok, of_bad, th_nx, th_rt, th_bk, th_ct, th_bad, szk, parOf, putV, lstOf, setL, frOf, Sl.view, add_int, sub_int, int_int, ixl, ixt, len_lst, len_tup, lt_int, gt_int, le_int, ge_int, eq_int, ne_int, at0, at1, at2, at3, notNo, isNone, tupOf, eq_bl, ne_bl, truth, parIn, parBack, x_g1, x_g2, x_go1, len_scr, isi_non_int, isi_non_bool, isi_non_str, isi_non_tuple, isi_non_list, isi_bl_int, isi_bl_bool, isi_bl_str, isi_bl_tuple, isi_bl_list, isi_int_int, isi_int_bool, isi_int_str, isi_int_tuple, isi_int_list, isi_str_int, isi_str_bool, isi_str_str, isi_str_tuple, isi_str_list, isi_tup_int, isi_tup_bool, isi_tup_str, isi_tup_tuple, isi_tup_list, isi_lst_int, isi_lst_bool, isi_lst_str, isi_lst_tuple, isi_lst_list, z_kpN, z_kpF, n3, e2, goesV]
  unfold D_law
  simp -implicitDefEqProofs [z_wE, z_deS, z_drK, z_dsC, z_consO, z_tvS, z_tkK, z_tkK2, z_tsC, z_tkC, z_tkD, y_dHV, z_kHV, y_dVar, z_vFz, z_vOwn, z_vPar, z_vOdK, z_vOdT, z_vLck, z_vBox, z_vPbx, z_vOw2, y_dC, y_dVH, z_kVH, y_dIt, z_kIt, y_dRg, z_kRg, y_tYes, y_d2, z_k2a, z_k2b, z_k2c, y_aNil, y_aCons, z_kA, z_kA2, y_dN, z_kN, z_kN2, y_pNone, y_pSome, z_kPS, y_dSl, z_kSl, z_kSl2, z_kSl3, z_kSl4, y_dBk, z_kBk, z_kBk2, z_kBk3, z_kBk4, y_dTup, z_kT, z_kT2, y_dOV, z_kOV, y_dVO, z_kVO, y_dLst, z_kLst, z_kLst2, y_tOf, z_kTO, z_kTO2, y_tBl, z_kBl, y_dChain, z_kC1, z_kC2, z_kC3, z_kC4, z_kC5, y_tAnd, y_tOr, y_tNot, z_kAnd, z_kOr, z_kNot, i_and, i_or, i_vand, i_vor, y_vAnd, y_vOr, z_kvAndB, z_kvOrB, y_vNot, z_kvNot, z_kvNot2, z_kvNot3, y_dIf, z_kIf, y_dNeg, z_kNeg, y_dIsN, y_dNotN, z_kIsN, z_kNotN, y_dNo, z_kNo, z_kNo2, z_kNo3, y_dR1, z_kR1, y_dR2, z_kR2, z_kR3, y_dLR, z_kLR, y_dIsi, z_kIsi, z_kIsi2, y_call0, z_kC0, z_kC0b, z_kC0c, y_call1, z_kD1, z_kD2, z_kD3, z_kD4, z_kD5, z_kD6, z_kD7, y_dU, z_lstO, z_kU1, z_kU2, z_kU3, z_kU4, z_kU5, z_kU6, y_sSeq, y_sIf, z_kSIf, y_sDrop, y_sRet, y_sSet, z_kDrop, z_kRet, z_kSet, y_sAsg, z_kAsg, z_kAsg2, y_gC, z_gK, y_gN, y_gTp, z_gT, y_gNm, z_ok, y_sPut, z_kPut, z_kPut2, z_kPut3, z_kPut4, z_kPut5, z_kPut6, y_sPar, z_kPar, z_kPar2, y_sFor, z_kFor, y_sForV, z_kFV, z_kFV2s, z_kFV2n, y_sSkip, y_sBreak, y_sCont, y_fRt, z_kFl2, y_fNx, z_kFl3, ob_ok, ob_exc, ob_bad, oo_s, de_v, ds_n, ts_n, tv_v, fo_ok, of_bad, th_nx, th_rt, th_bk, th_ct, th_bad, szk, parOf, putV, lstOf, setL, frOf, Sl.view, add_int, sub_int, int_int, ixl, ixt, len_lst, len_tup, lt_int, gt_int, le_int, ge_int, eq_int, ne_int, at0, at1, at2, at3, notNo, isNone, tupOf, eq_bl, ne_bl, truth, parIn, parBack, x_g1, x_g2, x_go1, len_scr, isi_non_int, isi_non_bool, isi_non_str, isi_non_tuple, isi_non_list, isi_bl_int, isi_bl_bool, isi_bl_str, isi_bl_tuple, isi_bl_list, isi_int_int, isi_int_bool, isi_int_str, isi_int_tuple, isi_int_list, isi_str_int, isi_str_bool, isi_str_str, isi_str_tuple, isi_str_list, isi_tup_int, isi_tup_bool, isi_tup_str, isi_tup_tuple, isi_tup_list, isi_lst_int, isi_lst_bool, isi_lst_str, isi_lst_tuple, isi_lst_list, z_kpN, z_kpF, n1, n2, e1, b1, b2, b3, b4, i1, i2, F1]
theorem law_true (ns : List Int) (hl : ns.length ≤ 63) : E_law.sem [.fz (.scr ns)] = .ok (.fz (.bl true), .no) := by
  rw [s_law]
  exact law_core _ _ _ _ _ _ _ _ _ _ _ _ _ _ _ _ _ late_ok lshown_ok are_ok sm_ok graph_ok time_ok hours_ok ⟨(lv__law_spoilt 8).2.2, sp_ok 8⟩ lare_ok stay_ok lstay_ok mixed_ok meet_ok met_ok bef_ok take_ok tape_ok ns hl

end C20

open PySem PySem.W PySem.Calls PyProof.Rows
theorem PySem.Challenge.cw_whocame_k20_stays_and_timetables_holds : PySem.Challenge.rw_whocame_k20_stays_and_timetables.Holds := by
  w_on; o_law
  refine HandSHeadRun.head_any (r := OpenLaw.row PySem.Challenge.rw_whocame_k20_stays_and_timetables) (q := view (OpenLaw.row PySem.Challenge.rw_whocame_k20_stays_and_timetables).prog [24]) (H := Hd.hk) (ob := Hd.ob) (M := 4000) (loose := ["is_count", "MAX_HOUR", "is_stay", "are_stays", "do_meet", "is_before", "graph_of", "hours_of", "is_timetable", "_law_mix", "_law_tape", "_law_take", "_law_same", "_law_shown", "_law_mixed", "_law_met", "_law_spoilt", "_law_is_stay", "_law_are_stays", "_law_late"]) (d := HandSHeadRun.topDef (OpenLaw.row PySem.Challenge.rw_whocame_k20_stays_and_timetables).prog 24) (kwd := []) Hd.ob_eq
    (by kernel_rfl) (fun s => by kernel_rfl) Hd.run (by kernel_rfl) (by kernel_rfl) (by kernel_rfl) (by rfl) (by first | assumption | decide +kernel) (by decide +kernel) ⟨rfl, rfl, rfl, rfl, rfl, by decide +kernel⟩ ?hw ?hc
  case hw => w_witness2
  case hc =>
    refine L2.walk_ofE (l := PySem.Challenge.rw_whocame_k20_stays_and_timetables) (n := 63) (k := 12) (x := "script") (CX := L2.CX0) rfl (by decide) (by kernel_rfl) ⟨rfl, by decide, by decide⟩ ?F (fun _ _ _ _ z => z)
    intro w mg fa h Y G hmg0
    obtain ⟨K, KX, c⟩ := Y
    have hmg : mg ("law" : PySem.Str) = some (.ref fa) := by
      have e : (HandSHeadRun.topDef (OpenLaw.row PySem.Challenge.rw_whocame_k20_stays_and_timetables).prog 24).name = ("law" : PySem.Str) := by kernel_rfl
      rw [← e]
      exact hmg0
    obtain ⟨fd_is_count, F_is_count⟩ := c.def_ 0 (d := Hd.d1) rfl
    have m_is_count := He.glo_ok KX G (c.fact 0 (f := .glo "is_count") rfl)
    obtain ⟨fd_is_stay, F_is_stay⟩ := c.def_ 1 (d := Hd.d4) rfl
    have m_is_stay := He.glo_ok KX G (c.fact 1 (f := .glo "is_stay") rfl)
    obtain ⟨fd_are_stays, F_are_stays⟩ := c.def_ 2 (d := Hd.d5) rfl
    have m_are_stays := He.glo_ok KX G (c.fact 2 (f := .glo "are_stays") rfl)
    obtain ⟨fd_do_meet, F_do_meet⟩ := c.def_ 3 (d := Hd.d6) rfl
    have m_do_meet := He.glo_ok KX G (c.fact 3 (f := .glo "do_meet") rfl)
    obtain ⟨fd_is_before, F_is_before⟩ := c.def_ 4 (d := Hd.d7) rfl
    have m_is_before := He.glo_ok KX G (c.fact 4 (f := .glo "is_before") rfl)
    obtain ⟨fd_graph_of, F_graph_of⟩ := c.def_ 5 (d := Hd.d8) rfl
    have m_graph_of := He.glo_ok KX G (c.fact 5 (f := .glo "graph_of") rfl)
    obtain ⟨fd_hours_of, F_hours_of⟩ := c.def_ 6 (d := Hd.d9) rfl
    have m_hours_of := He.glo_ok KX G (c.fact 6 (f := .glo "hours_of") rfl)
    obtain ⟨fd_is_timetable, F_is_timetable⟩ := c.def_ 7 (d := Hd.d11) rfl
    have m_is_timetable := He.glo_ok KX G (c.fact 7 (f := .glo "is_timetable") rfl)
    obtain ⟨fd__law_mix, F__law_mix⟩ := c.def_ 8 (d := Hd.d13) rfl
    have m__law_mix := He.glo_ok KX G (c.fact 8 (f := .glo "_law_mix") rfl)
    obtain ⟨fd__law_tape, F__law_tape⟩ := c.def_ 9 (d := Hd.d14) rfl
    have m__law_tape := He.glo_ok KX G (c.fact 9 (f := .glo "_law_tape") rfl)
    obtain ⟨fd__law_take, F__law_take⟩ := c.def_ 10 (d := Hd.d15) rfl
    have m__law_take := He.glo_ok KX G (c.fact 10 (f := .glo "_law_take") rfl)
    obtain ⟨fd__law_same, F__law_same⟩ := c.def_ 11 (d := Hd.d16) rfl
    have m__law_same := He.glo_ok KX G (c.fact 11 (f := .glo "_law_same") rfl)
    obtain ⟨fd__law_shown, F__law_shown⟩ := c.def_ 12 (d := Hd.d17) rfl
    have m__law_shown := He.glo_ok KX G (c.fact 12 (f := .glo "_law_shown") rfl)
    obtain ⟨fd__law_mixed, F__law_mixed⟩ := c.def_ 13 (d := Hd.d18) rfl
    have m__law_mixed := He.glo_ok KX G (c.fact 13 (f := .glo "_law_mixed") rfl)
    obtain ⟨fd__law_met, F__law_met⟩ := c.def_ 14 (d := Hd.d19) rfl
    have m__law_met := He.glo_ok KX G (c.fact 14 (f := .glo "_law_met") rfl)
    obtain ⟨fd__law_spoilt, F__law_spoilt⟩ := c.def_ 15 (d := Hd.d20) rfl
    have m__law_spoilt := He.glo_ok KX G (c.fact 15 (f := .glo "_law_spoilt") rfl)
    obtain ⟨fd__law_is_stay, F__law_is_stay⟩ := c.def_ 16 (d := Hd.d21) rfl
    have m__law_is_stay := He.glo_ok KX G (c.fact 16 (f := .glo "_law_is_stay") rfl)
    obtain ⟨fd__law_are_stays, F__law_are_stays⟩ := c.def_ 17 (d := Hd.d22) rfl
    have m__law_are_stays := He.glo_ok KX G (c.fact 17 (f := .glo "_law_are_stays") rfl)
    obtain ⟨fd__law_late, F__law_late⟩ := c.def_ 18 (d := Hd.d23) rfl
    have m__law_late := He.glo_ok KX G (c.fact 18 (f := .glo "_law_late") rfl)
    obtain ⟨fd_law, F_law⟩ := c.def_ 19 (d := Hd.d24) rfl
    have m_law := He.glo_ok KX G (c.fact 19 (f := .glo "law") rfl)
    have g_isinstance := He.free_ok KX G (c.fact 23 (f := .free "isinstance") rfl)
    have g_int := He.free_ok KX G (c.fact 22 (f := .free "int") rfl)
    have g_bool := He.free_ok KX G (c.fact 21 (f := .free "bool") rfl)
    have g_tuple := He.free_ok KX G (c.fact 32 (f := .free "tuple") rfl)
    have g_len := He.free_ok KX G (c.fact 24 (f := .free "len") rfl)
    have g_all := He.free_ok KX G (c.fact 20 (f := .free "all") rfl)
    have g_range := He.free_ok KX G (c.fact 28 (f := .free "range") rfl)
    have g_sorted := He.free_ok KX G (c.fact 30 (f := .free "sorted") rfl)
    have g_set := He.free_ok KX G (c.fact 29 (f := .free "set") rfl)
    have g_list := He.free_ok KX G (c.fact 25 (f := .free "list") rfl)
    have g_str := He.free_ok KX G (c.fact 31 (f := .free "str") rfl)
    have g_max := He.free_ok KX G (c.fact 26 (f := .free "max") rfl)
    have g_min := He.free_ok KX G (c.fact 27 (f := .free "min") rfl)
    have g_MAX_HOUR := He.int_ok KX G (c.fact 33 (f := .int "MAX_HOUR" 1000000) rfl)
    have e := hmg.symm.trans m_law
    cases e
    have b := L2.FunD.bindsA (ps := ["script"]) F_law fun _ _ _ _ _ _ us hl => match us, hl with | [_], _ => rfl
    refine ⟨K, fd_law, Ev.spF K mg B20.E_law, KX, fun s v => b s [v] rfl, fun H a ns hl hO hS => Ev.sp_script rfl rfl hS (C20.law_true ns hl), fun base kb hb => ?_⟩
    have C_is_count := B20.ok_is_count (P := (PySem.Challenge.rw_whocame_k20_stays_and_timetables).prog) (w := w) (base := base) F_is_count m_is_count g_isinstance g_int g_bool
    have C_is_stay := B20.ok_is_stay (P := (PySem.Challenge.rw_whocame_k20_stays_and_timetables).prog) (w := w) (base := base) F_is_stay m_is_stay g_isinstance g_tuple g_len g_MAX_HOUR C_is_count
    have C_are_stays := B20.ok_are_stays (P := (PySem.Challenge.rw_whocame_k20_stays_and_timetables).prog) (w := w) (base := base) F_are_stays m_are_stays g_isinstance g_tuple g_len g_all C_is_stay
    have C_do_meet := B20.ok_do_meet (P := (PySem.Challenge.rw_whocame_k20_stays_and_timetables).prog) (w := w) (base := base) F_do_meet m_do_meet 
    have C_is_before := B20.ok_is_before (P := (PySem.Challenge.rw_whocame_k20_stays_and_timetables).prog) (w := w) (base := base) F_is_before m_is_before 
    have C_graph_of := B20.ok_graph_of (P := (PySem.Challenge.rw_whocame_k20_stays_and_timetables).prog) (w := w) (base := base) F_graph_of m_graph_of g_tuple g_range g_len C_do_meet
    have C_hours_of := B20.ok_hours_of (P := (PySem.Challenge.rw_whocame_k20_stays_and_timetables).prog) (w := w) (base := base) F_hours_of m_hours_of g_tuple g_sorted g_set
    have C_is_timetable := B20.ok_is_timetable (P := (PySem.Challenge.rw_whocame_k20_stays_and_timetables).prog) (w := w) (base := base) F_is_timetable m_is_timetable C_are_stays C_graph_of
    have C__law_mix := B20.ok__law_mix (P := (PySem.Challenge.rw_whocame_k20_stays_and_timetables).prog) (w := w) (base := base) F__law_mix m__law_mix g_int
    have C__law_tape := B20.ok__law_tape (P := (PySem.Challenge.rw_whocame_k20_stays_and_timetables).prog) (w := w) (base := base) F__law_tape m__law_tape g_len g_list
    have C__law_take := B20.ok__law_take (P := (PySem.Challenge.rw_whocame_k20_stays_and_timetables).prog) (w := w) (base := base) F__law_take m__law_take g_int g_len C__law_mix
    have C__law_same := B20.ok__law_same (P := (PySem.Challenge.rw_whocame_k20_stays_and_timetables).prog) (w := w) (base := base) F__law_same m__law_same g_isinstance g_int g_str g_bool g_tuple g_list g_len g_all g_range 8
    have C__law_shown := B20.ok__law_shown (P := (PySem.Challenge.rw_whocame_k20_stays_and_timetables).prog) (w := w) (base := base) F__law_shown m__law_shown g_tuple g_range g_len
    have C__law_mixed := B20.ok__law_mixed (P := (PySem.Challenge.rw_whocame_k20_stays_and_timetables).prog) (w := w) (base := base) F__law_mixed m__law_mixed g_range g_len g_list C__law_take
    have C__law_met := B20.ok__law_met (P := (PySem.Challenge.rw_whocame_k20_stays_and_timetables).prog) (w := w) (base := base) F__law_met m__law_met g_max g_min
    have C__law_spoilt := B20.ok__law_spoilt (P := (PySem.Challenge.rw_whocame_k20_stays_and_timetables).prog) (w := w) (base := base) F__law_spoilt m__law_spoilt g_len g_isinstance g_tuple g_int C__law_take 8
    have C__law_is_stay := B20.ok__law_is_stay (P := (PySem.Challenge.rw_whocame_k20_stays_and_timetables).prog) (w := w) (base := base) F__law_is_stay m__law_is_stay g_all g_isinstance g_int g_bool g_tuple g_len
    have C__law_are_stays := B20.ok__law_are_stays (P := (PySem.Challenge.rw_whocame_k20_stays_and_timetables).prog) (w := w) (base := base) F__law_are_stays m__law_are_stays g_isinstance g_tuple g_len g_all C__law_is_stay
    have C__law_late := B20.ok__law_late (P := (PySem.Challenge.rw_whocame_k20_stays_and_timetables).prog) (w := w) (base := base) F__law_late m__law_late g_tuple g_sorted g_range C__law_take
    exact B20.fo_law (P := (PySem.Challenge.rw_whocame_k20_stays_and_timetables).prog) (w := w) (base := base) F_law g_tuple g_max g_min g_int g_list g_range g_sorted g_set g_MAX_HOUR C__law_same C__law_met C_is_timetable C_do_meet C_is_before C__law_mixed C__law_is_stay C_is_stay C__law_spoilt C__law_are_stays C_are_stays C__law_shown C_hours_of C_graph_of C__law_late C__law_take C__law_tape
