import PyProof.Rows.All
import HandS.ForMost
import HandS.Flow
import HandS.Style
import HandS.TupAny
import HandS.Wide
import HandS.TupMul
import HandS.TupLe
import HandS.IsInst
import KE.DataEq
import KE.DataCmp
import HandS.Dict
import HandS.Text
import HandS.Codes
import KE.SortData
import HandS.Conv
import KE.DataMinMax
import HandS.More
import HandS.Defaults
import HandS.TryOnly
import HandS.Iter
import HandS.Zip
import HandS.Rev
import HandS.Comp
import HandS.SortInts
import HandS.SetFor
import HandS.Deep
import PyProof.AutoSeq1
import HandS.Strs
import HandS.Words
import KE.BitLaws
import HandS.TupSets
import PyProof.Transfer
import HandS.DictComp
import Wide.All
import OpenK.AllK
import Wide.FinOn
import KE.KStateDown
import HandS.Base
import HandS.Call
import HandS.Ends
import HandS.WordsExc
import HandS.Head0
import HandS.Head1
import HandS.Head2
import HandS.HeadEnd
import HandS.HeadHook1
import HandS.HeadHook2
import HandS.EndBits
import PySem.Challenge.RW_whocame_k49_rings_of_bounds_judged
set_option Elab.async false
set_option linter.all false
set_option maxRecDepth 100000
set_option maxHeartbeats 0
/-! Ev: pure values, an environment of owned slots, and what it is for the machine's state to bear them. -/
namespace Ev
open PySem PySem.Spec PyProof.Rows L2

/-- a plain value -/
inductive Val where
  | non | bl (b : Bool) | int (i : Int) | str (s : Str)
  | tup (xs : List Val) | lst (xs : List Val)
  | dK (kvs : List (Key × Val)) | dT (kvs : List (List Key × Val))
  | scr (ns : List Int)
  | ktup (xs : List Val)
  | fn (n : Str)

abbrev MG := Str → Option Value

mutual
/-- the value v of the machine, over what is frozen at Z, is x -/
inductive Rl (K : PySem.W.Frag) (mg : MG) (Z : Hp) : V → Val → Prop
  | non : Rl K mg Z .non .non
  | bl (b : Bool) : Rl K mg Z (.bl b) (.bl b)
  | int (i : Int) : Rl K mg Z (.int i) (.int i)
  | str (s : Str) : Rl K mg Z (.str s) (.str s)
  | tup {a : Addr} {vs : List V} {xs : List Val} : Z a = some (.tup vs) → Rls K mg Z vs xs → Rl K mg Z (.ref a) (.tup xs)
  | ktup {a : Addr} {vs : List V} {xs : List Val} : SqT K Z a vs → Rls K mg Z vs xs → Rl K mg Z (.ref a) (.ktup xs)
  | lst {a : Addr} {vs : List V} {xs : List Val} : Z a = some (.lst vs) → Rls K mg Z vs xs → Rl K mg Z (.ref a) (.lst xs)
  | dK {a : Addr} {kvs : List (Key × V)} {kxs : List (Key × Val)} : Z a = some (.dK kvs) → kvs.map (·.1) = kxs.map (·.1) → Rls K mg Z (kvs.map (·.2)) (kxs.map (·.2)) → Rl K mg Z (.ref a) (.dK kxs)
  | dT {a : Addr} {kvs : List (List Key × V)} {kxs : List (List Key × Val)} : Z a = some (.dT kvs) → kvs.map (·.1) = kxs.map (·.1) → Rls K mg Z (kvs.map (·.2)) (kxs.map (·.2)) → Rl K mg Z (.ref a) (.dT kxs)
  | scr {a : Addr} {ns : List Int} : SqL K Z a (ns.map V.int) → Rl K mg Z (.ref a) (.scr ns)
  | fn {a : Addr} {n : Str} : mg n = some (.ref a) → PySem.W.keepIn K (.ref a) = true → Rl K mg Z (.ref a) (.fn n)
inductive Rls (K : PySem.W.Frag) (mg : MG) (Z : Hp) : List V → List Val → Prop
  | nil : Rls K mg Z [] []
  | cons {v : V} {x : Val} {vs : List V} {xs : List Val} : Rl K mg Z v x → Rls K mg Z vs xs → Rls K mg Z (v :: vs) (x :: xs)
end

theorem seqT_mono {K : PySem.W.Frag} {H H' : Hp} {a : Addr} {xs : List V} (e : Same H H') (h : SqT K H a xs) : SqT K H' a xs := by
  rcases h with (h | ⟨o, h⟩) | h
  · exact .inl (.inl (e _ _ h))
  · exact .inl (.inr ⟨o, e _ _ h⟩)
  · exact .inr h

section
variable {K : PySem.W.Frag} {mg : MG} {Z Z' : Hp}
mutual
theorem Rl.mono (e : Same Z Z') : ∀ {v : V} {x : Val}, Rl K mg Z v x → Rl K mg Z' v x
  | _, _, .non => .non
  | _, _, .bl b => .bl b
  | _, _, .int i => .int i
  | _, _, .str s => .str s
  | _, _, .tup h r => .tup (e _ _ h) (Rls.mono e r)
  | _, _, .ktup h r => .ktup (seqT_mono e h) (Rls.mono e r)
  | _, _, .lst h r => .lst (e _ _ h) (Rls.mono e r)
  | _, _, .dK h k r => .dK (e _ _ h) k (Rls.mono e r)
  | _, _, .dT h k r => .dT (e _ _ h) k (Rls.mono e r)
  | _, _, .scr h => .scr (e.seq h)
  | _, _, .fn h k => .fn h k
theorem Rls.mono (e : Same Z Z') : ∀ {vs : List V} {xs : List Val}, Rls K mg Z vs xs → Rls K mg Z' vs xs
  | _, _, .nil => .nil
  | _, _, .cons h t => .cons (Rl.mono e h) (Rls.mono e t)
end
theorem Rls.length : ∀ {vs : List V} {xs : List Val}, Rls K mg Z vs xs → vs.length = xs.length
  | _, _, .nil => rfl
  | _, _, .cons _ t => by rw [List.length_cons, List.length_cons, Rls.length t]
theorem Rls.get : ∀ {vs : List V} {xs : List Val} {i : Nat} {x : Val}, Rls K mg Z vs xs → xs[i]? = some x → ∃ v, vs[i]? = some v ∧ Rl K mg Z v x
  | _, _, _, _, .nil, e => by simp at e
  | _, _, 0, _, .cons r _, e => by simp at e; subst e; exact ⟨_, rfl, r⟩
  | _, _, i + 1, x, .cons _ t, e => by
    obtain ⟨u, h1, h2⟩ := Rls.get (i := i) (x := x) t (by simpa using e)
    exact ⟨u, by simpa using h1, h2⟩
theorem Rls.get' : ∀ {vs : List V} {xs : List Val} {i : Nat} {v : V}, Rls K mg Z vs xs → vs[i]? = some v → ∃ x, xs[i]? = some x ∧ Rl K mg Z v x
  | _, _, _, _, .nil, e => by simp at e
  | _, _, 0, _, .cons r _, e => by simp at e; subst e; exact ⟨_, rfl, r⟩
  | _, _, i + 1, x, .cons _ t, e => by
    obtain ⟨u, h1, h2⟩ := Rls.get' (i := i) (v := x) t (by simpa using e)
    exact ⟨u, by simpa using h1, h2⟩
theorem Rls.append : ∀ {vs ws : List V} {xs ys : List Val}, Rls K mg Z vs xs → Rls K mg Z ws ys → Rls K mg Z (vs ++ ws) (xs ++ ys)
  | _, _, _, _, .nil, s => s
  | _, _, _, _, .cons r t, s => .cons r (Rls.append t s)
theorem Rls.one {v : V} {x : Val} (r : Rl K mg Z v x) : Rls K mg Z [v] [x] := .cons r .nil
theorem Rls.set {v : V} {x : Val} (r : Rl K mg Z v x) : ∀ {vs : List V} {xs : List Val} (i : Nat), Rls K mg Z vs xs → Rls K mg Z (vs.set i v) (xs.set i x)
  | _, _, _, .nil => .nil
  | _, _, 0, .cons _ t => .cons r t
  | _, _, i + 1, .cons q t => .cons q (Rls.set r i t)
theorem Rls.take : ∀ {vs : List V} {xs : List Val} (n : Nat), Rls K mg Z vs xs → Rls K mg Z (vs.take n) (xs.take n)
  | _, _, 0, _ => by simp; exact .nil
  | _, _, _ + 1, .nil => .nil
  | _, _, n + 1, .cons r t => .cons r (Rls.take n t)
theorem Rls.drop : ∀ {vs : List V} {xs : List Val} (n : Nat), Rls K mg Z vs xs → Rls K mg Z (vs.drop n) (xs.drop n)
  | _, _, 0, r => r
  | _, _, _ + 1, .nil => .nil
  | _, _, n + 1, .cons _ t => Rls.drop n t
theorem Rls.eraseIdx : ∀ {vs : List V} {xs : List Val} (n : Nat), Rls K mg Z vs xs → Rls K mg Z (vs.eraseIdx n) (xs.eraseIdx n)
  | _, _, _, .nil => .nil
  | _, _, 0, .cons r t => t
  | _, _, n + 1, .cons r t => .cons r (Rls.eraseIdx n t)
theorem Rls.reverse : ∀ {vs : List V} {xs : List Val}, Rls K mg Z vs xs → Rls K mg Z vs.reverse xs.reverse
  | _, _, .nil => .nil
  | _, _, .cons r t => by
    rw [List.reverse_cons, List.reverse_cons]
    exact (Rls.reverse t).append (.one r)
theorem Rls.dropLast {vs : List V} {xs : List Val} (r : Rls K mg Z vs xs) : Rls K mg Z vs.dropLast xs.dropLast := by
  rw [List.dropLast_eq_take, List.dropLast_eq_take, r.length]
  exact r.take _
theorem Rls.ints : ∀ (ns : List Int), Rls K mg Z (ns.map V.int) (ns.map Val.int)
  | [] => .nil
  | n :: ns => .cons (.int n) (Rls.ints ns)
theorem Rls.of_ints : ∀ {vs : List V} {ns : List Int}, Rls K mg Z vs (ns.map Val.int) → vs = ns.map V.int
  | _, [], h => by cases h; rfl
  | _, n :: ns, h => by
    cases h with
    | cons r t =>
      cases r
      rw [Rls.of_ints t]
      rfl
end

/-! ### slots -/
inductive Sl where
  | no
  | fz (x : Val)
  | own (xs : List Val)
  | own2 (xss : List (List Val))
  | odK (kxs : List (Key × Val))
  | odT (kxs : List (List Key × Val))
  | lck (xs : List Val)
  | box (cells : List Int) (d s : Int)
  | par (xs : List Val)
  | pbox (cells : List Int) (d s : Int)

abbrev Env := List Sl
/-- what may not change: things, and the addresses at some slots -/
structure Lk where
  hp : Hp
  fx : Nat → Option Addr
  lk : Nat → Option Addr
  wf : ∀ j a, lk j = some a → hp a ≠ none
instance : CoeFun Lk fun _ => Hp := ⟨Lk.hp⟩
instance : Coe Lk Hp := ⟨Lk.hp⟩
abbrev Lab := Addr → Option (Nat × Nat)

/-- the children of a list of owned lists -/
inductive Own2 (K : PySem.W.Frag) (mg : MG) (Z H : Hp) (O : Lab) (i : Nat) : Nat → List Addr → List (List Val) → Prop
  | nil {k : Nat} : Own2 K mg Z H O i k [] []
  | cons {k : Nat} {b : Addr} {ws : List V} {xs : List Val} {bs : List Addr} {xss : List (List Val)} : O b = some (i, k + 1) → H b = some (.lst ws) → Rls K mg Z ws xs → Own2 K mg Z H O i (k + 1) bs xss → Own2 K mg Z H O i k (b :: bs) (xs :: xss)

def SlotR (K : PySem.W.Frag) (mg : MG) (Z H : Hp) (O : Lab) (C : Lk) (i : Nat) (v : Option (Option V)) : Sl → Prop
  | .no => True
  | .fz x => ∃ u, v = some (some u) ∧ Rl K mg Z u x
  | .own xs => ∃ a vs, v = some (some (.ref a)) ∧ O a = some (i, 0) ∧ H a = some (.lst vs) ∧ Rls K mg Z vs xs
  | .par xs => ∃ a vs, v = some (some (.ref a)) ∧ O a = some (i, 0) ∧ H a = some (.lst vs) ∧ Rls K mg Z vs xs ∧ C.fx i = some a
  | .own2 xss => ∃ a bs, v = some (some (.ref a)) ∧ O a = some (i, 0) ∧ H a = some (.lst (bs.map V.ref)) ∧ Own2 K mg Z H O i 0 bs xss
  | .odK kxs => ∃ a kvs, v = some (some (.ref a)) ∧ O a = some (i, 0) ∧ H a = some (.dK kvs) ∧ kvs.map (·.1) = kxs.map (·.1) ∧ Rls K mg Z (kvs.map (·.2)) (kxs.map (·.2))
  | .odT kxs => ∃ a kvs, v = some (some (.ref a)) ∧ O a = some (i, 0) ∧ H a = some (.dT kvs) ∧ kvs.map (·.1) = kxs.map (·.1) ∧ Rls K mg Z (kvs.map (·.2)) (kxs.map (·.2))
  | .lck xs => ∃ a vs, v = some (some (.ref a)) ∧ C a = some (.lst vs) ∧ Rls K mg Z vs xs ∧ C.lk i = some a
  | .box cells d s => ∃ a c, v = some (some (.ref a)) ∧ O a = some (i, 0) ∧ O c = some (i, 1) ∧ H a = some (.lst [.ref c, .int d, .int s]) ∧ H c = some (.lst (cells.map V.int))
  | .pbox cells d s => ∃ a c, v = some (some (.ref a)) ∧ O a = some (i, 0) ∧ O c = some (i, 1) ∧ H a = some (.lst [.ref c, .int d, .int s]) ∧ H c = some (.lst (cells.map V.int)) ∧ C.fx i = some a

/-- the state bears the environment -/
structure EnvR (K : PySem.W.Frag) (mg : MG) (Z H : Hp) (O : Lab) (C : Lk) (σ : L2.St) (ρ : Env) : Prop where
  len : ρ.length = σ.length
  zh : Same Z H
  ch : Same C H
  oz : ∀ b, O b ≠ none → Z b = none ∧ C b = none ∧ H b ≠ none
  ob : ∀ b i q, O b = some (i, q) → i < ρ.length
  sl : ∀ i s, ρ[i]? = some s → SlotR K mg Z H O C i σ[i]? s

structure Ext (Z H : Hp) (O : Lab) (Z' H' : Hp) (O' : Lab) : Prop where
  z : Same Z Z'
  h : ∀ b o, H b = some o → O b = none → H' b = some o ∧ O' b = none
  t : ∀ b, H b ≠ none → H' b ≠ none
  o : ∀ b i q, O' b = some (i, q) → H b = none ∨ ∃ q', O b = some (i, q')
  zn : ∀ b, Z' b ≠ none → Z b ≠ none ∨ H b = none ∨ O b ≠ none

theorem Ext.refl (Z H : Hp) (O : Lab) : Ext Z H O Z H O := ⟨Same.refl Z, fun _ _ h1 h2 => ⟨h1, h2⟩, fun _ h => h, fun _ _ q h => .inr ⟨q, h⟩, fun _ h => .inl h⟩
theorem Ext.trans {Z H : Hp} {O : Lab} {Z1 H1 : Hp} {O1 : Lab} {Z2 H2 : Hp} {O2 : Lab} (a : Ext Z H O Z1 H1 O1) (b : Ext Z1 H1 O1 Z2 H2 O2) : Ext Z H O Z2 H2 O2 where
  z := a.z.trans b.z
  h := fun c o h1 h2 => let ⟨h3, h4⟩ := a.h c o h1 h2; b.h c o h3 h4
  t := fun c h => b.t c (a.t c h)
  o := fun c i q h => by
    rcases b.o c i q h with h1 | ⟨q', h1⟩
    · left
      cases e : H c with
      | none => rfl
      | some o => exact absurd h1 (a.t c (by rw [e]; simp))
    · exact a.o c i q' h1
  zn := fun c h => by
    rcases b.zn c h with h1 | h1 | h1
    · exact a.zn c h1
    · refine .inr (.inl ?_)
      cases e : H c with
      | none => rfl
      | some o => exact absurd h1 (a.t c (by rw [e]; simp))
    · obtain ⟨⟨i, q⟩, hp⟩ := Option.ne_none_iff_exists'.mp h1
      rcases a.o c i q hp with h2 | ⟨q', h2⟩
      · exact .inr (.inl h2)
      · exact .inr (.inr (by rw [h2]; simp))

/-- nothing but new things -/
structure Grow (Z H Z' H' : Hp) : Prop where
  z : Same Z Z'
  h : Same H H'
  zh : Same Z' H'
  zn : ∀ b, Z' b ≠ none → Z b ≠ none ∨ H b = none
theorem Grow.refl {Z H : Hp} (h : Same Z H) : Grow Z H Z H := ⟨Same.refl Z, Same.refl H, h, fun _ h => .inl h⟩
theorem Grow.trans {Z H Z1 H1 Z2 H2 : Hp} (a : Grow Z H Z1 H1) (b : Grow Z1 H1 Z2 H2) : Grow Z H Z2 H2 where
  z := a.z.trans b.z
  h := a.h.trans b.h
  zh := b.zh
  zn := fun c h => by
    rcases b.zn c h with h1 | h1
    · exact a.zn c h1
    · exact .inr (a.h.free h1)
theorem Grow.ext {Z H Z' H' : Hp} {O : Lab} (g : Grow Z H Z' H') : Ext Z H O Z' H' O :=
  ⟨g.z, fun b o h1 h2 => ⟨g.h b o h1, h2⟩, fun b h => by
    cases e : H b with
    | none => exact absurd e h
    | some o => rw [g.h b o e]; simp, fun _ _ q h => .inr ⟨q, h⟩, fun b h => (g.zn b h).elim .inl fun h => .inr (.inl h)⟩
theorem same_upd {H : Hp} {p : Addr} {o : HO} (h : H p = none) : Same H (upd H p o) := fun b x e => by
  rw [upd_ne (ne_of_none e h)]
  exact e
/-- a new thing, frozen -/
theorem Grow.newZ {Z H : Hp} {p : Addr} {o : HO} (zh : Same Z H) (h : H p = none) : Grow Z H (upd Z p o) (upd H p o) where
  z := same_upd (zh.free h)
  h := same_upd h
  zh := fun b u e => by
    by_cases hb : b = p
    · subst hb; rw [upd_same] at e ⊢; exact e
    · rw [upd_ne hb] at e ⊢; exact zh b u e
  zn := fun b hb => by
    by_cases e : b = p
    · subst e; exact .inr h
    · rw [upd_ne e] at hb; exact .inl hb
/-- a new thing, not frozen -/
theorem Grow.newH {Z H : Hp} {p : Addr} {o : HO} (zh : Same Z H) (h : H p = none) : Grow Z H Z (upd H p o) :=
  ⟨Same.refl Z, same_upd h, zh.trans (same_upd h), fun _ h => .inl h⟩

section
variable {K : PySem.W.Frag} {mg : MG} {Z H Z' H' : Hp} {O O' : Lab} {C : Lk} {σ : L2.St} {ρ : Env}
theorem Own2.mono {i : Nat} : ∀ {k : Nat} {bs : List Addr} {xss : List (List Val)}, Own2 K mg Z H O i k bs xss → Same Z Z' → (∀ b q, O b = some (i, q) → H' b = H b ∧ O' b = some (i, q)) → Own2 K mg Z' H' O' i k bs xss
  | _, _, _, .nil, _, _ => .nil
  | _, _, _, .cons h1 h2 h3 h4, hz, hh => .cons (hh _ _ h1).2 (by rw [(hh _ _ h1).1]; exact h2) (h3.mono hz) (h4.mono hz hh)
/-- a slot whose own things stand -/
theorem SlotR.keep {i : Nat} {v : Option (Option V)} {s : Sl} (h : SlotR K mg Z H O C i v s) (hz : Same Z Z') (hh : ∀ b q, O b = some (i, q) → H' b = H b ∧ O' b = some (i, q)) : SlotR K mg Z' H' O' C i v s := by
  cases s with
  | no => trivial
  | fz x => obtain ⟨u, e, r⟩ := h; exact ⟨u, e, r.mono hz⟩
  | own xs => obtain ⟨a, vs, e, o, m, r⟩ := h; exact ⟨a, vs, e, (hh a 0 o).2, by rw [(hh a 0 o).1]; exact m, r.mono hz⟩
  | par xs => obtain ⟨a, vs, e, o, m, r, fx⟩ := h; exact ⟨a, vs, e, (hh a 0 o).2, by rw [(hh a 0 o).1]; exact m, r.mono hz, fx⟩
  | own2 xss => obtain ⟨a, bs, e, o, m, r⟩ := h; exact ⟨a, bs, e, (hh a 0 o).2, by rw [(hh a 0 o).1]; exact m, r.mono hz hh⟩
  | odK kxs => obtain ⟨a, kvs, e, o, m, k, r⟩ := h; exact ⟨a, kvs, e, (hh a 0 o).2, by rw [(hh a 0 o).1]; exact m, k, r.mono hz⟩
  | odT kxs => obtain ⟨a, kvs, e, o, m, k, r⟩ := h; exact ⟨a, kvs, e, (hh a 0 o).2, by rw [(hh a 0 o).1]; exact m, k, r.mono hz⟩
  | lck xs => obtain ⟨a, vs, e, m, r, fx⟩ := h; exact ⟨a, vs, e, m, r.mono hz, fx⟩
  | box cells d s =>
    obtain ⟨a, c, e, o1, o2, m1, m2⟩ := h
    exact ⟨a, c, e, (hh a 0 o1).2, (hh c 1 o2).2, by rw [(hh a 0 o1).1]; exact m1, by rw [(hh c 1 o2).1]; exact m2⟩
  | pbox cells d s =>
    obtain ⟨a, c, e, o1, o2, m1, m2, fx⟩ := h
    exact ⟨a, c, e, (hh a 0 o1).2, (hh c 1 o2).2, by rw [(hh a 0 o1).1]; exact m1, by rw [(hh c 1 o2).1]; exact m2, fx⟩
theorem EnvR.grow (R : EnvR K mg Z H O C σ ρ) (g : Grow Z H Z' H') : EnvR K mg Z' H' O C σ ρ where
  len := R.len
  zh := g.zh
  ch := R.ch.trans g.h
  oz := fun b hb => by
    obtain ⟨h1, h2, h3⟩ := R.oz b hb
    refine ⟨?_, h2, ?_⟩
    · cases e : Z' b with
      | none => rfl
      | some o =>
        rcases g.zn b (by rw [e]; simp) with h | h
        · exact absurd h1 h
        · exact absurd h h3
    · cases e : H b with
      | none => exact absurd e h3
      | some o => rw [g.h b o e]; simp
  ob := R.ob
  sl := fun i s e => (R.sl i s e).keep g.z fun b q hb => ⟨by
    obtain ⟨_, _, h3⟩ := R.oz b (by rw [hb]; simp)
    cases e : H b with
    | none => exact absurd e h3
    | some o => rw [g.h b o e], hb⟩
theorem EnvR.lt (R : EnvR K mg Z H O C σ ρ) {i : Nat} {s : Sl} (e : ρ[i]? = some s) : i < σ.length := by
  rw [← R.len]; exact (List.getElem?_eq_some_iff.mp e).1
end

/-! ### outcomes -/
inductive Out (α : Type) where
  | ok (a : α)
  | exc (e : Val)
  | bad
def Out.bind {α β : Type} (x : Out α) (f : α → Out β) : Out β := match x with
  | .ok a => f a
  | .exc e => .exc e
  | .bad => .bad
theorem Out.bind_ok {α β : Type} {x : Out α} {f : α → Out β} {b : β} (h : x.bind f = .ok b) : ∃ a, x = .ok a ∧ f a = .ok b := by
  cases x with
  | ok a => exact ⟨a, rfl, h⟩
  | exc e => cases h
  | bad => cases h
def Out.of {α : Type} : Option α → Out α
  | some a => .ok a
  | none => .bad
theorem Out.of_ok {α : Type} {x : Option α} {a : α} (h : Out.of x = .ok a) : x = some a := by
  cases x with
  | none => cases h
  | some b => cases h; rfl

/-- what an operand is: a value, or a slot that is read when the operation comes -/
inductive Hd where
  | val (x : Val)
  | slot (i : Nat)
abbrev DH := Env → Out (Hd × Env)
abbrev DV := Env → Out (Val × Env)
abbrev DT := Env → Out (Bool × Env)
abbrev DA := Env → Out (List Hd × Env)
abbrev DO := Env → Out (Sl × Env)

def Sl.view : Sl → Option Val
  | .fz x => some x
  | .own xs => some (.lst xs)
  | .odK k => some (.dK k)
  | .odT k => some (.dT k)
  | .lck xs => some (.lst xs)
  | .par xs => some (.lst xs)
  | _ => none
def deref (ρ : Env) : Hd → Option Val
  | .val x => some x
  | .slot i => match ρ[i]? with
    | some s => s.view
    | none => none

/-- v may be read as x now: frozen, or its top alone is not -/
inductive BorR (K : PySem.W.Frag) (mg : MG) (Z H : Hp) : V → Val → Prop
  | fz {v : V} {x : Val} : Rl K mg Z v x → BorR K mg Z H v x
  | lst {a : Addr} {vs : List V} {xs : List Val} : H a = some (.lst vs) → Rls K mg Z vs xs → BorR K mg Z H (.ref a) (.lst xs)
  | dK {a : Addr} {kvs : List (Key × V)} {kxs : List (Key × Val)} : H a = some (.dK kvs) → kvs.map (·.1) = kxs.map (·.1) → Rls K mg Z (kvs.map (·.2)) (kxs.map (·.2)) → BorR K mg Z H (.ref a) (.dK kxs)
  | dT {a : Addr} {kvs : List (List Key × V)} {kxs : List (List Key × Val)} : H a = some (.dT kvs) → kvs.map (·.1) = kxs.map (·.1) → Rls K mg Z (kvs.map (·.2)) (kxs.map (·.2)) → BorR K mg Z H (.ref a) (.dT kxs)

def HdR (K : PySem.W.Frag) (mg : MG) (Z : Hp) (σ : L2.St) (v : V) : Hd → Prop
  | .val x => Rl K mg Z v x
  | .slot i => σ[i]? = some (some v)
theorem HdR.mono {K : PySem.W.Frag} {mg : MG} {Z Z' : Hp} {σ : L2.St} {v : V} {h : Hd} (r : HdR K mg Z σ v h) (z : Same Z Z') : HdR K mg Z' σ v h := by
  cases h with
  | val x => exact Rl.mono z r
  | slot i => exact r

theorem deref_bor {K : PySem.W.Frag} {mg : MG} {Z H : Hp} {O : Lab} {C : Lk} {σ : L2.St} {ρ : Env} {v : V} {h : Hd} {x : Val} (R : EnvR K mg Z H O C σ ρ) (r : HdR K mg Z σ v h) (e : deref ρ h = some x) : BorR K mg Z H v x := by
  cases h with
  | val y => cases e; exact .fz r
  | slot i =>
    have r : σ[i]? = some (some v) := r
    unfold deref at e
    cases q : ρ[i]? with
    | none => simp only [q] at e; cases e
    | some s =>
      simp only [q] at e
      have z := R.sl i s q
      rw [r] at z
      cases s with
      | no => cases e
      | fz y => cases e; obtain ⟨u, e1, q⟩ := z; cases e1; exact .fz q
      | own xs => cases e; obtain ⟨a, vs, e1, _, m, q⟩ := z; cases e1; exact .lst m q
      | own2 _ => cases e
      | par xs => cases e; obtain ⟨a, vs, e1, _, m, q, _⟩ := z; cases e1; exact .lst m q
      | odK k => cases e; obtain ⟨a, vs, e1, _, m, q1, q⟩ := z; cases e1; exact .dK m q1 q
      | odT k => cases e; obtain ⟨a, vs, e1, _, m, q1, q⟩ := z; cases e1; exact .dT m q1 q
      | lck xs => cases e; obtain ⟨a, vs, e1, m, q, _⟩ := z; cases e1; exact .lst (R.ch _ _ m) q
      | box _ _ _ => cases e
      | pbox _ _ _ => cases e

/-! ### the judgements' readings -/
def TH (K : PySem.W.Frag) (mg : MG) (d : DH) : TE := fun σ H Q => ∃ Z O C ρ, EnvR K mg Z H O C σ ρ ∧ ∃ h ρ', d ρ = .ok (h, ρ') ∧
  ∀ v H' Z' O', Ext Z H O Z' H' O' → EnvR K mg Z' H' O' C σ ρ' → HdR K mg Z' σ v h → Q v H'
def TV (K : PySem.W.Frag) (mg : MG) (d : DV) : TE := fun σ H Q => ∃ Z O C ρ, EnvR K mg Z H O C σ ρ ∧ ∃ x ρ', d ρ = .ok (x, ρ') ∧
  ∀ v H' Z' O', Ext Z H O Z' H' O' → EnvR K mg Z' H' O' C σ ρ' → Rl K mg Z' v x → Q v H'
def TTt (K : PySem.W.Frag) (mg : MG) (d : DT) : TT := fun σ H Q => ∃ Z O C ρ, EnvR K mg Z H O C σ ρ ∧ ∃ b ρ', d ρ = .ok (b, ρ') ∧
  ∀ H' Z' O', Ext Z H O Z' H' O' → EnvR K mg Z' H' O' C σ ρ' → Q b H'
inductive HdRs (K : PySem.W.Frag) (mg : MG) (Z : Hp) (σ : L2.St) : List V → List Hd → Prop
  | nil : HdRs K mg Z σ [] []
  | cons {v : V} {h : Hd} {vs : List V} {hs : List Hd} : HdR K mg Z σ v h → HdRs K mg Z σ vs hs → HdRs K mg Z σ (v :: vs) (h :: hs)
theorem HdRs.mono {K : PySem.W.Frag} {mg : MG} {Z Z' : Hp} {σ : L2.St} (z : Same Z Z') : ∀ {vs : List V} {hs : List Hd}, HdRs K mg Z σ vs hs → HdRs K mg Z' σ vs hs
  | _, _, .nil => .nil
  | _, _, .cons r t => .cons (r.mono z) (HdRs.mono z t)
def TAs (K : PySem.W.Frag) (mg : MG) (d : DA) : TA := fun σ H Q => ∃ Z O C ρ, EnvR K mg Z H O C σ ρ ∧ ∃ hs ρ', d ρ = .ok (hs, ρ') ∧
  ∀ vs H' Z' O', Ext Z H O Z' H' O' → EnvR K mg Z' H' O' C σ ρ' → HdRs K mg Z' σ vs hs → Q vs H'

theorem PE.imp {X : Cx} {e : Expr} {t t' : TE} (h : PE X e t) (i : ∀ σ H Q, t' σ H Q → t σ H Q) : PE X e t' := ⟨fun pins s σ H Q I q => h.run pins s σ H Q I (i σ H Q q)⟩
theorem PT.imp {X : Cx} {e : Expr} {t t' : TT} (h : PT X e t) (i : ∀ σ H Q, t' σ H Q → t σ H Q) : PT X e t' := ⟨fun pins s σ H Q I q => h.run pins s σ H Q I (i σ H Q q)⟩
theorem PW.imp {X : Cx} {e : Expr} {t t' : TT} (h : PW X e t) (i : ∀ σ H Q, t' σ H Q → t σ H Q) : PW X e t' := ⟨fun wh pins s σ H Q I q => h.run wh pins s σ H Q I (i σ H Q q)⟩
theorem PA.imp {X : Cx} {es : List Expr} {t t' : TA} (h : PA X es t) (i : ∀ σ H Q, t' σ H Q → t σ H Q) : PA X es t' := ⟨fun pos pins s σ H Q I q => h.run pos pins s σ H Q I (i σ H Q q)⟩
theorem PS.imp {X : Cx} {e : Stmt} {t t' : TS} (h : PS X e t) (i : ∀ D σ H, t' D σ H → t D σ H) : PS X e t' := ⟨fun pins s σ H Q I q => h.run pins s σ H Q I (i Q σ H q)⟩
theorem PSs.imp {X : Cx} {e : List Stmt} {t t' : TS} (h : PSs X e t) (i : ∀ D σ H, t' D σ H → t D σ H) : PSs X e t' := ⟨fun pins s σ H Q I q => h.run pins s σ H Q I (i Q σ H q)⟩
theorem OpR.imp {X : Cx} {f : Value → Value → Sem Value} {r r' : R2} (h : OpR X f r) (i : ∀ x y H Q, r' x y H Q → r x y H Q) : OpR X f r' := fun pins s σ H x y v u Q I r1 r2 q => h pins s σ H x y v u Q I r1 r2 (i x y H Q q)
theorem IxR.imp {X : Cx} {r r' : R2} (h : IxR X r) (i : ∀ x y H Q, r' x y H Q → r x y H Q) : IxR X r' := fun va sl pins s σ H x y v u Q I r1 r2 q hs => h va sl pins s σ H x y v u Q I r1 r2 (i x y H Q q) hs
theorem SlR.imp {X : Cx} {r r' : V → Option Int → Option Int → Hp → VK → Prop} (h : SlR X r) (i : ∀ x lo hi H Q, r' x lo hi H Q → r x lo hi H Q) : SlR X r' := fun pins s σ H x v vl vu lo hi sl Q I r1 r2 p1 p2 q => h pins s σ H x v vl vu lo hi sl Q I r1 r2 p1 p2 (i x lo hi H Q q)
theorem MtR.imp {X : Cx} {id : String} {r r' : V → List V → Hp → VK → Prop} (h : MtR X id r) (i : ∀ x xs H Q, r' x xs H Q → r x xs H Q) : MtR X id r' := fun pins s σ H x xs v us Q I r1 r2 q => h pins s σ H x xs v us Q I r1 r2 (i x xs H Q q)
theorem CallR.imp {X : Cx} {f : Value} {r r' : List V → Hp → VK → Prop} (h : CallR X f r) (i : ∀ xs H Q, r' xs H Q → r xs H Q) : CallR X f r' := fun pins s σ H xs us Q I r1 q => h pins s σ H xs us Q I r1 (i xs H Q q)

abbrev PH (X : Cx) (e : Expr) (d : DH) : Prop := PE X e (TH X.K X.mg d)
abbrev PV (X : Cx) (e : Expr) (d : DV) : Prop := PE X e (TV X.K X.mg d)
abbrev PTt (X : Cx) (e : Expr) (d : DT) : Prop := PT X e (TTt X.K X.mg d)
abbrev PWt (X : Cx) (e : Expr) (d : DT) : Prop := PW X e (TTt X.K X.mg d)
abbrev PAs (X : Cx) (es : List Expr) (d : DA) : Prop := PA X es (TAs X.K X.mg d)

/-- a value as an operand -/
def dHV (d : DV) : DH := fun ρ => (d ρ).bind fun p => .ok (.val p.1, p.2)
theorem ph_of {X : Cx} {e : Expr} {d : DV} (h : PV X e d) : PH X e (dHV d) := PE.imp h fun σ H Q ⟨Z, O, C, ρ, R, x, ρ', q, k⟩ => by
  obtain ⟨⟨y, ρ1⟩, e1, e2⟩ := Out.bind_ok q
  cases e2
  exact ⟨Z, O, C, ρ, R, y, ρ1, e1, fun v H' Z' O' ex R' r => k v H' Z' O' ex R' r⟩

/-! ### names, constants -/
def dVar (i : Nat) : DH := fun ρ => match ρ[i]? with
  | some (.fz x) => .ok (.val x, ρ)
  | some (.own _) => .ok (.slot i, ρ)
  | some (.par _) => .ok (.slot i, ρ)
  | some (.odK _) => .ok (.slot i, ρ)
  | some (.odT _) => .ok (.slot i, ρ)
  | some (.lck _) => .ok (.slot i, ρ)
  | some (.box _ _ _) => .ok (.slot i, ρ)
  | some (.pbox _ _ _) => .ok (.slot i, ρ)
  | some (.own2 _) => .ok (.slot i, ρ)
  | _ => .bad
theorem ph_var {X : Cx} {i : Nat} {x : Str} {pos : Pos} (hN : X.N[i]? = some x := by rfl) (hv : Vis X.env.scope x := by first | exact Or.inl rfl | exact Or.inr (Or.inl rfl) | exact Or.inr (Or.inr rfl)) (hd : (x == ("__debug__" : Str)) = false := by decide)
    (hcd : (x == ("__classdict__" : Str)) = false := by decide) : PH X (.Name x pos) (dVar i) := PE.imp (pe_var hN hv hd hcd) fun σ H Q ⟨Z, O, C, ρ, R, h, ρ', q, k⟩ => by
  have key : ∀ v, σ[i]? = some (some v) → h = .slot i → ρ = ρ' → ∃ v, σ[i]? = some (some v) ∧ Q v H := fun v e1 e2 e3 => ⟨v, e1, k v H Z O (Ext.refl _ _ _) (e3 ▸ R) (by rw [e2]; exact e1)⟩
  unfold dVar at q
  cases e : ρ[i]? with
  | none => simp only [e] at q; cases q
  | some s =>
    have z := R.sl i s e
    simp only [e] at q
    cases s with
    | no => cases q
    | fz y =>
      cases q
      obtain ⟨u, e1, r⟩ := z
      exact ⟨u, e1, k u H Z O (Ext.refl _ _ _) R r⟩
    | own _ => cases q; obtain ⟨a, vs, e1, _⟩ := z; exact key _ e1 rfl rfl
    | par _ => cases q; obtain ⟨a, vs, e1, _⟩ := z; exact key _ e1 rfl rfl
    | own2 _ => cases q; obtain ⟨a, vs, e1, _⟩ := z; exact key _ e1 rfl rfl
    | odK _ => cases q; obtain ⟨a, vs, e1, _⟩ := z; exact key _ e1 rfl rfl
    | odT _ => cases q; obtain ⟨a, vs, e1, _⟩ := z; exact key _ e1 rfl rfl
    | lck _ => cases q; obtain ⟨a, vs, e1, _⟩ := z; exact key _ e1 rfl rfl
    | box _ _ _ => cases q; obtain ⟨a, vs, e1, _⟩ := z; exact key _ e1 rfl rfl
    | pbox _ _ _ => cases q; obtain ⟨a, vs, e1, _⟩ := z; exact key _ e1 rfl rfl
def dC (x : Val) : DV := fun ρ => .ok (x, ρ)
theorem pv_con {X : Cx} {e : Expr} {v : V} {x : Val} (h : PE X e (tC v)) (r : ∀ Z, Rl X.K X.mg Z v x) : PV X e (dC x) := PE.imp h fun σ H Q ⟨Z, O, C, ρ, R, y, ρ', q, k⟩ => by
  cases q
  exact k v H Z O (Ext.refl _ _ _) R (r Z)
theorem pv_int {X : Cx} {i j pos} : PV X (.Constant (.int i) j pos) (dC (.int i)) := pv_con pe_int fun _ => .int i
theorem pv_bl {X : Cx} {b j pos} : PV X (.Constant (.bool b) j pos) (dC (.bl b)) := pv_con pe_bl fun _ => .bl b
theorem pv_non {X : Cx} {j pos} : PV X (.Constant .none j pos) (dC .non) := pv_con pe_non fun _ => .non
theorem pv_str {X : Cx} {s j pos} : PV X (.Constant (.str s) j pos) (dC (.str s)) := pv_con pe_str fun _ => .str s
theorem pv_gint {X : Cx} {x : Str} {i : Int} {pos : Pos} (hg : Gl X x) (hm : ∃ t, X.mg x = some (.int i t)) (hd : (x == ("__debug__" : Str)) = false := by decide) : PV X (.Name x pos) (dC (.int i)) := by
  obtain ⟨t, hm⟩ := hm
  exact pv_con (pe_glob (v := .int i) hg hm ⟨t, rfl⟩ hd) fun _ => .int i
theorem pv_gstr {X : Cx} {x : Str} {i : Str} {pos : Pos} (hg : Gl X x) (hm : ∃ t, X.mg x = some (.str i t)) (hd : (x == ("__debug__" : Str)) = false := by decide) : PV X (.Name x pos) (dC (.str i)) := by
  obtain ⟨t, hm⟩ := hm
  exact pv_con (pe_glob (v := .str i) hg hm ⟨t, rfl⟩ hd) fun _ => .str i

/-! ### a slot used as a value: it is frozen -/
def frOf : Sl → Option Val
  | .fz x => some x
  | .own xs => some (.lst xs)
  | .own2 xss => some (.lst (xss.map Val.lst))
  | .odK k => some (.dK k)
  | .odT k => some (.dT k)
  | _ => none
/-- an operand taken as a value -/
def takeV (h : Hd) (ρ : Env) : Option (Val × Env) := match h with
  | .val x => some (x, ρ)
  | .slot i => match ρ[i]? with
    | some s => match frOf s with
      | some x => some (x, ρ.set i (.fz x))
      | none => none
    | none => none
/-- all of slot i is frozen -/
def frZ (i : Nat) (Z H : Hp) (O : Lab) : Hp := fun b => match O b with
  | some (j, _) => if j = i then H b else Z b
  | none => Z b
def frO (i : Nat) (O : Lab) : Lab := fun b => match O b with
  | some (j, q) => if j = i then none else some (j, q)
  | none => none
theorem frZ_at {i : Nat} {Z H : Hp} {O : Lab} {b : Addr} {q : Nat} (h : O b = some (i, q)) : frZ i Z H O b = H b := by unfold frZ; rw [h]; simp
theorem frZ_ne {i : Nat} {Z H : Hp} {O : Lab} {b : Addr} (h : ∀ q, O b ≠ some (i, q)) : frZ i Z H O b = Z b := by
  unfold frZ
  cases e : O b with
  | none => rfl
  | some p =>
    obtain ⟨j, q⟩ := p
    have : j ≠ i := fun z => h q (by rw [e, z])
    simp [this]
theorem frO_some {i : Nat} {O : Lab} {b : Addr} {j q : Nat} (h : frO i O b = some (j, q)) : O b = some (j, q) ∧ j ≠ i := by
  unfold frO at h
  cases e : O b with
  | none => rw [e] at h; cases h
  | some p =>
    obtain ⟨j', q'⟩ := p
    rw [e] at h
    by_cases hj : j' = i
    · simp [hj] at h
    · simp [hj] at h
      obtain ⟨h1, h2⟩ := h
      subst h1 h2
      exact ⟨rfl, hj⟩
theorem frO_ne {i : Nat} {O : Lab} {b : Addr} {j q : Nat} (h : O b = some (j, q)) (hj : j ≠ i) : frO i O b = some (j, q) := by unfold frO; rw [h]; simp [hj]
theorem frO_none {i : Nat} {O : Lab} {b : Addr} (h : O b = none) : frO i O b = none := by unfold frO; rw [h]
theorem frO_at {i : Nat} {O : Lab} {b : Addr} {q : Nat} (h : O b = some (i, q)) : frO i O b = none := by unfold frO; rw [h]; simp

section
variable {K : PySem.W.Frag} {mg : MG} {Z H : Hp} {O : Lab} {C : Lk} {σ : L2.St} {ρ : Env}
theorem frZ_same (oz : ∀ b, O b ≠ none → Z b = none ∧ C b = none ∧ H b ≠ none) (i : Nat) : Same Z (frZ i Z H O) := fun b o e => by
  cases q : O b with
  | none => unfold frZ; rw [q]; exact e
  | some p =>
    have := (oz b (by rw [q]; simp)).1
    rw [this] at e; cases e
theorem frZ_zh (zh : Same Z H) (i : Nat) : Same (frZ i Z H O) H := fun b o e => by
  unfold frZ at e
  cases q : O b with
  | none => rw [q] at e; exact zh b o e
  | some p =>
    rw [q] at e
    simp only at e
    split at e
    · exact e
    · exact zh b o e
theorem Own2.fr {i : Nat} (hz : Same Z (frZ i Z H O)) : ∀ {k : Nat} {bs : List Addr} {xss : List (List Val)}, Own2 K mg Z H O i k bs xss → Rls K mg (frZ i Z H O) (bs.map V.ref) (xss.map Val.lst)
  | _, _, _, .nil => .nil
  | _, _, _, .cons h1 h2 h3 h4 => .cons (.lst (by rw [frZ_at h1]; exact h2) (h3.mono hz)) (Own2.fr hz h4)
/-- slot i is frozen -/
theorem EnvR.freeze (R : EnvR K mg Z H O C σ ρ) {i : Nat} {s : Sl} {x : Val} (e : ρ[i]? = some s) (f : frOf s = some x) :
    ∃ v, σ[i]? = some (some v) ∧ Rl K mg (frZ i Z H O) v x ∧ EnvR K mg (frZ i Z H O) H (frO i O) C σ (ρ.set i (.fz x)) ∧ Ext Z H O (frZ i Z H O) H (frO i O) := by
  have hz := frZ_same R.oz i
  have z := R.sl i s e
  have hi : i < ρ.length := (List.getElem?_eq_some_iff.mp e).1
  have key : ∃ v, σ[i]? = some (some v) ∧ Rl K mg (frZ i Z H O) v x := by
    cases s with
    | no => cases f
    | fz y => cases f; obtain ⟨u, e1, r⟩ := z; exact ⟨u, e1, r.mono hz⟩
    | own xs => cases f; obtain ⟨a, vs, e1, o, m, r⟩ := z; exact ⟨_, e1, .lst (by rw [frZ_at o]; exact m) (r.mono hz)⟩
    | own2 xss => cases f; obtain ⟨a, bs, e1, o, m, r⟩ := z; exact ⟨_, e1, .lst (by rw [frZ_at o]; exact m) (r.fr hz)⟩
    | odK k => cases f; obtain ⟨a, kvs, e1, o, m, q, r⟩ := z; exact ⟨_, e1, .dK (by rw [frZ_at o]; exact m) q (r.mono hz)⟩
    | odT k => cases f; obtain ⟨a, kvs, e1, o, m, q, r⟩ := z; exact ⟨_, e1, .dT (by rw [frZ_at o]; exact m) q (r.mono hz)⟩
    | lck _ => cases f
    | par _ => cases f
    | box _ _ _ => cases f
    | pbox _ _ _ => cases f
  obtain ⟨v, ev, rv⟩ := key
  refine ⟨v, ev, rv, ⟨by rw [List.length_set]; exact R.len, frZ_zh R.zh i, R.ch, fun b hb => ?_, fun b j q h => ?_, fun j t ej => ?_⟩, ⟨hz, fun b o h1 h2 => ⟨h1, frO_none h2⟩, fun _ h => h, fun b j q h => .inr ⟨q, (frO_some h).1⟩, fun b hb => ?_⟩⟩
  rotate_left 3
  · cases q : O b with
    | none => refine .inl fun z => hb ?_; unfold frZ; rw [q]; exact z
    | some p => exact .inr (.inr (by simp))
  · obtain ⟨p, hp⟩ := Option.ne_none_iff_exists'.mp hb
    obtain ⟨j, q⟩ := p
    obtain ⟨h1, h2⟩ := frO_some hp
    obtain ⟨h3, h4, h5⟩ := R.oz b (by rw [h1]; simp)
    exact ⟨by rw [frZ_ne fun q' z => h2 (by rw [h1] at z; cases z; rfl)]; exact h3, h4, h5⟩
  · rw [List.length_set]; exact R.ob b j q (frO_some h).1
  · by_cases hj : j = i
    · subst hj
      rw [List.getElem?_set_self hi] at ej
      cases ej
      exact ⟨v, ev, rv⟩
    · rw [List.getElem?_set_ne (Ne.symm hj)] at ej
      exact (R.sl j t ej).keep hz fun b q hb => ⟨rfl, frO_ne hb hj⟩
theorem takeV_ok (R : EnvR K mg Z H O C σ ρ) {v : V} {h : Hd} {x : Val} {ρ' : Env} (r : HdR K mg Z σ v h) (e : takeV h ρ = some (x, ρ')) :
    ∃ Z' O', Ext Z H O Z' H O' ∧ EnvR K mg Z' H O' C σ ρ' ∧ Rl K mg Z' v x := by
  cases h with
  | val y => cases e; exact ⟨Z, O, Ext.refl _ _ _, R, r⟩
  | slot i =>
    have r : σ[i]? = some (some v) := r
    unfold takeV at e
    cases q : ρ[i]? with
    | none => simp only [q] at e; cases e
    | some s =>
      simp only [q] at e
      cases f : frOf s with
      | none => simp only [f] at e; cases e
      | some y =>
        simp only [f] at e
        cases e
        obtain ⟨w, h1, h2, h3, h4⟩ := R.freeze q f
        rw [r] at h1
        cases h1
        exact ⟨_, _, h4, h3, h2⟩
end
def dVH (d : DH) : DV := fun ρ => (d ρ).bind fun p => Out.of (takeV p.1 p.2)
theorem pv_of {X : Cx} {e : Expr} {d : DH} (h : PH X e d) : PV X e (dVH d) := PE.imp h fun σ H Q ⟨Z, O, C, ρ, R, x, ρ', q, k⟩ => by
  obtain ⟨⟨hd, ρ1⟩, e1, e2⟩ := Out.bind_ok q
  refine ⟨Z, O, C, ρ, R, hd, ρ1, e1, fun v H' Z' O' ex R' r => ?_⟩
  obtain ⟨Z2, O2, ex2, R2, r2⟩ := takeV_ok R' r (Out.of_ok e2)
  exact k v H' Z2 O2 (ex.trans ex2) R2 r2
end Ev

/-! Ev: operations on values. -/
namespace Ev
open PySem PySem.Spec PyProof.Rows L2

/-! ### values as data -/
mutual
def Val.py : Val → PyData
  | .non => .none
  | .bl b => .bool b
  | .int i => .int i
  | .str s => .str s
  | .tup xs => .tuple (pys xs)
  | .lst xs => .list (pys xs)
  | .ktup xs => .tuple (pys xs)
  | _ => .dict []
def pys : List Val → List PyData
  | [] => []
  | x :: xs => x.py :: pys xs
end
theorem pys_map : ∀ xs : List Val, pys xs = xs.map Val.py
  | [] => by simp [pys]
  | x :: xs => by simp [pys, pys_map xs]

section
variable {K : PySem.W.Frag} {mg : MG} {Z H : Hp}
mutual
theorem Rl.dp : ∀ {v : V} {x : Val}, Rl K mg Z v x → x.py.plain = true → Dp K Z v x.py
  | _, _, .non, _ => by simp only [Val.py]; exact .non
  | _, _, .bl b, _ => by simp only [Val.py]; exact .bl b
  | _, _, .int i, _ => by simp only [Val.py]; exact .int i
  | _, _, .str s, _ => by simp only [Val.py]; exact .str s
  | _, _, .tup h r, p => by
    simp only [Val.py] at p ⊢
    exact .tup (SqT.of h) (Rls.dp r (by simpa [PyData.plain] using p))
  | _, _, .ktup h r, p => by
    simp only [Val.py] at p ⊢
    exact .tup h (Rls.dp r (by simpa [PyData.plain] using p))
  | _, _, .lst h r, p => by
    simp only [Val.py] at p ⊢
    exact .lst (SqL.of h) (Rls.dp r (by simpa [PyData.plain] using p))
  | _, _, .dK _ _ _, p => by simp [Val.py, PyData.plain] at p
  | _, _, .dT _ _ _, p => by simp [Val.py, PyData.plain] at p
  | _, _, .scr _, p => by simp [Val.py, PyData.plain] at p
  | _, _, .fn _ _, p => by simp [Val.py, PyData.plain] at p
theorem Rls.dp : ∀ {vs : List V} {xs : List Val}, Rls K mg Z vs xs → PyData.plainAll (pys xs) = true → DpAll K Z vs (pys xs)
  | _, _, .nil, _ => by simp only [pys]; exact .nil
  | _, _, .cons r t, p => by
    simp only [pys] at p ⊢
    have p' := Bool.and_eq_true_iff.mp (show (PyData.plain _ && PyData.plainAll _) = true from p)
    exact .cons (Rl.dp r p'.1) (Rls.dp t p'.2)
end
mutual
theorem Dp.mono {H' : Hp} (e : Same Z H') : ∀ {v : V} {d : PyData}, Dp K Z v d → Dp K H' v d
  | _, _, .non => .non
  | _, _, .bl b => .bl b
  | _, _, .int b => .int b
  | _, _, .str b => .str b
  | _, _, .lst h r => .lst (e.seq h) (DpAll.mono e r)
  | _, _, .tup h r => .tup (seqT_mono e h) (DpAll.mono e r)
theorem DpAll.mono {H' : Hp} (e : Same Z H') : ∀ {v : List V} {d : List PyData}, DpAll K Z v d → DpAll K H' v d
  | _, _, .nil => .nil
  | _, _, .cons h t => .cons (Dp.mono e h) (DpAll.mono e t)
end
theorem BorR.dp (zh : Same Z H) {v : V} {x : Val} (b : BorR K mg Z H v x) (p : x.py.plain = true) : Dp K H v x.py := by
  cases b with
  | fz r => exact Dp.mono zh (r.dp p)
  | lst h r =>
    simp only [Val.py] at p ⊢
    exact .lst (SqL.of h) (DpAll.mono zh (r.dp (by simpa [PyData.plain] using p)))
  | dK _ _ _ => simp [Val.py, PyData.plain] at p
  | dT _ _ _ => simp [Val.py, PyData.plain] at p
/-! what a borrowed value is -/
theorem bor_non {v : V} (b : BorR K mg Z H v .non) : v = .non := by cases b with | fz r => cases r; rfl
theorem bor_bl {v : V} {k : Bool} (b : BorR K mg Z H v (.bl k)) : v = .bl k := by cases b with | fz r => cases r; rfl
theorem bor_int {v : V} {k : Int} (b : BorR K mg Z H v (.int k)) : v = .int k := by cases b with | fz r => cases r; rfl
theorem bor_str {v : V} {k : Str} (b : BorR K mg Z H v (.str k)) : v = .str k := by cases b with | fz r => cases r; rfl
theorem bor_tup {v : V} {xs : List Val} (b : BorR K mg Z H v (.tup xs)) : ∃ a vs, v = .ref a ∧ Z a = some (.tup vs) ∧ Rls K mg Z vs xs := by cases b with | fz r => cases r with | tup h r => exact ⟨_, _, rfl, h, r⟩
theorem bor_ktup {v : V} {xs : List Val} (b : BorR K mg Z H v (.ktup xs)) : ∃ a vs, v = .ref a ∧ SqT K Z a vs ∧ Rls K mg Z vs xs := by cases b with | fz r => cases r with | ktup h r => exact ⟨_, _, rfl, h, r⟩
theorem bor_lst (zh : Same Z H) {v : V} {xs : List Val} (b : BorR K mg Z H v (.lst xs)) : ∃ a vs, v = .ref a ∧ H a = some (.lst vs) ∧ Rls K mg Z vs xs := by
  cases b with
  | fz r => cases r with | lst h r => exact ⟨_, _, rfl, zh _ _ h, r⟩
  | lst h r => exact ⟨_, _, rfl, h, r⟩
theorem bor_scr {v : V} {xs : List Int} (b : BorR K mg Z H v (.scr xs)) : ∃ a, v = .ref a ∧ SqL K Z a (xs.map V.int) := by cases b with | fz r => cases r with | scr h => exact ⟨_, rfl, h⟩
theorem bor_dK (zh : Same Z H) {v : V} {kxs : List (Key × Val)} (b : BorR K mg Z H v (.dK kxs)) : ∃ a kvs, v = .ref a ∧ H a = some (.dK kvs) ∧ kvs.map (·.1) = kxs.map (·.1) ∧ Rls K mg Z (kvs.map (·.2)) (kxs.map (·.2)) := by
  cases b with
  | fz r => cases r with | dK h k r => exact ⟨_, _, rfl, zh _ _ h, k, r⟩
  | dK h k r => exact ⟨_, _, rfl, h, k, r⟩
theorem bor_dT (zh : Same Z H) {v : V} {kxs : List (List Key × Val)} (b : BorR K mg Z H v (.dT kxs)) : ∃ a kvs, v = .ref a ∧ H a = some (.dT kvs) ∧ kvs.map (·.1) = kxs.map (·.1) ∧ Rls K mg Z (kvs.map (·.2)) (kxs.map (·.2)) := by
  cases b with
  | fz r => cases r with | dT h k r => exact ⟨_, _, rfl, zh _ _ h, k, r⟩
  | dT h k r => exact ⟨_, _, rfl, h, k, r⟩
end

/-! ### a pure operation's answer: frozen, beside new things -/
def PQ (K : PySem.W.Frag) (mg : MG) (Z H : Hp) (z : Val) (Q : VK) : Prop := ∀ u Z' H', Grow Z H Z' H' → Rl K mg Z' u z → Q u H'
section
variable {K : PySem.W.Frag} {mg : MG} {Z H : Hp} {Q : VK}
theorem PQ.here {u : V} {z : Val} (zh : Same Z H) (q : PQ K mg Z H z Q) (r : Rl K mg Z u z) : Q u H := q u Z H (Grow.refl zh) r
theorem PQ.newL {vs : List V} {xs : List Val} {p : Addr} (zh : Same Z H) (q : PQ K mg Z H (.lst xs) Q) (hp : H p = none) (r : Rls K mg Z vs xs) : Q (.ref p) (upd H p (.lst vs)) :=
  let g := Grow.newZ (o := .lst vs) zh hp
  q _ _ _ g (.lst upd_same (r.mono g.z))
theorem PQ.newT {vs : List V} {xs : List Val} {p : Addr} (zh : Same Z H) (q : PQ K mg Z H (.tup xs) Q) (hp : H p = none) (r : Rls K mg Z vs xs) : Q (.ref p) (upd H p (.tup vs)) :=
  let g := Grow.newZ (o := .tup vs) zh hp
  q _ _ _ g (.tup upd_same (r.mono g.z))
end

/-- a two-place operation by values -/
def r2 (K : PySem.W.Frag) (mg : MG) (g : Val → Val → Option Val) : R2 := fun v w H Q => ∃ Z x y z, Same Z H ∧ BorR K mg Z H v x ∧ BorR K mg Z H w y ∧ g x y = some z ∧ PQ K mg Z H z Q
def d2 (g : Val → Val → Option Val) (da db : DH) : DV := fun ρ => (da ρ).bind fun p => (db p.2).bind fun q =>
  Out.of ((deref q.2 p.1).bind fun x => (deref q.2 q.1).bind fun y => (g x y).map fun z => (z, q.2))
theorem bind2 {ρ : Env} {h1 h2 : Hd} {g : Val → Val → Option Val} {z : Val} {ρ' : Env} (e : (deref ρ h1).bind (fun x => (deref ρ h2).bind fun y => (g x y).map fun z => (z, ρ)) = some (z, ρ')) :
    ∃ x y, deref ρ h1 = some x ∧ deref ρ h2 = some y ∧ g x y = some z ∧ ρ' = ρ := by
  obtain ⟨x, e1, e⟩ := Option.bind_eq_some_iff.mp e
  obtain ⟨y, e2, e⟩ := Option.bind_eq_some_iff.mp e
  obtain ⟨w, e3, e⟩ := Option.map_eq_some_iff.mp e
  cases e
  exact ⟨x, y, e1, e2, e3, rfl⟩
/-- two operands, then an operation -/
theorem run2 {K : PySem.W.Frag} {mg : MG} {da db : DH} {g : Val → Val → Option Val} {σ : L2.St} {H : Hp} {Q : VK} (h : TV K mg (d2 g da db) σ H Q) : TH K mg da σ H fun v H1 => TH K mg db σ H1 fun w H2 => r2 K mg g v w H2 Q := by
  obtain ⟨Z, O, C, ρ, R, x, ρ', q, k⟩ := h
  obtain ⟨⟨h1, ρ1⟩, e1, q⟩ := Out.bind_ok q
  obtain ⟨⟨h2, ρ2⟩, e2, q⟩ := Out.bind_ok q
  obtain ⟨y1, y2, f1, f2, f3, f4⟩ := bind2 (Out.of_ok q)
  subst f4
  refine ⟨Z, O, C, ρ, R, h1, ρ1, e1, fun v H1 Z1 O1 ex1 R1 r1 => ⟨Z1, O1, C, ρ1, R1, h2, ρ', e2, fun w H2 Z2 O2 ex2 R2 r2 => ?_⟩⟩
  exact ⟨Z2, y1, y2, x, R2.zh, deref_bor R2 (r1.mono ex2.z) f1, deref_bor R2 r2 f2, f3, fun u Z3 H3 gr r => k u H3 Z3 O2 ((ex1.trans ex2).trans gr.ext) (R2.grow gr) r⟩
section
variable {X : Cx} {a b : Expr} {da db : DH} {pos : Pos} {g : Val → Val → Option Val}
theorem pv_op {op : Operator} (ho : OpR X (binaryOp op) (r2 X.K X.mg g)) (ha : PH X a da) (hb : PH X b db) : PV X (.BinOp a op b pos) (d2 g da db) := PE.imp (pe_op ho ha hb) fun _ _ _ => run2
theorem pv_cmp {op : CmpOp} (ho : OpR X (compareOp op) (r2 X.K X.mg g)) (ha : PH X a da) (hb : PH X b db) (hm : behindInMarks op b = false := by first | exact nomark _ | rfl) : PV X (.Compare a [op] [b] pos) (d2 g da db) := PE.imp (pe_cmpR ho ha hb hm) fun _ _ _ => run2
theorem pv_ix (ho : IxR X (r2 X.K X.mg g)) (ha : PH X a da) (hb : PH X b db) (hs : PlainIx b := by intro _ _; rfl) : PV X (.Subscript a b pos) (d2 g da db) := PE.imp (pe_ix ho ha hb hs) fun _ _ _ => run2
end

/-! ### arithmetic -/
def addV : Val → Val → Option Val
  | .int i, .int j => some (.int (i + j))
  | .str s, .str t => if s.length + t.length ≤ sizeLine then some (.str (s ++ t)) else none
  | .tup xs, .tup ys => if xs.length + ys.length ≤ sizeLine then some (.tup (xs ++ ys)) else none
  | .lst xs, .lst ys => if xs.length + ys.length ≤ sizeLine then some (.lst (xs ++ ys)) else none
  | _, _ => none
def subV : Val → Val → Option Val
  | .int i, .int j => some (.int (i - j))
  | _, _ => none
def mulOk (i j : Int) : Bool := (decide (-(2 ^ 64) < i) && decide (i < 2 ^ 64)) || (decide (-(2 ^ 64) < j) && decide (j < 2 ^ 64))
def mulV : Val → Val → Option Val
  | .int i, .int j => if mulOk i j then some (.int (i * j)) else none
  | .lst xs, .int k => if -(2 ^ 63) ≤ k ∧ k < 2 ^ 63 ∧ xs.length * k.toNat ≤ sizeLine then some (.lst (List.replicate k.toNat xs).flatten) else none
  | .tup xs, .int k => if xs ≠ [] ∧ 2 ≤ k ∧ k ≤ 1000 ∧ xs.length ≤ 1000 then some (.tup (List.replicate k.toNat xs).flatten) else none
  | _, _ => none
def divV : Val → Val → Option Val
  | .int i, .int j => if 0 < j ∧ j.natAbs.log2 < 9000 then some (.int (i / j)) else none
  | _, _ => none
def modV : Val → Val → Option Val
  | .int i, .int j => if 0 < j then some (.int (i % j)) else none
  | _, _ => none
def powV : Val → Val → Option Val
  | .int i, .int j => if 0 ≤ j ∧ j ≤ 1000000 ∧ i.natAbs < 2 ^ 64 then some (.int (i ^ j.toNat)) else none
  | _, _ => none
theorem Rls.rep {K : PySem.W.Frag} {mg : MG} {Z : Hp} {vs : List V} {xs : List Val} (h : Rls K mg Z vs xs) : ∀ k : Nat, Rls K mg Z (List.replicate k vs).flatten (List.replicate k xs).flatten
  | 0 => .nil
  | k + 1 => by
    rw [List.replicate_succ, List.replicate_succ, List.flatten_cons, List.flatten_cons]
    exact h.append (h.rep k)
section
variable {X : Cx}
theorem o_add : OpR X (binaryOp .Add) (r2 X.K X.mg addV) := OpR.imp (op_add.or (op_add_str.or (op_catA.or op_cat))) fun v w H Q ⟨Z, x, y, z, zh, b1, b2, e, q⟩ => by
  unfold addV at e
  split at e
  · cases e
    cases bor_int b1
    cases bor_int b2
    exact .inl ⟨_, _, rfl, rfl, q.here zh (.int _)⟩
  · split at e
    · rename_i hl
      cases e
      cases bor_str b1
      cases bor_str b2
      exact .inr (.inl ⟨_, _, rfl, rfl, hl, q.here zh (.str _)⟩)
    · cases e
  · split at e
    · rename_i hl
      cases e
      obtain ⟨a, vs, rfl, h1, r1⟩ := bor_tup b1
      obtain ⟨b, ws, rfl, h2, r2⟩ := bor_tup b2
      refine .inr (.inr (.inl ⟨a, b, vs, ws, rfl, rfl, SqT.of (zh _ _ h1), SqT.of (zh _ _ h2), by rw [r1.length, r2.length]; exact hl, fun e => ?_, fun _ e => ?_, fun _ _ p hp => q.newT zh hp (r1.append r2)⟩))
      · subst e
        cases r1
        exact q.here zh (.tup h2 r2)
      · subst e
        cases r2
        rw [List.append_nil] at q
        exact q.here zh (.tup h1 r1)
    · cases e
  · split at e
    · rename_i hl
      cases e
      obtain ⟨a, vs, rfl, h1, r1⟩ := bor_lst zh b1
      obtain ⟨b, ws, rfl, h2, r2⟩ := bor_lst zh b2
      exact .inr (.inr (.inr ⟨a, b, vs, ws, rfl, rfl, h1, h2, by rw [r1.length, r2.length]; exact hl, fun p hp => q.newL zh hp (r1.append r2)⟩))
    · cases e
  · cases e
theorem o_sub : OpR X (binaryOp .Sub) (r2 X.K X.mg subV) := OpR.imp op_sub fun v w H Q ⟨Z, x, y, z, zh, b1, b2, e, q⟩ => by
  unfold subV at e
  split at e
  · cases e
    cases bor_int b1
    cases bor_int b2
    exact ⟨_, _, rfl, rfl, q.here zh (.int _)⟩
  · cases e
theorem o_mul : OpR X (binaryOp .Mult) (r2 X.K X.mg mulV) := OpR.imp (op_mul.or (op_rep.or op_repT)) fun v w H Q ⟨Z, x, y, z, zh, b1, b2, e, q⟩ => by
  unfold mulV at e
  split at e
  · split at e
    · rename_i hm
      cases e
      cases bor_int b1
      cases bor_int b2
      refine .inl ⟨_, _, rfl, rfl, ?_, q.here zh (.int _)⟩
      unfold mulOk at hm
      simpa [CMul] using hm
    · cases e
  · split at e
    · rename_i hk
      cases e
      obtain ⟨a, vs, rfl, h1, r1⟩ := bor_lst zh b1
      cases bor_int b2
      exact .inr (.inl ⟨a, _, vs, rfl, rfl, h1, hk.1, hk.2.1, by rw [r1.length]; exact hk.2.2, fun p hp => q.newL zh hp (r1.rep _)⟩)
    · cases e
  · split at e
    · rename_i hk
      cases e
      obtain ⟨a, vs, rfl, h1, r1⟩ := bor_tup b1
      cases bor_int b2
      refine .inr (.inr ⟨a, _, vs, rfl, rfl, SqT.of (zh _ _ h1), fun z => hk.1 ?_, hk.2.1, hk.2.2.1, by rw [r1.length]; exact hk.2.2.2, fun p hp => q.newT zh hp (r1.rep _)⟩)
      subst z
      cases r1
      rfl
    · cases e
  · cases e
theorem o_div : OpR X (binaryOp .FloorDiv) (r2 X.K X.mg divV) := OpR.imp op_fdivW fun v w H Q ⟨Z, x, y, z, zh, b1, b2, e, q⟩ => by
  unfold divV at e
  split at e
  · split at e
    · rename_i hk
      cases e
      cases bor_int b1
      cases bor_int b2
      exact ⟨_, _, rfl, rfl, hk, q.here zh (.int _)⟩
    · cases e
  · cases e
theorem o_mod : OpR X (binaryOp .Mod) (r2 X.K X.mg modV) := OpR.imp op_mod fun v w H Q ⟨Z, x, y, z, zh, b1, b2, e, q⟩ => by
  unfold modV at e
  split at e
  · split at e
    · rename_i hk
      cases e
      cases bor_int b1
      cases bor_int b2
      exact ⟨_, _, rfl, rfl, hk, q.here zh (.int _)⟩
    · cases e
  · cases e
theorem o_pow : OpR X (binaryOp .Pow) (r2 X.K X.mg powV) := OpR.imp op_pow fun v w H Q ⟨Z, x, y, z, zh, b1, b2, e, q⟩ => by
  unfold powV at e
  split at e
  · split at e
    · rename_i hk
      cases e
      cases bor_int b1
      cases bor_int b2
      exact ⟨_, _, rfl, rfl, hk, q.here zh (.int _)⟩
    · cases e
  · cases e
end

/-! ### comparisons -/
def small2 (x y : PyData) : Bool := decide (min x.depth y.depth ≤ 64)
def eqB (x y : Val) : Option Bool := if x.py.plain && y.py.plain && small2 x.py y.py then some (PyData.eqv x.py y.py) else none
def eqV (x y : Val) : Option Val := (eqB x y).map .bl
def neV (x y : Val) : Option Val := (eqB x y).map fun b => .bl (!b)
def notNone : PyData → Bool
  | .none => false
  | _ => true
def cmpOk (x y : PyData) : Bool := PySem.W.alike x y && notNone x && small2 x y && x.plain && y.plain
def ltB (x y : Val) : Option Bool := if cmpOk x.py y.py then some (PySem.W.dataLt x.py y.py) else none
def ltV (x y : Val) : Option Val := (ltB x y).map .bl
def gtV (x y : Val) : Option Val := if cmpOk x.py y.py then some (.bl (PySem.W.dataLt y.py x.py)) else none
def leV (x y : Val) : Option Val := if cmpOk x.py y.py then some (.bl (!PySem.W.dataLt y.py x.py)) else none
def geV (x y : Val) : Option Val := (ltB x y).map fun b => .bl (!b)
def keyOf : Val → Option Key
  | .int i => some (.inl i)
  | .str s => some (.inr s)
  | _ => none
def keysOf : List Val → Option (List Key)
  | [] => some []
  | x :: xs => match keyOf x, keysOf xs with
    | some k, some ks => some (k :: ks)
    | _, _ => none
def inB (x : Val) : Val → Option Bool
  | .lst ys => if x.py.plain && PyData.plainAll (pys ys) && decide (min (PyData.depthAll (pys ys)) x.py.depth ≤ 64) then some ((pys ys).any fun y => PyData.eqv y x.py) else none
  | .tup ys => if x.py.plain && PyData.plainAll (pys ys) && decide (min (PyData.depthAll (pys ys)) x.py.depth ≤ 64) then some ((pys ys).any fun y => PyData.eqv y x.py) else none
  | .ktup ys => if x.py.plain && PyData.plainAll (pys ys) && decide (min (PyData.depthAll (pys ys)) x.py.depth ≤ 64) then some ((pys ys).any fun y => PyData.eqv y x.py) else none
  | .dK kxs => (keyOf x).map fun k => kxs.any fun p => decide (p.1 = k)
  | .dT kxs => match x with
    | .tup xs => (keysOf xs).map fun k => kxs.any fun p => decide (p.1 = k)
    | _ => none
  | .str t => match x with
    | .str s => some (!(Builtin.Str.occurrences t s 0 t.length 1).isEmpty)
    | _ => none
  | _ => none
def inV (x y : Val) : Option Val := (inB x y).map .bl
def ninV (x y : Val) : Option Val := (inB x y).map fun b => .bl (!b)

/-- an answer that is a truth value, by a rule over the machine's heap -/
theorem op_raw {X : Cx} {f : Value → Value → Sem Value} {g : Val → Val → Option Val}
    (h : ∀ (pins : List (Addr × Obj)) (s : Shared) (σ : L2.St) (Z H : Hp) (v w : V) (x y z : Val) (u1 u2 : Value) (Q : VK), Inv X pins σ H s → RelV v u1 → RelV w u2 → Same Z H → BorR X.K X.mg Z H v x → BorR X.K X.mg Z H w y → g x y = some z →
      PQ X.K X.mg Z H z Q → wpAny (model X.prog X.w) X.A (f u1 u2) (EP X pins σ Q) X.xe s) : OpR X f (r2 X.K X.mg g) :=
  fun pins s σ H v w u1 u2 Q I r1 r2 ⟨Z, x, y, z, zh, b1, b2, e, q⟩ => h pins s σ Z H v w x y z u1 u2 Q I r1 r2 zh b1 b2 e q
theorem PQ.bl {X : Cx} {pins : List (Addr × Obj)} {σ : L2.St} {Z H : Hp} {s : Shared} {b : Bool} {Q : VK} (I : Inv X pins σ H s) (zh : Same Z H) (q : PQ X.K X.mg Z H (.bl b) Q) : EP X pins σ Q (.bool b) s := ⟨.bl b, H, I, rfl, q.here zh (.bl b)⟩
theorem small2_room {x y : PyData} {A : Around} {k : Nat} (hr : Room k A) (h : small2 x y = true) : A.units + min x.depth y.depth < cLine := by
  have h1 : min x.depth y.depth ≤ 64 := of_decide_eq_true h
  have h2 := hr.un
  omega
theorem reads_of {X : Cx} {pins : List (Addr × Obj)} {σ : L2.St} {Z H : Hp} {s : Shared} {v : V} {x : Val} {u : Value} (I : Inv X pins σ H s) (zh : Same Z H) (b : BorR X.K X.mg Z H v x) (p : x.py.plain = true) (r : RelV v u) : ∃ as, Reads s.heap u x.py as :=
  Dp.reads I x.py v u (b.dp zh p) r
section
variable {X : Cx} {k : Nat}
theorem o_eq (hr : Room k X.A) : OpR X (compareOp .Eq) (r2 X.K X.mg eqV) := op_raw fun pins s σ Z H v w x y z u1 u2 Q I r1 r2 zh b1 b2 e q => by
  obtain ⟨b, e1, rfl⟩ := Option.map_eq_some_iff.mp e
  unfold eqB at e1
  split at e1
  · rename_i hc
    cases e1
    simp only [Bool.and_eq_true] at hc
    obtain ⟨as, ra⟩ := reads_of I zh b1 hc.1.1 r1
    obtain ⟨bs, rb⟩ := reads_of I zh b2 hc.1.2 r2
    exact PySem.SeqAt.eq_plain ra rb hc.1.1 hc.1.2 (small2_room hr hc.2) (q.bl I zh)
  · cases e1
theorem o_ne (hr : Room k X.A) : OpR X (compareOp .NotEq) (r2 X.K X.mg neV) := op_raw fun pins s σ Z H v w x y z u1 u2 Q I r1 r2 zh b1 b2 e q => by
  obtain ⟨b, e1, rfl⟩ := Option.map_eq_some_iff.mp e
  unfold eqB at e1
  split at e1
  · rename_i hc
    cases e1
    simp only [Bool.and_eq_true] at hc
    obtain ⟨as, ra⟩ := reads_of I zh b1 hc.1.1 r1
    obtain ⟨bs, rb⟩ := reads_of I zh b2 hc.1.2 r2
    exact PySem.SeqAt.ne_plain ra rb hc.1.1 hc.1.2 (small2_room hr hc.2) (q.bl I zh)
  · cases e1
theorem cmpOk_out {x y : PyData} (h : cmpOk x y = true) : PySem.W.alike x y = true ∧ x ≠ .none ∧ small2 x y = true ∧ x.plain = true ∧ y.plain = true := by
  unfold cmpOk at h
  simp only [Bool.and_eq_true] at h
  exact ⟨h.1.1.1.1, fun z => (by rw [z] at h; exact absurd h.1.1.1.2 (by simp [notNone])), h.1.1.2, h.1.2, h.2⟩
theorem o_lt (hr : Room k X.A) : OpR X (compareOp .Lt) (r2 X.K X.mg ltV) := op_raw fun pins s σ Z H v w x y z u1 u2 Q I r1 r2 zh b1 b2 e q => by
  obtain ⟨b, e1, rfl⟩ := Option.map_eq_some_iff.mp e
  unfold ltB at e1
  split at e1
  · rename_i hc
    cases e1
    obtain ⟨c1, c2, c3, c4, c5⟩ := cmpOk_out hc
    obtain ⟨as, ra⟩ := reads_of I zh b1 c4 r1
    obtain ⟨bs, rb⟩ := reads_of I zh b2 c5 r2
    exact PySem.W.lt_data ra rb c1 c2 (small2_room hr c3) (q.bl I zh)
  · cases e1
theorem o_ge (hr : Room k X.A) : OpR X (compareOp .GtE) (r2 X.K X.mg geV) := op_raw fun pins s σ Z H v w x y z u1 u2 Q I r1 r2 zh b1 b2 e q => by
  obtain ⟨b, e1, rfl⟩ := Option.map_eq_some_iff.mp e
  unfold ltB at e1
  split at e1
  · rename_i hc
    cases e1
    obtain ⟨c1, c2, c3, c4, c5⟩ := cmpOk_out hc
    obtain ⟨as, ra⟩ := reads_of I zh b1 c4 r1
    obtain ⟨bs, rb⟩ := reads_of I zh b2 c5 r2
    exact PySem.W.ge_data ra rb c1 c2 (small2_room hr c3) (q.bl I zh)
  · cases e1
theorem o_gt (hr : Room k X.A) : OpR X (compareOp .Gt) (r2 X.K X.mg gtV) := op_raw fun pins s σ Z H v w x y z u1 u2 Q I r1 r2 zh b1 b2 e q => by
  unfold gtV at e
  split at e
  · rename_i hc
    cases e
    obtain ⟨c1, c2, c3, c4, c5⟩ := cmpOk_out hc
    obtain ⟨as, ra⟩ := reads_of I zh b1 c4 r1
    obtain ⟨bs, rb⟩ := reads_of I zh b2 c5 r2
    exact PySem.W.gt_data ra rb c1 c2 (small2_room hr c3) (q.bl I zh)
  · cases e
theorem o_le (hr : Room k X.A) : OpR X (compareOp .LtE) (r2 X.K X.mg leV) := op_raw fun pins s σ Z H v w x y z u1 u2 Q I r1 r2 zh b1 b2 e q => by
  unfold leV at e
  split at e
  · rename_i hc
    cases e
    obtain ⟨c1, c2, c3, c4, c5⟩ := cmpOk_out hc
    obtain ⟨as, ra⟩ := reads_of I zh b1 c4 r1
    obtain ⟨bs, rb⟩ := reads_of I zh b2 c5 r2
    exact PySem.W.le_data ra rb c1 c2 (small2_room hr c3) (q.bl I zh)
  · cases e
end
end Ev

/-! Ev: containers: in, subscripts, slices, dicts. -/
namespace Ev
open PySem PySem.Spec PyProof.Rows L2

/-! ### dicts -/
section
variable {κ : Type} [DecidableEq κ]
def dget (kxs : List (κ × Val)) (k : κ) : Option Val := (kxs.find? fun kv => decide (kv.1 = k)).map (·.2)
def dput (kxs : List (κ × Val)) (k : κ) (x : Val) : List (κ × Val) := if kxs.any (fun kv => decide (kv.1 = k)) then kxs.map (fun kv => if kv.1 = k then (kv.1, x) else kv) else kxs ++ [(k, x)]
theorem putK_def (kvs : List (κ × V)) (k : κ) (v : V) : putK kvs k v = if kvs.any (fun kv => decide (kv.1 = k)) then kvs.map (fun kv => if kv.1 = k then (kv.1, v) else kv) else kvs ++ [(k, v)] := rfl
variable {K : PySem.W.Frag} {mg : MG} {Z : Hp}
theorem dr_any (k : κ) : ∀ {kvs : List (κ × V)} {kxs : List (κ × Val)}, kvs.map (·.1) = kxs.map (·.1) → (kvs.any fun kv => decide (kv.1 = k)) = kxs.any fun kv => decide (kv.1 = k)
  | [], [], _ => rfl
  | [], _ :: _, h => by cases h
  | _ :: _, [], h => by cases h
  | p :: r, q :: s, h => by
    simp only [List.map_cons, List.cons.injEq] at h
    rw [List.any_cons, List.any_cons, h.1, dr_any k h.2]
theorem dr_get (k : κ) : ∀ {kvs : List (κ × V)} {kxs : List (κ × Val)}, kvs.map (·.1) = kxs.map (·.1) → Rls K mg Z (kvs.map (·.2)) (kxs.map (·.2)) →
    (dget kxs k = none ∧ valV kvs k = none) ∨ ∃ v x, dget kxs k = some x ∧ valV kvs k = some v ∧ Rl K mg Z v x
  | [], [], _, _ => .inl ⟨rfl, rfl⟩
  | [], _ :: _, h, _ => by cases h
  | _ :: _, [], h, _ => by cases h
  | p :: r, q :: s, h, t => by
    simp only [List.map_cons, List.cons.injEq] at h
    rw [List.map_cons, List.map_cons] at t
    cases t with
    | cons t1 t2 =>
      by_cases e : p.1 = k
      · have e' : q.1 = k := h.1 ▸ e
        exact .inr ⟨p.2, q.2, by simp [dget, List.find?_cons, e'], valV_pos e, t1⟩
      · have e' : ¬ q.1 = k := h.1 ▸ e
        have f : dget (q :: s) k = dget s k := by simp [dget, List.find?_cons, e']
        rw [f, valV_neg e]
        exact dr_get k h.2 t2
theorem dr_put (k : κ) {v : V} {x : Val} (r : Rl K mg Z v x) {kvs : List (κ × V)} {kxs : List (κ × Val)} (h : kvs.map (·.1) = kxs.map (·.1)) (t : Rls K mg Z (kvs.map (·.2)) (kxs.map (·.2))) :
    (putK kvs k v).map (·.1) = (dput kxs k x).map (·.1) ∧ Rls K mg Z ((putK kvs k v).map (·.2)) ((dput kxs k x).map (·.2)) := by
  rw [putK_def]
  unfold dput
  rw [dr_any k h]
  split
  · have go : ∀ {kvs : List (κ × V)} {kxs : List (κ × Val)}, kvs.map (·.1) = kxs.map (·.1) → Rls K mg Z (kvs.map (·.2)) (kxs.map (·.2)) →
        (kvs.map (fun kv => if kv.1 = k then (kv.1, v) else kv)).map (·.1) = (kxs.map (fun kv => if kv.1 = k then (kv.1, x) else kv)).map (·.1) ∧ Rls K mg Z ((kvs.map (fun kv => if kv.1 = k then (kv.1, v) else kv)).map (·.2)) ((kxs.map (fun kv => if kv.1 = k then (kv.1, x) else kv)).map (·.2)) := by
      intro kvs
      induction kvs with
      | nil => intro kxs h t; cases kxs with
        | nil => exact ⟨rfl, .nil⟩
        | cons _ _ => cases h
      | cons p rr ih => intro kxs h t; cases kxs with
        | nil => cases h
        | cons q s =>
          simp only [List.map_cons, List.cons.injEq] at h
          rw [List.map_cons, List.map_cons] at t
          cases t with
          | cons t1 t2 =>
            obtain ⟨i1, i2⟩ := ih h.2 t2
            simp only [List.map_cons, List.cons.injEq]
            by_cases e : p.1 = k
            · have e' : q.1 = k := h.1 ▸ e
              rw [if_pos e, if_pos e']
              exact ⟨⟨h.1, i1⟩, .cons r i2⟩
            · have e' : ¬ q.1 = k := h.1 ▸ e
              rw [if_neg e, if_neg e']
              exact ⟨⟨h.1, i1⟩, .cons t1 i2⟩
    exact go h t
  · rw [List.map_append, List.map_append, List.map_append, List.map_append, h]
    exact ⟨rfl, t.append (.one r)⟩
theorem dr_len {kvs : List (κ × V)} {kxs : List (κ × Val)} (h : kvs.map (·.1) = kxs.map (·.1)) : kvs.length = kxs.length := by
  have := congrArg List.length h
  simpa using this
end
theorem keyOf_rl {K : PySem.W.Frag} {mg : MG} {Z H : Hp} {v : V} {x : Val} {k : Key} (b : BorR K mg Z H v x) (e : keyOf x = some k) : v = kV k := by
  cases x <;> simp only [keyOf] at e <;> cases e
  · exact bor_int b
  · exact bor_str b
theorem keysOf_rl {K : PySem.W.Frag} {mg : MG} {Z : Hp} : ∀ {vs : List V} {xs : List Val} {ks : List Key}, Rls K mg Z vs xs → keysOf xs = some ks → vs = ks.map kV
  | _, _, ks, .nil, e => by cases e; rfl
  | _, _, ks, .cons (x := x) (xs := xs) r t, e => by
    unfold keysOf at e
    cases e1 : keyOf x with
    | none => rw [e1] at e; cases e
    | some k =>
      cases e2 : keysOf xs with
      | none => rw [e1, e2] at e; cases e
      | some ks' =>
        rw [e1, e2] at e
        cases e
        have h1 := keyOf_rl (BorR.fz (H := Z) r) e1
        rw [h1, keysOf_rl t e2]
        rfl
def dkGet (x : Val) : Val → Option (Option Val)
  | .dK kxs => (keyOf x).map fun k => dget kxs k
  | .dT kxs => match x with
    | .tup xs => (keysOf xs).map fun k => dget kxs k
    | _ => none
  | _ => none
/-- what a borrowed dict gives -/
theorem dkGet_ok {K : PySem.W.Frag} {mg : MG} {Z H : Hp} {v w : V} {x y : Val} {o : Option Val} (zh : Same Z H) (b1 : BorR K mg Z H v x) (b2 : BorR K mg Z H w y) (e : dkGet x y = some o) :
    ∃ a r, w = .ref a ∧ DGet H a v r ∧ ((o = none ∧ r = none) ∨ ∃ u z, o = some z ∧ r = some u ∧ Rl K mg Z u z) := by
  cases y with
  | dK kxs =>
    obtain ⟨k, e1, rfl⟩ := Option.map_eq_some_iff.mp e
    obtain ⟨a, kvs, rfl, h, hk, hr⟩ := bor_dK zh b2
    refine ⟨a, valV kvs k, rfl, ?_, ?_⟩
    · rw [keyOf_rl b1 e1]
      exact DGet.k h
    · rcases dr_get k hk hr with ⟨h1, h2⟩ | ⟨u, z, h1, h2, h3⟩
      · exact .inl ⟨h1, h2⟩
      · exact .inr ⟨u, z, h1, h2, h3⟩
  | dT kxs =>
    cases x with
    | tup xs =>
      obtain ⟨k, e1, rfl⟩ := Option.map_eq_some_iff.mp (show (keysOf xs).map _ = some o from e)
      obtain ⟨a, kvs, rfl, h, hk, hr⟩ := bor_dT zh b2
      obtain ⟨b, vs, rfl, hb, rb⟩ := bor_tup b1
      refine ⟨a, _, rfl, DGet.t h (k := k) ?_, ?_⟩
      · rw [← keysOf_rl rb e1]
        exact zh _ _ hb
      · rcases dr_get k hk hr with ⟨h1, h2⟩ | ⟨u, z, h1, h2, h3⟩
        · exact .inl ⟨h1, h2⟩
        · exact .inr ⟨u, z, h1, h2, h3⟩
    | _ => cases e
  | _ => cases e
theorem any_isSome {κ : Type} [DecidableEq κ] (k : κ) : ∀ kxs : List (κ × Val), (kxs.any fun p => decide (p.1 = k)) = (dget kxs k).isSome
  | [] => rfl
  | p :: r => by
    have := any_isSome k r
    by_cases e : p.1 = k
    · simp [dget, List.find?_cons, e]
    · rw [List.any_cons, this]
      simp [dget, List.find?_cons, e]

/-! ### in -/
theorem units_room {A : Around} {k : Nat} (hr : Room k A) : A.units + 1 < cLine := by have := hr.un; omega
theorem in_room {A : Around} {k n : Nat} (hr : Room k A) (h : n ≤ 64) : A.units + 1 + n < cLine := by have := hr.un; omega
theorem inB_dict {x y : Val} {b : Bool} (e : inB x y = some b) (h : (∃ k, y = .dK k) ∨ ∃ k, y = .dT k) : ∃ o, dkGet x y = some o ∧ b = o.isSome := by
  rcases h with ⟨kxs, rfl⟩ | ⟨kxs, rfl⟩
  · obtain ⟨k, e1, rfl⟩ := Option.map_eq_some_iff.mp (show (keyOf x).map _ = some b from e)
    exact ⟨dget kxs k, by simp [dkGet, e1], any_isSome k kxs⟩
  · cases x with
    | tup xs =>
      obtain ⟨k, e1, rfl⟩ := Option.map_eq_some_iff.mp (show (keysOf xs).map _ = some b from e)
      exact ⟨dget kxs k, by simp [dkGet, e1], any_isSome k kxs⟩
    | _ => cases e
section
variable {X : Cx} {k : Nat}
theorem o_in (hr : Room k X.A) : OpR X (compareOp .In) (r2 X.K X.mg inV) := op_raw fun pins s σ Z H v w x y z u1 u2 Q I r1 r2 zh b1 b2 e q => by
  obtain ⟨b, e1, rfl⟩ := Option.map_eq_some_iff.mp e
  have hd : ((∃ k, y = .dK k) ∨ ∃ k, y = .dT k) → wpAny (model X.prog X.w) X.A (compareOp .In u1 u2) (EP X pins σ Q) X.xe s := fun h => by
    obtain ⟨o, e2, rfl⟩ := inB_dict e1 h
    obtain ⟨a, r, rfl, hg, ho⟩ := dkGet_ok zh b1 b2 e2
    cases (show u2 = Value.ref a from r2)
    refine d_in (units_room hr) I hg r1 fun s' I' => ?_
    have : r.isSome = o.isSome := by rcases ho with ⟨h1, h2⟩ | ⟨u, z, h1, h2, _⟩ <;> rw [h1, h2] <;> rfl
    rw [this]
    exact q.bl I' zh
  have hl : ∀ ys, y.py = .list (pys ys) → (x.py.plain && PyData.plainAll (pys ys) && decide (min (PyData.depthAll (pys ys)) x.py.depth ≤ 64)) = true → b = (pys ys).any (fun y => PyData.eqv y x.py) → wpAny (model X.prog X.w) X.A (compareOp .In u1 u2) (EP X pins σ Q) X.xe s := fun ys ey hc eb => by
    subst eb
    simp only [Bool.and_eq_true, decide_eq_true_eq] at hc
    obtain ⟨as, ra⟩ := reads_of I zh b1 hc.1.1 r1
    obtain ⟨bs, rb⟩ := reads_of I zh b2 (by rw [ey]; simpa [PyData.plain] using hc.1.2) r2
    rw [ey] at rb
    exact PySem.SeqAt.in_list_data rb ra hc.1.2 hc.1.1 (in_room hr hc.2) (q.bl I zh)
  have ht : ∀ ys, y.py = .tuple (pys ys) → (x.py.plain && PyData.plainAll (pys ys) && decide (min (PyData.depthAll (pys ys)) x.py.depth ≤ 64)) = true → b = (pys ys).any (fun y => PyData.eqv y x.py) → wpAny (model X.prog X.w) X.A (compareOp .In u1 u2) (EP X pins σ Q) X.xe s := fun ys ey hc eb => by
    subst eb
    simp only [Bool.and_eq_true, decide_eq_true_eq] at hc
    obtain ⟨as, ra⟩ := reads_of I zh b1 hc.1.1 r1
    obtain ⟨bs, rb⟩ := reads_of I zh b2 (by rw [ey]; simpa [PyData.plain] using hc.1.2) r2
    rw [ey] at rb
    exact PySem.SeqAt.in_tuple_data rb ra hc.1.2 hc.1.1 (in_room hr hc.2) (q.bl I zh)
  cases y with
  | dK kxs => exact hd (.inl ⟨_, rfl⟩)
  | dT kxs => exact hd (.inr ⟨_, rfl⟩)
  | lst ys =>
    simp only [inB] at e1
    split at e1
    · rename_i hc; exact hl ys (by simp [Val.py]) hc (Option.some.inj e1).symm
    · cases e1
  | tup ys =>
    simp only [inB] at e1
    split at e1
    · rename_i hc; exact ht ys (by simp [Val.py]) hc (Option.some.inj e1).symm
    · cases e1
  | ktup ys =>
    simp only [inB] at e1
    split at e1
    · rename_i hc; exact ht ys (by simp [Val.py]) hc (Option.some.inj e1).symm
    · cases e1
  | str t =>
    cases x with
    | str s' =>
      cases e1
      cases bor_str b1
      cases bor_str b2
      exact op_in_str pins s σ H _ _ u1 u2 Q I r1 r2 ⟨_, _, rfl, rfl, q.here zh (.bl _)⟩
    | _ => cases e1
  | _ => cases e1
theorem o_nin (hr : Room k X.A) : OpR X (compareOp .NotIn) (r2 X.K X.mg ninV) := op_raw fun pins s σ Z H v w x y z u1 u2 Q I r1 r2 zh b1 b2 e q => by
  obtain ⟨b, e1, rfl⟩ := Option.map_eq_some_iff.mp e
  have hd : ((∃ k, y = .dK k) ∨ ∃ k, y = .dT k) → wpAny (model X.prog X.w) X.A (compareOp .NotIn u1 u2) (EP X pins σ Q) X.xe s := fun h => by
    obtain ⟨o, e2, rfl⟩ := inB_dict e1 h
    obtain ⟨a, r, rfl, hg, ho⟩ := dkGet_ok zh b1 b2 e2
    cases (show u2 = Value.ref a from r2)
    refine d_notIn (units_room hr) I hg r1 fun s' I' => ?_
    have : r.isSome = o.isSome := by rcases ho with ⟨h1, h2⟩ | ⟨u, z, h1, h2, _⟩ <;> rw [h1, h2] <;> rfl
    rw [this]
    exact q.bl I' zh
  have hl : ∀ ys, y.py = .list (pys ys) → (x.py.plain && PyData.plainAll (pys ys) && decide (min (PyData.depthAll (pys ys)) x.py.depth ≤ 64)) = true → b = (pys ys).any (fun y => PyData.eqv y x.py) → wpAny (model X.prog X.w) X.A (compareOp .NotIn u1 u2) (EP X pins σ Q) X.xe s := fun ys ey hc eb => by
    subst eb
    simp only [Bool.and_eq_true, decide_eq_true_eq] at hc
    obtain ⟨as, ra⟩ := reads_of I zh b1 hc.1.1 r1
    obtain ⟨bs, rb⟩ := reads_of I zh b2 (by rw [ey]; simpa [PyData.plain] using hc.1.2) r2
    rw [ey] at rb
    exact PySem.SeqAt.notIn_list_data rb ra hc.1.2 hc.1.1 (in_room hr hc.2) (q.bl I zh)
  have ht : ∀ ys, y.py = .tuple (pys ys) → (x.py.plain && PyData.plainAll (pys ys) && decide (min (PyData.depthAll (pys ys)) x.py.depth ≤ 64)) = true → b = (pys ys).any (fun y => PyData.eqv y x.py) → wpAny (model X.prog X.w) X.A (compareOp .NotIn u1 u2) (EP X pins σ Q) X.xe s := fun ys ey hc eb => by
    subst eb
    simp only [Bool.and_eq_true, decide_eq_true_eq] at hc
    obtain ⟨as, ra⟩ := reads_of I zh b1 hc.1.1 r1
    obtain ⟨bs, rb⟩ := reads_of I zh b2 (by rw [ey]; simpa [PyData.plain] using hc.1.2) r2
    rw [ey] at rb
    exact PySem.SeqAt.notIn_tuple_data rb ra hc.1.2 hc.1.1 (in_room hr hc.2) (q.bl I zh)
  cases y with
  | dK kxs => exact hd (.inl ⟨_, rfl⟩)
  | dT kxs => exact hd (.inr ⟨_, rfl⟩)
  | lst ys =>
    simp only [inB] at e1
    split at e1
    · rename_i hc; exact hl ys (by simp [Val.py]) hc (Option.some.inj e1).symm
    · cases e1
  | tup ys =>
    simp only [inB] at e1
    split at e1
    · rename_i hc; exact ht ys (by simp [Val.py]) hc (Option.some.inj e1).symm
    · cases e1
  | ktup ys =>
    simp only [inB] at e1
    split at e1
    · rename_i hc; exact ht ys (by simp [Val.py]) hc (Option.some.inj e1).symm
    · cases e1
  | str t =>
    cases x with
    | str s' =>
      cases e1
      cases bor_str b1
      cases bor_str b2
      exact op_notin_str pins s σ H _ _ u1 u2 Q I r1 r2 ⟨_, _, rfl, rfl, q.here zh (.bl _)⟩
    | _ => cases e1
  | _ => cases e1

/-! ### subscripts -/
def ixV : Val → Val → Option Val
  | .lst xs, .int i => atI xs i
  | .tup xs, .int i => atI xs i
  | .ktup xs, .int i => atI xs i
  | .scr xs, .int i => (atI xs i).map .int
  | .str z, .int i => if z.length ≤ sizeLine then (atI z.cps.toList i).map fun c => .str ⟨#[c]⟩ else none
  | _, _ => none
def ixD (x y : Val) : Option Val := match dkGet y x with
  | some (some z) => some z
  | _ => none
theorem Rls.atI {K : PySem.W.Frag} {mg : MG} {Z : Hp} {vs : List V} {xs : List Val} {i : Int} {x : Val} (r : Rls K mg Z vs xs) (e : atI xs i = some x) : ∃ v, atI vs i = some v ∧ Rl K mg Z v x := by
  unfold L2.atI at e ⊢
  rw [r.length]
  obtain ⟨j, e1, e2⟩ := Option.bind_eq_some_iff.mp e
  obtain ⟨v, h1, h2⟩ := r.get e2
  exact ⟨v, by rw [e1]; exact h1, h2⟩
theorem i_ix : IxR X (r2 X.K X.mg ixV) := IxR.imp ix_seq fun v w H Q ⟨Z, x, y, z, zh, b1, b2, e, q⟩ => by
  unfold ixV at e
  split at e
  · obtain ⟨a, vs, rfl, h1, r1⟩ := bor_lst zh b1
    cases bor_int b2
    obtain ⟨u, e1, r⟩ := r1.atI e
    exact .inl ⟨a, vs, _, u, rfl, rfl, SqL.of h1, e1, q.here zh r⟩
  · obtain ⟨a, vs, rfl, h1, r1⟩ := bor_tup b1
    cases bor_int b2
    obtain ⟨u, e1, r⟩ := r1.atI e
    exact .inr (.inl ⟨a, vs, _, u, rfl, rfl, SqT.of (zh _ _ h1), e1, q.here zh r⟩)
  · obtain ⟨a, vs, rfl, h1, r1⟩ := bor_ktup b1
    cases bor_int b2
    obtain ⟨u, e1, r⟩ := r1.atI e
    exact .inr (.inl ⟨a, vs, _, u, rfl, rfl, seqT_mono zh h1, e1, q.here zh r⟩)
  · obtain ⟨a, rfl, h1⟩ := bor_scr b1
    cases bor_int b2
    obtain ⟨n, e1, rfl⟩ := Option.map_eq_some_iff.mp e
    refine .inl ⟨a, _, _, .int n, rfl, rfl, zh.seq h1, ?_, q.here zh (.int n)⟩
    unfold atI at e1 ⊢
    rw [List.length_map]
    obtain ⟨j, e2, e3⟩ := Option.bind_eq_some_iff.mp e1
    rw [e2]
    show (List.map V.int _)[j]? = _
    rw [List.getElem?_map, e3]
    rfl
  · split at e
    · rename_i hl
      cases bor_str b1
      cases bor_int b2
      obtain ⟨c, e1, rfl⟩ := Option.map_eq_some_iff.mp e
      exact .inr (.inr ⟨_, _, c, rfl, rfl, hl, e1, q.here zh (.str _)⟩)
    · cases e
  · cases e
end

/-- d[k] -/
theorem pv_ixD {X : Cx} {k : Nat} {a b : Expr} {da db : DH} {pos : Pos} (hr : Room k X.A) (ha : PH X a da) (hb : PH X b db) (hs : NoSl b := by intro _ _; rfl) : PV X (.Subscript a b pos) (d2 ixD da db) := PE.imp (pe_dget (units_room hr) ha hb hs) fun σ H Q h => by
  have h' := run2 h
  refine tmono2 h' fun v w H2 ⟨Z, x, y, z, zh, b1, b2, e, q⟩ => ?_
  unfold ixD at e
  split at e
  · rename_i z' e1
    cases e
    obtain ⟨c, r, rfl, hg, ho⟩ := dkGet_ok zh b2 b1 e1
    rcases ho with ⟨h1, _⟩ | ⟨u, z2, h1, h2, h3⟩
    · cases h1
    · cases h1
      subst h2
      exact ⟨c, u, rfl, hg, q.here zh h3⟩
  · cases e
where
  tmono2 {X : Cx} {da db : DH} {σ : L2.St} {H : Hp} {R R' : V → V → Hp → Prop} (h : TH X.K X.mg da σ H fun v H1 => TH X.K X.mg db σ H1 fun w H2 => R v w H2) (i : ∀ v w H2, R v w H2 → R' v w H2) : TH X.K X.mg da σ H fun v H1 => TH X.K X.mg db σ H1 fun w H2 => R' v w H2 := by
    obtain ⟨Z, O, C, ρ, R0, x, ρ', q, k⟩ := h
    refine ⟨Z, O, C, ρ, R0, x, ρ', q, fun v H' Z' O' ex R' r => ?_⟩
    obtain ⟨Z, O, C, ρ, R0, x, ρ', q, k⟩ := k v H' Z' O' ex R' r
    exact ⟨Z, O, C, ρ, R0, x, ρ', q, fun w H' Z' O' ex R' r => i _ _ _ (k w H' Z' O' ex R' r)⟩
end Ev

/-! Ev: slices, displays, arguments, built-in calls, tests. -/
namespace Ev
open PySem PySem.Spec PyProof.Rows L2

/-! ### what an operand list is -/
inductive BorRs (K : PySem.W.Frag) (mg : MG) (Z H : Hp) : List V → List Val → Prop
  | nil : BorRs K mg Z H [] []
  | cons {v : V} {x : Val} {vs : List V} {xs : List Val} : BorR K mg Z H v x → BorRs K mg Z H vs xs → BorRs K mg Z H (v :: vs) (x :: xs)
def derefs (ρ : Env) : List Hd → Option (List Val)
  | [] => some []
  | h :: hs => (deref ρ h).bind fun x => (derefs ρ hs).map fun xs => x :: xs
theorem derefs_bor {K : PySem.W.Frag} {mg : MG} {Z H : Hp} {O : Lab} {C : Lk} {σ : L2.St} {ρ : Env} (R : EnvR K mg Z H O C σ ρ) : ∀ {vs : List V} {hs : List Hd} {xs : List Val}, HdRs K mg Z σ vs hs → derefs ρ hs = some xs → BorRs K mg Z H vs xs
  | _, _, _, .nil, e => by cases e; exact .nil
  | _, _, _, .cons r t, e => by
    obtain ⟨x, e1, e⟩ := Option.bind_eq_some_iff.mp e
    obtain ⟨xs, e2, rfl⟩ := Option.map_eq_some_iff.mp e
    exact .cons (deref_bor R r e1) (derefs_bor R t e2)
def takes (ρ : Env) : List Hd → Option (List Val × Env)
  | [] => some ([], ρ)
  | h :: hs => (takeV h ρ).bind fun p => (takes p.2 hs).map fun q => (p.1 :: q.1, q.2)
theorem takes_ok {K : PySem.W.Frag} {mg : MG} {H : Hp} {C : Lk} {σ : L2.St} : ∀ {Z : Hp} {O : Lab} {ρ : Env} {vs : List V} {hs : List Hd} {xs : List Val} {ρ' : Env}, EnvR K mg Z H O C σ ρ → HdRs K mg Z σ vs hs → takes ρ hs = some (xs, ρ') →
    ∃ Z' O', Ext Z H O Z' H O' ∧ EnvR K mg Z' H O' C σ ρ' ∧ Rls K mg Z' vs xs
  | Z, O, _, _, _, _, _, R, .nil, e => by cases e; exact ⟨Z, O, Ext.refl _ _ _, R, .nil⟩
  | Z, O, _, _, _, _, _, R, .cons r t, e => by
    obtain ⟨⟨x, ρ1⟩, e1, e⟩ := Option.bind_eq_some_iff.mp e
    obtain ⟨⟨xs, ρ2⟩, e2, e⟩ := Option.map_eq_some_iff.mp e
    cases e
    obtain ⟨Z1, O1, x1, R1, r1⟩ := takeV_ok R r e1
    obtain ⟨Z2, O2, x2, R2, r2⟩ := takes_ok R1 (t.mono x1.z) e2
    exact ⟨Z2, O2, x1.trans x2, R2, .cons (r1.mono x2.z) r2⟩

/-! ### arguments -/
def aNil : DA := fun ρ => .ok ([], ρ)
def aCons (d : DH) (ds : DA) : DA := fun ρ => (d ρ).bind fun p => (ds p.2).bind fun q => .ok (p.1 :: q.1, q.2)
section
variable {X : Cx}
theorem as_nil : PAs X [] aNil := PA.imp pa_nil fun σ H Q ⟨Z, O, C, ρ, R, hs, ρ', q, k⟩ => by
  cases q
  exact k [] H Z O (Ext.refl _ _ _) R .nil
theorem as_cons {e : Expr} {es : List Expr} {d : DH} {ds : DA} (ha : PH X e d) (hr : PAs X es ds) (hs : starEach (e :: es) X.env = (false, eval e X.env) :: starEach es X.env := by rfl) : PAs X (e :: es) (aCons d ds) :=
  PA.imp (pa_cons ha hr hs) fun σ H Q ⟨Z, O, C, ρ, R, hs, ρ', q, k⟩ => by
    obtain ⟨⟨h1, ρ1⟩, e1, q⟩ := Out.bind_ok q
    obtain ⟨⟨h2, ρ2⟩, e2, q⟩ := Out.bind_ok q
    cases q
    refine ⟨Z, O, C, ρ, R, h1, ρ1, e1, fun v H1 Z1 O1 x1 R1 r1 => ⟨Z1, O1, C, ρ1, R1, h2, ρ2, e2, fun vs H2 Z2 O2 x2 R2 r2 => ?_⟩⟩
    exact k (v :: vs) H2 Z2 O2 (x1.trans x2) R2 (.cons (r1.mono x2.z) r2)

/-! ### built-in calls -/
def rN (K : PySem.W.Frag) (mg : MG) (g : List Val → Option Val) : List V → Hp → VK → Prop := fun vs H Q => ∃ Z xs z, Same Z H ∧ BorRs K mg Z H vs xs ∧ g xs = some z ∧ PQ K mg Z H z Q
def dN (g : List Val → Option Val) (d : DA) : DV := fun ρ => (d ρ).bind fun p => Out.of ((derefs p.2 p.1).bind fun xs => (g xs).map fun z => (z, p.2))
theorem runN {K : PySem.W.Frag} {mg : MG} {d : DA} {g : List Val → Option Val} {σ : L2.St} {H : Hp} {Q : VK} (h : TV K mg (dN g d) σ H Q) : TAs K mg d σ H fun vs H1 => rN K mg g vs H1 Q := by
  obtain ⟨Z, O, C, ρ, R, x, ρ', q, k⟩ := h
  obtain ⟨⟨hs, ρ1⟩, e1, q⟩ := Out.bind_ok q
  obtain ⟨xs, e2, q⟩ := Option.bind_eq_some_iff.mp (Out.of_ok q)
  obtain ⟨z, e3, q⟩ := Option.map_eq_some_iff.mp q
  cases q
  exact ⟨Z, O, C, ρ, R, hs, ρ1, e1, fun vs H1 Z1 O1 x1 R1 r1 => ⟨Z1, xs, _, R1.zh, derefs_bor R1 r1 e2, e3, fun u Z3 H3 gr r => k u H3 Z3 O1 (x1.trans gr.ext) (R1.grow gr) r⟩⟩
variable {x : Str} {p pos : Pos} {e : Expr} {es : List Expr} {d : DA} {id T : String} {g : List Val → Option Val}
theorem pv_callB (hc : CallR X (.builtin id) (rN X.K X.mg g)) (hg : Gl X x) (hm : X.mg x = none) (hv : bootBuiltins x = some (.builtin id)) (ha : PAs X (e :: es) d) (hn : x ≠ "__name__" := by decide) (hdb : (x == ("__debug__" : Str)) = false := by decide)
    (he : starEach (e :: es) X.env = (false, eval e X.env) :: starEach es X.env := by rfl) (hpl : (backTo pos (starEach es X.env)).any (·.1) = false := by rfl) : PV X (.Call (.Name x p) (e :: es) [] pos) (dN g d) :=
  PE.imp (pe_callB hc hg hm hv ha hn hdb he hpl) fun _ _ _ => runN
theorem pv_callTy (hc : CallR X (.type T) (rN X.K X.mg g)) (hg : Gl X x) (hm : X.mg x = none) (hv : bootBuiltins x = some (.type T)) (ha : PAs X (e :: es) d) (hn : x ≠ "__name__" := by decide) (hdb : (x == ("__debug__" : Str)) = false := by decide)
    (he : starEach (e :: es) X.env = (false, eval e X.env) :: starEach es X.env := by rfl) (hpl : (backTo pos (starEach es X.env)).any (·.1) = false := by rfl) : PV X (.Call (.Name x p) (e :: es) [] pos) (dN g d) :=
  PE.imp (pe_callTy hc hg hm hv ha hn hdb he hpl) fun _ _ _ => runN
end

/-! ### slices -/
def cutL {α : Type} (xs : List α) (lo hi : Option Int) : List α := (xs.drop (HT.sIx xs.length 0 lo)).take (HT.sIx xs.length xs.length hi - HT.sIx xs.length 0 lo)
def slV (x : Val) (lo hi : Option Int) : Option Val := match x with
  | .lst xs => some (.lst (cutL xs lo hi))
  | .tup xs => some (.tup (cutL xs lo hi))
  | .scr ns => some (.lst ((cutL ns lo hi).map .int))
  | .str z => if z.length ≤ sizeLine then some (.str (cutS z lo hi)) else none
  | _ => none
abbrev DP := Env → Out (Option Int × Env)
def pNone : DP := fun ρ => .ok (none, ρ)
def pSome (d : DV) : DP := fun ρ => (d ρ).bind fun p => match p.1 with
  | .int i => .ok (some i, p.2)
  | _ => .bad
def TPo (K : PySem.W.Frag) (mg : MG) (d : DP) : TO := fun σ H Q => ∃ Z O C ρ, EnvR K mg Z H O C σ ρ ∧ ∃ o ρ', d ρ = .ok (o, ρ') ∧
  ∀ H' Z' O', Ext Z H O Z' H' O' → EnvR K mg Z' H' O' C σ ρ' → Q o H'
abbrev POo (X : Cx) (e : Option Expr) (d : DP) : Prop := PO X e (TPo X.K X.mg d)
theorem PO.imp {X : Cx} {e : Option Expr} {t t' : TO} (h : PO X e t) (i : ∀ σ H Q, t' σ H Q → t σ H Q) : PO X e t' := ⟨fun pins s σ H Q I q => h.run pins s σ H Q I (i σ H Q q)⟩
section
variable {X : Cx}
theorem pp_none : POo X none pNone := PO.imp po_none fun σ H Q ⟨Z, O, C, ρ, R, o, ρ', q, k⟩ => by cases q; exact k H Z O (Ext.refl _ _ _) R
theorem pp_some {e : Expr} {d : DV} (h : PV X e d) : POo X (some e) (pSome d) := PO.imp (po_some h) fun σ H Q ⟨Z, O, C, ρ, R, o, ρ', q, k⟩ => by
  obtain ⟨⟨x, ρ1⟩, e1, q⟩ := Out.bind_ok q
  refine ⟨Z, O, C, ρ, R, x, ρ1, e1, fun v H1 Z1 O1 x1 R1 r1 => ?_⟩
  cases x with
  | int i =>
    cases q
    cases r1
    exact ⟨i, rfl, k H1 Z1 O1 x1 R1⟩
  | _ => cases q
def dSl (da : DH) (dl dh : DP) : DV := fun ρ => (da ρ).bind fun p => (dl p.2).bind fun l => (dh l.2).bind fun h => Out.of ((deref h.2 p.1).bind fun x => (slV x l.1 h.1).map fun z => (z, h.2))
def rSl (K : PySem.W.Frag) (mg : MG) : V → Option Int → Option Int → Hp → VK → Prop := fun v lo hi H Q => ∃ Z x z, Same Z H ∧ BorR K mg Z H v x ∧ slV x lo hi = some z ∧ PQ K mg Z H z Q
theorem sIx_whole {n : Nat} {lo hi : Option Int} {α : Type} {xs : List α} (hn : xs.length = n) (h : HT.sIx n 0 lo = 0 ∧ HT.sIx n n hi = n) : cutL xs lo hi = xs := by
  subst hn
  unfold cutL
  rw [h.1, h.2]
  simp
theorem s_sl : SlR X (rSl X.K X.mg) := SlR.imp (sl_list.or (sl_tupA.or sl_str)) fun v lo hi H Q ⟨Z, x, z, zh, b, e, q⟩ => by
  cases x with
  | lst xs =>
    cases e
    obtain ⟨a, vs, rfl, h1, r1⟩ := bor_lst zh b
    refine .inl ⟨a, vs, rfl, SqL.of h1, fun p hp => q.newL zh hp ?_⟩
    unfold cutV cutL
    rw [r1.length]
    exact (r1.drop _).take _
  | scr ns =>
    cases e
    obtain ⟨a, rfl, h1⟩ := bor_scr b
    refine .inl ⟨a, _, rfl, zh.seq h1, fun p hp => q.newL zh hp ?_⟩
    have : cutV (ns.map V.int) lo hi = (cutL ns lo hi).map V.int := by unfold cutV cutL; rw [List.length_map, ← List.map_drop, ← List.map_take]
    rw [this]
    exact Rls.ints _
  | tup xs =>
    cases e
    obtain ⟨a, vs, rfl, h1, r1⟩ := bor_tup b
    refine .inr (.inl ⟨a, vs, rfl, SqT.of (zh _ _ h1), fun hw => ?_, fun hw p hp => q.newT zh hp ?_⟩)
    · rw [sIx_whole r1.length.symm hw] at q
      exact q.here zh (.tup h1 r1)
    · unfold cutV cutL
      rw [r1.length]
      exact (r1.drop _).take _
  | str z' =>
    simp only [slV] at e
    split at e
    · rename_i hl
      cases e
      cases bor_str b
      exact .inr (.inr ⟨_, rfl, hl, q.here zh (.str _)⟩)
    · cases e
  | _ => cases e
theorem pv_slice {e : Expr} {lo hi : Option Expr} {da : DH} {dl dh : DP} {p2 pos : Pos} (he : PH X e da) (hl : POo X lo dl) (hu : POo X hi dh) : PV X (.Subscript e (.Slice lo hi none p2) pos) (dSl da dl dh) :=
  PE.imp (pe_slice s_sl he hl hu) fun σ H Q ⟨Z, O, C, ρ, R, x, ρ', q, k⟩ => by
    obtain ⟨⟨h1, ρ1⟩, e1, q⟩ := Out.bind_ok q
    obtain ⟨⟨l, ρ2⟩, e2, q⟩ := Out.bind_ok q
    obtain ⟨⟨u, ρ3⟩, e3, q⟩ := Out.bind_ok q
    obtain ⟨y, e4, q⟩ := Option.bind_eq_some_iff.mp (Out.of_ok q)
    obtain ⟨z, e5, q⟩ := Option.map_eq_some_iff.mp q
    cases q
    refine ⟨Z, O, C, ρ, R, h1, ρ1, e1, fun v H1 Z1 O1 x1 R1 r1 => ⟨Z1, O1, C, ρ1, R1, l, ρ2, e2, fun H2 Z2 O2 x2 R2 => ⟨Z2, O2, C, ρ2, R2, u, ρ3, e3, fun H3 Z3 O3 x3 R3 => ?_⟩⟩⟩
    exact ⟨Z3, y, _, R3.zh, deref_bor R3 (r1.mono (x2.z.trans x3.z)) e4, e5, fun w Z4 H4 gr r => k w H4 Z4 O3 ((x1.trans (x2.trans x3)).trans gr.ext) (R3.grow gr) r⟩
end

/-! ### displays -/
def dTup (d : DA) : DV := fun ρ => (d ρ).bind fun p => Out.of ((takes p.2 p.1).bind fun q => if q.1.length ≤ sizeLine then some (.tup q.1, q.2) else none)
section
variable {X : Cx}
theorem pv_tup {es : List Expr} {d : DA} {pos : Pos} {k1} (h : PAs X es d) : PV X (.Tuple es k1 pos) (dTup d) := PE.imp (pe_tup h) fun σ H Q ⟨Z, O, C, ρ, R, x, ρ', q, k⟩ => by
  obtain ⟨⟨hs, ρ1⟩, e1, q⟩ := Out.bind_ok q
  obtain ⟨⟨xs, ρ2⟩, e2, q⟩ := Option.bind_eq_some_iff.mp (Out.of_ok q)
  refine ⟨Z, O, C, ρ, R, hs, ρ1, e1, fun vs H1 Z1 O1 x1 R1 r1 => ?_⟩
  split at q
  · rename_i hl
    cases q
    obtain ⟨Z2, O2, x2, R2, r2⟩ := takes_ok R1 r1 e2
    refine ⟨by rw [r2.length]; exact hl, fun p hp => ?_⟩
    let gr := Grow.newZ (o := .tup vs) R2.zh hp
    exact k _ _ _ O2 ((x1.trans x2).trans gr.ext) (R2.grow gr) (.tup upd_same (r2.mono gr.z))
  · cases q
end

/-! ### owned results -/
/-- v is a new thing, nobody else's -/
def OwR (K : PySem.W.Frag) (mg : MG) (Z H : Hp) (O : Lab) (C : Lk) (H0 : Hp) (v : V) : Sl → Prop
  | .fz x => Rl K mg Z v x
  | .own xs => ∃ a vs, v = .ref a ∧ O a = none ∧ Z a = none ∧ C a = none ∧ H0 a = none ∧ H a = some (.lst vs) ∧ Rls K mg Z vs xs
  | .odK kxs => ∃ a kvs, v = .ref a ∧ O a = none ∧ Z a = none ∧ C a = none ∧ H0 a = none ∧ H a = some (.dK kvs) ∧ kvs.map (·.1) = kxs.map (·.1) ∧ Rls K mg Z (kvs.map (·.2)) (kxs.map (·.2))
  | .odT kxs => ∃ a kvs, v = .ref a ∧ O a = none ∧ Z a = none ∧ C a = none ∧ H0 a = none ∧ H a = some (.dT kvs) ∧ kvs.map (·.1) = kxs.map (·.1) ∧ Rls K mg Z (kvs.map (·.2)) (kxs.map (·.2))
  | .own2 xss => ∃ a bs, v = .ref a ∧ (∀ b ∈ a :: bs, O b = none ∧ Z b = none ∧ C b = none ∧ H0 b = none) ∧ (a :: bs).Nodup ∧ H a = some (.lst (bs.map V.ref)) ∧ Paired (fun b xs => ∃ ws, H b = some (.lst ws) ∧ Rls K mg Z ws xs) bs xss
  | .box cells d s => ∃ a c, v = .ref a ∧ a ≠ c ∧ (∀ b, b = a ∨ b = c → O b = none ∧ Z b = none ∧ C b = none ∧ H0 b = none) ∧ H a = some (.lst [.ref c, .int d, .int s]) ∧ H c = some (.lst (cells.map V.int))
  | _ => False
def TOw (K : PySem.W.Frag) (mg : MG) (d : DO) : TE := fun σ H Q => ∃ Z O C ρ, EnvR K mg Z H O C σ ρ ∧ ∃ s ρ', d ρ = .ok (s, ρ') ∧
  ∀ v H' Z' O', Ext Z H O Z' H' O' → EnvR K mg Z' H' O' C σ ρ' → OwR K mg Z' H' O' C H v s → Q v H'
abbrev POw (X : Cx) (e : Expr) (d : DO) : Prop := PE X e (TOw X.K X.mg d)
def dOV (d : DV) : DO := fun ρ => (d ρ).bind fun p => .ok (.fz p.1, p.2)
theorem pow_of {X : Cx} {e : Expr} {d : DV} (h : PV X e d) : POw X e (dOV d) := PE.imp h fun σ H Q ⟨Z, O, C, ρ, R, s, ρ', q, k⟩ => by
  obtain ⟨⟨x, ρ1⟩, e1, q⟩ := Out.bind_ok q
  cases q
  exact ⟨Z, O, C, ρ, R, x, ρ1, e1, fun v H' Z' O' ex R' r => k v H' Z' O' ex R' r⟩
/-- as a value -/
def dVO (d : DO) : DV := fun ρ => (d ρ).bind fun p => Out.of ((frOf p.1).map fun x => (x, p.2))
theorem EnvR.freezeAll {K : PySem.W.Frag} {mg : MG} {Z H : Hp} {O : Lab} {C : Lk} {σ : L2.St} {ρ : Env} {Z0 H0 : Hp} {O0 : Lab} (x : Ext Z0 H0 O0 Z H O) (R : EnvR K mg Z H O C σ ρ) (A : Addr → Bool) (h : ∀ b, A b = true → O b = none ∧ Z b = none ∧ H0 b = none) :
    let Z' : Hp := fun b => if A b = true then H b else Z b
    Same Z Z' ∧ EnvR K mg Z' H O C σ ρ ∧ Ext Z0 H0 O0 Z' H O := by
  have hz : Same Z (fun b => if A b = true then H b else Z b) := fun b o e => by
    show (if A b = true then H b else Z b) = some o
    split
    · rename_i hb
      rw [(h b hb).2.1] at e; cases e
    · exact e
  refine ⟨hz, ⟨R.len, fun b o e => ?_, R.ch, fun b hb => ?_, R.ob, fun i s e => (R.sl i s e).keep hz fun b q hb => ⟨rfl, hb⟩⟩, ⟨x.z.trans hz, x.h, x.t, x.o, fun b hb => ?_⟩⟩
  · have e : (if A b = true then H b else Z b) = some o := e
    split at e
    · exact e
    · exact R.zh b o e
  · obtain ⟨h1, h2, h3⟩ := R.oz b hb
    refine ⟨?_, h2, h3⟩
    show (if A b = true then H b else Z b) = none
    rw [if_neg]
    · exact h1
    · intro z
      exact hb (h b z).1
  · have hb : (if A b = true then H b else Z b) ≠ none := hb
    split at hb
    · rename_i ha; exact .inr (.inl (h b ha).2.2)
    · exact x.zn b hb
theorem OwR.freeze {K : PySem.W.Frag} {mg : MG} {Z H : Hp} {O : Lab} {C : Lk} {H0 : Hp} {σ : L2.St} {ρ : Env} {v : V} {s : Sl} {x : Val} {Z0 : Hp} {O0 : Lab} (ex : Ext Z0 H0 O0 Z H O) (R : EnvR K mg Z H O C σ ρ) (r : OwR K mg Z H O C H0 v s) (f : frOf s = some x) :
    ∃ Z', Ext Z0 H0 O0 Z' H O ∧ EnvR K mg Z' H O C σ ρ ∧ Rl K mg Z' v x := by
  cases s with
  | no => cases f
  | fz y => cases f; exact ⟨Z, ex, R, r⟩
  | own xs =>
    cases f
    obtain ⟨a, vs, rfl, h1, h2, h3, h4, h5, h6⟩ := r
    obtain ⟨hz, R', ex⟩ := EnvR.freezeAll ex R (fun b => decide (b = a)) fun b hb => by cases of_decide_eq_true hb; exact ⟨h1, h2, h4⟩
    exact ⟨_, ex, R', .lst (by simpa using h5) (h6.mono hz)⟩
  | odK k =>
    cases f
    obtain ⟨a, vs, rfl, h1, h2, h3, h4, h5, h6, h7⟩ := r
    obtain ⟨hz, R', ex⟩ := EnvR.freezeAll ex R (fun b => decide (b = a)) fun b hb => by cases of_decide_eq_true hb; exact ⟨h1, h2, h4⟩
    exact ⟨_, ex, R', .dK (by simpa using h5) h6 (h7.mono hz)⟩
  | odT k =>
    cases f
    obtain ⟨a, vs, rfl, h1, h2, h3, h4, h5, h6, h7⟩ := r
    obtain ⟨hz, R', ex⟩ := EnvR.freezeAll ex R (fun b => decide (b = a)) fun b hb => by cases of_decide_eq_true hb; exact ⟨h1, h2, h4⟩
    exact ⟨_, ex, R', .dT (by simpa using h5) h6 (h7.mono hz)⟩
  | own2 xss =>
    cases f
    obtain ⟨a, bs, rfl, h1, h2, h3, h4⟩ := r
    obtain ⟨hz, R', ex⟩ := EnvR.freezeAll ex R (fun b => decide (b ∈ a :: bs)) fun b hb => by
      obtain ⟨k1, k2, k3, k4⟩ := h1 b (of_decide_eq_true hb)
      exact ⟨k1, k2, k4⟩
    refine ⟨_, ex, R', .lst (vs := bs.map V.ref) (by simpa using h3) ?_⟩
    have go : ∀ {bs' : List Addr} {xss : List (List Val)}, (∀ b ∈ bs', b ∈ a :: bs) → Paired (fun b xs => ∃ ws, H b = some (.lst ws) ∧ Rls K mg Z ws xs) bs' xss → Rls K mg (fun b => if decide (b ∈ a :: bs) = true then H b else Z b) (bs'.map V.ref) (xss.map Val.lst) := by
      intro bs' xss hm hp
      induction hp with
      | nil => exact .nil
      | cons q t ih =>
        obtain ⟨ws, q1, q2⟩ := q
        refine .cons (.lst (vs := ws) ?_ (q2.mono hz)) (ih fun b hb => hm b (List.mem_cons_of_mem _ hb))
        rw [if_pos (decide_eq_true (hm _ List.mem_cons_self))]
        exact q1
    exact go (fun b hb => List.mem_cons_of_mem _ hb) h4
  | lck _ => cases f
  | par _ => cases f
  | box _ _ _ => cases f
  | pbox _ _ _ => cases f
theorem pv_own {X : Cx} {e : Expr} {d : DO} (h : POw X e d) : PV X e (dVO d) := PE.imp h fun σ H Q ⟨Z, O, C, ρ, R, x, ρ', q, k⟩ => by
  obtain ⟨⟨s, ρ1⟩, e1, q⟩ := Out.bind_ok q
  obtain ⟨y, e2, q⟩ := Option.map_eq_some_iff.mp (Out.of_ok q)
  cases q
  refine ⟨Z, O, C, ρ, R, s, ρ1, e1, fun v H' Z' O' ex R' r => ?_⟩
  obtain ⟨Z2, x2, R2, r2⟩ := OwR.freeze ex R' r e2
  exact k v H' Z2 O' x2 R2 r2
/-- a list display, as a new list -/
def dLst (d : DA) : DO := fun ρ => (d ρ).bind fun p => Out.of ((takes p.2 p.1).bind fun q => if q.1.length ≤ sizeLine then some (.own q.1, q.2) else none)
theorem EnvR.fresh {K : PySem.W.Frag} {mg : MG} {Z H : Hp} {O : Lab} {C : Lk} {σ : L2.St} {ρ : Env} (R : EnvR K mg Z H O C σ ρ) {p : Addr} (hp : H p = none) : O p = none ∧ Z p = none ∧ C p = none := by
  refine ⟨?_, R.zh.free hp, R.ch.free hp⟩
  cases e : O p with
  | none => rfl
  | some q => exact absurd hp (R.oz p (by rw [e]; simp)).2.2
theorem Ext.fresh {Z H : Hp} {O : Lab} {Z' H' : Hp} {O' : Lab} (x : Ext Z H O Z' H' O') {p : Addr} (hp : H' p = none) : H p = none := by
  cases e : H p with
  | none => rfl
  | some o => exact absurd hp (x.t p (by rw [e]; simp))
theorem pow_lst {X : Cx} {es : List Expr} {d : DA} {pos : Pos} (h : PAs X es d) : POw X (.List es pos) (dLst d) := PE.imp (pe_lst h) fun σ H Q ⟨Z, O, C, ρ, R, x, ρ', q, k⟩ => by
  obtain ⟨⟨hs, ρ1⟩, e1, q⟩ := Out.bind_ok q
  obtain ⟨⟨xs, ρ2⟩, e2, q⟩ := Option.bind_eq_some_iff.mp (Out.of_ok q)
  refine ⟨Z, O, C, ρ, R, hs, ρ1, e1, fun vs H1 Z1 O1 x1 R1 r1 => ?_⟩
  split at q
  · rename_i hl
    cases q
    obtain ⟨Z2, O2, x2, R2, r2⟩ := takes_ok R1 r1 e2
    refine ⟨by rw [r2.length]; exact hl, fun p hp => ?_⟩
    let gr := Grow.newH (o := .lst vs) R2.zh hp
    obtain ⟨f1, f2, f3⟩ := R2.fresh hp
    exact k _ _ _ O2 ((x1.trans x2).trans gr.ext) (R2.grow gr) ⟨p, vs, rfl, f1, f2, f3, x1.fresh hp, upd_same, r2⟩
  · cases q
end Ev

/-! Ev: tests, and, or, not, chains, conditional expressions, one-place operations, built-in functions. -/
namespace Ev
open PySem PySem.Spec PyProof.Rows L2

/-! ### truth -/
def truth : Val → Option Bool
  | .non => some false
  | .bl b => some b
  | .int i => some (i != 0)
  | .str s => if s.length ≤ sizeLine then some ((s.length : Int) != 0) else none
  | .tup xs => some (!xs.isEmpty)
  | .ktup xs => some (!xs.isEmpty)
  | .lst xs => some (!xs.isEmpty)
  | .scr xs => some (!xs.isEmpty)
  | .dK xs => some (!xs.isEmpty)
  | _ => none
theorem Rls.isEmpty {K : PySem.W.Frag} {mg : MG} {Z : Hp} {vs : List V} {xs : List Val} (r : Rls K mg Z vs xs) : vs.isEmpty = xs.isEmpty := by cases r <;> rfl
theorem truth_ok {K : PySem.W.Frag} {mg : MG} {Z H : Hp} {v : V} {x : Val} {b : Bool} (zh : Same Z H) (r : BorR K mg Z H v x) (e : truth x = some b) : TruV K v H b := by
  cases x with
  | non => cases e; cases bor_non r; rfl
  | bl k => cases e; cases bor_bl r; rfl
  | int k => cases e; cases bor_int r; rfl
  | str k =>
    simp only [truth] at e
    split at e
    · rename_i h; cases e; cases bor_str r; exact ⟨h, rfl⟩
    · cases e
  | tup xs =>
    cases e
    obtain ⟨a, vs, rfl, h1, r1⟩ := bor_tup r
    exact .inr (.inl ⟨vs, SqT.of (zh _ _ h1), by rw [r1.isEmpty]⟩)
  | ktup xs =>
    cases e
    obtain ⟨a, vs, rfl, h1, r1⟩ := bor_ktup r
    exact .inr (.inl ⟨vs, seqT_mono zh h1, by rw [r1.isEmpty]⟩)
  | lst xs =>
    cases e
    obtain ⟨a, vs, rfl, h1, r1⟩ := bor_lst zh r
    exact .inl ⟨vs, SqL.of h1, by rw [r1.isEmpty]⟩
  | scr xs =>
    cases e
    obtain ⟨a, rfl, h1⟩ := bor_scr r
    refine .inl ⟨_, zh.seq h1, ?_⟩
    cases xs <;> rfl
  | dK xs =>
    cases e
    obtain ⟨a, kvs, rfl, h1, r1, _⟩ := bor_dK zh r
    refine .inr (.inr ⟨kvs, h1, ?_⟩)
    cases xs <;> cases kvs <;> first | rfl | cases r1
  | _ => cases e
/-- an operand as a test -/
def tOf (d : DH) : DT := fun ρ => (d ρ).bind fun p => Out.of ((deref p.2 p.1).bind fun x => (truth x).map fun b => (b, p.2))
section
variable {X : Cx}
theorem pt_of {e : Expr} {d : DH} (h : PH X e d) (he : ∀ whole, isTrue e X.env whole = (do let v ← whole; standAt e.pos; holding [v] (truthy v)) := by intro _; rfl) : PTt X e (tOf d) :=
  PT.imp (pt_truth h he) fun σ H Q ⟨Z, O, C, ρ, R, b, ρ', q, k⟩ => by
    obtain ⟨⟨h1, ρ1⟩, e1, q⟩ := Out.bind_ok q
    obtain ⟨y, e4, q⟩ := Option.bind_eq_some_iff.mp (Out.of_ok q)
    obtain ⟨z, e5, q⟩ := Option.map_eq_some_iff.mp q
    cases q
    exact ⟨Z, O, C, ρ, R, h1, ρ1, e1, fun v H1 Z1 O1 x1 R1 r1 => ⟨_, truth_ok R1.zh (deref_bor R1 r1 e4) e5, k H1 Z1 O1 x1 R1⟩⟩
/-- a value that is a bool, as a test -/
def tBl (d : DV) : DT := fun ρ => (d ρ).bind fun p => match p.1 with
  | .bl b => .ok (b, p.2)
  | _ => .bad
theorem pt_cmp' {a b : Expr} {da db : DH} {pos : Pos} {g : Val → Val → Option Val} {op : CmpOp} (ho : OpR X (compareOp op) (r2 X.K X.mg g)) (ha : PH X a da) (hb : PH X b db) (hm : behindInMarks op b = false := by first | exact nomark _ | rfl) :
    PTt X (.Compare a [op] [b] pos) (tBl (d2 g da db)) := PT.imp (pt_cmpR ho ha hb hm) fun σ H Q ⟨Z, O, C, ρ, R, b, ρ', q, k⟩ => by
  obtain ⟨⟨y, ρ1⟩, e1, q⟩ := Out.bind_ok q
  cases y with
  | bl c =>
    cases q
    exact run2 ⟨Z, O, C, ρ, R, .bl b, ρ1, e1, fun v H' Z' O' x R' r => by cases r; exact ⟨b, rfl, k H' Z' O' x R'⟩⟩
  | _ => cases q
/-! a op b op c -/
def dChain (g g' : Val → Val → Option Val) (da db dc : DH) : DV := fun ρ => (da ρ).bind fun p => (db p.2).bind fun q =>
  match (deref q.2 p.1).bind fun x => (deref q.2 q.1).bind fun y => g x y with
  | some (.bl true) => (dc q.2).bind fun r => Out.of ((deref r.2 q.1).bind fun y => (deref r.2 r.1).bind fun w => (g' y w).map fun z => (z, r.2))
  | some (.bl false) => .ok (.bl false, q.2)
  | _ => .bad
theorem runChain {K : PySem.W.Frag} {mg : MG} {da db dc : DH} {g g' : Val → Val → Option Val} {σ : L2.St} {H : Hp} {Q : VK} (h : TV K mg (dChain g g' da db dc) σ H Q) :
    tChain (r2 K mg g) (r2 K mg g') (TH K mg da) (TH K mg db) (TH K mg dc) σ H Q := by
  obtain ⟨Z, O, C, ρ, R, x, ρ', q, k⟩ := h
  obtain ⟨⟨h1, ρ1⟩, e1, q⟩ := Out.bind_ok q
  obtain ⟨⟨h2, ρ2⟩, e2, q⟩ := Out.bind_ok q
  refine ⟨Z, O, C, ρ, R, h1, ρ1, e1, fun v H1 Z1 O1 x1 R1 r1 => ⟨Z1, O1, C, ρ1, R1, h2, ρ2, e2, fun w H2 Z2 O2 x2 R2 r2 => ?_⟩⟩
  cases e3 : ((deref ρ2 h1).bind fun x => (deref ρ2 h2).bind fun y => g x y) with
  | none => simp only [e3] at q; cases q
  | some y =>
    simp only [e3] at q
    obtain ⟨y1, f1, f⟩ := Option.bind_eq_some_iff.mp e3
    obtain ⟨y2, f2, f3⟩ := Option.bind_eq_some_iff.mp f
    refine ⟨Z2, y1, y2, y, R2.zh, deref_bor R2 (r1.mono x2.z) f1, deref_bor R2 r2 f2, f3, fun u Z3 H3 gr r => ?_⟩
    cases y with
    | bl c =>
      cases r
      refine ⟨c, rfl, ?_⟩
      cases c with
      | false =>
        cases q
        rw [if_neg Bool.false_ne_true]
        exact k _ _ _ _ ((x1.trans x2).trans gr.ext) (R2.grow gr) (.bl false)
      | true =>
        rw [if_pos rfl]
        obtain ⟨⟨h3, ρ3⟩, e4, q⟩ := Out.bind_ok q
        obtain ⟨y3, f4, q⟩ := Option.bind_eq_some_iff.mp (Out.of_ok q)
        obtain ⟨y4, f5, q⟩ := Option.bind_eq_some_iff.mp q
        obtain ⟨z, f6, q⟩ := Option.map_eq_some_iff.mp q
        cases q
        refine ⟨Z3, O2, C, ρ2, R2.grow gr, h3, ρ3, e4, fun w' H4 Z4 O4 x4 R4 r4 => ?_⟩
        exact ⟨Z4, y3, y4, x, R4.zh, deref_bor R4 (r2.mono (gr.z.trans x4.z)) f4, deref_bor R4 r4 f5, f6, fun u5 Z5 H5 gr5 r5 => k _ _ _ _ ((((x1.trans x2).trans gr.ext).trans x4).trans gr5.ext) (R4.grow gr5) r5⟩
    | _ => cases q
theorem pv_chain {a b c : Expr} {da db dc : DH} {pos : Pos} {g g' : Val → Val → Option Val} {op op' : CmpOp} (ho : OpR X (compareOp op) (r2 X.K X.mg g)) (ho' : OpR X (compareOp op') (r2 X.K X.mg g')) (ha : PH X a da) (hb : PH X b db) (hc : PH X c dc)
    (hm : lastMarks [op, op'] [b, c] = false := by with_unfolding_all rfl) : PV X (.Compare a [op, op'] [b, c] pos) (dChain g g' da db dc) := PE.imp (pe_chain ho ho' ha hb hc hm) fun _ _ _ => runChain
theorem pt_chain' {a b c : Expr} {da db dc : DH} {pos : Pos} {g g' : Val → Val → Option Val} {op op' : CmpOp} (ho : OpR X (compareOp op) (r2 X.K X.mg g)) (ho' : OpR X (compareOp op') (r2 X.K X.mg g')) (ha : PH X a da) (hb : PH X b db) (hc : PH X c dc)
    (hm : lastMarks [op, op'] [b, c] = false := by with_unfolding_all rfl) : PTt X (.Compare a [op, op'] [b, c] pos) (tBl (dChain g g' da db dc)) := PT.imp (pt_chain ho ho' ha hb hc hm) fun σ H Q ⟨Z, O, C, ρ, R, b, ρ', q, k⟩ => by
  obtain ⟨⟨y, ρ1⟩, e1, q⟩ := Out.bind_ok q
  cases y with
  | bl c =>
    cases q
    exact runChain ⟨Z, O, C, ρ, R, .bl b, ρ1, e1, fun v H' Z' O' x R' r => by cases r; exact ⟨b, rfl, k H' Z' O' x R'⟩⟩
  | _ => cases q
/-! and, or, not as tests -/
def tAndD (a b : DT) : DT := fun ρ => (a ρ).bind fun p => if p.1 = true then b p.2 else .ok (false, p.2)
def tOrD (a b : DT) : DT := fun ρ => (a ρ).bind fun p => if p.1 = true then .ok (true, p.2) else b p.2
def tNotD (a : DT) : DT := fun ρ => (a ρ).bind fun p => .ok (!p.1, p.2)
theorem pw_and1' {a : Expr} {d : DT} {pos : Pos} (ha : PTt X a d) : PWt X (.BoolOp .And [a] pos) d := pw_and1 ha
theorem pw_or1' {a : Expr} {d : DT} {pos : Pos} (ha : PTt X a d) : PWt X (.BoolOp .Or [a] pos) d := pw_or1 ha
theorem pw_and' {a b : Expr} {rest : List Expr} {da db : DT} {pos : Pos} (ha : PTt X a da) (hb : PWt X (.BoolOp .And (b :: rest) pos) db) : PWt X (.BoolOp .And (a :: b :: rest) pos) (tAndD da db) :=
  PW.imp (pw_and ha hb) fun σ H Q ⟨Z, O, C, ρ, R, b, ρ', q, k⟩ => by
    obtain ⟨⟨c, ρ1⟩, e1, q⟩ := Out.bind_ok q
    refine ⟨Z, O, C, ρ, R, c, ρ1, e1, fun H1 Z1 O1 x1 R1 => ?_⟩
    cases c with
    | true => exact ⟨Z1, O1, C, ρ1, R1, b, ρ', q, fun H2 Z2 O2 x2 R2 => k H2 Z2 O2 (x1.trans x2) R2⟩
    | false => cases q; exact k H1 Z1 O1 x1 R1
theorem pw_or' {a b : Expr} {rest : List Expr} {da db : DT} {pos : Pos} (ha : PTt X a da) (hb : PWt X (.BoolOp .Or (b :: rest) pos) db) : PWt X (.BoolOp .Or (a :: b :: rest) pos) (tOrD da db) :=
  PW.imp (pw_or ha hb) fun σ H Q ⟨Z, O, C, ρ, R, b, ρ', q, k⟩ => by
    obtain ⟨⟨c, ρ1⟩, e1, q⟩ := Out.bind_ok q
    refine ⟨Z, O, C, ρ, R, c, ρ1, e1, fun H1 Z1 O1 x1 R1 => ?_⟩
    cases c with
    | false => exact ⟨Z1, O1, C, ρ1, R1, b, ρ', q, fun H2 Z2 O2 x2 R2 => k H2 Z2 O2 (x1.trans x2) R2⟩
    | true => cases q; exact k H1 Z1 O1 x1 R1
theorem pt_w {e : Expr} {d : DT} (h : PWt X e d) : PTt X e d := h.pt
theorem pt_not' {a : Expr} {d : DT} {pos : Pos} (ha : PTt X a d) : PTt X (.UnaryOp .Not a pos) (tNotD d) := PT.imp (pt_not ha) fun σ H Q ⟨Z, O, C, ρ, R, b, ρ', q, k⟩ => by
  obtain ⟨⟨c, ρ1⟩, e1, q⟩ := Out.bind_ok q
  cases q
  exact ⟨Z, O, C, ρ, R, c, ρ1, e1, k⟩
/-! .. as values -/
def vAnd (a b : DV) : DV := fun ρ => (a ρ).bind fun p => match truth p.1 with
  | some true => b p.2
  | some false => .ok p
  | none => .bad
def vOr (a b : DV) : DV := fun ρ => (a ρ).bind fun p => match truth p.1 with
  | some true => .ok p
  | some false => b p.2
  | none => .bad
def vNot (a : DH) : DV := fun ρ => (a ρ).bind fun p => Out.of ((deref p.2 p.1).bind fun x => (truth x).map fun b => (.bl (!b), p.2))
theorem pv_one {a : Expr} {op} {d : DV} {pos : Pos} (h : PV X a d) : PV X (.BoolOp op [a] pos) d := pe_one h
theorem pv_and {a b : Expr} {rest : List Expr} {da db : DV} {pos : Pos} (ha : PV X a da) (hb : PV X (.BoolOp .And (b :: rest) pos) db) : PV X (.BoolOp .And (a :: b :: rest) pos) (vAnd da db) :=
  PE.imp (pe_andT ha hb) fun σ H Q ⟨Z, O, C, ρ, R, z, ρ', q, k⟩ => by
    obtain ⟨⟨y, ρ1⟩, e1, q⟩ := Out.bind_ok q
    refine ⟨Z, O, C, ρ, R, y, ρ1, e1, fun v H1 Z1 O1 x1 R1 r1 => ?_⟩
    cases e : truth y with
    | none => simp only [e] at q; cases q
    | some c =>
      simp only [e] at q
      refine ⟨c, truth_ok R1.zh (.fz r1) e, ?_⟩
      cases c with
      | true => exact ⟨Z1, O1, C, ρ1, R1, z, ρ', q, fun w H2 Z2 O2 x2 R2 r2 => k w H2 Z2 O2 (x1.trans x2) R2 r2⟩
      | false => cases q; exact k v H1 Z1 O1 x1 R1 r1
theorem pv_or {a b : Expr} {rest : List Expr} {da db : DV} {pos : Pos} (ha : PV X a da) (hb : PV X (.BoolOp .Or (b :: rest) pos) db) : PV X (.BoolOp .Or (a :: b :: rest) pos) (vOr da db) :=
  PE.imp (pe_orT ha hb) fun σ H Q ⟨Z, O, C, ρ, R, z, ρ', q, k⟩ => by
    obtain ⟨⟨y, ρ1⟩, e1, q⟩ := Out.bind_ok q
    refine ⟨Z, O, C, ρ, R, y, ρ1, e1, fun v H1 Z1 O1 x1 R1 r1 => ?_⟩
    cases e : truth y with
    | none => simp only [e] at q; cases q
    | some c =>
      simp only [e] at q
      refine ⟨c, truth_ok R1.zh (.fz r1) e, ?_⟩
      cases c with
      | false => exact ⟨Z1, O1, C, ρ1, R1, z, ρ', q, fun w H2 Z2 O2 x2 R2 r2 => k w H2 Z2 O2 (x1.trans x2) R2 r2⟩
      | true => cases q; exact k v H1 Z1 O1 x1 R1 r1
theorem pv_not {a : Expr} {d : DH} {pos : Pos} (ha : PH X a d) : PV X (.UnaryOp .Not a pos) (vNot d) := PE.imp (pe_notT ha) fun σ H Q ⟨Z, O, C, ρ, R, b, ρ', q, k⟩ => by
  obtain ⟨⟨h1, ρ1⟩, e1, q⟩ := Out.bind_ok q
  obtain ⟨y, e4, q⟩ := Option.bind_eq_some_iff.mp (Out.of_ok q)
  obtain ⟨z, e5, q⟩ := Option.map_eq_some_iff.mp q
  cases q
  exact ⟨Z, O, C, ρ, R, h1, ρ1, e1, fun v H1 Z1 O1 x1 R1 r1 => ⟨z, truth_ok R1.zh (deref_bor R1 r1 e4) e5, k (.bl (!z)) H1 Z1 O1 x1 R1 (.bl _)⟩⟩
/-! a if t else b -/
def dIf (t : DT) (a b : DV) : DV := fun ρ => (t ρ).bind fun p => if p.1 = true then a p.2 else b p.2
theorem pv_if {c a b : Expr} {t : DT} {da db : DV} {pos : Pos} (hc : PTt X c t) (ha : PV X a da) (hb : PV X b db) : PV X (.IfExp c a b pos) (dIf t da db) :=
  PE.imp (pe_ifExp hc ha hb) fun σ H Q ⟨Z, O, C, ρ, R, z, ρ', q, k⟩ => by
    obtain ⟨⟨c, ρ1⟩, e1, q⟩ := Out.bind_ok q
    refine ⟨Z, O, C, ρ, R, c, ρ1, e1, fun H1 Z1 O1 x1 R1 => ?_⟩
    cases c with
    | true => exact ⟨Z1, O1, C, ρ1, R1, z, ρ', q, fun w H2 Z2 O2 x2 R2 r2 => k w H2 Z2 O2 (x1.trans x2) R2 r2⟩
    | false => exact ⟨Z1, O1, C, ρ1, R1, z, ρ', q, fun w H2 Z2 O2 x2 R2 r2 => k w H2 Z2 O2 (x1.trans x2) R2 r2⟩
/-! -a -/
def dNeg (a : DV) : DV := fun ρ => (a ρ).bind fun p => match p.1 with
  | .int i => .ok (.int (-i), p.2)
  | _ => .bad
theorem pv_neg {a : Expr} {d : DV} {pos : Pos} (ha : PV X a d) : PV X (.UnaryOp .USub a pos) (dNeg d) := PE.imp (pe_un un_neg ha) fun σ H Q ⟨Z, O, C, ρ, R, z, ρ', q, k⟩ => by
  obtain ⟨⟨y, ρ1⟩, e1, q⟩ := Out.bind_ok q
  refine ⟨Z, O, C, ρ, R, y, ρ1, e1, fun v H1 Z1 O1 x1 R1 r1 => ?_⟩
  cases y with
  | int i => cases q; cases r1; exact ⟨i, rfl, k _ H1 Z1 O1 x1 R1 (.int _)⟩
  | _ => cases q
/-! is None, is True -/
def isNone : Val → Bool
  | .non => true
  | _ => false
theorem Rl.isNone {K : PySem.W.Frag} {mg : MG} {Z : Hp} {v : V} {x : Val} (r : Rl K mg Z v x) : decide (v = .non) = Ev.isNone x := by cases r <;> rfl
def dIsN (d : DV) : DV := fun ρ => (d ρ).bind fun p => .ok (.bl (isNone p.1), p.2)
def dNotN (d : DV) : DV := fun ρ => (d ρ).bind fun p => .ok (.bl (!isNone p.1), p.2)
theorem runIsN {K : PySem.W.Frag} {mg : MG} {d : DV} {σ : L2.St} {H : Hp} {Q : VK} (h : TV K mg (dIsN d) σ H Q) : tIsN (TV K mg d) σ H Q := by
  obtain ⟨Z, O, C, ρ, R, z, ρ', q, k⟩ := h
  obtain ⟨⟨y, ρ1⟩, e1, q⟩ := Out.bind_ok q
  cases q
  refine ⟨Z, O, C, ρ, R, y, ρ1, e1, fun v H1 Z1 O1 x1 R1 r1 => ?_⟩
  show Q (V.bl (decide (v = V.non))) H1
  rw [r1.isNone]
  exact k _ H1 Z1 O1 x1 R1 (.bl _)
theorem runNotN {K : PySem.W.Frag} {mg : MG} {d : DV} {σ : L2.St} {H : Hp} {Q : VK} (h : TV K mg (dNotN d) σ H Q) : tNotN (TV K mg d) σ H Q := by
  obtain ⟨Z, O, C, ρ, R, z, ρ', q, k⟩ := h
  obtain ⟨⟨y, ρ1⟩, e1, q⟩ := Out.bind_ok q
  cases q
  refine ⟨Z, O, C, ρ, R, y, ρ1, e1, fun v H1 Z1 O1 x1 R1 r1 => ?_⟩
  show Q (V.bl (!decide (v = V.non))) H1
  rw [r1.isNone]
  exact k _ H1 Z1 O1 x1 R1 (.bl _)
theorem pv_isN {a : Expr} {d : DV} {pos pos' : Pos} {j} (ha : PV X a d) : PV X (.Compare a [.Is] [.Constant .none j pos'] pos) (dIsN d) := PE.imp (pe_cmp (pc_isN ha)) fun _ _ _ => runIsN
theorem pv_notN {a : Expr} {d : DV} {pos pos' : Pos} {j} (ha : PV X a d) : PV X (.Compare a [.IsNot] [.Constant .none j pos'] pos) (dNotN d) := PE.imp (pe_cmp (pc_notN ha)) fun _ _ _ => runNotN
theorem pt_isN {a : Expr} {d : DV} {pos pos' : Pos} {j} (ha : PV X a d) : PTt X (.Compare a [.Is] [.Constant .none j pos'] pos) (tBl (dIsN d)) := PT.imp (pt_cmp (pc_isN ha)) fun σ H Q ⟨Z, O, C, ρ, R, b, ρ', q, k⟩ => by
  obtain ⟨⟨y, ρ1⟩, e1, q⟩ := Out.bind_ok q
  cases y with
  | bl c => cases q; exact runIsN ⟨Z, O, C, ρ, R, .bl b, ρ1, e1, fun v H' Z' O' x R' r => by cases r; exact ⟨b, rfl, k H' Z' O' x R'⟩⟩
  | _ => cases q
theorem pt_notN {a : Expr} {d : DV} {pos pos' : Pos} {j} (ha : PV X a d) : PTt X (.Compare a [.IsNot] [.Constant .none j pos'] pos) (tBl (dNotN d)) := PT.imp (pt_cmp (pc_notN ha)) fun σ H Q ⟨Z, O, C, ρ, R, b, ρ', q, k⟩ => by
  obtain ⟨⟨y, ρ1⟩, e1, q⟩ := Out.bind_ok q
  cases y with
  | bl c => cases q; exact runNotN ⟨Z, O, C, ρ, R, .bl b, ρ1, e1, fun v H' Z' O' x R' r => by cases r; exact ⟨b, rfl, k H' Z' O' x R'⟩⟩
  | _ => cases q
def isBV : Val → Val → Option Val
  | .bl a, .bl b => some (.bl (decide (a = b)))
  | _, _ => none
def isntBV : Val → Val → Option Val
  | .bl a, .bl b => some (.bl (!decide (a = b)))
  | _, _ => none
theorem o_isB : OpR X (compareOp .Is) (r2 X.K X.mg isBV) := OpR.imp op_isBl fun v w H Q ⟨Z, x, y, z, zh, b1, b2, e, q⟩ => by
  unfold isBV at e
  split at e
  · cases e; cases bor_bl b1; cases bor_bl b2; exact ⟨_, _, rfl, rfl, q.here zh (.bl _)⟩
  · cases e
theorem o_isntB : OpR X (compareOp .IsNot) (r2 X.K X.mg isntBV) := OpR.imp op_notBl fun v w H Q ⟨Z, x, y, z, zh, b1, b2, e, q⟩ => by
  unfold isntBV at e
  split at e
  · cases e; cases bor_bl b1; cases bor_bl b2; exact ⟨_, _, rfl, rfl, q.here zh (.bl _)⟩
  · cases e
end
end Ev

/-! Ev: built-in functions by values. -/
namespace Ev
open PySem PySem.Spec PyProof.Rows L2

theorem rN1 {K : PySem.W.Frag} {mg : MG} {g : Val → Option Val} {vs : List V} {H : Hp} {Q : VK} (h : rN K mg (fun xs => match xs with | [x] => g x | _ => none) vs H Q) :
    ∃ Z v x z, vs = [v] ∧ Same Z H ∧ BorR K mg Z H v x ∧ g x = some z ∧ PQ K mg Z H z Q := by
  obtain ⟨Z, xs, z, zh, b, e, q⟩ := h
  cases b with
  | nil => cases e
  | cons b1 b2 =>
    cases b2 with
    | nil => exact ⟨Z, _, _, z, rfl, zh, b1, e, q⟩
    | cons _ _ => cases e
theorem rN2 {K : PySem.W.Frag} {mg : MG} {g : Val → Val → Option Val} {vs : List V} {H : Hp} {Q : VK} (h : rN K mg (fun xs => match xs with | [x, y] => g x y | _ => none) vs H Q) :
    ∃ Z v w x y z, vs = [v, w] ∧ Same Z H ∧ BorR K mg Z H v x ∧ BorR K mg Z H w y ∧ g x y = some z ∧ PQ K mg Z H z Q := by
  obtain ⟨Z, xs, z, zh, b, e, q⟩ := h
  cases b with
  | nil => cases e
  | cons b1 b2 =>
    cases b2 with
    | nil => cases e
    | cons b2 b3 =>
      cases b3 with
      | nil => exact ⟨Z, _, _, _, _, z, rfl, zh, b1, b2, e, q⟩
      | cons _ _ => cases e
def g1 (g : Val → Option Val) : List Val → Option Val := fun xs => match xs with | [x] => g x | _ => none
def g2 (g : Val → Val → Option Val) : List Val → Option Val := fun xs => match xs with | [x, y] => g x y | _ => none

/-! ### len -/
def lenV : Val → Option Val
  | .str s => if s.length ≤ sizeLine then some (.int s.length) else none
  | .lst xs => some (.int xs.length)
  | .tup xs => some (.int xs.length)
  | .ktup xs => some (.int xs.length)
  | .scr xs => some (.int xs.length)
  | .dK xs => some (.int xs.length)
  | _ => none
section
variable {X : Cx}
theorem call_lenK : CallR X (.builtin "len") (fun xs H Q => ∃ p kvs, xs = [.ref p] ∧ H p = some (.dK kvs) ∧ Q (.int kvs.length) H) := by
  intro pins s σ H xs us Q I r h
  obtain ⟨p, kvs, rfl, hk, q⟩ := h
  obtain ⟨u, rfl, rx⟩ := vals1 r
  cases rx
  exact d_len I (.inl hk) fun t s' I' => ⟨.int kvs.length, H, I', ⟨_, rfl⟩, q⟩
theorem c_len : CallR X (.builtin "len") (rN X.K X.mg (g1 lenV)) := CallR.imp (call_len.or call_lenK) fun vs H Q h => by
  obtain ⟨Z, v, x, z, rfl, zh, b, e, q⟩ := rN1 h
  cases x with
  | str s =>
    simp only [lenV] at e
    split at e
    · rename_i hl; cases e; cases bor_str b; exact .inl ⟨_, _, rfl, ⟨hl, rfl⟩, q.here zh (.int _)⟩
    · cases e
  | lst xs =>
    cases e
    obtain ⟨a, vs, rfl, h1, r1⟩ := bor_lst zh b
    exact .inl ⟨_, _, rfl, .inl ⟨vs, SqL.of h1, r1.length.symm⟩, q.here zh (.int _)⟩
  | tup xs =>
    cases e
    obtain ⟨a, vs, rfl, h1, r1⟩ := bor_tup b
    exact .inl ⟨_, _, rfl, .inr ⟨vs, SqT.of (zh _ _ h1), r1.length.symm⟩, q.here zh (.int _)⟩
  | ktup xs =>
    cases e
    obtain ⟨a, vs, rfl, h1, r1⟩ := bor_ktup b
    exact .inl ⟨_, _, rfl, .inr ⟨vs, seqT_mono zh h1, r1.length.symm⟩, q.here zh (.int _)⟩
  | scr xs =>
    cases e
    obtain ⟨a, rfl, h1⟩ := bor_scr b
    exact .inl ⟨_, _, rfl, .inl ⟨_, zh.seq h1, by rw [List.length_map]⟩, q.here zh (.int _)⟩
  | dK xs =>
    cases e
    obtain ⟨a, kvs, rfl, h1, hk, r1⟩ := bor_dK zh b
    refine .inr ⟨_, kvs, rfl, h1, ?_⟩
    rw [dr_len hk]
    exact q.here zh (.int _)
  | _ => cases e
/-! ### tuple, list -/
def tupV : Val → Option Val
  | .lst xs => some (.tup xs)
  | .tup xs => some (.tup xs)
  | _ => none
theorem c_tuple : CallR X (.type "tuple") (rN X.K X.mg (g1 tupV)) := CallR.imp call_tuple_of fun vs H Q h => by
  obtain ⟨Z, v, x, z, rfl, zh, b, e, q⟩ := rN1 h
  cases x with
  | lst xs =>
    cases e
    obtain ⟨a, vs, rfl, h1, r1⟩ := bor_lst zh b
    exact ⟨a, vs, rfl, .inl ⟨SqL.of h1, fun l hl => q.newT zh hl r1⟩⟩
  | tup xs =>
    cases e
    obtain ⟨a, vs, rfl, h1, r1⟩ := bor_tup b
    exact ⟨a, vs, rfl, .inr ⟨SqT.of (zh _ _ h1), q.here zh (.tup h1 r1)⟩⟩
  | _ => cases e
end
/-! an owned answer: a new list -/
def QO (K : PySem.W.Frag) (mg : MG) (Z H : Hp) (xs : List Val) (Q : VK) : Prop := ∀ p vs, H p = none → Rls K mg Z vs xs → Q (.ref p) (upd H p (.lst vs))
def rNo (K : PySem.W.Frag) (mg : MG) (g : List Val → Option (List Val)) : List V → Hp → VK → Prop := fun vs H Q => ∃ Z xs ys, Same Z H ∧ BorRs K mg Z H vs xs ∧ g xs = some ys ∧ QO K mg Z H ys Q
def dNo (g : List Val → Option (List Val)) (d : DA) : DO := fun ρ => (d ρ).bind fun p => Out.of ((derefs p.2 p.1).bind fun xs => (g xs).map fun ys => (.own ys, p.2))
/-- an answer that is a new list, as an owned result -/
theorem own_new {K : PySem.W.Frag} {mg : MG} {Z H Z1 H1 : Hp} {O O1 : Lab} {C : Lk} {σ : L2.St} {ρ' : Env} {ys : List Val} {Q : VK} (x1 : Ext Z H O Z1 H1 O1) (R1 : EnvR K mg Z1 H1 O1 C σ ρ')
    (k : ∀ v H' Z' O', Ext Z H O Z' H' O' → EnvR K mg Z' H' O' C σ ρ' → OwR K mg Z' H' O' C H v (.own ys) → Q v H') : QO K mg Z1 H1 ys Q := fun p vs hp r => by
  let gr := Grow.newH (o := .lst vs) R1.zh hp
  obtain ⟨f1, f2, f3⟩ := R1.fresh hp
  exact k _ _ _ O1 (x1.trans gr.ext) (R1.grow gr) ⟨p, vs, rfl, f1, f2, f3, x1.fresh hp, upd_same, r⟩
theorem runNo {K : PySem.W.Frag} {mg : MG} {d : DA} {g : List Val → Option (List Val)} {σ : L2.St} {H : Hp} {Q : VK} (h : TOw K mg (dNo g d) σ H Q) : TAs K mg d σ H fun vs H1 => rNo K mg g vs H1 Q := by
  obtain ⟨Z, O, C, ρ, R, x, ρ', q, k⟩ := h
  obtain ⟨⟨hs, ρ1⟩, e1, q⟩ := Out.bind_ok q
  obtain ⟨xs, e2, q⟩ := Option.bind_eq_some_iff.mp (Out.of_ok q)
  obtain ⟨ys, e3, q⟩ := Option.map_eq_some_iff.mp q
  cases q
  exact ⟨Z, O, C, ρ, R, hs, ρ1, e1, fun vs H1 Z1 O1 x1 R1 r1 => ⟨Z1, xs, ys, R1.zh, derefs_bor R1 r1 e2, e3, own_new x1 R1 k⟩⟩
section
variable {X : Cx} {x : Str} {p pos : Pos} {e : Expr} {es : List Expr} {d : DA} {idn T : String} {g : List Val → Option (List Val)}
theorem pow_callB (hc : CallR X (.builtin idn) (rNo X.K X.mg g)) (hg : Gl X x) (hm : X.mg x = none) (hv : bootBuiltins x = some (.builtin idn)) (ha : PAs X (e :: es) d) (hn : x ≠ "__name__" := by decide) (hdb : (x == ("__debug__" : Str)) = false := by decide)
    (he : starEach (e :: es) X.env = (false, eval e X.env) :: starEach es X.env := by rfl) (hpl : (backTo pos (starEach es X.env)).any (·.1) = false := by rfl) : POw X (.Call (.Name x p) (e :: es) [] pos) (dNo g d) :=
  PE.imp (pe_callB hc hg hm hv ha hn hdb he hpl) fun _ _ _ => runNo
theorem pow_callTy (hc : CallR X (.type T) (rNo X.K X.mg g)) (hg : Gl X x) (hm : X.mg x = none) (hv : bootBuiltins x = some (.type T)) (ha : PAs X (e :: es) d) (hn : x ≠ "__name__" := by decide) (hdb : (x == ("__debug__" : Str)) = false := by decide)
    (he : starEach (e :: es) X.env = (false, eval e X.env) :: starEach es X.env := by rfl) (hpl : (backTo pos (starEach es X.env)).any (·.1) = false := by rfl) : POw X (.Call (.Name x p) (e :: es) [] pos) (dNo g d) :=
  PE.imp (pe_callTy hc hg hm hv ha hn hdb he hpl) fun _ _ _ => runNo
theorem rNo1 {K : PySem.W.Frag} {mg : MG} {g : Val → Option (List Val)} {vs : List V} {H : Hp} {Q : VK} (h : rNo K mg (fun xs => match xs with | [x] => g x | _ => none) vs H Q) :
    ∃ Z v x z, vs = [v] ∧ Same Z H ∧ BorR K mg Z H v x ∧ g x = some z ∧ QO K mg Z H z Q := by
  obtain ⟨Z, xs, z, zh, b, e, q⟩ := h
  cases b with
  | nil => cases e
  | cons b1 b2 =>
    cases b2 with
    | nil => exact ⟨Z, _, _, z, rfl, zh, b1, e, q⟩
    | cons _ _ => cases e
def go1 (g : Val → Option (List Val)) : List Val → Option (List Val) := fun xs => match xs with | [x] => g x | _ => none
def itemsV : Val → Option (List Val)
  | .lst xs => some xs
  | .tup xs => some xs
  | .scr ns => some (ns.map .int)
  | _ => none
theorem c_list : CallR X (.type "list") (rNo X.K X.mg (go1 itemsV)) := CallR.imp call_list_of fun vs H Q h => by
  obtain ⟨Z, v, x, z, rfl, zh, b, e, q⟩ := rNo1 h
  cases x with
  | lst xs =>
    cases e
    obtain ⟨a, vs, rfl, h1, r1⟩ := bor_lst zh b
    exact ⟨a, vs, rfl, .inl (SqL.of h1), fun l hl => q l vs hl r1⟩
  | tup xs =>
    cases e
    obtain ⟨a, vs, rfl, h1, r1⟩ := bor_tup b
    exact ⟨a, vs, rfl, .inr (SqT.of (zh _ _ h1)), fun l hl => q l vs hl r1⟩
  | scr ns =>
    cases e
    obtain ⟨a, rfl, h1⟩ := bor_scr b
    exact ⟨a, _, rfl, .inl (zh.seq h1), fun l hl => q l _ hl (Rls.ints ns)⟩
  | _ => cases e
/-! ### list(range(..)) -/
abbrev DR := Env → Out ((Int × Int) × Env)
def TR (K : PySem.W.Frag) (mg : MG) (d : DR) : L2.St → Hp → (Int → Int → Hp → Prop) → Prop := fun σ H Q => ∃ Z O C ρ, EnvR K mg Z H O C σ ρ ∧ ∃ r ρ', d ρ = .ok (r, ρ') ∧
  ∀ H' Z' O', Ext Z H O Z' H' O' → EnvR K mg Z' H' O' C σ ρ' → Q r.1 r.2 H'
def PRv (X : Cx) (e : Expr) (d : DR) : Prop := PRg X e (TR X.K X.mg d)
def dR1 (d : DV) : DR := fun ρ => (d ρ).bind fun p => match p.1 with
  | .int n => .ok ((0, n), p.2)
  | _ => .bad
def dR2 (a b : DV) : DR := fun ρ => (a ρ).bind fun p => (b p.2).bind fun q => match p.1, q.1 with
  | .int i, .int j => .ok ((i, j), q.2)
  | _, _ => .bad
theorem pr_1 {a : Expr} {d : DV} {p pos : Pos} (hg : Gl X "range") (hm : X.mg "range" = none) (ha : PV X a d) (na : starEach [a] X.env = (false, eval a X.env) :: starEach [] X.env := by rfl) : PRv X (.Call (.Name "range" p) [a] [] pos) (dR1 d) :=
  fun pins s σ H Q I h => prg_1 (p := p) (pos := pos) hg hm ha na pins s σ H Q I (by
    obtain ⟨Z, O, C, ρ, R, r, ρ', q, k⟩ := h
    obtain ⟨⟨y, ρ1⟩, e1, q⟩ := Out.bind_ok q
    refine ⟨Z, O, C, ρ, R, y, ρ1, e1, fun v H1 Z1 O1 x1 R1 r1 => ?_⟩
    cases y with
    | int n => cases q; cases r1; exact ⟨n, rfl, k H1 Z1 O1 x1 R1⟩
    | _ => cases q)
theorem pr_2 {a b : Expr} {da db : DV} {p pos : Pos} (hg : Gl X "range") (hm : X.mg "range" = none) (ha : PV X a da) (hb : PV X b db) (na : starEach [a, b] X.env = (false, eval a X.env) :: starEach [b] X.env := by rfl)
    (nb : starEach [b] X.env = (false, eval b X.env) :: starEach [] X.env := by rfl) (hp : (backTo pos (starEach [b] X.env)).any (·.1) = false := by rfl) : PRv X (.Call (.Name "range" p) [a, b] [] pos) (dR2 da db) :=
  fun pins s σ H Q I h => prg_2 (p := p) (pos := pos) hg hm ha hb na nb hp pins s σ H Q I (by
    obtain ⟨Z, O, C, ρ, R, r, ρ', q, k⟩ := h
    obtain ⟨⟨y1, ρ1⟩, e1, q⟩ := Out.bind_ok q
    obtain ⟨⟨y2, ρ2⟩, e2, q⟩ := Out.bind_ok q
    refine ⟨Z, O, C, ρ, R, y1, ρ1, e1, fun v H1 Z1 O1 x1 R1 r1 => ⟨Z1, O1, C, ρ1, R1, y2, ρ2, e2, fun w H2 Z2 O2 x2 R2 r2 => ?_⟩⟩
    cases y1 with
    | int i =>
      cases y2 with
      | int j => cases q; cases r1; cases r2; exact ⟨i, j, rfl, rfl, k H2 Z2 O2 (x1.trans x2) R2⟩
      | _ => cases q
    | _ => cases q)
def rangeI (a b : Int) : List Int := (List.range (b - a).toNat).map fun i => a + (i : Nat)
def rgOk (a b : Int) : Bool := decide (-(2 ^ 62) ≤ a ∧ a < 2 ^ 62 ∧ -(2 ^ 62) ≤ b ∧ b < 2 ^ 62 ∧ (b - a).toNat ≤ 2 ^ 24)
def dLR (d : DR) : DO := fun ρ => (d ρ).bind fun p => if rgOk p.1.1 p.1.2 then .ok (.own ((rangeI p.1.1 p.1.2).map .int), p.2) else .bad
theorem rgV_ints (a b : Int) : rgV a b = (rangeI a b).map V.int := by unfold rgV rangeI; rw [List.map_map]; rfl
theorem pow_listRg {e : Expr} {d : DR} {p pos : Pos} (hc : X.calm = true) (hg : Gl X "list") (hm : X.mg "list" = none) (he : PRv X e d) (na : starEach [e] X.env = (false, eval e X.env) :: starEach [] X.env := by rfl) : POw X (.Call (.Name "list" p) [e] [] pos) (dLR d) :=
  PE.imp (pe_listRg hc hg hm he na) fun σ H Q ⟨Z, O, C, ρ, R, x, ρ', q, k⟩ => by
    obtain ⟨⟨⟨a, b⟩, ρ1⟩, e1, q⟩ := Out.bind_ok q
    refine ⟨Z, O, C, ρ, R, (a, b), ρ1, e1, fun H1 Z1 O1 x1 R1 => ?_⟩
    split at q
    · rename_i hr
      cases q
      refine ⟨by simpa [rgOk, RgOk] using hr, fun p hp => ?_⟩
      rw [rgV_ints]
      exact own_new x1 R1 k p _ hp (Rls.ints _)
    · cases q
/-! ### all, any, sum, min, max, abs, int, str -/
def boolsOf : List Val → Option (List Bool)
  | [] => some []
  | .bl b :: xs => (boolsOf xs).map (b :: ·)
  | _ => none
def intsOf : List Val → Option (List Int)
  | [] => some []
  | .int b :: xs => (intsOf xs).map (b :: ·)
  | _ => none
theorem boolsOf_eq : ∀ {xs : List Val} {bs : List Bool}, boolsOf xs = some bs → xs = bs.map .bl
  | [], bs, h => by cases h; rfl
  | x :: xs, bs, h => by
    cases x <;> try (cases h)
    obtain ⟨r, e, rfl⟩ := Option.map_eq_some_iff.mp h
    rw [boolsOf_eq e]
    rfl
theorem intsOf_eq : ∀ {xs : List Val} {bs : List Int}, intsOf xs = some bs → xs = bs.map .int
  | [], bs, h => by cases h; rfl
  | x :: xs, bs, h => by
    cases x <;> try (cases h)
    obtain ⟨r, e, rfl⟩ := Option.map_eq_some_iff.mp h
    rw [intsOf_eq e]
    rfl
theorem boolsOf_map : ∀ bs : List Bool, boolsOf (bs.map .bl) = some bs
  | [] => rfl
  | b :: bs => by simp [boolsOf, boolsOf_map bs]
theorem intsOf_map : ∀ bs : List Int, intsOf (bs.map .int) = some bs
  | [] => rfl
  | b :: bs => by simp [intsOf, intsOf_map bs]
theorem Rls.of_bools {K : PySem.W.Frag} {mg : MG} {Z : Hp} : ∀ {vs : List V} {bs : List Bool}, Rls K mg Z vs (bs.map Val.bl) → vs = bs.map V.bl
  | _, [], h => by cases h; rfl
  | _, n :: ns, h => by
    cases h with
    | cons r t => cases r; rw [Rls.of_bools t]; rfl
def allV : Val → Option Val
  | .lst xs => (boolsOf xs).map fun bs => .bl (bs.all id)
  | _ => none
def anyV : Val → Option Val
  | .lst xs => (boolsOf xs).map fun bs => .bl (bs.any id)
  | _ => none
def sumV : Val → Option Val
  | .lst xs => (intsOf xs).map fun ns => .int ns.sum
  | _ => none
theorem c_all (hc : X.calm = true) : CallR X (.builtin "all") (rN X.K X.mg (g1 allV)) := CallR.imp (cr_all hc) fun vs H Q h => by
  obtain ⟨Z, v, x, z, rfl, zh, b, e, q⟩ := rN1 h
  cases x with
  | lst xs =>
    obtain ⟨bs, e1, rfl⟩ := Option.map_eq_some_iff.mp e
    obtain ⟨a, vs, rfl, h1, r1⟩ := bor_lst zh b
    rw [boolsOf_eq e1] at r1
    rw [r1.of_bools] at h1
    exact ⟨a, bs, rfl, SqL.of h1, q.here zh (.bl _)⟩
  | _ => cases e
theorem c_any (hc : X.calm = true) : CallR X (.builtin "any") (rN X.K X.mg (g1 anyV)) := CallR.imp (cr_any hc) fun vs H Q h => by
  obtain ⟨Z, v, x, z, rfl, zh, b, e, q⟩ := rN1 h
  cases x with
  | lst xs =>
    obtain ⟨bs, e1, rfl⟩ := Option.map_eq_some_iff.mp e
    obtain ⟨a, vs, rfl, h1, r1⟩ := bor_lst zh b
    rw [boolsOf_eq e1] at r1
    rw [r1.of_bools] at h1
    exact ⟨a, bs, rfl, SqL.of h1, q.here zh (.bl _)⟩
  | _ => cases e
theorem c_sum (hc : X.calm = true) : CallR X (.builtin "sum") (rN X.K X.mg (g1 sumV)) := CallR.imp (cr_sum hc) fun vs H Q h => by
  obtain ⟨Z, v, x, z, rfl, zh, b, e, q⟩ := rN1 h
  cases x with
  | lst xs =>
    obtain ⟨bs, e1, rfl⟩ := Option.map_eq_some_iff.mp e
    obtain ⟨a, vs, rfl, h1, r1⟩ := bor_lst zh b
    rw [intsOf_eq e1] at r1
    rw [r1.of_ints] at h1
    exact ⟨a, bs, rfl, SqL.of h1, q.here zh (.int _)⟩
  | _ => cases e
def max2V : Val → Val → Option Val
  | .int i, .int j => some (.int (if j > i then j else i))
  | _, _ => none
def min2V : Val → Val → Option Val
  | .int i, .int j => some (.int (if j < i then j else i))
  | _, _ => none
theorem c_max2 (hc : X.calm = true) : CallR X (.builtin "max") (rN X.K X.mg (g2 max2V)) := CallR.imp (call_max2 hc) fun vs H Q h => by
  obtain ⟨Z, v, w, x, y, z, rfl, zh, b1, b2, e, q⟩ := rN2 h
  unfold max2V at e
  split at e
  · cases e; cases bor_int b1; cases bor_int b2; exact ⟨_, _, rfl, q.here zh (.int _)⟩
  · cases e
theorem c_min2 (hc : X.calm = true) : CallR X (.builtin "min") (rN X.K X.mg (g2 min2V)) := CallR.imp (call_min2 hc) fun vs H Q h => by
  obtain ⟨Z, v, w, x, y, z, rfl, zh, b1, b2, e, q⟩ := rN2 h
  unfold min2V at e
  split at e
  · cases e; cases bor_int b1; cases bor_int b2; exact ⟨_, _, rfl, q.here zh (.int _)⟩
  · cases e
def maxLV : Val → Option Val
  | .lst xs => (intsOf xs).bind fun ns => match ns with
    | [] => none
    | n :: r => some (.int (r.foldl max n))
  | _ => none
def minLV : Val → Option Val
  | .lst xs => (intsOf xs).bind fun ns => match ns with
    | [] => none
    | n :: r => some (.int (r.foldl min n))
  | _ => none
theorem foldl_max (r : List Int) : ∀ (n m : Int), m ∈ n :: r → (∀ y, y ∈ n :: r → y ≤ m) → r.foldl max n = m := by
  induction r with
  | nil => intro n m h1 h2; exact (List.mem_singleton.mp h1).symm
  | cons x r ih =>
    intro n m h1 h2
    rw [List.foldl_cons]
    refine ih _ _ ?_ fun y hy => ?_
    · rcases List.mem_cons.mp h1 with e | h1
      · subst e
        have := h2 x (by simp)
        rw [Int.max_eq_left this]
        exact List.mem_cons_self
      · rcases List.mem_cons.mp h1 with e | h1
        · subst e
          have := h2 n (by simp)
          rw [Int.max_eq_right this]
          exact List.mem_cons_self
        · exact List.mem_cons_of_mem _ h1
    · rcases List.mem_cons.mp hy with e | hy
      · subst e
        have a := h2 x (by simp)
        have b := h2 n (by simp)
        omega
      · exact h2 y (by simp [hy])
theorem foldl_min (r : List Int) : ∀ (n m : Int), m ∈ n :: r → (∀ y, y ∈ n :: r → m ≤ y) → r.foldl min n = m := by
  induction r with
  | nil => intro n m h1 h2; exact (List.mem_singleton.mp h1).symm
  | cons x r ih =>
    intro n m h1 h2
    rw [List.foldl_cons]
    refine ih _ _ ?_ fun y hy => ?_
    · rcases List.mem_cons.mp h1 with e | h1
      · subst e
        have := h2 x (by simp)
        rw [Int.min_eq_left this]
        exact List.mem_cons_self
      · rcases List.mem_cons.mp h1 with e | h1
        · subst e
          have := h2 n (by simp)
          rw [Int.min_eq_right this]
          exact List.mem_cons_self
        · exact List.mem_cons_of_mem _ h1
    · rcases List.mem_cons.mp hy with e | hy
      · subst e
        have a := h2 x (by simp)
        have b := h2 n (by simp)
        omega
      · exact h2 y (by simp [hy])
theorem c_maxL (hc : X.calm = true) : CallR X (.builtin "max") (rN X.K X.mg (g1 maxLV)) := CallR.imp (cr_max hc) fun vs H Q h => by
  obtain ⟨Z, v, x, z, rfl, zh, b, e, q⟩ := rN1 h
  cases x with
  | lst xs =>
    obtain ⟨ns, e1, e⟩ := Option.bind_eq_some_iff.mp e
    obtain ⟨a, vs, rfl, h1, r1⟩ := bor_lst zh b
    rw [intsOf_eq e1] at r1
    rw [r1.of_ints] at h1
    cases ns with
    | nil => cases e
    | cons n r =>
      cases e
      exact ⟨a, _, rfl, SqL.of h1, Nat.succ_pos _, fun m i1 i2 => by rw [← foldl_max r n m i1 i2]; exact q.here zh (.int _)⟩
  | _ => cases e
theorem c_minL (hc : X.calm = true) : CallR X (.builtin "min") (rN X.K X.mg (g1 minLV)) := CallR.imp (cr_min hc) fun vs H Q h => by
  obtain ⟨Z, v, x, z, rfl, zh, b, e, q⟩ := rN1 h
  cases x with
  | lst xs =>
    obtain ⟨ns, e1, e⟩ := Option.bind_eq_some_iff.mp e
    obtain ⟨a, vs, rfl, h1, r1⟩ := bor_lst zh b
    rw [intsOf_eq e1] at r1
    rw [r1.of_ints] at h1
    cases ns with
    | nil => cases e
    | cons n r =>
      cases e
      exact ⟨a, _, rfl, SqL.of h1, Nat.succ_pos _, fun m i1 i2 => by rw [← foldl_min r n m i1 i2]; exact q.here zh (.int _)⟩
  | _ => cases e
def absV : Val → Option Val
  | .int i => some (.int (if i < 0 then -i else i))
  | _ => none
theorem c_abs : CallR X (.builtin "abs") (rN X.K X.mg (g1 absV)) := CallR.imp call_abs fun vs H Q h => by
  obtain ⟨Z, v, x, z, rfl, zh, b, e, q⟩ := rN1 h
  cases x with
  | int i => cases e; cases bor_int b; exact ⟨_, rfl, q.here zh (.int _)⟩
  | _ => cases e
def intV : Val → Option Val
  | .int i => some (.int i)
  | .bl b => some (.int (if b then 1 else 0))
  | _ => none
theorem c_int : CallR X (.type "int") (rN X.K X.mg (g1 intV)) := CallR.imp call_int1 fun vs H Q h => by
  obtain ⟨Z, v, x, z, rfl, zh, b, e, q⟩ := rN1 h
  cases x with
  | int i => cases e; cases bor_int b; exact .inl ⟨_, rfl, q.here zh (.int _)⟩
  | bl i => cases e; cases bor_bl b; exact .inr ⟨_, rfl, q.here zh (.int _)⟩
  | _ => cases e
def strV : Val → Option Val
  | .int i => if i.natAbs.log2 < 1920 then some (.str (toString i)) else none
  | _ => none
theorem c_str : CallR X (.type "str") (rN X.K X.mg (g1 strV)) := CallR.imp call_str_int fun vs H Q h => by
  obtain ⟨Z, v, x, z, rfl, zh, b, e, q⟩ := rN1 h
  cases x with
  | int i =>
    simp only [strV] at e
    split at e
    · rename_i hl; cases e; cases bor_int b; exact ⟨_, rfl, hl, q.here zh (.str _)⟩
    · cases e
  | _ => cases e
/-! ### isinstance -/
def tyName : Val → Option String
  | .non => some "NoneType"
  | .bl _ => some "bool"
  | .int _ => some "int"
  | .str _ => some "str"
  | .tup _ => some "tuple"
  | .lst _ => some "list"
  | .dK _ => some "dict"
  | .dT _ => some "dict"
  | _ => none
def isiB (t T : String) : Bool := t == T || (t == "bool" && T == "int")
def isiV (T : String) (x : Val) : Option Val := (tyName x).map fun t => .bl (isiB t T)
def stdTy (T : String) : Bool := T == "int" || T == "bool" || T == "str" || T == "tuple" || T == "list"
theorem kit_std {t T : String} (ht : t = "NoneType" ∨ t = "bool" ∨ t = "int" ∨ t = "str" ∨ t = "tuple" ∨ t = "list" ∨ t = "dict") (hT : T = "int" ∨ T = "bool" ∨ T = "str" ∨ T = "tuple" ∨ T = "list") : kitB t T = some (isiB t T) := by
  rcases ht with rfl | rfl | rfl | rfl | rfl | rfl | rfl <;> rcases hT with rfl | rfl | rfl | rfl | rfl <;> decide +kernel
theorem tyX_of {K : PySem.W.Frag} {mg : MG} {Z H : Hp} {v : V} {x : Val} {t : String} (zh : Same Z H) (b : BorR K mg Z H v x) (e : tyName x = some t) : TyX K H v (.type t) := by
  cases x with
  | non => cases e; cases bor_non b; exact .base .non
  | bl _ => cases e; cases bor_bl b; exact .base (.bl _)
  | int _ => cases e; cases bor_int b; exact .base (.int _)
  | str _ => cases e; cases bor_str b; exact .base (.str _)
  | tup _ => cases e; obtain ⟨a, vs, rfl, h1, _⟩ := bor_tup b; exact .base (.tup (zh _ _ h1))
  | lst _ => cases e; obtain ⟨a, vs, rfl, h1, _⟩ := bor_lst zh b; exact .base (.lst h1)
  | dK _ => cases e; obtain ⟨a, vs, rfl, h1, _⟩ := bor_dK zh b; exact .base (.dK h1)
  | dT _ => cases e; obtain ⟨a, vs, rfl, h1, _⟩ := bor_dT zh b; exact .base (.dT h1)
  | _ => cases e
def dIsi (T : String) (d : DH) : DV := fun ρ => (d ρ).bind fun p => Out.of ((deref p.2 p.1).bind fun x => (isiV T x).map fun z => (z, p.2))
theorem pv_isi {e : Expr} {d : DH} {T : String} {TT' : Str} {p p2 pos : Pos} (he : PH X e d) (hg : Gl X "isinstance") (hm : X.mg "isinstance" = none) (hgT : Gl X TT') (hmT : X.mg TT' = none) (hvT : bootBuiltins TT' = some (.type T)) (hT : T = "int" ∨ T = "bool" ∨ T = "str" ∨ T = "tuple" ∨ T = "list")
    (hnT : TT' ≠ "__name__" := by decide) (hdT : (TT' == ("__debug__" : Str)) = false := by decide) (hs : starEach [e, .Name TT' p2] X.env = (false, eval e X.env) :: starEach [.Name TT' p2] X.env := by rfl)
    (hpl : (backTo pos (starEach [.Name TT' p2] X.env)).any (·.1) = false := by rfl) :
    PV X (.Call (.Name "isinstance" p) [e, .Name TT' p2] [] pos) (dIsi T d) :=
  PE.imp (pe_callB call_isi hg hm (by decide +kernel) (pa_cons he (pa_cons (pe_bltn (v := .ty T) hgT hmT hvT rfl hnT hdT) pa_nil (by rfl)) hs) (by decide) (by decide) hs hpl) fun σ H Q ⟨Z, O, C, ρ, R, z, ρ', q, k⟩ => by
    obtain ⟨⟨h1, ρ1⟩, e1, q⟩ := Out.bind_ok q
    obtain ⟨y, e4, q⟩ := Option.bind_eq_some_iff.mp (Out.of_ok q)
    obtain ⟨w, e5, q⟩ := Option.map_eq_some_iff.mp q
    cases q
    obtain ⟨t, e6, rfl⟩ := Option.map_eq_some_iff.mp e5
    refine ⟨Z, O, C, ρ, R, h1, ρ1, e1, fun v H1 Z1 O1 x1 R1 r1 => ⟨v, .ty T, _, _, _, rfl, .ty T, tyX_of R1.zh (deref_bor R1 r1 e4) e6, kit_ty (kit_std ?_ hT), k _ H1 Z1 O1 x1 R1 (.bl _)⟩⟩
    cases y <;> cases e6 <;> simp
end
end Ev

/-! Ev: stores, calls of the program's own defs. -/
namespace Ev
open PySem PySem.Spec PyProof.Rows L2
section
variable {K : PySem.W.Frag} {mg : MG} {Z H : Hp} {O : Lab} {C : Lk} {σ : L2.St} {ρ : Env}

def mapLab (O : Lab) (g : Nat → Option Nat) : Lab := fun b => match O b with
  | some (i, q) => match g i with
    | some j => some (j, q)
    | none => none
  | none => none
theorem mapLab_some {O : Lab} {g : Nat → Option Nat} {b : Addr} {j q : Nat} (h : mapLab O g b = some (j, q)) : ∃ i, O b = some (i, q) ∧ g i = some j := by
  unfold mapLab at h
  cases e : O b with
  | none => rw [e] at h; cases h
  | some p =>
    obtain ⟨i, q'⟩ := p
    rw [e] at h
    cases e2 : g i with
    | none => simp only [e2] at h; cases h
    | some j' => simp only [e2] at h; cases h; exact ⟨i, rfl, e2⟩
theorem mapLab_of {O : Lab} {g : Nat → Option Nat} {b : Addr} {i j q : Nat} (h : O b = some (i, q)) (e : g i = some j) : mapLab O g b = some (j, q) := by
  unfold mapLab
  rw [h]
  simp only [e]
theorem mapLab_none {O : Lab} {g : Nat → Option Nat} {b : Addr} (h : O b = none) : mapLab O g b = none := by
  unfold mapLab
  rw [h]
def notLck : Sl → Bool
  | .lck _ => false
  | .par _ => false
  | .pbox _ _ _ => false
  | _ => true
theorem Own2.rename {i j : Nat} {O' : Lab} : ∀ {k : Nat} {bs : List Addr} {xss : List (List Val)}, Own2 K mg Z H O i k bs xss → (∀ b q, O b = some (i, q) → O' b = some (j, q)) → Own2 K mg Z H O' j k bs xss
  | _, _, _, .nil, _ => .nil
  | _, _, _, .cons h1 h2 h3 h4, hh => .cons (hh _ _ h1) h2 h3 (h4.rename hh)
/-- how a slot's word may change from one table to another -/
inductive Conv (v : Option (Option V)) (C' : Lk) (j : Nat) : Sl → Sl → Prop
  | same {s : Sl} : notLck s = true → Conv v C' j s s
  | own {xs : List Val} : Conv v C' j (.par xs) (.own xs)
  | par {xs : List Val} : (∀ a, v = some (some (.ref a)) → C'.fx j = some a) → Conv v C' j (.own xs) (.par xs)
  | pp {xs : List Val} : (∀ a, v = some (some (.ref a)) → C'.fx j = some a) → Conv v C' j (.par xs) (.par xs)
  | bo {c : List Int} {d s : Int} : Conv v C' j (.pbox c d s) (.box c d s)
  | ob {c : List Int} {d s : Int} : (∀ a, v = some (some (.ref a)) → C'.fx j = some a) → Conv v C' j (.box c d s) (.pbox c d s)
  | bb {c : List Int} {d s : Int} : (∀ a, v = some (some (.ref a)) → C'.fx j = some a) → Conv v C' j (.pbox c d s) (.pbox c d s)
theorem SlotR.rename {i j : Nat} {O' : Lab} {C' : Lk} {v : Option (Option V)} {s s2 : Sl} (h : SlotR K mg Z H O C i v s) (nl : Conv v C' j s s2) (hh : ∀ b q, O b = some (i, q) → O' b = some (j, q)) : SlotR K mg Z H O' C' j v s2 := by
  cases nl with
  | own => obtain ⟨a, vs, e, o, m, r, _⟩ := h; exact ⟨a, vs, e, hh _ _ o, m, r⟩
  | par c => obtain ⟨a, vs, e, o, m, r⟩ := h; exact ⟨a, vs, e, hh _ _ o, m, r, c a e⟩
  | pp c => obtain ⟨a, vs, e, o, m, r, _⟩ := h; exact ⟨a, vs, e, hh _ _ o, m, r, c a e⟩
  | bo => obtain ⟨a, c, e, o1, o2, m1, m2, _⟩ := h; exact ⟨a, c, e, hh _ _ o1, hh _ _ o2, m1, m2⟩
  | ob k => obtain ⟨a, c, e, o1, o2, m1, m2⟩ := h; exact ⟨a, c, e, hh _ _ o1, hh _ _ o2, m1, m2, k a e⟩
  | bb k => obtain ⟨a, c, e, o1, o2, m1, m2, _⟩ := h; exact ⟨a, c, e, hh _ _ o1, hh _ _ o2, m1, m2, k a e⟩
  | same nl =>
    cases s with
    | no => trivial
    | fz x => exact h
    | own xs => obtain ⟨a, vs, e, o, m, r⟩ := h; exact ⟨a, vs, e, hh _ _ o, m, r⟩
    | own2 xss => obtain ⟨a, bs, e, o, m, r⟩ := h; exact ⟨a, bs, e, hh _ _ o, m, r.rename hh⟩
    | odK kxs => obtain ⟨a, kvs, e, o, m, k, r⟩ := h; exact ⟨a, kvs, e, hh _ _ o, m, k, r⟩
    | odT kxs => obtain ⟨a, kvs, e, o, m, k, r⟩ := h; exact ⟨a, kvs, e, hh _ _ o, m, k, r⟩
    | lck xs => cases nl
    | par xs => cases nl
    | pbox _ _ _ => cases nl
    | box cells d s => obtain ⟨a, c, e, o1, o2, m1, m2⟩ := h; exact ⟨a, c, e, hh _ _ o1, hh _ _ o2, m1, m2⟩
/-- the same state under another order of slots -/
theorem EnvR.reindex (R : EnvR K mg Z H O C σ ρ) {C' : Lk} (ch : Same C' H) (co : ∀ b, O b ≠ none → C' b = none) {σ2 : L2.St} {ρ2 : Env} (hl : ρ2.length = σ2.length) (g : Nat → Option Nat) (gl : ∀ i j, g i = some j → j < ρ2.length)
    (gi : ∀ i i' j, g i = some j → g i' = some j → i = i')
    (hs : ∀ j s, ρ2[j]? = some s → SlotR K mg Z H (fun _ => none) C' j σ2[j]? s ∨ ∃ i s0, g i = some j ∧ ρ[i]? = some s0 ∧ σ2[j]? = σ[i]? ∧ Conv σ[i]? C' j s0 s) : EnvR K mg Z H (mapLab O g) C' σ2 ρ2 where
  len := hl
  zh := R.zh
  ch := ch
  oz := fun b hb => by
    have hb' : O b ≠ none := fun z => hb (mapLab_none z)
    exact ⟨(R.oz b hb').1, co b hb', (R.oz b hb').2.2⟩
  ob := fun b j q h => by
    obtain ⟨i, _, e⟩ := mapLab_some h
    exact gl i j e
  sl := fun j s e => by
    rcases hs j s e with h | ⟨i, s0, h1, h2, h3, h4⟩
    · cases s with
      | no => trivial
      | fz x => exact h
      | own xs => obtain ⟨a, vs, e, o, _⟩ := h; cases o
      | own2 xss => obtain ⟨a, vs, e, o, _⟩ := h; cases o
      | odK xs => obtain ⟨a, vs, e, o, _⟩ := h; cases o
      | odT xs => obtain ⟨a, vs, e, o, _⟩ := h; cases o
      | lck xs => exact h
      | par xs => obtain ⟨a, vs, e, o, _⟩ := h; cases o
      | box _ _ _ => obtain ⟨a, vs, e, o, _⟩ := h; cases o
      | pbox _ _ _ => obtain ⟨a, vs, e, o, _⟩ := h; cases o
    · rw [h3]
      exact (R.sl i s0 h2).rename h4 fun b q hb => mapLab_of hb h1

/-! ### a store -/
def inList (b : Addr) : List Addr → Nat → Option Nat
  | [], _ => none
  | x :: xs, k => if b = x then some k else inList b xs (k + 1)
theorem inList_mem {b : Addr} : ∀ {xs : List Addr} {k j : Nat}, inList b xs k = some j → b ∈ xs
  | x :: xs, k, j, h => by
    unfold inList at h
    split at h
    · rename_i e; rw [e]; exact List.mem_cons_self
    · exact List.mem_cons_of_mem _ (inList_mem h)
theorem inList_not {b : Addr} : ∀ {xs : List Addr} {k : Nat}, b ∉ xs → inList b xs k = none
  | [], _, _ => rfl
  | x :: xs, k, h => by
    unfold inList
    rw [if_neg fun e => h (by rw [e]; exact List.mem_cons_self), inList_not fun z => h (List.mem_cons_of_mem _ z)]
/-- the things of a new value -/
def things : Sl → V → Hp → List Addr
  | .own _, .ref a, _ => [a]
  | .odK _, .ref a, _ => [a]
  | .odT _, .ref a, _ => [a]
  | .own2 _, .ref a, H => a :: (match H a with
    | some (.lst vs) => vs.filterMap fun v => match v with
      | .ref b => some b
      | _ => none
    | _ => [])
  | .box _ _ _, .ref a, H => a :: (match H a with
    | some (.lst (.ref c :: _)) => [c]
    | _ => [])
  | _, _, _ => []
def placeO (i : Nat) (as : List Addr) (O : Lab) : Lab := fun b => match inList b as 0 with
  | some k => some (i, k)
  | none => match O b with
    | some (j, q) => if j = i then none else some (j, q)
    | none => none
theorem placeO_out {i : Nat} {as : List Addr} {O : Lab} {b : Addr} {j q : Nat} (hb : b ∉ as) (h : O b = some (j, q)) (hj : j ≠ i) : placeO i as O b = some (j, q) := by
  unfold placeO
  rw [inList_not hb, h]
  simp [hj]
theorem placeO_some {i : Nat} {as : List Addr} {O : Lab} {b : Addr} {j q : Nat} (h : placeO i as O b = some (j, q)) : (b ∈ as ∧ j = i) ∨ (O b = some (j, q) ∧ j ≠ i) := by
  unfold placeO at h
  cases e : inList b as 0 with
  | some k => rw [e] at h; cases h; exact .inl ⟨inList_mem e, rfl⟩
  | none =>
    rw [e] at h
    cases e2 : O b with
    | none => rw [e2] at h; cases h
    | some p =>
      obtain ⟨j', q'⟩ := p
      rw [e2] at h
      by_cases hj : j' = i
      · simp [hj] at h
      · simp [hj] at h
        obtain ⟨h1, h2⟩ := h
        subst h1 h2
        exact .inr ⟨rfl, hj⟩
theorem placeO_none {i : Nat} {as : List Addr} {O : Lab} {b : Addr} (hb : b ∉ as) (h : O b = none) : placeO i as O b = none := by
  unfold placeO
  rw [inList_not hb, h]
theorem Paired.memL {α β : Type} {F : α → β → Prop} : ∀ {xs : List α} {ys : List β}, Paired F xs ys → xs.length = ys.length
  | _, _, .nil => rfl
  | _, _, .cons _ t => by rw [List.length_cons, List.length_cons, Paired.memL t]
theorem own2_place {i : Nat} {a : Addr} {O' : Lab} : ∀ {bs : List Addr} {xss : List (List Val)} {k : Nat}, bs.Nodup → Paired (fun b xs => ∃ ws, H b = some (.lst ws) ∧ Rls K mg Z ws xs) bs xss → (∀ (j : Nat) b, bs[j]? = some b → O' b = some (i, k + j + 1)) → Own2 K mg Z H O' i k bs xss
  | _, _, _, _, .nil, _ => .nil
  | _, _, k, nd, .cons h t, hh => by
    obtain ⟨ws, h1, h2⟩ := h
    refine .cons (hh 0 _ rfl) h1 h2 (own2_place (a := a) (List.nodup_cons.mp nd).2 t fun j b hb => ?_)
    have := hh (j + 1) b (by simpa using hb)
    rw [this]
    congr 2
    omega
theorem inList_at : ∀ {xs : List Addr} {k j : Nat} {b : Addr}, xs.Nodup → xs[j]? = some b → inList b xs k = some (k + j)
  | x :: xs, k, 0, b, _, h => by
    simp at h
    subst h
    unfold inList
    simp
  | x :: xs, k, j + 1, b, nd, h => by
    have h' : xs[j]? = some b := by simpa using h
    unfold inList
    rw [if_neg, inList_at (List.nodup_cons.mp nd).2 h']
    · congr 1; omega
    · intro e
      subst e
      exact (List.nodup_cons.mp nd).1 (List.mem_of_getElem? h')
theorem refs_back : ∀ bs : List Addr, ((bs.map V.ref).filterMap fun v => match v with | .ref b => some b | _ => none) = bs
  | [] => rfl
  | b :: bs => by simp [refs_back bs]
/-- a new value comes to a slot -/
theorem EnvR.place {H0 : Hp} (R : EnvR K mg Z H O C σ ρ) {i : Nat} {v : V} {s : Sl} (hi : i < ρ.length) (r : OwR K mg Z H O C H0 v s) :
    EnvR K mg Z H (placeO i (things s v H) O) C (σ.set i (some v)) (ρ.set i s) ∧ (∀ b ∈ things s v H, H0 b = none ∧ O b = none) := by
  have hiσ : i < σ.length := by rw [← R.len]; exact hi
  -- what the things are
  have new : (∀ b ∈ things s v H, O b = none ∧ Z b = none ∧ C b = none ∧ H0 b = none ∧ H b ≠ none) ∧ (things s v H).Nodup ∧
      (∀ O' : Lab, (∀ (j : Nat) b, (things s v H)[j]? = some b → O' b = some (i, j)) → SlotR K mg Z H O' C i (some (some v)) s) := by
    cases s with
    | no => exact r.elim
    | fz x => exact ⟨fun b hb => by simp [things] at hb, List.nodup_nil, fun _ _ => ⟨v, rfl, r⟩⟩
    | own xs =>
      obtain ⟨a, vs, rfl, h1, h2, h3, h4, h5, h6⟩ := r
      refine ⟨fun b hb => ?_, by simp [things], fun O' hO => ⟨a, vs, rfl, hO 0 a rfl, h5, h6⟩⟩
      have e : b = a := by simpa [things] using hb
      subst e
      exact ⟨h1, h2, h3, h4, by rw [h5]; simp⟩
    | odK xs =>
      obtain ⟨a, vs, rfl, h1, h2, h3, h4, h5, h6, h7⟩ := r
      refine ⟨fun b hb => ?_, by simp [things], fun O' hO => ⟨a, vs, rfl, hO 0 a rfl, h5, h6, h7⟩⟩
      have e : b = a := by simpa [things] using hb
      subst e
      exact ⟨h1, h2, h3, h4, by rw [h5]; simp⟩
    | odT xs =>
      obtain ⟨a, vs, rfl, h1, h2, h3, h4, h5, h6, h7⟩ := r
      refine ⟨fun b hb => ?_, by simp [things], fun O' hO => ⟨a, vs, rfl, hO 0 a rfl, h5, h6, h7⟩⟩
      have e : b = a := by simpa [things] using hb
      subst e
      exact ⟨h1, h2, h3, h4, by rw [h5]; simp⟩
    | own2 xss =>
      obtain ⟨a, bs, rfl, h1, h2, h3, h4⟩ := r
      have et : things (.own2 xss) (.ref a) H = a :: bs := by simp only [things, h3]; rw [refs_back]
      rw [et]
      refine ⟨fun b hb => ?_, h2, fun O' hO => ⟨a, bs, rfl, hO 0 a rfl, h3, own2_place (a := a) (List.nodup_cons.mp h2).2 h4 fun j b hb => by rw [hO (j + 1) b (by simpa using hb)]; simp⟩⟩
      obtain ⟨k1, k2, k3, k4⟩ := h1 b hb
      refine ⟨k1, k2, k3, k4, ?_⟩
      rcases List.mem_cons.mp hb with e | hb
      · subst e; rw [h3]; simp
      · have go : ∀ {bs : List Addr} {xss : List (List Val)}, Paired (fun b xs => ∃ ws, H b = some (.lst ws) ∧ Rls K mg Z ws xs) bs xss → b ∈ bs → H b ≠ none := by
          intro bs xss hp
          induction hp with
          | nil => intro hb; cases hb
          | cons q t ih =>
            intro hb
            rcases List.mem_cons.mp hb with e | hb
            · subst e; obtain ⟨ws, q1, _⟩ := q; rw [q1]; simp
            · exact ih hb
        exact go h4 hb
    | lck _ => exact r.elim
    | par _ => exact r.elim
    | pbox _ _ _ => exact r.elim
    | box cells d s =>
      obtain ⟨a, c, rfl, ne, h1, h2, h3⟩ := r
      have et : things (.box cells d s) (.ref a) H = [a, c] := by simp only [things, h2]
      rw [et]
      refine ⟨fun b hb => ?_, by simp [ne], fun O' hO => ⟨a, c, rfl, hO 0 a rfl, hO 1 c rfl, h2, h3⟩⟩
      have hb' : b = a ∨ b = c := by simpa using hb
      obtain ⟨k1, k2, k3, k4⟩ := h1 b hb'
      refine ⟨k1, k2, k3, k4, ?_⟩
      rcases hb' with e | e
      · subst e; rw [h2]; simp
      · subst e; rw [h3]; simp
  obtain ⟨n1, n2, n3⟩ := new
  refine ⟨⟨by rw [List.length_set, List.length_set]; exact R.len, R.zh, R.ch, fun b hb => ?_, fun b j q h => ?_, fun j t ej => ?_⟩, fun b hb => ⟨(n1 b hb).2.2.2.1, (n1 b hb).1⟩⟩
  · obtain ⟨⟨j, q⟩, hp⟩ := Option.ne_none_iff_exists'.mp hb
    rcases placeO_some hp with ⟨h1, _⟩ | ⟨h1, _⟩
    · obtain ⟨k1, k2, k3, k4, k5⟩ := n1 b h1
      exact ⟨k2, k3, k5⟩
    · exact R.oz b (by rw [h1]; simp)
  · rw [List.length_set]
    rcases placeO_some h with ⟨_, e⟩ | ⟨h1, _⟩
    · rw [e]; exact hi
    · exact R.ob b j q h1
  · by_cases hj : j = i
    · subst hj
      rw [List.getElem?_set_self hi] at ej
      cases ej
      rw [List.getElem?_set_self hiσ]
      refine n3 _ fun k b hb => ?_
      unfold placeO
      rw [inList_at n2 hb]
      simp
    · rw [List.getElem?_set_ne (Ne.symm hj)] at ej
      rw [List.getElem?_set_ne (Ne.symm hj)]
      refine (R.sl j t ej).keep (Same.refl Z) fun b q hb => ⟨rfl, placeO_out (fun z => ?_) hb hj⟩
      rw [(n1 b z).1] at hb
      cases hb
theorem Ext.place {Z0 H0 : Hp} {O0 : Lab} (x : Ext Z0 H0 O0 Z H O) {i : Nat} {as : List Addr} (h : ∀ b ∈ as, H0 b = none ∧ O b = none) : Ext Z0 H0 O0 Z H (placeO i as O) where
  z := x.z
  h := fun b o h1 h2 => by
    obtain ⟨h3, h4⟩ := x.h b o h1 h2
    exact ⟨h3, placeO_none (fun z => by rw [(h b z).1] at h1; cases h1) h4⟩
  t := x.t
  o := fun b j q hq => by
    rcases placeO_some hq with ⟨h1, _⟩ | ⟨h1, _⟩
    · exact .inl (h b h1).1
    · exact x.o b j q h1
  zn := x.zn
end
end Ev

/-! Ev: the program's own defs: what one is worth, its call, its body. -/
namespace Ev
open PySem PySem.Spec PyProof.Rows L2

/-- a def's worth: its level, its parameters, the one that it changes (if any), what it does: from the slots of its parameters, the answer and what has become of that one -/
structure FnE where
  lv : Nat
  np : Nat
  rf : Option Nat
  sem : List Sl → Out (Sl × Sl)

/-- within a call: nothing is locked; the parameters' addresses are held -/
def parL (vs : List V) : Lk := ⟨fun _ => none, fun j => match vs[j]? with
  | some (.ref a) => some a
  | _ => none, fun _ => none, fun _ _ h => nomatch h⟩
def outEnv (n : Nat) (rf : Option Nat) (s r : Sl) : Env := (match rf with
  | none => List.replicate n .no
  | some k => (List.replicate n .no).set k s) ++ [r]
theorem outEnv_length (n : Nat) (rf : Option Nat) (s r : Sl) : (outEnv n rf s r).length = n + 1 := by
  unfold outEnv
  cases rf <;> simp
def spF (K : PySem.W.Frag) (mg : MG) (e : FnE) : Sp := fun vs H Q _ => vs.length = e.np ∧ ∃ Z O args, EnvR K mg Z H O (parL vs) (vs.map some) args ∧ ∃ r s, e.sem args = .ok (r, s) ∧
  ∀ v H' Z' O', Ext Z H O Z' H' O' → EnvR K mg Z' H' O' (parL vs) (vs.map some ++ [some v]) (outEnv e.np e.rf s r) → Q v H'

/-- a def that stands at the module's name x -/
structure Cal (P : Program) (w : World) (K : PySem.W.Frag) (mg : MG) (base : Heap) (CX : CXT) (x : Str) (e : FnE) : Prop where
  ex : ∃ f fd ps, FnOk P w K mg base CX e.lv f fd ps (spF K mg e) ∧ mg x = some (.ref f) ∧ PySem.W.keepIn K (.ref f) = true ∧ Binds K fd ps []
abbrev CalX (X : Cx) (CX : CXT) (x : Str) (e : FnE) : Prop := Cal X.prog X.w X.K X.mg X.base CX x e

theorem Rls.slots {K : PySem.W.Frag} {mg : MG} {Z H : Hp} {O : Lab} {C : Lk} : ∀ {vs : List V} {xs : List Val}, Rls K mg Z vs xs → ∀ (j : Nat) (s : Sl), (xs.map Sl.fz)[j]? = some s → SlotR K mg Z H O C j (vs.map some)[j]? s
  | _, _, .nil, j, s, h => by simp at h
  | _, _, .cons r t, 0, s, h => by
    simp at h
    subst h
    exact ⟨_, rfl, r⟩
  | _, _, .cons r t, j + 1, s, h => by
    have q := Rls.slots (H := H) (O := O) (C := C) t j s (by simpa using h)
    rw [List.map_cons, List.getElem?_cons_succ]
    cases s with
    | no => trivial
    | fz x => exact q
    | _ => simp at h

def notNo : Sl → Bool
  | .no => false
  | .par _ => false
  | .pbox _ _ _ => false
  | .lck _ => false
  | _ => true
def callD0 (e : FnE) (d : DA) : DO := fun ρ => (d ρ).bind fun p => match takes p.2 p.1 with
  | some q => if q.1.length = e.np then (e.sem (q.1.map .fz)).bind fun r => if notNo r.1 = true then .ok (r.1, q.2) else .bad else .bad
  | none => .bad
section
variable {K : PySem.W.Frag} {mg : MG} {Z H : Hp} {O : Lab} {C : Lk} {σ : L2.St} {ρ : Env}
/-- the answer of a call, to the caller: what it hands back is a new thing -/
theorem result_own {Ck : Lk} {n : Nat} {Z' H' H0 : Hp} {O' : Lab} {vs : List V} {v : V} {ρ2 : Env} {r : Sl} {O2 : Lab} (R : EnvR K mg Z' H' O' Ck (vs.map some ++ [some v]) ρ2) (hr : ρ2[n]? = some r) (nn : notNo r = true) (hn : vs.length = n)
    (hO : ∀ b q, O' b = some (n, q) → O2 b = none ∧ C b = none ∧ H0 b = none) : OwR K mg Z' H' O2 C H0 v r := by
  have h := R.sl n r hr
  have ev : (vs.map some ++ [some v])[n]? = some (some v) := by rw [List.getElem?_append_right (by simp [hn])]; simp [hn]
  rw [ev] at h
  cases r with
  | no => cases nn
  | par _ => cases nn
  | pbox _ _ _ => cases nn
  | fz x => obtain ⟨u, e, q⟩ := h; cases e; exact q
  | own xs =>
    obtain ⟨a, ws, e, o, m, q⟩ := h
    cases e
    obtain ⟨k1, k2, k3⟩ := hO a 0 o
    exact ⟨a, ws, rfl, k1, (R.oz a (by rw [o]; simp)).1, k2, k3, m, q⟩
  | odK xs =>
    obtain ⟨a, ws, e, o, m, q⟩ := h
    cases e
    obtain ⟨k1, k2, k3⟩ := hO a 0 o
    exact ⟨a, ws, rfl, k1, (R.oz a (by rw [o]; simp)).1, k2, k3, m, q⟩
  | odT xs =>
    obtain ⟨a, ws, e, o, m, q⟩ := h
    cases e
    obtain ⟨k1, k2, k3⟩ := hO a 0 o
    exact ⟨a, ws, rfl, k1, (R.oz a (by rw [o]; simp)).1, k2, k3, m, q⟩
  | lck xs => cases nn
  | own2 xss =>
    obtain ⟨a, bs, e, o, m, q⟩ := h
    cases e
    have lab : ∀ {k : Nat} {bs : List Addr} {xss : List (List Val)}, Own2 K mg Z' H' O' n k bs xss → (∀ b ∈ bs, ∃ j, k ≤ j ∧ O' b = some (n, j + 1)) ∧ bs.Nodup ∧ Paired (fun b xs => ∃ ws, H' b = some (.lst ws) ∧ Rls K mg Z' ws xs) bs xss := by
      intro k bs xss h
      induction h with
      | nil => exact ⟨fun b hb => (by cases hb), List.nodup_nil, .nil⟩
      | @cons k b ws xs bs xss h1 h2 h3 _ ih =>
        obtain ⟨i1, i2, i3⟩ := ih
        refine ⟨fun c hc => ?_, List.nodup_cons.mpr ⟨fun hb => ?_, i2⟩, .cons ⟨ws, h2, h3⟩ i3⟩
        · rcases List.mem_cons.mp hc with e | hc
          · subst e; exact ⟨k, Nat.le_refl _, h1⟩
          · obtain ⟨j, h5, h6⟩ := i1 c hc
            exact ⟨j, by omega, h6⟩
        · obtain ⟨j, h5, h6⟩ := i1 _ hb
          rw [h1] at h6
          cases h6
          omega
    obtain ⟨l1, l2, l3⟩ := lab q
    refine ⟨a, bs, rfl, fun b hb => ?_, List.nodup_cons.mpr ⟨fun hb => ?_, l2⟩, m, l3⟩
    · have : ∃ j, O' b = some (n, j) := by
        rcases List.mem_cons.mp hb with e | hb
        · subst e; exact ⟨0, o⟩
        · obtain ⟨j, _, e⟩ := l1 b hb
          exact ⟨_, e⟩
      obtain ⟨j, e⟩ := this
      obtain ⟨k1, k2, k3⟩ := hO b j e
      exact ⟨k1, (R.oz b (by rw [e]; simp)).1, k2, k3⟩
    · obtain ⟨j, _, e⟩ := l1 a hb
      rw [o] at e
      cases e
  | box cells d s =>
    obtain ⟨a, c, e, o1, o2, m1, m2⟩ := h
    cases e
    refine ⟨a, c, rfl, fun z => ?_, fun b hb => ?_, m1, m2⟩
    · subst z; rw [o1] at o2; cases o2
    · have : ∃ j, O' b = some (n, j) := by
        rcases hb with e | e
        · subst e; exact ⟨0, o1⟩
        · subst e; exact ⟨1, o2⟩
      obtain ⟨j, e⟩ := this
      obtain ⟨k1, k2, k3⟩ := hO b j e
      exact ⟨k1, (R.oz b (by rw [e]; simp)).1, k2, k3⟩
theorem OwR.older {Z' H' H0 : Hp} {O' : Lab} {v : V} {r : Sl} {Z0 H00 : Hp} {O0 : Lab} {Z1 : Hp} {O1 : Lab} (h : OwR K mg Z' H' O' C H0 v r) (x : Ext Z0 H00 O0 Z1 H0 O1) : OwR K mg Z' H' O' C H00 v r := by
  cases r with
  | no => exact h
  | fz x => exact h
  | own xs => obtain ⟨a, ws, e, k1, k2, k3, k4, m⟩ := h; exact ⟨a, ws, e, k1, k2, k3, x.fresh k4, m⟩
  | odK xs => obtain ⟨a, ws, e, k1, k2, k3, k4, m⟩ := h; exact ⟨a, ws, e, k1, k2, k3, x.fresh k4, m⟩
  | odT xs => obtain ⟨a, ws, e, k1, k2, k3, k4, m⟩ := h; exact ⟨a, ws, e, k1, k2, k3, x.fresh k4, m⟩
  | own2 xs =>
    obtain ⟨a, ws, e, k1, m⟩ := h
    exact ⟨a, ws, e, fun b hb => ⟨(k1 b hb).1, (k1 b hb).2.1, (k1 b hb).2.2.1, x.fresh (k1 b hb).2.2.2⟩, m⟩
  | lck xs => exact h
  | par xs => exact h
  | pbox _ _ _ => exact h
  | box _ _ _ =>
    obtain ⟨a, ws, e, ne, k1, m⟩ := h
    exact ⟨a, ws, e, ne, fun b hb => ⟨(k1 b hb).1, (k1 b hb).2.1, (k1 b hb).2.2.1, x.fresh (k1 b hb).2.2.2⟩, m⟩
theorem outEnv_last (n : Nat) (rf : Option Nat) (s r : Sl) : (outEnv n rf s r)[n]? = some r := by
  unfold outEnv
  cases rf <;> simp
end
theorem mapLab_id (O : Lab) : mapLab O (fun i => some i) = O := by
  funext b
  unfold mapLab
  cases O b with
  | none => rfl
  | some p => rfl
section
variable {K : PySem.W.Frag} {mg : MG} {Z H Z' H' : Hp} {O Oc O' : Lab} {C : Lk} {σ : L2.St} {ρ : Env}
def backO (m : Option (Nat × Nat)) (O O' : Lab) : Lab := fun b => match m with
  | none => O b
  | some (k, i) => match O' b with
    | some (k', q) => if k' = k then some (i, q) else (match O b with
      | some (j, q) => if j = i then none else some (j, q)
      | none => none)
    | none => match O b with
      | some (j, q) => if j = i then none else some (j, q)
      | none => none
def backEnv (m : Option (Nat × Nat)) (ρ : Env) (s : Sl) : Env := match m with
  | some (_, i) => ρ.set i s
  | none => ρ
theorem backEnv_length (m : Option (Nat × Nat)) (ρ : Env) (s : Sl) : (backEnv m ρ s).length = ρ.length := by
  cases m with
  | none => rfl
  | some p => simp [backEnv]
theorem backO_none (O O' : Lab) : backO none O O' = O := by funext b; rfl
theorem backO_some (k i : Nat) (O O' : Lab) (b : Addr) (j q : Nat) : backO (some (k, i)) O O' b = some (j, q) ↔ (j = i ∧ O' b = some (k, q)) ∨ (j ≠ i ∧ O b = some (j, q) ∧ ∀ q', O' b ≠ some (k, q')) := by
  unfold backO
  cases e : O' b with
  | none =>
    cases e2 : O b with
    | none => simp
    | some p =>
      obtain ⟨j', q'⟩ := p
      by_cases hj : j' = i
      · subst hj; simp; rintro h1 h2; exact absurd h2.symm h1
      · simp [hj]; rintro rfl rfl; exact hj
  | some p =>
    obtain ⟨k', q'⟩ := p
    by_cases hk : k' = k
    · subst hk
      simp
      rintro _; exact ⟨Eq.symm, Eq.symm⟩
    · cases e2 : O b with
      | none => simp [hk]
      | some p =>
        obtain ⟨j', q2⟩ := p
        by_cases hj : j' = i
        · subst hj; simp [hk]; rintro h1 h2; exact absurd h2.symm h1
        · simp [hk, hj]; rintro rfl rfl; exact hj
/-- behind a call, the caller: c tells its slot for a changed parameter -/
theorem EnvR.back (R : EnvR K mg Z H O C σ ρ) (x : Ext Z H Oc Z' H' O') (zh : Same Z' H') (m : Option (Nat × Nat))
    (oc : ∀ b k q, Oc b = some (k, q) ↔ ∃ i, m = some (k, i) ∧ O b = some (i, q))
    (oz' : ∀ b k q, O' b = some (k, q) → ∀ i, m = some (k, i) → Z' b = none ∧ H' b ≠ none)
    (s0 s : Sl) (Ck : Lk) (hi : ∀ k i, m = some (k, i) → i < ρ.length)
    (hs : ∀ k i, m = some (k, i) → SlotR K mg Z' H' O' Ck k σ[i]? s0 ∧ Conv σ[i]? C i s0 s) :
    ∃ O2, (∀ b j q, O2 b = some (j, q) → H b = none ∧ (∃ k, m = some (k, j) ∧ O' b = some (k, q)) ∨ ∃ q', O b = some (j, q')) ∧ Ext Z H O Z' H' O2 ∧
      EnvR K mg Z' H' O2 C σ (backEnv m ρ s) := by
  obtain ⟨O2, hO2⟩ : ∃ O2, O2 = backO m O O' := ⟨_, rfl⟩
  have o2none : m = none → O2 = O := fun h => by rw [hO2, h, backO_none]
  have o2some : ∀ {k i : Nat}, m = some (k, i) → ∀ b j q, O2 b = some (j, q) ↔ (j = i ∧ O' b = some (k, q)) ∨ (j ≠ i ∧ O b = some (j, q) ∧ ∀ q', O' b ≠ some (k, q')) := by
    intro k i h b j q
    rw [hO2, h]
    exact backO_some k i O O' b j q
  have ocnone : ∀ b, O b = none → Oc b = none := fun b h => by
    cases e : Oc b with
    | none => rfl
    | some p =>
      obtain ⟨k, q⟩ := p
      obtain ⟨i, _, h2⟩ := (oc b k q).mp e
      rw [h] at h2; cases h2
  -- others of the caller's own stand
  have other : ∀ {b j q}, O b = some (j, q) → (∀ k, m ≠ some (k, j)) → H' b = H b ∧ O' b = none := fun {b j q} h hm => by
    have hc : Oc b = none := by
      cases e : Oc b with
      | none => rfl
      | some p =>
        obtain ⟨k, q'⟩ := p
        obtain ⟨i, h1, h2⟩ := (oc b k q').mp e
        rw [h] at h2
        cases h2
        exact absurd h1 (hm k)
    obtain ⟨_, _, h3⟩ := R.oz b (by rw [h]; simp)
    obtain ⟨o, ho⟩ := Option.ne_none_iff_exists'.mp h3
    obtain ⟨h4, h5⟩ := x.h b o ho hc
    exact ⟨by rw [h4, ho], h5⟩
  have keyO : ∀ b j q, O2 b = some (j, q) → H b = none ∧ (∃ k, m = some (k, j) ∧ O' b = some (k, q)) ∨ ∃ q', O b = some (j, q') := fun b j q h => by
    cases hm : m with
    | none => rw [o2none hm] at h; exact .inr ⟨q, h⟩
    | some p =>
      obtain ⟨k, i⟩ := p
      rcases (o2some hm b j q).mp h with ⟨rfl, h1⟩ | ⟨_, h1, _⟩
      · rcases x.o b k q h1 with h2 | ⟨q', h2⟩
        · exact .inl ⟨h2, k, rfl, h1⟩
        · obtain ⟨i', h3, h4⟩ := (oc b k q').mp h2
          rw [hm] at h3
          cases h3
          exact .inr ⟨q', h4⟩
      · exact .inr ⟨q, h1⟩
  refine ⟨O2, keyO, ⟨x.z, fun b o h1 h2 => ?_, x.t, fun b j q h => (keyO b j q h).elim (fun z => .inl z.1) .inr, fun b h => ?_⟩, ?_⟩
  · obtain ⟨h3, h4⟩ := x.h b o h1 (ocnone b h2)
    refine ⟨h3, ?_⟩
    cases e : O2 b with
    | none => rfl
    | some p =>
      obtain ⟨j, q⟩ := p
      rcases keyO b j q e with ⟨h5, _⟩ | ⟨q', h5⟩
      · rw [h1] at h5; cases h5
      · rw [h2] at h5; cases h5
  · rcases x.zn b h with h1 | h1 | h1
    · exact .inl h1
    · exact .inr (.inl h1)
    · exact .inr (.inr fun z => h1 (ocnone b z))
  · have hlen := backEnv_length m ρ s
    have cz : ∀ b, C b ≠ none → ∀ j q, O2 b ≠ some (j, q) := fun b hb j q h => by
      rcases keyO b j q h with ⟨h1, _⟩ | ⟨q', h1⟩
      · exact hb (R.ch.free h1)
      · exact hb (R.oz b (by rw [h1]; simp)).2.1
    refine ⟨by rw [hlen]; exact R.len, zh, fun b o h => ?_, fun b hb => ?_, fun b j q h => ?_, fun j t ej => ?_⟩
    · have h1 := R.ch b o h
      have h2 : O b = none := by
        cases e : O b with
        | none => rfl
        | some p => have := (R.oz b (by rw [e]; simp)).2.1; rw [h] at this; cases this
      exact (x.h b o h1 (ocnone b h2)).1
    · obtain ⟨⟨j, q⟩, hp⟩ := Option.ne_none_iff_exists'.mp hb
      refine ⟨?_, ?_, ?_⟩
      · cases hm : m with
        | none =>
          rw [o2none hm] at hp
          obtain ⟨h1, h2, h3⟩ := R.oz b (by rw [hp]; simp)
          cases e : Z' b with
          | none => rfl
          | some o =>
            rcases x.zn b (by rw [e]; simp) with h4 | h4 | h4
            · exact absurd h1 h4
            · exact absurd h4 h3
            · obtain ⟨⟨k, q'⟩, hp'⟩ := Option.ne_none_iff_exists'.mp h4
              obtain ⟨i, h5, _⟩ := (oc b k q').mp hp'
              rw [hm] at h5; cases h5
        | some p =>
          obtain ⟨k, i⟩ := p
          rcases (o2some hm b j q).mp hp with ⟨rfl, h1⟩ | ⟨hj, h1, _⟩
          · exact (oz' b k q h1 _ hm).1
          · obtain ⟨h2, _, h3⟩ := R.oz b (by rw [h1]; simp)
            cases e : Z' b with
            | none => rfl
            | some o =>
              rcases x.zn b (by rw [e]; simp) with h4 | h4 | h4
              · exact absurd h2 h4
              · exact absurd h4 h3
              · obtain ⟨⟨k', q'⟩, hp'⟩ := Option.ne_none_iff_exists'.mp h4
                obtain ⟨i', h5, h6⟩ := (oc b k' q').mp hp'
                rw [hm] at h5
                cases h5
                rw [h1] at h6
                cases h6
                exact absurd rfl hj
      · cases e : C b with
        | none => rfl
        | some o => exact absurd hp (cz b (by rw [e]; simp) j q)
      · rcases keyO b j q hp with ⟨_, k, h1, h2⟩ | ⟨q', h1⟩
        · exact (oz' b k q h2 j h1).2
        · exact x.t b (R.oz b (by rw [h1]; simp)).2.2
    · rw [hlen]
      rcases keyO b j q h with ⟨_, k, h1, h2⟩ | ⟨q', h1⟩
      · exact hi k j h1
      · exact R.ob b j q' h1
    · cases hm : m with
      | none =>
        rw [hm] at ej
        have ej : ρ[j]? = some t := ej
        rw [o2none hm]
        exact (R.sl j t ej).keep x.z fun b q hb => ⟨(other hb fun k z => by rw [hm] at z; cases z).1, hb⟩
      | some p =>
        obtain ⟨k, i⟩ := p
        rw [hm] at ej
        have ej : (ρ.set i s)[j]? = some t := ej
        have hi' := hi k i hm
        by_cases hj : j = i
        · subst hj
          rw [List.getElem?_set_self hi'] at ej
          cases ej
          obtain ⟨h1, nl⟩ := hs k j hm
          exact h1.rename nl fun b q hb => (o2some hm b j q).mpr (.inl ⟨rfl, hb⟩)
        · rw [List.getElem?_set_ne (Ne.symm hj)] at ej
          refine (R.sl j t ej).keep x.z fun b q hb => ?_
          obtain ⟨h1, h2⟩ := other hb fun k' z => by rw [hm] at z; cases z; exact hj rfl
          exact ⟨h1, (o2some hm b j q).mpr (.inr ⟨hj, hb, fun q' z => by rw [h2] at z; cases z⟩)⟩
end

theorem mapLab_iff {O : Lab} {k i : Nat} (b : Addr) (k' q : Nat) : mapLab O (fun j => if j = i then some k else none) b = some (k', q) ↔ ∃ j, some (k, i) = some (k', j) ∧ O b = some (j, q) := by
  constructor
  · intro h
    obtain ⟨j, h1, h2⟩ := mapLab_some h
    by_cases hj : j = i
    · subst hj
      simp at h2
      subst h2
      exact ⟨j, rfl, h1⟩
    · simp [hj] at h2
  · rintro ⟨j, h1, h2⟩
    cases h1
    exact mapLab_of h2 (by simp)
section
variable {X : Cx} {CX : CXT} {e : FnE}
/-- f(..): nothing of the caller's is changed -/
theorem pow_call0 {k : Nat} {x : Str} {a : Expr} {es : List Expr} {d : DA} {p pos : Pos} (F : CalX X CX x e) (hrf : e.rf = none) (hr : Room k X.A) (hk : e.lv ≤ k) (hx : Passes CX X E0) (hg : Gl X x) (ha : PAs X (a :: es) d)
    (hdb : (x == ("__debug__" : Str)) = false := by decide) (he : starEach (a :: es) X.env = (false, eval a X.env) :: starEach es X.env := by rfl) (hpl : (backTo pos (starEach es X.env)).any (·.1) = false := by rfl) :
    POw X (.Call (.Name x p) (a :: es) [] pos) (callD0 e d) := by
  obtain ⟨f, fd, ps, G, hm, hkp, hb⟩ := F.ex
  refine PE.imp (pe_call G (hr.mono hk) hg hm hkp hb .nil hx ha hdb he hpl) fun σ H Q ⟨Z, O, C, ρ, R, s, ρ', q, kk⟩ => ?_
  obtain ⟨⟨hs, ρ1⟩, e1, q⟩ := Out.bind_ok q
  cases e2 : takes ρ1 hs with
  | none => simp only [e2] at q; cases q
  | some t =>
    obtain ⟨xs, ρ2⟩ := t
    simp only [e2] at q
    split at q
    · rename_i hlen
      obtain ⟨⟨r, s'⟩, e3, q⟩ := Out.bind_ok q
      split at q
      rotate_left
      · cases q
      rename_i hno
      cases q
      refine ⟨Z, O, C, ρ, R, hs, ρ1, e1, fun vs H1 Z1 O1 x1 R1 r1 => ?_⟩
      obtain ⟨Z2, O2, x2, R2, r2⟩ := takes_ok R1 r1 e2
      rw [List.append_nil]
      refine ⟨by rw [r2.length]; exact hlen, Z2, fun _ => none, xs.map .fz, ⟨?_, R2.zh, fun b o h => (by cases h), fun b h => absurd rfl h, fun b i q h => (by cases h), fun j s h => Rls.slots r2 j s h⟩, r, s', e3, fun v H3 Z3 O3 x3 R3 => ?_⟩
      · rw [List.length_map, List.length_map, r2.length]
      · have same : Same H1 H3 := fun b o h => (x3.h b o h rfl).1
        obtain ⟨O4, k1, x4, R4⟩ := R2.back x3 R3.zh none (fun b k q => ⟨fun h => (by cases h), fun ⟨_, h, _⟩ => (by cases h)⟩) (fun _ _ _ _ _ h => (by cases h)) .no .no (parL vs) (fun _ _ h => (by cases h)) (fun _ _ h => (by cases h))
        have hn : vs.length = e.np := by rw [r2.length]; exact hlen
        have hO : ∀ b q, O3 b = some (e.np, q) → O4 b = none ∧ C b = none ∧ H1 b = none := fun b q hb => by
          have hH : H1 b = none := by
            rcases x3.o b e.np q hb with h | ⟨_, h⟩
            · exact h
            · cases h
          refine ⟨?_, R2.ch.free hH, hH⟩
          cases e5 : O4 b with
          | none => rfl
          | some p =>
            obtain ⟨j, q'⟩ := p
            rcases k1 b j q' e5 with ⟨_, _, h, _⟩ | ⟨q'', h⟩
            · cases h
            · exact absurd hH (R2.oz b (by rw [h]; simp)).2.2
        have h5 := result_own (O2 := O4) (C := C) (H0 := H1) R3 (outEnv_last _ _ _ _) hno hn hO
        have xx := (x1.trans x2).trans x4
        exact kk v H3 Z3 O4 xx R4 (OwR.older h5 x1)
    · cases q
/-- a slot handed over to be changed -/
def parIn : Sl → Option Sl
  | .own ys => some (.par ys)
  | .par ys => some (.par ys)
  | .box c d s => some (.pbox c d s)
  | .pbox c d s => some (.pbox c d s)
  | _ => none
/-- the caller's slot behind the call: what it was, what the def left -/
def parBack : Sl → Sl → Option Sl
  | .own _, .par zs => some (.own zs)
  | .par _, .par zs => some (.par zs)
  | .box _ _ _, .pbox c d s => some (.box c d s)
  | .pbox _ _ _, .pbox c d s => some (.pbox c d s)
  | _, _ => none
def callD1 (e : FnE) (k : Nat) (d : DA) : DO := fun ρ => (d ρ).bind fun p => match p.1[k]? with
  | some (.slot i) => match takes p.2 (p.1.set k (.val .non)) with
    | some q => match q.2[i]? with
      | some s0 => match parIn s0 with
        | some p0 => if q.1.length = e.np then (e.sem ((q.1.map .fz).set k p0)).bind fun r => match parBack s0 r.2 with
          | some sR => if notNo r.1 = true then .ok (r.1, q.2.set i sR) else .bad
          | none => .bad
          else .bad
        | none => .bad
      | none => .bad
    | none => .bad
  | _ => .bad
theorem HdRs.get {K : PySem.W.Frag} {mg : MG} {Z : Hp} {σ : L2.St} : ∀ {vs : List V} {hs : List Hd} {k : Nat} {h : Hd}, HdRs K mg Z σ vs hs → hs[k]? = some h → ∃ v, vs[k]? = some v ∧ HdR K mg Z σ v h
  | _, _, _, _, .nil, e => by simp at e
  | _, _, 0, _, .cons r t, e => by simp at e; subst e; exact ⟨_, rfl, r⟩
  | _, _, k + 1, h, .cons r t, e => by
    obtain ⟨v, h1, h2⟩ := HdRs.get (k := k) (h := h) t (by simpa using e)
    exact ⟨v, by simpa using h1, h2⟩
theorem HdRs.setNon {K : PySem.W.Frag} {mg : MG} {Z : Hp} {σ : L2.St} : ∀ {vs : List V} {hs : List Hd} (k : Nat), HdRs K mg Z σ vs hs → HdRs K mg Z σ (vs.set k .non) (hs.set k (.val .non))
  | _, _, _, .nil => .nil
  | _, _, 0, .cons r t => .cons (show Rl K mg Z V.non Val.non from .non) t
  | _, _, k + 1, .cons r t => .cons r (HdRs.setNon k t)
/-- what call1 needs, of the slot's kind -/
theorem call1_core {K : PySem.W.Frag} {mg : MG} {Z H : Hp} {O : Lab} {C : Lk} {σ : L2.St} {ρ : Env} {vs : List V} {xs : List Val} {k i : Nat} {p0 p1 s0 sR r : Sl} {n : Nat} {Q : VK}
    (R : EnvR K mg Z H O C σ ρ) (r2 : Rls K mg Z (vs.set k .non) xs) (hlen : xs.length = n) (hk : k < n) (hv : ∃ v, vs[k]? = some v ∧ σ[i]? = some (some v)) (hi : ρ[i]? = some s0)
    (h0 : parIn s0 = some p0) (h0' : parBack s0 p1 = some sR) (nn : notNo r = true) :
    (∃ O', EnvR K mg Z H O' (parL vs) (vs.map some) ((xs.map .fz).set k p0) ∧
      ((∀ v H' Z' O2, Ext Z H O' Z' H' O2 → EnvR K mg Z' H' O2 (parL vs) (vs.map some ++ [some v]) (outEnv n (some k) p1 r) →
        ∃ O4, Ext Z H O Z' H' O4 ∧ EnvR K mg Z' H' O4 C σ (ρ.set i sR) ∧ OwR K mg Z' H' O4 C H v r))) := by
  obtain ⟨vk, e1, e2⟩ := hv
  have hvl : vs.length = n := by have := r2.length; rw [List.length_set] at this; rw [this]; exact hlen
  have hiR := (List.getElem?_eq_some_iff.mp hi).1
  have oc := fun b k' q => mapLab_iff (O := O) (k := k) (i := i) b k' q
  refine ⟨mapLab O (fun j => if j = i then some k else none), ?_, ?_⟩
  · refine R.reindex (fun b o h => (by cases h)) (fun b _ => rfl) (by simp [hvl, hlen]) _ (fun j j' h => ?_) (fun j j' j2 h h' => ?_) fun j s e => ?_
    · by_cases hj : j = i
      · simp [hj] at h; subst h; simp [hlen]; exact hk
      · simp [hj] at h
    · by_cases hj : j = i
      · by_cases hj' : j' = i
        · rw [hj, hj']
        · simp [hj'] at h'
      · simp [hj] at h
    · by_cases hj : j = k
      · subst hj
        right
        rw [List.getElem?_set_self (by simp [hlen]; exact hk)] at e
        cases e
        refine ⟨i, s0, by simp, hi, by rw [List.getElem?_map, e1, e2]; rfl, ?_⟩
        have fx : ∀ a, σ[i]? = some (some (.ref a)) → (parL vs).fx j = some a := fun a h => by
          rw [e2] at h
          cases h
          show (match vs[j]? with | some (.ref a) => some a | _ => none) = some a
          rw [e1]
        cases s0 <;> cases h0
        · exact .par fx
        · exact .ob fx
        · exact .pp fx
        · exact .bb fx
      · left
        rw [List.getElem?_set_ne (Ne.symm hj)] at e
        have q := Rls.slots (H := H) (O := fun _ => none) (C := parL vs) r2 j s e
        have : ((vs.set k V.non).map some)[j]? = (vs.map some)[j]? := by rw [List.getElem?_map, List.getElem?_map, List.getElem?_set_ne (Ne.symm hj)]
        rw [this] at q
        exact q
  · intro v H' Z' O2 x3 R3
    have hk' : (outEnv n (some k) p1 r)[k]? = some p1 := by
      unfold outEnv
      simp only
      rw [List.getElem?_append_left (by simp [hk]), List.getElem?_set_self (by simp [hk])]
    have slk := R3.sl k _ hk'
    have ek : (vs.map some ++ [some v])[k]? = some (some vk) := by
      rw [List.getElem?_append_left (by simp [hvl, hk]), List.getElem?_map, e1]; rfl
    rw [ek] at slk
    obtain ⟨O4, k1, x4, R4⟩ := R.back x3 R3.zh (some (k, i)) oc (fun b k' q h i' e => by
        obtain ⟨h1, _, h3⟩ := R3.oz b (by rw [h]; simp)
        exact ⟨h1, h3⟩) p1 sR (parL vs) (fun k' i' e => by cases e; exact hiR) fun k' i' e => by
      cases e
      rw [e2]
      refine ⟨slk, ?_⟩
      have fxi : ∀ (s1 : Sl), s0 = s1 → (match s1 with | .par _ => True | .pbox _ _ _ => True | _ => False) → ∀ a, some (some vk) = some (some (V.ref a)) → C.fx i = some a := fun s1 h hs a ha => by
        subst h
        have := R.sl i s0 hi
        rw [e2] at this
        cases ha
        cases s0 with
        | par _ => obtain ⟨a', _, e', _, _, _, fx⟩ := this; cases e'; exact fx
        | pbox _ _ _ => obtain ⟨a', _, e', _, _, _, _, fx⟩ := this; cases e'; exact fx
        | _ => exact hs.elim
      cases s0 with
      | own _ => cases p1 with
        | par _ => cases h0'; exact .own
        | _ => cases h0'
      | par _ => cases p1 with
        | par _ => cases h0'; exact .pp (fxi _ rfl trivial)
        | _ => cases h0'
      | box _ _ _ => cases p1 with
        | pbox _ _ _ => cases h0'; exact .bo
        | _ => cases h0'
      | pbox _ _ _ => cases p1 with
        | pbox _ _ _ => cases h0'; exact .bb (fxi _ rfl trivial)
        | _ => cases h0'
      | _ => cases h0
    refine ⟨O4, x4, R4, result_own (O2 := O4) (C := C) (H0 := H) R3 (outEnv_last _ _ _ _) nn hvl fun b q hb => ?_⟩
    have hH : H b = none := by
      rcases x3.o b n q hb with h | ⟨q', h⟩
      · exact h
      · obtain ⟨j, h1, _⟩ := (oc b n q').mp h
        cases h1
        omega
    refine ⟨?_, R.ch.free hH, hH⟩
    cases e5 : O4 b with
    | none => rfl
    | some p =>
      obtain ⟨j, q'⟩ := p
      rcases k1 b j q' e5 with ⟨_, k', h1, h2⟩ | ⟨q'', h⟩
      · cases h1
        rw [hb] at h2
        cases h2
        omega
      · exact absurd hH (R.oz b (by rw [h]; simp)).2.2
theorem pow_call1 {k kr : Nat} {x : Str} {a : Expr} {es : List Expr} {d : DA} {p pos : Pos} (F : CalX X CX x e) (hrf : e.rf = some kr) (hkr : kr < e.np) (hr : Room k X.A) (hk : e.lv ≤ k) (hx : Passes CX X E0) (hg : Gl X x) (ha : PAs X (a :: es) d)
    (hdb : (x == ("__debug__" : Str)) = false := by decide) (he : starEach (a :: es) X.env = (false, eval a X.env) :: starEach es X.env := by rfl) (hpl : (backTo pos (starEach es X.env)).any (·.1) = false := by rfl) :
    POw X (.Call (.Name x p) (a :: es) [] pos) (callD1 e kr d) := by
  obtain ⟨f, fd, ps, G, hm, hkp, hb⟩ := F.ex
  refine PE.imp (pe_call G (hr.mono hk) hg hm hkp hb .nil hx ha hdb he hpl) fun σ H Q ⟨Z, O, C, ρ, R, s, ρ', q, kk⟩ => ?_
  obtain ⟨⟨hs, ρ1⟩, e1, q⟩ := Out.bind_ok q
  have main : ∀ (i : Nat) (xs : List Val) (ρ2 : Env) (p0 p1 s0 sR : Sl) (r : Sl), hs[kr]? = some (.slot i) → takes ρ1 (hs.set kr (.val .non)) = some (xs, ρ2) → ρ2[i]? = some s0 → xs.length = e.np → e.sem ((xs.map .fz).set kr p0) = .ok (r, p1) →
      parIn s0 = some p0 → parBack s0 p1 = some sR → notNo r = true → s = r → ρ' = ρ2.set i sR → tCall (spF X.K X.mg e) [] E0 (TAs X.K X.mg d) σ H Q := by
    intro i xs ρ2 p0 p1 s0 sR r h1 h2 h3 hlen h4 h5 h5' h6 h7 h8
    subst h7 h8
    refine ⟨Z, O, C, ρ, R, hs, ρ1, e1, fun vs H1 Z1 O1 x1 R1 r1 => ?_⟩
    obtain ⟨Z2, O2, x2, R2, r2⟩ := takes_ok R1 (r1.setNon kr) h2
    obtain ⟨v, hv1, hv2⟩ := r1.get h1
    obtain ⟨O3, R3, back⟩ := call1_core (n := e.np) (Q := Q) R2 r2 hlen hkr ⟨v, hv1, hv2⟩ h3 h5 h5' h6
    rw [List.append_nil]
    refine ⟨?_, Z2, O3, _, R3, _, _, h4, fun v H4 Z4 O4 x4 R4 => ?_⟩
    · have := r2.length; rw [List.length_set] at this; rw [this]; exact hlen
    · rw [hrf] at R4
      obtain ⟨O5, x5, R5, ow⟩ := back v H4 Z4 O4 x4 R4
      exact kk v H4 Z4 O5 ((x1.trans x2).trans x5) R5 (OwR.older ow x1)
  cases h1 : hs[kr]? with
  | none => simp only [h1] at q; cases q
  | some h =>
    cases h with
    | val _ => simp only [h1] at q; cases q
    | slot i =>
      simp only [h1] at q
      cases h2 : takes ρ1 (hs.set kr (.val .non)) with
      | none => simp only [h2] at q; cases q
      | some t =>
        obtain ⟨xs, ρ2⟩ := t
        simp only [h2] at q
        cases h3 : ρ2[i]? with
        | none => simp only [h3] at q; cases q
        | some s0 =>
          simp only [h3] at q
          cases h4 : parIn s0 with
          | none => simp only [h4] at q; cases q
          | some p0 =>
            simp only [h4] at q
            split at q
            · rename_i hlen
              obtain ⟨⟨r, s'⟩, e3, q⟩ := Out.bind_ok q
              cases h5 : parBack s0 s' with
              | none => simp only [h5] at q; cases q
              | some sR =>
                simp only [h5] at q
                split at q
                · rename_i hno
                  cases q
                  exact main i xs ρ2 p0 s' s0 _ _ h1 h2 h3 hlen e3 h4 h5 hno rfl rfl
                · cases q
            · cases q
end
end Ev

/-! Ev: statements, a def's promise. -/
namespace Ev
open PySem PySem.Spec PyProof.Rows L2

inductive Fl where
  | nx (ρ : Env)
  | bk (ρ : Env)
  | ct (ρ : Env)
  | rt (s : Sl) (ρ : Env)
  | bad
abbrev DS := Env → Fl
def FlR (K : PySem.W.Frag) (mg : MG) (Z H : Hp) (O : Lab) (C : Lk) (D : Ends) : Fl → Prop
  | .nx ρ' => ∀ σ' H' Z' O', Ext Z H O Z' H' O' → EnvR K mg Z' H' O' C σ' ρ' → D.nx σ' H'
  | .bk ρ' => ∀ σ' H' Z' O', Ext Z H O Z' H' O' → EnvR K mg Z' H' O' C σ' ρ' → D.bk σ' H'
  | .ct ρ' => ∀ σ' H' Z' O', Ext Z H O Z' H' O' → EnvR K mg Z' H' O' C σ' ρ' → D.ct σ' H'
  | .rt s ρ' => ∀ v σ' H' Z' O', Ext Z H O Z' H' O' → EnvR K mg Z' H' O' C (σ' ++ [some v]) (ρ' ++ [s]) → D.rt v H'
  | .bad => False
def TSt (K : PySem.W.Frag) (mg : MG) (d : DS) : TS := fun D σ H => ∃ Z O C ρ, EnvR K mg Z H O C σ ρ ∧ FlR K mg Z H O C D (d ρ)
abbrev PSt (X : Cx) (st : Stmt) (d : DS) : Prop := PS X st (TSt X.K X.mg d)
abbrev PSSt (X : Cx) (st : List Stmt) (d : DS) : Prop := PSs X st (TSt X.K X.mg d)
section
variable {K : PySem.W.Frag} {mg : MG} {Z H Z1 H1 : Hp} {O O1 : Lab} {C : Lk} {σ : L2.St} {ρ : Env} {D : Ends}
theorem FlR.ext {f : Fl} (h : FlR K mg Z H O C D f) (x : Ext Z H O Z1 H1 O1) : FlR K mg Z1 H1 O1 C D f := by
  cases f with
  | nx ρ' => exact fun σ' H' Z' O' e => h σ' H' Z' O' (x.trans e)
  | bk ρ' => exact fun σ' H' Z' O' e => h σ' H' Z' O' (x.trans e)
  | ct ρ' => exact fun σ' H' Z' O' e => h σ' H' Z' O' (x.trans e)
  | rt s ρ' => exact fun v σ' H' Z' O' e => h v σ' H' Z' O' (x.trans e)
  | bad => exact h
/-- another end, by the flow's kinds -/
theorem FlR.ends {D' : Ends} {f : Fl} (h : FlR K mg Z H O C D f) (h1 : ∀ ρ', f = .nx ρ' → FlR K mg Z H O C D' (.nx ρ')) (h2 : ∀ ρ', f = .bk ρ' → FlR K mg Z H O C D' (.bk ρ')) (h3 : ∀ ρ', f = .ct ρ' → FlR K mg Z H O C D' (.ct ρ')) (h4 : ∀ s ρ', f = .rt s ρ' → FlR K mg Z H O C D' (.rt s ρ')) : FlR K mg Z H O C D' f := by
  cases f with
  | nx ρ' => exact h1 ρ' rfl
  | bk ρ' => exact h2 ρ' rfl
  | ct ρ' => exact h3 ρ' rfl
  | rt s ρ' => exact h4 s ρ' rfl
  | bad => exact h
end
def sSkip : DS := .nx
def sBreak : DS := .bk
def sCont : DS := .ct
def sSeq (a b : DS) : DS := fun ρ => match a ρ with
  | .nx ρ' => b ρ'
  | f => f
def sIf (c : DT) (a b : DS) : DS := fun ρ => match c ρ with
  | .ok (true, ρ') => a ρ'
  | .ok (false, ρ') => b ρ'
  | _ => .bad
def sDrop (d : DO) : DS := fun ρ => match d ρ with
  | .ok (_, ρ') => .nx ρ'
  | _ => .bad
def sRet (d : DO) : DS := fun ρ => match d ρ with
  | .ok (s, ρ') => .rt s ρ'
  | _ => .bad
def asg (i : Nat) (s : Sl) (ρ : Env) : Fl := if i < ρ.length then .nx (ρ.set i s) else .bad
def sSet (i : Nat) (d : DO) : DS := fun ρ => match d ρ with
  | .ok (s, ρ') => asg i s ρ'
  | _ => .bad

section
variable {K : PySem.W.Frag} {mg : MG} {Z H : Hp} {O : Lab} {C : Lk} {σ : L2.St} {ρ : Env}
/-- one more slot -/
theorem EnvR.more (R : EnvR K mg Z H O C σ ρ) : EnvR K mg Z H O C (σ ++ [none]) (ρ ++ [.no]) where
  len := by simp [R.len]
  zh := R.zh
  ch := R.ch
  oz := R.oz
  ob := fun b i q h => by have := R.ob b i q h; simp; omega
  sl := fun i s e => by
    by_cases hi : i < ρ.length
    · rw [List.getElem?_append_left hi] at e
      rw [List.getElem?_append_left (by rw [← R.len]; exact hi)]
      exact R.sl i s e
    · by_cases h2 : i = ρ.length
      · subst h2
        simp at e
        subst e
        trivial
      · rw [List.getElem?_eq_none (by simp; omega)] at e
        cases e
theorem EnvR.mores (R : EnvR K mg Z H O C σ ρ) : ∀ n : Nat, EnvR K mg Z H O C (σ ++ List.replicate n none) (ρ ++ List.replicate n .no)
  | 0 => by simpa using R
  | n + 1 => by
    have := (R.mores n).more
    rw [List.append_assoc, List.append_assoc, ← List.replicate_succ', ← List.replicate_succ'] at this
    exact this
/-- an answer, behind the slots -/
theorem EnvR.push (R : EnvR K mg Z H O C σ ρ) {H0 : Hp} {v : V} {s : Sl} (r : OwR K mg Z H O C H0 v s) :
    EnvR K mg Z H (placeO ρ.length (things s v H) O) C (σ ++ [some v]) (ρ ++ [s]) ∧ (∀ b ∈ things s v H, H0 b = none ∧ O b = none) := by
  obtain ⟨h1, h2⟩ := R.more.place (i := ρ.length) (by simp) r
  refine ⟨?_, h2⟩
  rw [List.set_append_right _ _ (by rw [R.len]; exact Nat.le_refl _), List.set_append_right _ _ (Nat.le_refl _)] at h1
  simpa [R.len] using h1
end

section
variable {X : Cx}
theorem pst_nil : PSSt X [] sSkip := PSs.imp pss_nil fun D σ H ⟨Z, O, C, ρ, R, h⟩ => h σ H Z O (Ext.refl _ _ _) R
theorem runSeq {K : PySem.W.Frag} {mg : MG} {a b : DS} {D : Ends} {σ : L2.St} {H : Hp} (h : TSt K mg (sSeq a b) D σ H) : TSt K mg a { D with nx := TSt K mg b D } σ H := by
  obtain ⟨Z, O, C, ρ, R, h⟩ := h
  refine ⟨Z, O, C, ρ, R, ?_⟩
  unfold sSeq at h
  cases e : a ρ with
  | nx ρ' =>
    rw [e] at h
    exact fun σ' H' Z' O' x R' => ⟨Z', O', C, ρ', R', h.ext x⟩
  | bk ρ' => rw [e] at h; exact h
  | ct ρ' => rw [e] at h; exact h
  | rt s ρ' => rw [e] at h; exact h
  | bad => rw [e] at h; exact h.elim
theorem pst_cons {st : Stmt} {rest : List Stmt} {a b : DS} (h1 : PSt X st a) (h2 : PSSt X rest b) : PSSt X (st :: rest) (sSeq a b) := PSs.imp (pss_cons h1 h2) fun _ _ _ => runSeq
theorem pst_one {st : Stmt} {a : DS} (h1 : PSt X st a) : PSSt X [st] a := pss_one h1
theorem st_pass {pos : Pos} : PSt X (.Pass pos) sSkip := PS.imp ps_pass fun D σ H ⟨Z, O, C, ρ, R, h⟩ => h σ H Z O (Ext.refl _ _ _) R
theorem st_break {pos : Pos} : PSt X (.Break pos) sBreak := PS.imp ps_break fun D σ H ⟨Z, O, C, ρ, R, h⟩ => h σ H Z O (Ext.refl _ _ _) R
theorem st_cont {pos : Pos} : PSt X (.Continue pos) sCont := PS.imp ps_continue fun D σ H ⟨Z, O, C, ρ, R, h⟩ => h σ H Z O (Ext.refl _ _ _) R
theorem st_doc {x j pos pos'} : PSt X (.Expr (.Constant (.str x) j pos) pos') sSkip := PS.imp ps_doc fun D σ H ⟨Z, O, C, ρ, R, h⟩ => h σ H Z O (Ext.refl _ _ _) R
theorem runIf {K : PySem.W.Frag} {mg : MG} {c : DT} {a b : DS} {D : Ends} {σ : L2.St} {H : Hp} (h : TSt K mg (sIf c a b) D σ H) : tIfS (TTt K mg c) (TSt K mg a) (TSt K mg b) D σ H := by
  obtain ⟨Z, O, C, ρ, R, h⟩ := h
  unfold sIf at h
  cases e : c ρ with
  | ok p =>
    obtain ⟨k, ρ'⟩ := p
    rw [e] at h
    refine ⟨Z, O, C, ρ, R, k, ρ', e, fun H' Z' O' x R' => ?_⟩
    cases k with
    | true => exact ⟨Z', O', C, ρ', R', h.ext x⟩
    | false => exact ⟨Z', O', C, ρ', R', h.ext x⟩
  | exc _ => rw [e] at h; exact h.elim
  | bad => rw [e] at h; exact h.elim
theorem st_if {c : Expr} {a b : List Stmt} {dc : DT} {da db : DS} {pos : Pos} (hc : PTt X c dc) (ha : PSSt X a da) (hb : PSSt X b db) : PSt X (.If c a b pos) (sIf dc da db) := PS.imp (ps_if hc ha hb) fun _ _ _ => runIf
theorem st_expr {e : Expr} {d : DO} {pos : Pos} (he : POw X e d) (hs : swapsWith e none pos.line X.env = pure false := by rfl) : PSt X (.Expr e pos) (sDrop d) := PS.imp (ps_expr he hs) fun D σ H ⟨Z, O, C, ρ, R, h⟩ => by
  unfold sDrop at h
  cases e : d ρ with
  | ok p => rw [e] at h; exact ⟨Z, O, C, ρ, R, p.1, p.2, e, fun v H' Z' O' x R' _ => h σ H' Z' O' x R'⟩
  | exc _ => rw [e] at h; exact h.elim
  | bad => rw [e] at h; exact h.elim
theorem st_ret {e : Expr} {d : DO} {pos : Pos} (he : POw X e d) : PSt X (.Return (some e) pos) (sRet d) := PS.imp (ps_ret he) fun D σ H ⟨Z, O, C, ρ, R, h⟩ => by
  unfold sRet at h
  cases e : d ρ with
  | ok p =>
    rw [e] at h
    refine ⟨Z, O, C, ρ, R, p.1, p.2, e, fun v H' Z' O' x R' r => ?_⟩
    obtain ⟨R2, n2⟩ := R'.push r
    exact h v σ H' Z' _ (x.place n2) R2
  | exc _ => rw [e] at h; exact h.elim
  | bad => rw [e] at h; exact h.elim
theorem st_retN {pos : Pos} : PSt X (.Return none pos) (sRet (dOV (dC .non))) := PS.imp ps_retN fun D σ H ⟨Z, O, C, ρ, R, h⟩ => by
  obtain ⟨R2, n2⟩ := R.push (H0 := H) (v := .non) (s := .fz .non) (show Rl X.K X.mg Z V.non Val.non from .non)
  exact h .non σ H Z _ ((Ext.refl _ _ _).place n2) R2
theorem st_set {i : Nat} {x : Str} {e : Expr} {d : DO} {pos' pos : Pos} (hN : X.N.Nodup) (hi : X.N[i]? = some x) (hx : Loc X.env.scope x) (he : POw X e d) (hs : swapsWith e (some (.Name x pos')) pos.line X.env = pure false := by rfl) (hf : X.fn x = true ∨ X.env.scope.names.lookup x = some .local := by first | exact .inl rfl | exact .inr rfl | assumption) :
    PSt X (.Assign [.Name x pos'] e pos) (sSet i d) := PS.imp (ps_set hN hi hx he hs hf) fun D σ H ⟨Z, O, C, ρ, R, h⟩ => by
  unfold sSet at h
  cases e : d ρ with
  | ok p =>
    rw [e] at h
    unfold asg at h
    refine ⟨Z, O, C, ρ, R, p.1, p.2, e, fun v H' Z' O' x R' r => ?_⟩
    simp only at h
    split at h
    · rename_i hl
      obtain ⟨R2, n2⟩ := R'.place hl r
      exact h _ H' Z' _ (x.place n2) R2
    · exact h.elim
  | exc _ => rw [e] at h; exact h.elim
  | bad => rw [e] at h; exact h.elim
end

/-! ### targets -/
abbrev DG := Val → Env → Option Env
abbrev DGs := List Val → Env → Option Env
def off (ws : List Nat) (σ σ' : L2.St) : Prop := σ'.length = σ.length ∧ ∀ j, j ∉ ws → σ'[j]? = σ[j]?
theorem off.refl {ws : List Nat} (σ : L2.St) : off ws σ σ := ⟨rfl, fun _ _ => rfl⟩
theorem off.trans {ws ws' : List Nat} {σ σ1 σ2 : L2.St} (a : off ws σ σ1) (b : off ws' σ1 σ2) : off (ws ++ ws') σ σ2 :=
  ⟨b.1.trans a.1, fun j hj => (b.2 j fun h => hj (List.mem_append_right _ h)).trans (a.2 j fun h => hj (List.mem_append_left _ h))⟩
def TGt (K : PySem.W.Frag) (mg : MG) (g : DG) (ws : List Nat) : TG := fun v σ H Q => ∃ Z O C ρ, EnvR K mg Z H O C σ ρ ∧ ∃ x ρ', Rl K mg Z v x ∧ g x ρ = some ρ' ∧
  ∀ σ' O', Ext Z H O Z H O' → off ws σ σ' → EnvR K mg Z H O' C σ' ρ' → Q σ' H
def TGts (K : PySem.W.Frag) (mg : MG) (g : DGs) (ws : List Nat) : TGs := fun vs σ H Q => ∃ Z O C ρ, EnvR K mg Z H O C σ ρ ∧ ∃ xs ρ', Rls K mg Z vs xs ∧ g xs ρ = some ρ' ∧
  ∀ σ' O', Ext Z H O Z H O' → off ws σ σ' → EnvR K mg Z H O' C σ' ρ' → Q σ' H
theorem PG.imp {X : Cx} {e : Expr} {t t' : TG} (h : PG X e t) (i : ∀ v σ H Q, t' v σ H Q → t v σ H Q) : PG X e t' := ⟨fun pins s σ H v u Q I r q => h.run pins s σ H v u Q I r (i v σ H Q q)⟩
theorem PGs.imp {X : Cx} {e : List Expr} {t t' : TGs} (h : PGs X e t) (i : ∀ v σ H Q, t' v σ H Q → t v σ H Q) : PGs X e t' := ⟨fun pins s σ H v u Q I r q => h.run pins s σ H v u Q I r (i v σ H Q q)⟩
abbrev PGt (X : Cx) (tg : Expr) (g : DG) (ws : List Nat) : Prop := PG X tg (TGt X.K X.mg g ws)
abbrev PGts (X : Cx) (tgs : List Expr) (g : DGs) (ws : List Nat) : Prop := PGs X tgs (TGts X.K X.mg g ws)
def gNm (i : Nat) : DG := fun x ρ => if i < ρ.length then some (ρ.set i (.fz x)) else none
def gN : DGs := fun xs ρ => match xs with
  | [] => some ρ
  | _ => none
def gC (g : DG) (gs : DGs) : DGs := fun xs ρ => match xs with
  | x :: xs => (g x ρ).bind fun ρ' => gs xs ρ'
  | [] => none
def tupOf : Val → Option (List Val)
  | .tup xs => some xs
  | .ktup xs => some xs
  | .lst xs => some xs
  | _ => none
def gTp (n : Nat) (gs : DGs) : DG := fun x ρ => (tupOf x).bind fun xs => if xs.length = n then gs xs ρ else none
theorem PG.or {X : Cx} {e : Expr} {t t' : TG} (h : PG X e t) (h' : PG X e t') : PG X e (fun v σ H Q => t v σ H Q ∨ t' v σ H Q) := ⟨fun pins s σ H v u Q I r q => q.elim (h.run pins s σ H v u Q I r) (h'.run pins s σ H v u Q I r)⟩
section
variable {X : Cx}
theorem gt_name {i : Nat} {x : Str} {pos : Pos} (hN : X.N.Nodup) (hi : X.N[i]? = some x) (hx : Loc X.env.scope x) (hf : X.fn x = true ∨ X.env.scope.names.lookup x = some .local := by first | exact .inl rfl | exact .inr rfl | assumption) : PGt X (.Name x pos) (gNm i) [i] :=
  PG.imp (pg_name hN hi hx hf) fun v σ H Q ⟨Z, O, C, ρ, R, y, ρ', r, e, k⟩ => by
    unfold gNm at e
    split at e
    · rename_i hl
      cases e
      obtain ⟨R2, n2⟩ := R.place (H0 := H) (s := .fz y) (v := v) hl r
      exact k _ _ ((Ext.refl _ _ _).place n2) ⟨by rw [List.length_set], fun j hj => by rw [List.getElem?_set_ne fun z => hj (by simp [z])]⟩ R2
    · cases e
theorem gt_nil : PGts X [] gN [] := PGs.imp pgs_nil fun vs σ H Q ⟨Z, O, C, ρ, R, xs, ρ', r, e, k⟩ => by
  cases r with
  | nil => cases e; exact ⟨rfl, k σ O (Ext.refl _ _ _) (off.refl σ) R⟩
  | cons _ _ => cases e
theorem gt_cons {e : Expr} {es : List Expr} {g : DG} {gs : DGs} {ws ws' : List Nat} (h1 : PGt X e g ws) (h2 : PGts X es gs ws')
    (hs : (assignEach (e :: es) X.env).map (·.2) = assign e X.env :: (assignEach es X.env).map (·.2) := by rfl) : PGts X (e :: es) (gC g gs) (ws ++ ws') := PGs.imp (pgs_cons h1 h2 hs) fun vs σ H Q ⟨Z, O, C, ρ, R, xs, ρ', r, e, k⟩ => by
  cases r with
  | nil => cases e
  | cons r rr =>
    obtain ⟨ρ1, e1, e⟩ := Option.bind_eq_some_iff.mp e
    exact ⟨_, _, rfl, Z, O, C, ρ, R, _, ρ1, r, e1, fun σ1 O1 x1 f1 R1 => ⟨Z, O1, C, ρ1, R1, _, ρ', rr, e, fun σ2 O2 x2 f2 R2 => k σ2 O2 (x1.trans x2) (f1.trans f2) R2⟩⟩
theorem gt_tup {es : List Expr} {k : Nat} {gs : DGs} {n : Nat} {ws : List Nat} {pos : Pos} (hc : X.calm = true) (h : PGts X es gs ws)
    (hn : (assignEach es X.env).length = n := by rfl) (hst : (assignEach es X.env).findIdx? (·.1) = none := by rfl) : PGt X (.Tuple es k pos) (gTp n gs) ws := PG.imp (PG.or (pg_tup hc h hn hst) (pg_lst hc h hn hst)) fun v σ H Q ⟨Z, O, C, ρ, R, x, ρ', r, e, k⟩ => by
  obtain ⟨xs, e1, e2⟩ := Option.bind_eq_some_iff.mp e
  clear e
  split at e2
  · rename_i hl
    cases r with
    | tup m r => cases e1; exact .inl ⟨_, _, rfl, SqT.of (R.zh _ _ m), by rw [r.length]; exact hl, Z, O, C, ρ, R, _, ρ', r, e2, k⟩
    | ktup m r => cases e1; exact .inl ⟨_, _, rfl, seqT_mono R.zh m, by rw [r.length]; exact hl, Z, O, C, ρ, R, _, ρ', r, e2, k⟩
    | lst m r => cases e1; exact .inr ⟨_, _, rfl, SqL.of (R.zh _ _ m), by rw [r.length]; exact hl, Z, O, C, ρ, R, _, ρ', r, e2, k⟩
    | _ => cases e1
  · cases e2
def sAsg (d : DV) (g : DG) : DS := fun ρ => match d ρ with
  | .ok (x, ρ') => match g x ρ' with
    | some ρ2 => .nx ρ2
    | none => .bad
  | _ => .bad
theorem st_asg {tg e : Expr} {d : DV} {g : DG} {ws : List Nat} {pos : Pos} (he : PV X e d) (hg : PGt X tg g ws) (hs : swapsWithSole [tg] e pos.line X.env = pure false := by rfl) (hw : swappedStores [tg] e X.env = pure none := by rfl)
    (h1 : (assignEach [tg] X.env).map (·.2) = [assign tg X.env] := by rfl) : PSt X (.Assign [tg] e pos) (sAsg d g) := PS.imp (ps_asg he hg hs hw h1) fun D σ H ⟨Z, O, C, ρ, R, h⟩ => by
  unfold sAsg at h
  cases e : d ρ with
  | ok p =>
    obtain ⟨x, ρ'⟩ := p
    rw [e] at h
    simp only at h
    cases e2 : g x ρ' with
    | none => rw [e2] at h; exact h.elim
    | some ρ2 =>
      rw [e2] at h
      exact ⟨Z, O, C, ρ, R, x, ρ', e, fun v H' Z' O' ex R' r => ⟨Z', O', C, ρ', R', x, ρ2, r, e2, fun σ' O2 x2 _ R2 => h σ' H' Z' O2 (ex.trans x2) R2⟩⟩
  | exc _ => rw [e] at h; exact h.elim
  | bad => rw [e] at h; exact h.elim
/-- a, b = x, y -/
def sPar (i j : Nat) (d : DA) : DS := fun ρ => match d ρ with
  | .ok (hs, ρ1) => match takes ρ1 hs with
    | some ([x, y], ρ2) => if i < ρ2.length ∧ j < ρ2.length then .nx ((ρ2.set i (.fz x)).set j (.fz y)) else .bad
    | _ => .bad
  | _ => .bad
theorem st_par {i j : Nat} {x y : Str} {a b : Expr} {d : DA} {px py pt pos : Pos} {kt k2 pt2} (hc : X.calm = true) (hN : X.N.Nodup) (hi : X.N[i]? = some x) (hj : X.N[j]? = some y) (hij : i ≠ j)
    (hx : X.env.scope.names.lookup x = some .local) (hy : X.env.scope.names.lookup y = some .local) (ha : PAs X [a, b] d)
    (hw : swappedStores [.Tuple [.Name x px, .Name y py] kt pt] (.Tuple [a, b] k2 pt2) X.env = pure (some [x, y]))
    (hs : swapsWithSole [.Tuple [.Name x px, .Name y py] kt pt] (.Tuple [a, b] k2 pt2) pos.line X.env = pure false := by rfl) :
    PSt X (.Assign [.Tuple [.Name x px, .Name y py] kt pt] (.Tuple [a, b] k2 pt2) pos) (sPar i j d) := PS.imp (ps_par hc hN hi hj hij hx hy ha hw hs) fun D σ H ⟨Z, O, C, ρ, R, h⟩ => by
  unfold sPar at h
  cases e : d ρ with
  | ok p =>
    obtain ⟨hs, ρ1⟩ := p
    rw [e] at h
    simp only at h
    refine ⟨Z, O, C, ρ, R, hs, ρ1, e, fun vs H1 Z1 O1 x1 R1 r1 => ?_⟩
    cases e2 : takes ρ1 hs with
    | none => rw [e2] at h; exact h.elim
    | some t =>
      obtain ⟨xs, ρ2⟩ := t
      rw [e2] at h
      obtain ⟨Z2, O2, x2, R2, r2⟩ := takes_ok R1 r1 e2
      cases r2 with
      | nil => exact h.elim
      | cons ra r2 =>
        cases r2 with
        | nil => exact h.elim
        | cons rb r2 =>
          cases r2 with
          | cons _ _ => exact h.elim
          | nil =>
            simp only at h
            split at h
            · rename_i hl
              obtain ⟨R3, n3⟩ := R2.place (H0 := H1) (s := .fz _) hl.1 ra
              obtain ⟨R4, n4⟩ := R3.place (H0 := H1) (s := .fz _) (i := j) (by rw [List.length_set]; exact hl.2) rb
              exact ⟨_, _, rfl, h _ H1 Z2 _ ((x1.trans x2).trans (((Ext.refl _ _ _).place n3).place n4)) R4⟩
            · exact h.elim
  | exc _ => rw [e] at h; exact h.elim
  | bad => rw [e] at h; exact h.elim
end

/-! ### a def's promise -/
def parOf (np : Nat) (rf : Option Nat) (ρ : Env) : Option Sl := if ρ.length < np then none else match rf with
  | none => some .no
  | some k => match ρ[k]? with
    | some (.par xs) => if k < np then some (.par xs) else none
    | some (.pbox c d s) => if k < np then some (.pbox c d s) else none
    | _ => none
def flRes (np : Nat) (rf : Option Nat) : Fl → Out (Sl × Sl)
  | .rt s ρ => match parOf np rf ρ with
    | some t => if notNo s then .ok (s, t) else .bad
    | none => .bad
  | .nx ρ => match parOf np rf ρ with
    | some t => .ok (.fz .non, t)
    | none => .bad
  | _ => .bad
/-- n: all its slots -/
def fnE (lv np n : Nat) (rf : Option Nat) (d : DS) : FnE := ⟨lv, np, rf, fun args => flRes np rf (d (args ++ List.replicate (n - np) .no))⟩
theorem start_eq (N : List Str) (vs : List V) : start N vs = vs.map some ++ List.replicate (N.length - vs.length) none := by
  first | rfl | (unfold start; simp)

theorem getElem?_snoc {α : Type} (xs : List α) (x : α) : (xs ++ [x])[xs.length]? = some x := by simp
/-- the end of a body, as the caller sees it -/
theorem body_end {K : PySem.W.Frag} {mg : MG} {Z H : Hp} {O : Lab} {vs : List V} {v : V} {σ' : L2.St} {ρ' : Env} {s t : Sl} {np : Nat} {rf : Option Nat} (R : EnvR K mg Z H O (parL vs) (σ' ++ [some v]) (ρ' ++ [s])) (hp : parOf np rf ρ' = some t) (nn : notNo s = true) (hvs : vs.length = np) :
    ∃ O2, EnvR K mg Z H O2 (parL vs) (vs.map some ++ [some v]) (outEnv np rf t s) ∧ (∀ b, O b = none → O2 b = none) ∧ np ≤ ρ'.length ∧ (∀ b i q, O2 b = some (i, q) → (∃ q', O b = some (ρ'.length, q') ∧ i = np) ∨ (rf = some i ∧ O b = some (i, q))) := by
  have hl : ρ'.length = σ'.length := by have := R.len; simp at this; exact this
  let g : Nat → Option Nat := fun i => if i = ρ'.length then some np else if rf = some i ∧ i < ρ'.length then some i else none
  have hpl : np ≤ ρ'.length := by
    unfold parOf at hp
    split at hp
    · cases hp
    · omega
  have par : ∀ k, rf = some k → ∃ p, ρ'[k]? = some p ∧ t = p ∧ k < np ∧ ((∃ xs, p = .par xs) ∨ ∃ c d s, p = .pbox c d s) := fun k hk => by
    subst hk
    unfold parOf at hp
    rw [if_neg (Nat.not_lt.mpr hpl)] at hp
    simp only at hp
    cases e : ρ'[k]? with
    | none => rw [e] at hp; cases hp
    | some s0 =>
      rw [e] at hp
      cases s0 with
      | par xs =>
        simp only at hp
        split at hp
        · rename_i hk
          cases hp
          exact ⟨_, rfl, rfl, hk, .inl ⟨_, rfl⟩⟩
        · cases hp
      | pbox c d s =>
        simp only at hp
        split at hp
        · rename_i hk
          cases hp
          exact ⟨_, rfl, rfl, hk, .inr ⟨_, _, _, rfl⟩⟩
        · cases hp
      | _ => cases hp
  have hnl : notLck s = true := by cases s <;> first | rfl | cases nn
  refine ⟨mapLab O g, R.reindex (C' := parL vs) (fun b o h => (by cases h)) (fun b _ => rfl) (by rw [outEnv_length]; simp [hvs]) g (fun i j h => ?_) (fun i i' j h h' => ?_) fun j s2 e => ?_, fun b h => mapLab_none h, hpl, fun b i q h => ?_⟩
  · rw [outEnv_length]
    show j < np + 1
    simp only [g] at h
    split at h
    · cases h; omega
    · split at h
      · rename_i h2
        cases h
        obtain ⟨_, _, _, h3, _⟩ := par i h2.1
        omega
      · cases h
  · simp only [g] at h h'
    split at h
    · rename_i h1
      split at h'
      · rename_i h2; rw [h1, h2]
      · split at h'
        · rename_i h3
          obtain ⟨_, _, _, h4, _⟩ := par i' h3.1
          cases h
          cases h'
          omega
        · cases h'
    · split at h
      · rename_i h1
        split at h'
        · rename_i h3
          obtain ⟨_, _, _, h4, _⟩ := par i h1.1
          cases h
          cases h'
          omega
        · split at h'
          · rename_i h3
            have := h1.1
            rw [h3.1] at this
            cases this
            rfl
          · cases h'
      · cases h
  · by_cases hj : j = np
    · subst hj
      rw [outEnv_last] at e
      cases e
      right
      refine ⟨ρ'.length, s, by simp [g], getElem?_snoc _ _, ?_, .same hnl⟩
      rw [hl, getElem?_snoc]
      have := getElem?_snoc (vs.map some) (some v)
      rw [List.length_map, hvs] at this
      exact this
    · by_cases hk : rf = some j
      · obtain ⟨p, h1, h2, h3, hpin⟩ := par j hk
        have hjl := (List.getElem?_eq_some_iff.mp h1).1
        have e2 : s2 = p := by
          rw [hk] at e
          unfold outEnv at e
          simp only at e
          rw [List.getElem?_append_left (by simp [h3]), List.getElem?_set_self (by simp [h3])] at e
          rw [← h2]; exact (Option.some.inj e).symm
        subst e2
        have sl := R.sl j s2 (by rw [List.getElem?_append_left hjl]; exact h1)
        have pin : ∃ a, (σ' ++ [some v])[j]? = some (some (.ref a)) ∧ (parL vs).fx j = some a := by
          rcases hpin with ⟨xs, rfl⟩ | ⟨c, d, s, rfl⟩
          · obtain ⟨a, ws, ea, _, _, _, fx⟩ := sl; exact ⟨a, ea, fx⟩
          · obtain ⟨a, ws, ea, _, _, _, _, fx⟩ := sl; exact ⟨a, ea, fx⟩
        obtain ⟨a, ea, fx⟩ := pin
        have hv : (vs.map some)[j]? = some (some (.ref a)) := by
          have fx : (match vs[j]? with | some (.ref a) => some a | _ => none) = some a := fx
          rw [List.getElem?_map]
          cases e3 : vs[j]? with
          | none => rw [e3] at fx; cases fx
          | some w =>
            rw [e3] at fx
            cases w with
            | ref a' => cases fx; rfl
            | _ => cases fx
        right
        refine ⟨j, s2, ?_, by rw [List.getElem?_append_left hjl]; exact h1, ?_, ?_⟩
        · simp only [g]
          rw [if_neg (by omega), if_pos ⟨hk, hjl⟩]
        · rw [ea, List.getElem?_append_left (by simp [hvs, h3]), hv]
        · rcases hpin with ⟨xs, rfl⟩ | ⟨c, d, s, rfl⟩
          · exact .pp fun a' h => by rw [ea] at h; cases h; exact fx
          · exact .bb fun a' h => by rw [ea] at h; cases h; exact fx
      · left
        have e2 : s2 = .no := by
          have hlt : j < np := by
            have := (List.getElem?_eq_some_iff.mp e).1
            rw [outEnv_length] at this
            omega
          unfold outEnv at e
          cases hrf : rf with
          | none => rw [hrf] at e; simp only at e; rw [List.getElem?_append_left (by simp [hlt])] at e; simp [hlt] at e; exact e.symm
          | some k =>
            rw [hrf] at e
            simp only at e
            have hne : k ≠ j := fun z => hk (by rw [hrf, z])
            rw [List.getElem?_append_left (by simp [hlt]), List.getElem?_set_ne hne] at e
            simp [hlt] at e
            exact e.symm
        subst e2
        trivial
  · obtain ⟨i', h1, h2⟩ := mapLab_some h
    simp only [g] at h2
    split at h2
    · rename_i h3
      cases h2
      subst h3
      exact .inl ⟨q, h1, rfl⟩
    · split at h2
      · rename_i h3
        cases h2
        exact .inr ⟨h3.1, h1⟩
      · cases h2

theorem body_ext {Z H Z0 H0 : Hp} {O O0 O2 : Lab} {np n : Nat} {rf : Option Nat} (x : Ext Z0 H0 O0 Z H O) (h0 : ∀ b i q, O0 b = some (i, q) → i < np) (h1 : ∀ b, O b = none → O2 b = none) (hn : np ≤ n)
    (h2 : ∀ b i q, O2 b = some (i, q) → (∃ q', O b = some (n, q') ∧ i = np) ∨ (rf = some i ∧ O b = some (i, q))) : Ext Z0 H0 O0 Z H O2 where
  z := x.z
  h := fun b o e1 e2 => let ⟨a, c⟩ := x.h b o e1 e2; ⟨a, h1 b c⟩
  t := x.t
  o := fun b i q e => by
    rcases h2 b i q e with ⟨q', e1, e2⟩ | ⟨_, e1⟩
    · rcases x.o b n q' e1 with h | ⟨q2, h⟩
      · exact .inl h
      · have := h0 b n q2 h; omega
    · exact x.o b i q e1
  zn := x.zn
/-- a def of the text: its body's worth is its own -/
theorem fn_ok {P : Program} {w : World} {K : PySem.W.Frag} {mg : MG} {base : Heap} {x x0 qual : Str} {st : Stmt} {f : Addr} {fd : FuncData} {N ps : List Str} {k np n : Nat} {rf : Option Nat} {D : DS}
    (F : Fun K x0 qual st f fd) (S : FnScope N ps (defScope st)) (hnp : ps.length = np) (hn : N.length = n) (hm : mg x = some (.ref f)) (hb : Binds K fd ps [])
    (body : ∀ (cdv : Value) (A : Around) (outer : List PySem.Env) (s : Shared) (H : Hp) (E : XK), Room k (A.deeper (envOfC qual (defScope st) s.heap.objs.size f cdv)) →
      PSSt (cxOf CX0 P w K mg base N qual (defScope st) f cdv A outer s H E).nox (defBody st) D) : Cal P w K mg base CX0 x (fnE (k + 1) np n rf D) := by
  refine ⟨f, fd, ps, ?_, hm, F.kp, hb⟩
  refine F.ok S (fun vs H Q E h => by rw [h.1, hnp]; rfl) fun cdv A outer s H vs Q E hr h => ⟨_, body cdv A outer s H E hr, ?_⟩
  obtain ⟨hvs, Z, O, args, R, r, t, e, kk⟩ := h
  have hvs : vs.length = np := hvs
  have hargs : args.length = np := by have := R.len; rw [List.length_map] at this; omega
  have R0 := R.mores (n - np)
  have fin : ∀ v σ' H' Z' O' ρ' s', parOf np rf ρ' = some t → notNo s' = true → s' = r → Ext Z H O Z' H' O' → EnvR K mg Z' H' O' (parL vs) (σ' ++ [some v]) (ρ' ++ [s']) → Q v H' := fun v σ' H' Z' O' ρ' s' hp nn es x R' => by
    subst es
    obtain ⟨O2, R2, n1, n2, n3⟩ := body_end R' hp nn hvs
    exact kk v H' Z' O2 (body_ext x (fun b i q h => by have := R.ob b i q h; omega) n1 n2 n3) R2
  refine ⟨Z, O, parL vs, args ++ List.replicate (n - np) .no, ?_, ?_⟩
  · rw [start_eq, hn, hvs]; exact R0
  · have e : flRes np rf (D (args ++ List.replicate (n - np) .no)) = .ok (r, t) := e
    generalize D (args ++ List.replicate (n - np) .no) = fl at e ⊢
    cases fl with
    | rt s' ρ' =>
      unfold flRes at e
      simp only at e
      cases hp : parOf np rf ρ' with
      | none => rw [hp] at e; cases e
      | some t' =>
        rw [hp] at e
        simp only at e
        split at e
        · rename_i nn
          cases e
          exact fun v σ' H' Z' O' x R' => fin v σ' H' Z' O' ρ' _ hp nn rfl x R'
        · cases e
    | nx ρ' =>
      unfold flRes at e
      simp only at e
      cases hp : parOf np rf ρ' with
      | none => rw [hp] at e; cases e
      | some t' =>
        rw [hp] at e
        cases e
        refine fun σ' H' Z' O' x R' => ?_
        obtain ⟨R2, n2⟩ := R'.push (H0 := H) (v := .non) (s := .fz .non) (show Rl K mg Z' V.non Val.non from .non)
        exact fin .non σ' H' Z' _ ρ' _ hp rfl rfl (x.place n2) R2
    | bk _ => cases e
    | ct _ => cases e
    | bad => cases e

theorem body_run {K : PySem.W.Frag} {mg : MG} {N : List Str} {ps : List Str} {np n : Nat} {lv : Nat} {rf : Option Nat} {D : DS} {vs : List V} {H : Hp} {Q : VK} {E : XK} (hnp : ps.length = np) (hn : N.length = n) (h : spF K mg (fnE lv np n rf D) vs H Q E) :
    TSt K mg D { nx := fun _ H' => Q .non H', rt := Q } (start N vs) H := by
  obtain ⟨hvs, Z, O, args, R, r, t, e, kk⟩ := h
  have hvs : vs.length = np := hvs
  have hargs : args.length = np := by have := R.len; rw [List.length_map] at this; omega
  have R0 := R.mores (n - np)
  have fin : ∀ v σ' H' Z' O' ρ' s', parOf np rf ρ' = some t → notNo s' = true → s' = r → Ext Z H O Z' H' O' → EnvR K mg Z' H' O' (parL vs) (σ' ++ [some v]) (ρ' ++ [s']) → Q v H' := fun v σ' H' Z' O' ρ' s' hp nn es x R' => by
    subst es
    obtain ⟨O2, R2, n1, n2, n3⟩ := body_end R' hp nn hvs
    exact kk v H' Z' O2 (body_ext x (fun b i q h => by have := R.ob b i q h; omega) n1 n2 n3) R2
  refine ⟨Z, O, parL vs, args ++ List.replicate (n - np) .no, ?_, ?_⟩
  · rw [start_eq, hn, hvs]; exact R0
  · have e : flRes np rf (D (args ++ List.replicate (n - np) .no)) = .ok (r, t) := e
    generalize D (args ++ List.replicate (n - np) .no) = fl at e ⊢
    cases fl with
    | rt s' ρ' =>
      unfold flRes at e
      simp only at e
      cases hp : parOf np rf ρ' with
      | none => rw [hp] at e; cases e
      | some t' =>
        rw [hp] at e
        simp only at e
        split at e
        · rename_i nn
          cases e
          exact fun v σ' H' Z' O' x R' => fin v σ' H' Z' O' ρ' _ hp nn rfl x R'
        · cases e
    | nx ρ' =>
      unfold flRes at e
      simp only at e
      cases hp : parOf np rf ρ' with
      | none => rw [hp] at e; cases e
      | some t' =>
        rw [hp] at e
        cases e
        refine fun σ' H' Z' O' x R' => ?_
        obtain ⟨R2, n2⟩ := R'.push (H0 := H) (v := .non) (s := .fz .non) (show Rl K mg Z' V.non Val.non from .non)
        exact fin .non σ' H' Z' _ ρ' _ hp rfl rfl (x.place n2) R2
    | bk _ => cases e
    | ct _ => cases e
    | bad => cases e
/-- the same of a def as a head tells it -/
theorem fn_okD {P : Program} {w : World} {K : PySem.W.Frag} {mg : MG} {base : Heap} {x x0 qual : Str} {params : Arguments} {sts : List Stmt} {scope : Scope} {f : Addr} {fd : FuncData} {N ps : List Str} {k np n : Nat} {rf : Option Nat} {D : DS}
    (F : FunD K x0 qual params sts scope [] [] f fd) (S : FnScope N ps scope) (hnp : ps.length = np) (hn : N.length = n) (hm : mg x = some (.ref f))
    (hb : ∀ (kV doc pm : Value) (an : Option Addr) (cdv ct : Value) (us : List Value), us.length = ps.length → bindArgs (PySem.W.fnOf x0 qual params sts scope .none kV doc pm an cdv ct) ⟨us, []⟩ = pure (ps.zip us))
    (body : ∀ (cdv : Value) (A : Around) (outer : List PySem.Env) (s : Shared) (H : Hp) (E : XK), Room k (A.deeper (envOfC qual scope s.heap.objs.size f cdv)) →
      PSSt (cxOf CX0 P w K mg base N qual scope f cdv A outer s H E).nox sts D) : Cal P w K mg base CX0 x (fnE (k + 1) np n rf D) := by
  refine ⟨f, fd, ps, ?_, hm, F.kp, F.bindsN hb⟩
  exact F.ok S (fun vs H Q E h => by rw [h.1, hnp]; rfl) fun cdv A outer s H vs Q E hr h => ⟨_, PSs.nox (body cdv A outer s H E hr), body_run hnp hn h⟩
/-- the law's own def -/
theorem fn_okW {P : Program} {w : World} {K : PySem.W.Frag} {mg : MG} {base : Heap} {x0 qual : Str} {params : Arguments} {sts : List Stmt} {scope : Scope} {f : Addr} {fd : FuncData} {N ps : List Str} {k np n : Nat} {rf : Option Nat} {D : DS}
    (F : FunD K x0 qual params sts scope [] [] f fd) (S : FnScope N ps scope) (hnp : ps.length = np) (hn : N.length = n)
    (body : ∀ (cdv : Value) (A : Around) (outer : List PySem.Env) (s : Shared) (H : Hp) (E : XK), Room k (A.deeper (envOfC qual scope s.heap.objs.size f cdv)) →
      PSSt (cxOf CX0 P w K mg base N qual scope f cdv A outer s H E).nox sts D) : FnOk P w K mg base CX0 (k + 1) f fd ps (spF K mg (fnE (k + 1) np n rf D)) :=
  F.ok S (fun vs H Q E h => by rw [h.1, hnp]; rfl) fun cdv A outer s H vs Q E hr h => ⟨_, PSs.nox (body cdv A outer s H E hr), body_run hnp hn h⟩
theorem sp_script {K : PySem.W.Frag} {mg : MG} {e : FnE} {H : Hp} {a : Addr} {ns : List Int} {E : XK} (hnp : e.np = 1) (hrf : e.rf = none) (hS : SqL K H a (ns.map V.int)) (h : e.sem [.fz (.scr ns)] = .ok (.fz (.bl true), .no)) :
    spF K mg e [.ref a] H (fun v _ => v = .bl true) E := by
  refine ⟨by rw [hnp]; rfl, H, fun _ => none, [.fz (.scr ns)], ⟨rfl, Same.refl H, fun b o h => (by cases h), fun b h => absurd rfl h, fun b i q h => (by cases h), fun i s e => ?_⟩, .fz (.bl true), .no, h, fun v H' Z' O' _ R => ?_⟩
  · cases i with
    | zero => cases e; exact ⟨.ref a, rfl, .scr hS⟩
    | succ i => simp at e
  · have := R.sl 1 (.fz (.bl true)) (by rw [hnp, hrf]; rfl)
    obtain ⟨u, e1, r⟩ := this
    cases e1
    cases r
    rfl
theorem cal_bad {P : Program} {w : World} {K : PySem.W.Frag} {mg : MG} {base : Heap} {x x0 qual : Str} {params : Arguments} {sts : List Stmt} {scope : Scope} {f : Addr} {fd : FuncData} {ps : List Str} {k np : Nat} {rf : Option Nat}
    (F : FunD K x0 qual params sts scope [] [] f fd) (hnp : ps.length = np) (hm : mg x = some (.ref f))
    (hb : ∀ (kV doc pm : Value) (an : Option Addr) (cdv ct : Value) (us : List Value), us.length = ps.length → bindArgs (PySem.W.fnOf x0 qual params sts scope .none kV doc pm an cdv ct) ⟨us, []⟩ = pure (ps.zip us)) : Cal P w K mg base CX0 x ⟨k, np, rf, fun _ => .bad⟩ := by
  refine ⟨f, fd, ps, ⟨fun vs H Q E h => by rw [h.1, hnp], fun A outer s H args us vs Q E hr he hb hv h => ?_⟩, hm, F.kp, F.bindsN hb⟩
  obtain ⟨_, _, _, _, _, _, _, e, _⟩ := h
  cases e
end Ev
namespace Ev
theorem fnE_sem (lv np n : Nat) (rf : Option Nat) (d : DS) (args : List Sl) : (fnE lv np n rf d).sem args = flRes np rf (d (args ++ List.replicate (n - np) .no)) := rfl
end Ev

/-! Ev: loops, list comprehensions. -/
namespace Ev
open PySem PySem.Spec PyProof.Rows L2

/-- J goes through xs, over what stands at Z and what is locked -/
structure Walk (K : PySem.W.Frag) (mg : MG) (J : It) (Z : Hp) (C : Lk) (xs : List Val) : Prop where
  go : ∀ i Zc H, Same Z Zc → Same Zc H → Same C H → i < xs.length → J.go i H
  yld : ∀ i Zc H v H', Same Z Zc → Same Zc H → Same C H → i < xs.length → J.yld i H v H' → ∃ Zc' y, Grow Zc H Zc' H' ∧ xs[i]? = some y ∧ Rl K mg Zc' v y
  stop : ∀ i Zc H, Same Z Zc → Same Zc H → Same C H → xs.length ≤ i → J.stop i H
abbrev DI := Env → Out (List Val × Env)
def TIt (K : PySem.W.Frag) (mg : MG) (d : DI) : TI := fun σ H R => ∃ Z O C ρ, EnvR K mg Z H O C σ ρ ∧ ∃ xs ρ', d ρ = .ok (xs, ρ') ∧
  ∀ J H' Z' O', Ext Z H O Z' H' O' → EnvR K mg Z' H' O' C σ ρ' → Walk K mg J Z' C xs → R J H'
abbrev PIt (X : Cx) (tg iter : Expr) (d : DI) : Prop := PI X tg iter (TIt X.K X.mg d)
theorem PI.imp {X : Cx} {tg e : Expr} {t t' : TI} (h : PI X tg e t) (i : ∀ σ H Q, t' σ H Q → t σ H Q) : PI X tg e t' := ⟨fun pins s σ H Q I q => h.run pins s σ H Q I (i σ H Q q)⟩
theorem PI.or {X : Cx} {tg e : Expr} {t t' : TI} (h : PI X tg e t) (h' : PI X tg e t') : PI X tg e (fun σ H R => t σ H R ∨ t' σ H R) := ⟨fun pins s σ H Q I q => q.elim (h.run pins s σ H Q I) (h'.run pins s σ H Q I)⟩


theorem Rls.getI {K : PySem.W.Frag} {mg : MG} {Z : Hp} {vs : List V} {xs : List Val} {i : Nat} {v : V} (r : Rls K mg Z vs xs) (h : vs[i]? = some v) : ∃ x, xs[i]? = some x ∧ Rl K mg Z v x := r.get' h
theorem walk_l {K : PySem.W.Frag} {mg : MG} {Z : Hp} {C : Lk} {a : Addr} {vs : List V} {xs : List Val} (r : Rls K mg Z vs xs) (h : ∀ Zc H, Same Z Zc → Same Zc H → Same C H → SqL K H a vs) : Walk K mg (Itl K a) Z C xs where
  go := fun i Zc H z zh c hi => by
    have hi' : i < vs.length := by rw [r.length]; exact hi
    exact ⟨vs, vs[i], h Zc H z zh c, by simp [hi']⟩
  yld := fun i Zc H v H' z zh c hi y => by
    obtain ⟨rfl, y⟩ := y
    obtain ⟨x, h1, h2⟩ := r.get' (y vs (h Zc _ z zh c))
    exact ⟨Zc, x, Grow.refl zh, h1, h2.mono z⟩
  stop := fun i Zc H z zh c hi => ⟨vs, h Zc H z zh c, by rw [r.length]; exact hi⟩
theorem walk_t {K : PySem.W.Frag} {mg : MG} {Z : Hp} {C : Lk} {a : Addr} {vs : List V} {xs : List Val} (r : Rls K mg Z vs xs) (h : ∀ Zc H, Same Z Zc → Same Zc H → Same C H → SqT K H a vs) : Walk K mg (Itt K a) Z C xs where
  go := fun i Zc H z zh c hi => by
    have hi' : i < vs.length := by rw [r.length]; exact hi
    exact ⟨vs, vs[i], h Zc H z zh c, by simp [hi']⟩
  yld := fun i Zc H v H' z zh c hi y => by
    obtain ⟨rfl, y⟩ := y
    obtain ⟨x, h1, h2⟩ := r.get' (y vs (h Zc _ z zh c))
    exact ⟨Zc, x, Grow.refl zh, h1, h2.mono z⟩
  stop := fun i Zc H z zh c hi => ⟨vs, h Zc H z zh c, by rw [r.length]; exact hi⟩
theorem walk_r {K : PySem.W.Frag} {mg : MG} {Z : Hp} {C : Lk} {lo : Int} {n : Nat} : Walk K mg (Itr lo n) Z C ((List.range n).map fun i => .int (lo + (i : Nat))) where
  go := fun i Zc H z zh c hi => by simpa [Itr] using hi
  yld := fun i Zc H v H' z zh c hi y => by
    obtain ⟨rfl, rfl⟩ := y
    have hi : i < n := by simpa using hi
    exact ⟨Zc, .int (lo + i), Grow.refl zh, by simp [hi], .int _⟩
  stop := fun i Zc H z zh c hi => by simpa [Itr] using hi
def chars (z : Str) : List Val := z.cps.toList.map fun c => .str ⟨#[c]⟩
theorem walk_s {K : PySem.W.Frag} {mg : MG} {Z : Hp} {C : Lk} {x : Str} : Walk K mg (Its x) Z C (chars x) where
  go := fun i Zc H z zh c hi => by simpa [Its, chars] using hi
  yld := fun i Zc H v H' z zh c hi y => by
    obtain ⟨rfl, k, h, rfl⟩ := y
    refine ⟨Zc, .str ⟨#[k]⟩, Grow.refl zh, ?_, .str _⟩
    unfold chars
    rw [List.getElem?_map, Array.getElem?_toList, h]
    rfl
  stop := fun i Zc H z zh c hi => by simpa [Its, chars] using hi

/-- what a for goes through -/
def goesV : Val → Option (List Val)
  | .lst xs => some xs
  | .tup xs => some xs
  | .ktup xs => some xs
  | .scr ns => some (ns.map .int)
  | .str z => some (chars z)
  | _ => none
def dIt (d : DV) : DI := fun ρ => (d ρ).bind fun p => Out.of ((goesV p.1).map fun xs => (xs, p.2))
section
variable {X : Cx} {tg : Expr}
theorem it_val {e : Expr} {d : DV} (h : PV X e d) : PIt X tg e (dIt d) := PI.imp (Ev.PI.or (pi_list h) (Ev.PI.or (pi_tup h) (pi_str h))) fun σ H R ⟨Z, O, C, ρ, R0, xs, ρ', q, k⟩ => by
  obtain ⟨⟨x, ρ1⟩, e1, q⟩ := Out.bind_ok q
  obtain ⟨ys, e2, q⟩ := Option.map_eq_some_iff.mp (Out.of_ok q)
  cases q
  cases x with
  | lst zs =>
    cases e2
    refine .inl ⟨Z, O, C, ρ, R0, _, ρ1, e1, fun v H' Z' O' x R' r => ?_⟩
    cases r with
    | lst m r => exact ⟨_, rfl, ⟨_, SqL.of (R'.zh _ _ m)⟩, k _ H' Z' O' x R' (walk_l r fun Zc H z zh _ => SqL.of (zh _ _ (z _ _ m)))⟩
  | scr ns =>
    cases e2
    refine .inl ⟨Z, O, C, ρ, R0, _, ρ1, e1, fun v H' Z' O' x R' r => ?_⟩
    cases r with
    | scr m => exact ⟨_, rfl, ⟨_, R'.zh.seq m⟩, k _ H' Z' O' x R' (walk_l (Rls.ints ns) fun Zc H z zh _ => zh.seq (z.seq m))⟩
  | tup zs =>
    cases e2
    refine .inr (.inl ⟨Z, O, C, ρ, R0, _, ρ1, e1, fun v H' Z' O' x R' r => ?_⟩)
    cases r with
    | tup m r => exact ⟨_, rfl, ⟨_, SqT.of (R'.zh _ _ m)⟩, k _ H' Z' O' x R' (walk_t r fun Zc H z zh _ => SqT.of (zh _ _ (z _ _ m)))⟩
  | ktup zs =>
    cases e2
    refine .inr (.inl ⟨Z, O, C, ρ, R0, _, ρ1, e1, fun v H' Z' O' x R' r => ?_⟩)
    cases r with
    | ktup m r => exact ⟨_, rfl, ⟨_, seqT_mono R'.zh m⟩, k _ H' Z' O' x R' (walk_t r fun Zc H z zh _ => seqT_mono zh (seqT_mono z m))⟩
  | str z =>
    cases e2
    refine .inr (.inr ⟨Z, O, C, ρ, R0, _, ρ1, e1, fun v H' Z' O' x R' r => ?_⟩)
    cases r
    exact ⟨z, rfl, k _ H' Z' O' x R' walk_s⟩
  | _ => cases e2
def rOk (i : Int) : Bool := decide (-(2 ^ 62) ≤ i ∧ i < 2 ^ 62)
/-- range(..) in a for -/
def dRg (d : DR) : DI := fun ρ => (d ρ).bind fun p => if rOk p.1.1 && rOk p.1.2 then .ok ((rangeI p.1.1 p.1.2).map .int, p.2) else .bad
theorem it_r1 {a : Expr} {d : DV} {p pos : Pos} (hg : Gl X "range") (hm : X.mg "range" = none) (ha : PV X a d) (hs : starEach [a] X.env = [(false, eval a X.env)] := by rfl) : PIt X tg (.Call (.Name "range" p) [a] [] pos) (dRg (dR1 d)) :=
  PI.imp (pi_range1 hg hm (pa_cons ha pa_nil hs) hs) fun σ H R ⟨Z, O, C, ρ, R0, xs, ρ', q, k⟩ => by
    obtain ⟨⟨rg, ρ1⟩, e1, q⟩ := Out.bind_ok q
    obtain ⟨⟨x, ρ2⟩, e2, e1⟩ := Out.bind_ok e1
    split at q
    · rename_i hk
      cases q
      refine ⟨Z, O, C, ρ, R0, x, ρ2, e2, fun v H' Z' O' ex R' r => ?_⟩
      cases x with
      | int n =>
        cases e1
        cases r
        have hk : (rOk 0 && rOk n) = true := hk
        simp only [rOk, Bool.and_eq_true, decide_eq_true_eq] at hk
        have w := walk_r (K := X.K) (mg := X.mg) (Z := Z') (C := C) (lo := 0) (n := n.toNat)
        refine ⟨n, rfl, hk.2.1, hk.2.2, k _ H' Z' O' ex R' ?_⟩
        have : (rangeI 0 n).map Val.int = (List.range n.toNat).map fun i => .int ((0 : Int) + (i : Nat)) := by unfold rangeI; rw [List.map_map]; simp
        rw [this]
        exact w
      | _ => cases e1
    · cases q
theorem it_r2 {a b : Expr} {da db : DV} {p pos : Pos} (hg : Gl X "range") (hm : X.mg "range" = none) (ha : PV X a da) (hb : PV X b db) (hs : starEach [a, b] X.env = [(false, eval a X.env), (false, eval b X.env)] := by rfl) (hs2 : starEach [b] X.env = [(false, eval b X.env)] := by rfl) :
    PIt X tg (.Call (.Name "range" p) [a, b] [] pos) (dRg (dR2 da db)) :=
  PI.imp (pi_range2 hg hm (pa_cons ha (pa_cons hb pa_nil hs2) (by rw [hs, hs2])) hs hs2) fun σ H R ⟨Z, O, C, ρ, R0, xs, ρ', q, k⟩ => by
    obtain ⟨⟨rg, ρ1⟩, e1, q⟩ := Out.bind_ok q
    obtain ⟨⟨x, ρ2⟩, e2, e1⟩ := Out.bind_ok e1
    obtain ⟨⟨y, ρ3⟩, e3, e1⟩ := Out.bind_ok e1
    split at q
    · rename_i hk
      cases q
      refine ⟨Z, O, C, ρ, R0, x, ρ2, e2, fun v H1 Z1 O1 ex1 R1 r1 => ⟨Z1, O1, C, ρ2, R1, y, ρ3, e3, fun u H' Z' O' ex2 R' r2 => ?_⟩⟩
      cases x with
      | int m =>
        cases y with
        | int n =>
          cases e1
          cases r1
          cases r2
          have hk : (rOk m && rOk n) = true := hk
          simp only [rOk, Bool.and_eq_true, decide_eq_true_eq] at hk
          have w := walk_r (K := X.K) (mg := X.mg) (Z := Z') (C := C) (lo := m) (n := (n - m).toNat)
          refine ⟨m, n, rfl, ⟨hk.1.1, hk.1.2, hk.2.1, hk.2.2⟩, k _ H' Z' O' (ex1.trans ex2) R' ?_⟩
          have : (rangeI m n).map Val.int = (List.range (n - m).toNat).map fun i => .int (m + (i : Nat)) := by unfold rangeI; rw [List.map_map]; rfl
          rw [this]
          exact w
        | _ => cases e1
      | _ => cases e1
    · cases q
end

/-! ### for -/
def forL (g : DG) (b : DS) : List Val → Env → Fl
  | [], ρ => .nx ρ
  | x :: xs, ρ => match g x ρ with
    | some ρ1 => match b ρ1 with
      | .nx ρ2 => forL g b xs ρ2
      | .ct ρ2 => forL g b xs ρ2
      | .bk ρ2 => .nx ρ2
      | .rt s ρ2 => .rt s ρ2
      | .bad => .bad
    | none => .bad
def sFor (it : DI) (g : DG) (b : DS) : DS := fun ρ => match it ρ with
  | .ok (xs, ρ') => forL g b xs ρ'
  | _ => .bad
section
variable {K : PySem.W.Frag} {mg : MG} {Z H : Hp} {O : Lab} {C : Lk} {σ : L2.St} {ρ : Env} {D : Ends} {g : DG} {b : DS} {ws : List Nat} {xs : List Val}
theorem for_run {J : It} (R : EnvR K mg Z H O C σ ρ) (w : Walk K mg J Z C xs) (h : FlR K mg Z H O C D (forL g b xs ρ)) :
    ∃ W : Nat → Nat → L2.St → Hp → Prop, (∃ m, W 0 m σ H) ∧ ∀ i m σ H, W i m σ H →
      (J.stop i H ∧ D.nx σ H) ∨ (J.go i H ∧ ∃ N : L2.St → Hp → Prop, (∀ σ' H', N σ' H' → ∃ m', m' < m ∧ W (i + 1) m' σ' H') ∧ ∀ x H', J.yld i H x H' → TGt K mg g ws x σ H' fun σ2 H2 => TSt K mg b { D with nx := N, ct := N, bk := D.nx } σ2 H2) := by
  refine ⟨fun i m σ1 H1 => m = xs.length - i ∧ i ≤ xs.length ∧ ∃ Z1 O1 ρ1, Ext Z H O Z1 H1 O1 ∧ EnvR K mg Z1 H1 O1 C σ1 ρ1 ∧ FlR K mg Z1 H1 O1 C D (forL g b (xs.drop i) ρ1), ⟨_, rfl, Nat.zero_le _, Z, O, ρ, Ext.refl _ _ _, R, by simpa using h⟩, ?_⟩
  rintro i m σ1 H1 ⟨rfl, hi, Z1, O1, ρ1, x1, R1, f1⟩
  by_cases hlt : i < xs.length
  · refine .inr ⟨w.go i Z1 H1 x1.z R1.zh R1.ch hlt, fun σ' H' => ∃ Z2 O2 ρ2, Ext Z H O Z2 H' O2 ∧ EnvR K mg Z2 H' O2 C σ' ρ2 ∧ FlR K mg Z2 H' O2 C D (forL g b (xs.drop (i + 1)) ρ2), fun σ' H' hN => ⟨_, by omega, rfl, hlt, hN⟩, fun v H' y => ?_⟩
    obtain ⟨Zc, z, gr, hz, rz⟩ := w.yld i Z1 H1 v H' x1.z R1.zh R1.ch hlt y
    have ed : xs.drop i = z :: xs.drop (i + 1) := by
      rw [List.drop_eq_getElem_cons hlt]
      have : xs[i] = z := by rw [List.getElem?_eq_getElem hlt] at hz; exact Option.some.inj hz
      rw [this]
    rw [ed] at f1
    unfold forL at f1
    cases eg : g z ρ1 with
    | none => rw [eg] at f1; exact f1.elim
    | some ρ2 =>
      rw [eg] at f1
      simp only at f1
      refine ⟨Zc, O1, C, ρ1, R1.grow gr, z, ρ2, rz, eg, fun σ2 O2 x2 _ R2 => ⟨Zc, O2, C, ρ2, R2, ?_⟩⟩
      have xx : Ext Z1 H1 O1 Zc H' O2 := gr.ext.trans x2
      have x3 : Ext Z H O Zc H' O2 := x1.trans xx
      cases eb : b ρ2 with
      | nx ρ3 => rw [eb] at f1; exact fun σ' H2 Z2 O3 y2 R3 => ⟨Z2, O3, ρ3, x3.trans y2, R3, f1.ext (xx.trans y2)⟩
      | ct ρ3 => rw [eb] at f1; exact fun σ' H2 Z2 O3 y2 R3 => ⟨Z2, O3, ρ3, x3.trans y2, R3, f1.ext (xx.trans y2)⟩
      | bk ρ3 => rw [eb] at f1; exact fun σ' H2 Z2 O3 y2 R3 => f1 σ' H2 Z2 O3 (xx.trans y2) R3
      | rt s ρ3 => rw [eb] at f1; exact fun u σ' H2 Z2 O3 y2 R3 => f1 u σ' H2 Z2 O3 (xx.trans y2) R3
      | bad => rw [eb] at f1; exact f1.elim
  · have e : i = xs.length := by omega
    subst e
    rw [List.drop_length] at f1
    exact .inl ⟨w.stop _ Z1 H1 x1.z R1.zh R1.ch (Nat.le_refl _), f1 σ1 H1 Z1 O1 (Ext.refl _ _ _) R1⟩
end
section
variable {X : Cx}
theorem st_for {tg iter : Expr} {body : List Stmt} {it : DI} {g : DG} {b : DS} {ws : List Nat} {pos : Pos} (hp : PassesOwn (model X.prog X.w) X.A X.env X.xe) (hc : X.calm = true) (hi : PIt X tg iter it) (hg : PGt X tg g ws) (hb : PSSt X body b)
    (hs : ∀ x, foldedSetIterable iter X.env x = pure x := by intro _; rfl) : PSt X (.For tg iter body [] pos) (sFor it g b) := PS.imp (ps_for hp hc hi hg hb hs) fun D σ H ⟨Z, O, C, ρ, R, h⟩ => by
  unfold sFor at h
  cases e : it ρ with
  | ok p =>
    obtain ⟨xs, ρ'⟩ := p
    rw [e] at h
    exact ⟨Z, O, C, ρ, R, xs, ρ', e, fun J H' Z' O' x R' w => for_run R' w (h.ext x)⟩
  | exc _ => rw [e] at h; exact h.elim
  | bad => rw [e] at h; exact h.elim
end

/-! ### while -/
def whileN (c : DT) (b : DS) : Nat → DS
  | 0, _ => .bad
  | n + 1, ρ => match c ρ with
    | .ok (true, ρ1) => match b ρ1 with
      | .nx ρ2 => whileN c b n ρ2
      | .ct ρ2 => whileN c b n ρ2
      | .bk ρ2 => .nx ρ2
      | .rt s ρ2 => .rt s ρ2
      | .bad => .bad
    | .ok (false, ρ1) => .nx ρ1
    | _ => .bad
open Classical in
noncomputable def sWhile (c : DT) (b : DS) : DS := fun ρ => if h : ∃ n, whileN c b n ρ ≠ .bad then whileN c b h.choose ρ else .bad
theorem whileN_mono {c : DT} {b : DS} : ∀ {n m : Nat} {ρ : Env}, whileN c b n ρ ≠ .bad → n ≤ m → whileN c b m ρ = whileN c b n ρ
  | 0, _, _, h, _ => absurd rfl h
  | n + 1, 0, _, _, h => by omega
  | n + 1, m + 1, ρ, h, hm => by
    unfold whileN at h ⊢
    cases e : c ρ with
    | ok p =>
      obtain ⟨k, ρ1⟩ := p
      rw [e] at h
      cases k with
      | true =>
        simp only at h ⊢
        cases e2 : b ρ1 with
        | nx ρ2 => rw [e2] at h; exact whileN_mono h (by omega)
        | ct ρ2 => rw [e2] at h; exact whileN_mono h (by omega)
        | bk _ => rfl
        | rt _ _ => rfl
        | bad => rfl
      | false => rfl
    | exc _ => rfl
    | bad => rfl
theorem sWhile_eq {c : DT} {b : DS} {n : Nat} {ρ : Env} {f : Fl} (h : whileN c b n ρ = f) (hf : f ≠ .bad) : sWhile c b ρ = f := by
  have ex : ∃ n, whileN c b n ρ ≠ .bad := ⟨n, by rw [h]; exact hf⟩
  unfold sWhile
  rw [dif_pos ex]
  have h1 := ex.choose_spec
  rcases Nat.le_total n ex.choose with q | q
  · rw [whileN_mono (by rw [h]; exact hf) q, h]
  · rw [← h]; exact (whileN_mono h1 q).symm
section
variable {X : Cx}
theorem st_while {c : Expr} {body : List Stmt} {dc : DT} {b : DS} {pos : Pos} (hp : PassesOwn (model X.prog X.w) X.A X.env X.xe) (hc : PTt X c dc) (hb : PSSt X body b) : PSt X (.While c body [] pos) (sWhile dc b) := PS.imp (ps_while hp hc hb) fun D σ H ⟨Z, O, C, ρ, R, h⟩ => by
  unfold sWhile at h
  split at h
  · rename_i hex
    refine ⟨fun n σ1 H1 => ∃ Z1 O1 ρ1, Ext Z H O Z1 H1 O1 ∧ EnvR X.K X.mg Z1 H1 O1 C σ1 ρ1 ∧ FlR X.K X.mg Z1 H1 O1 C D (whileN dc b n ρ1), ⟨hex.choose, Z, O, ρ, Ext.refl _ _ _, R, h⟩, ?_⟩
    rintro n σ1 H1 ⟨Z1, O1, ρ1, x1, R1, f1⟩
    cases n with
    | zero => exact f1.elim
    | succ n =>
      unfold whileN at f1
      cases e : dc ρ1 with
      | ok p =>
        obtain ⟨k, ρ2⟩ := p
        rw [e] at f1
        refine ⟨Z1, O1, C, ρ1, R1, k, ρ2, e, fun H2 Z2 O2 x2 R2 => ?_⟩
        cases k with
        | true =>
          simp only at f1
          rw [if_pos rfl]
          refine ⟨fun σ' H' => ∃ Z3 O3 ρ3, Ext Z H O Z3 H' O3 ∧ EnvR X.K X.mg Z3 H' O3 C σ' ρ3 ∧ FlR X.K X.mg Z3 H' O3 C D (whileN dc b n ρ3), fun σ' H' hN => ⟨n, Nat.lt_succ_self _, hN⟩, Z2, O2, C, ρ2, R2, ?_⟩
          cases eb : b ρ2 with
          | nx ρ3 => rw [eb] at f1; exact fun σ' H3 Z3 O3 y2 R3 => ⟨Z3, O3, ρ3, (x1.trans x2).trans y2, R3, f1.ext (x2.trans y2)⟩
          | ct ρ3 => rw [eb] at f1; exact fun σ' H3 Z3 O3 y2 R3 => ⟨Z3, O3, ρ3, (x1.trans x2).trans y2, R3, f1.ext (x2.trans y2)⟩
          | bk ρ3 => rw [eb] at f1; exact fun σ' H3 Z3 O3 y2 R3 => f1 σ' H3 Z3 O3 (x2.trans y2) R3
          | rt s ρ3 => rw [eb] at f1; exact fun u σ' H3 Z3 O3 y2 R3 => f1 u σ' H3 Z3 O3 (x2.trans y2) R3
          | bad => rw [eb] at f1; exact f1.elim
        | false =>
          rw [if_neg (by decide)]
          exact f1 σ1 H2 Z2 O2 x2 R2
      | exc _ => rw [e] at f1; exact f1.elim
      | bad => rw [e] at f1; exact f1.elim
  · exact h.elim
end
end Ev

/-! Ev: list comprehensions. -/
namespace Ev
open PySem PySem.Spec PyProof.Rows L2

def wipeE (ρ : Env) : List Nat → Env
  | [] => ρ
  | v :: vs => (wipeE ρ vs).set v .no
theorem wipeE_length (ρ : Env) : ∀ vs : List Nat, (wipeE ρ vs).length = ρ.length
  | [] => rfl
  | v :: vs => by unfold wipeE; rw [List.length_set, wipeE_length ρ vs]
theorem wipeE_get {ρ : Env} {i : Nat} {s : Sl} : ∀ {vs : List Nat}, (wipeE ρ vs)[i]? = some s → (i ∈ vs ∧ s = .no) ∨ (i ∉ vs ∧ ρ[i]? = some s)
  | [], h => .inr ⟨by simp, h⟩
  | v :: vs, h => by
    unfold wipeE at h
    by_cases hi : v = i
    · subst hi
      by_cases hv : v < (wipeE ρ vs).length
      · rw [List.getElem?_set_self hv] at h; cases h; exact .inl ⟨List.mem_cons_self, rfl⟩
      · rw [List.getElem?_eq_none (by simpa using hv)] at h; cases h
    · rw [List.getElem?_set_ne hi] at h
      rcases wipeE_get h with ⟨h1, h2⟩ | ⟨h1, h2⟩
      · exact .inl ⟨List.mem_cons_of_mem _ h1, h2⟩
      · exact .inr ⟨fun m => (List.mem_cons.mp m).elim (fun e => hi e.symm) h1, h2⟩
theorem wipe_get {σ : L2.St} {i : Nat} : ∀ {vs : List Nat}, i ∈ vs → i < σ.length → (wipe σ vs)[i]? = some none
  | v :: vs, h, hl => by
    unfold wipe
    by_cases hi : v = i
    · subst hi
      rw [List.getElem?_set_self (by rw [wipe_length]; exact hl)]
    · rw [List.getElem?_set_ne hi]
      exact wipe_get ((List.mem_cons.mp h).elim (fun e => absurd e.symm hi) id) hl
theorem wipe_eq {σ σ' : L2.St} {vs ws : List Nat} (h : off ws σ σ') (hw : ∀ i ∈ ws, i ∈ vs) : wipe σ' vs = wipe σ vs := by
  refine List.ext_getElem? fun i => ?_
  by_cases hi : i ∈ vs
  · by_cases hl : i < σ.length
    · rw [wipe_get hi hl, wipe_get hi (by rw [h.1]; exact hl)]
    · rw [List.getElem?_eq_none (by rw [wipe_length, h.1]; omega), List.getElem?_eq_none (by rw [wipe_length]; omega)]
  · rw [wipe_out hi, wipe_out hi]
    exact h.2 i fun z => hi (hw i z)
theorem wipe_twice (σ : L2.St) (vs : List Nat) : wipe (wipe σ vs) vs = wipe σ vs := by
  refine List.ext_getElem? fun i => ?_
  by_cases hi : i ∈ vs
  · by_cases hl : i < σ.length
    · rw [wipe_get hi hl, wipe_get hi (by rw [wipe_length]; exact hl)]
    · rw [List.getElem?_eq_none (by rw [wipe_length, wipe_length]; omega), List.getElem?_eq_none (by rw [wipe_length]; omega)]
  · rw [wipe_out hi]
section
variable {K : PySem.W.Frag} {mg : MG} {Z H Z1 H1 : Hp} {O O1 : Lab} {C : Lk} {σ : L2.St} {ρ : Env}
theorem EnvR.wipe (R : EnvR K mg Z H O C σ ρ) (vs : List Nat) : EnvR K mg Z H O C (L2.wipe σ vs) (wipeE ρ vs) where
  len := by rw [wipeE_length, wipe_length]; exact R.len
  zh := R.zh
  ch := R.ch
  oz := R.oz
  ob := fun b i q h => by rw [wipeE_length]; exact R.ob b i q h
  sl := fun i s e => by
    rcases wipeE_get e with ⟨_, rfl⟩ | ⟨h1, h2⟩
    · trivial
    · rw [wipe_out h1]; exact R.sl i s h2
def keepFz : Option Sl → Sl
  | some (.fz x) => .fz x
  | _ => .no
def rest (ρ1 : Env) : List Nat → Env → Env
  | [], ρ2 => ρ2
  | v :: vs, ρ2 => (rest ρ1 vs ρ2).set v (keepFz ρ1[v]?)
theorem rest_length (ρ1 : Env) : ∀ (vs : List Nat) (ρ2 : Env), (rest ρ1 vs ρ2).length = ρ2.length
  | [], _ => rfl
  | v :: vs, ρ2 => by unfold rest; rw [List.length_set, rest_length ρ1 vs ρ2]
theorem rest_get {ρ1 ρ2 : Env} {i : Nat} {s : Sl} : ∀ {vs : List Nat}, (rest ρ1 vs ρ2)[i]? = some s → (i ∈ vs ∧ s = keepFz ρ1[i]?) ∨ (i ∉ vs ∧ ρ2[i]? = some s)
  | [], h => .inr ⟨by simp, h⟩
  | v :: vs, h => by
    unfold rest at h
    by_cases hi : v = i
    · subst hi
      by_cases hv : v < (rest ρ1 vs ρ2).length
      · rw [List.getElem?_set_self hv] at h; cases h; exact .inl ⟨List.mem_cons_self, rfl⟩
      · rw [List.getElem?_eq_none (by simpa using hv)] at h; cases h
    · rw [List.getElem?_set_ne hi] at h
      rcases rest_get h with ⟨h1, h2⟩ | ⟨h1, h2⟩
      · exact .inl ⟨List.mem_cons_of_mem _ h1, h2⟩
      · exact .inr ⟨fun m => (List.mem_cons.mp m).elim (fun e => hi e.symm) h1, h2⟩
/-- the block is left -/
theorem EnvR.unwipe {ρ2 : Env} {vs : List Nat} (R1 : EnvR K mg Z1 H1 O1 C σ ρ) (z : Same Z1 Z) (R2 : EnvR K mg Z H O C (L2.wipe σ vs) ρ2) : EnvR K mg Z H O C σ (rest ρ vs ρ2) where
  len := by rw [rest_length, R2.len, wipe_length]
  zh := R2.zh
  ch := R2.ch
  oz := R2.oz
  ob := fun b i q h => by rw [rest_length]; exact R2.ob b i q h
  sl := fun i s e => by
    rcases rest_get e with ⟨_, rfl⟩ | ⟨h1, h2⟩
    · cases q : ρ[i]? with
      | none => trivial
      | some s =>
        have := R1.sl i s q
        cases s with
        | fz x => obtain ⟨u, e1, r⟩ := this; exact ⟨u, e1, r.mono z⟩
        | _ => trivial
    · have := R2.sl i s h2
      rw [wipe_out h1] at this
      exact this
/-- a thing of nobody's is changed -/
theorem same_updF {H : Hp} {Zx : Hp} {p : Addr} {o : HO} (zh : Same Zx H) (hz : Zx p = none) : Same Zx (upd H p o) := fun b x e => by
  rw [upd_ne fun h => by rw [h, hz] at e; cases e]
  exact zh b x e
theorem EnvR.free {p : Addr} {o : HO} (R : EnvR K mg Z H O C σ ρ) (ho : O p = none) (hz : Z p = none) (hc : C p = none) : EnvR K mg Z (upd H p o) O C σ ρ where
  len := R.len
  zh := same_updF R.zh hz
  ch := same_updF R.ch hc
  oz := fun b hb => by
    obtain ⟨h1, h2, h3⟩ := R.oz b hb
    refine ⟨h1, h2, ?_⟩
    rw [upd_ne fun e => by rw [e, ho] at hb; exact hb rfl]
    exact h3
  ob := R.ob
  sl := fun i s e => (R.sl i s e).keep (Same.refl Z) fun b q hb => ⟨upd_ne (fun z => by rw [z, ho] at hb; cases hb), hb⟩
theorem Ext.free {p : Addr} {o : HO} (x : Ext Z1 H1 O1 Z H O) (h1 : H1 p = none) : Ext Z1 H1 O1 Z (upd H p o) O where
  z := x.z
  h := fun b u e1 e2 => by
    rw [upd_ne fun z => by rw [z, h1] at e1; cases e1]
    exact x.h b u e1 e2
  t := fun b e => by
    by_cases hb : b = p
    · rw [hb, upd_same]; simp
    · rw [upd_ne hb]; exact x.t b e
  o := x.o
  zn := x.zn
/-- a thing of nobody's, that stands -/
theorem Ext.nobody {p : Addr} {u : HO} (x : Ext Z1 H1 O1 Z H O) (h : H1 p = some u) (ho : O1 p = none) (hz : Z1 p = none) (hc : C p = none) (R : EnvR K mg Z H O C σ ρ) : H p = some u ∧ O p = none ∧ Z p = none := by
  obtain ⟨h2, h3⟩ := x.h p u h ho
  refine ⟨h2, h3, ?_⟩
  cases e : Z p with
  | none => rfl
  | some w =>
    rcases x.zn p (by rw [e]; simp) with h4 | h4 | h4
    · exact absurd hz h4
    · rw [h] at h4; cases h4
    · exact absurd ho h4
end

def tYesD : DT := fun ρ => .ok (true, ρ)
abbrev PTts (X : Cx) (ifs : List Expr) (d : DT) : Prop := PTs X ifs (TTt X.K X.mg d)
theorem PTs.imp {X : Cx} {e : List Expr} {t t' : TT} (h : PTs X e t) (i : ∀ σ H Q, t' σ H Q → t σ H Q) : PTs X e t' := ⟨fun pins s σ H Q I q => h.run pins s σ H Q I (i σ H Q q)⟩
theorem ts_nil {X : Cx} : PTts X [] tYesD := PTs.imp pts_nil fun σ H Q ⟨Z, O, C, ρ, R, b, ρ', q, k⟩ => by cases q; exact k H Z O (Ext.refl _ _ _) R
theorem ts_one {X : Cx} {c : Expr} {d : DT} (h : PTt X c d) : PTts X [c] d := pts_one h

def lcL (g : DG) (t : DT) (e : DV) (vs : List Nat) : List Val → Env → Option (List Val × Env)
  | [], ρ => some ([], ρ)
  | x :: xs, ρ => match g x ρ with
    | some ρ1 => match t ρ1 with
      | .ok (true, ρ2) => match e ρ2 with
        | .ok (y, ρ3) => (lcL g t e vs xs (wipeE ρ3 vs)).map fun p => (y :: p.1, p.2)
        | _ => none
      | .ok (false, ρ2) => lcL g t e vs xs (wipeE ρ2 vs)
      | _ => none
    | none => none
def dLc (it : DI) (g : DG) (t : DT) (e : DV) (vs : List Nat) : DO := fun ρ => match it ρ with
  | .ok (xs, ρ1) => if xs.length ≤ sizeLine then match lcL g t e vs xs (wipeE ρ1 vs) with
    | some (ys, ρ2) => .ok (.own ys, rest ρ1 vs ρ2)
    | none => .bad
    else .bad
  | _ => .bad
theorem lc_run {K : PySem.W.Frag} {mg : MG} {it : DI} {g : DG} {t : DT} {e : DV} {vs ws : List Nat} (hw : ∀ i ∈ ws, i ∈ vs) {σ : L2.St} {H : Hp} {Q : VK} (h : TOw K mg (dLc it g t e vs) σ H Q) :
    tLc (TIt K mg it) (TGt K mg g ws) (TTt K mg t) (TV K mg e) vs σ H Q := by
  obtain ⟨Z, O, C, ρ, R, s, ρ', q, k⟩ := h
  unfold dLc at q
  cases ei : it ρ with
  | exc _ => rw [ei] at q; cases q
  | bad => rw [ei] at q; cases q
  | ok p =>
    obtain ⟨xs, ρ1⟩ := p
    rw [ei] at q
    simp only at q
    split at q
    case isFalse => cases q
    rename_i hz
    cases el : lcL g t e vs xs (wipeE ρ1 vs) with
    | none => rw [el] at q; cases q
    | some p2 =>
      obtain ⟨ys, ρ2⟩ := p2
      rw [el] at q
      cases q
      refine ⟨Z, O, C, ρ, R, xs, ρ1, ei, fun J H1 Z1 O1 x1 R1 w => fun D hD => ?_⟩
      obtain ⟨f1, f2, f3⟩ := R1.fresh hD
      refine ⟨fun i m H2 => m = xs.length - i ∧ i ≤ xs.length ∧ ∃ Z2 O2 ρa ac acc yr, Ext Z1 H1 O1 Z2 H2 O2 ∧ EnvR K mg Z2 H2 O2 C (wipe σ vs) ρa ∧ H2 D = some (.lst ac) ∧ Rls K mg Z2 ac acc ∧ O2 D = none ∧ Z2 D = none ∧ acc.length ≤ i ∧ lcL g t e vs (xs.drop i) ρa = some (yr, ρ2) ∧ ys = acc ++ yr, ⟨_, rfl, Nat.zero_le _, Z1, O1, wipeE ρ1 vs, [], [], ys, (Ext.refl Z1 H1 O1).free hD, (R1.wipe vs).free f1 f2 f3, upd_same, .nil, f1, f2, Nat.zero_le _, by simpa using el, rfl⟩, ?_⟩
      rintro i m H2 ⟨rfl, hi, Z2, O2, ρa, ac, acc, yr, x2, R2, hd, ra, o2, z2, al, el2, ey⟩
      by_cases hlt : i < xs.length
      · refine .inr ⟨w.go i Z2 H2 x2.z R2.zh R2.ch hlt, _, fun H' hN => ⟨_, Nat.sub_lt_sub_left hlt (Nat.lt_succ_self i), rfl, hlt, hN⟩, fun v H3 y => ?_⟩
        obtain ⟨Z3, z, gr, hz2, rz⟩ := w.yld i Z2 H2 v H3 x2.z R2.zh R2.ch hlt y
        have ed : xs.drop i = z :: xs.drop (i + 1) := by
          rw [List.drop_eq_getElem_cons hlt]
          have : xs[i] = z := by rw [List.getElem?_eq_getElem hlt] at hz2; exact Option.some.inj hz2
          rw [this]
        rw [ed] at el2
        unfold lcL at el2
        cases eg : g z ρa with
        | none => rw [eg] at el2; cases el2
        | some ρb =>
          rw [eg] at el2
          simp only at el2
          have R3 := R2.grow gr
          refine ⟨Z3, O2, C, ρa, R3, z, ρb, rz, eg, fun σ4 O4 x4 hoff R4 => ?_⟩
          have hwp : wipe σ4 vs = wipe σ vs := by rw [wipe_eq hoff hw, wipe_twice]
          refine ⟨hwp, ?_⟩
          have x14 : Ext Z1 H1 O1 Z3 H3 O4 := (x2.trans gr.ext).trans x4
          have x24 : Ext Z2 H2 O2 Z3 H3 O4 := gr.ext.trans x4
          cases et : t ρb with
          | exc _ => rw [et] at el2; cases el2
          | bad => rw [et] at el2; cases el2
          | ok p3 =>
            obtain ⟨b, ρc⟩ := p3
            rw [et] at el2
            refine ⟨Z3, O4, C, ρb, R4, b, ρc, et, fun H5 Z5 O5 x5 R5 => ?_⟩
            cases b with
            | false =>
              simp only at el2
              rw [if_neg (by decide)]
              obtain ⟨n1, n2, n3⟩ := (x24.trans x5).nobody hd o2 z2 f3 R5
              have R6 := R5.wipe vs
              rw [hwp] at R6
              exact ⟨Z5, O5, _, ac, acc, yr, x14.trans x5, R6, n1, ra.mono (x24.z.trans x5.z), n2, n3, by omega, el2, ey⟩
            | true =>
              simp only at el2
              rw [if_pos rfl]
              cases ee : e ρc with
              | exc _ => rw [ee] at el2; cases el2
              | bad => rw [ee] at el2; cases el2
              | ok p4 =>
                obtain ⟨yv, ρd⟩ := p4
                rw [ee] at el2
                obtain ⟨⟨yr', ρf⟩, el3, e3⟩ := Option.map_eq_some_iff.mp el2
                cases e3
                refine ⟨Z5, O5, C, ρc, R5, yv, ρd, ee, fun u H6 Z6 O6 x6 R6 r6 => ?_⟩
                obtain ⟨n1, n2, n3⟩ := ((x24.trans x5).trans x6).nobody hd o2 z2 f3 R6
                have R7 := (R6.wipe vs).free (o := .lst (ac ++ [u])) n2 n3 f3
                rw [hwp] at R7
                exact ⟨ac, n1, by rw [ra.length]; omega, Z6, O6, _, ac ++ [u], acc ++ [yv], yr', ((x14.trans x5).trans x6).free hD, R7, upd_same, (ra.mono ((x24.z.trans x5.z).trans x6.z)).append (.one r6), n2, n3, by simp; omega, el3, by rw [ey]; simp⟩
      · have e1 : i = xs.length := by omega
        subst e1
        rw [List.drop_length] at el2
        cases el2
        refine .inl ⟨w.stop _ Z2 H2 x2.z R2.zh R2.ch (Nat.le_refl _), ?_⟩
        have R3 := EnvR.unwipe R1 x2.z R2
        subst ey
        rw [List.append_nil] at k
        exact k (.ref D) H2 Z2 O2 (x1.trans x2) R3 ⟨D, ac, rfl, o2, z2, f3, x1.fresh hD, hd, ra⟩

theorem runSet {K : PySem.W.Frag} {mg : MG} {i : Nat} {d : DO} {D : Ends} {σ : L2.St} {H : Hp} (h : TSt K mg (sSet i d) D σ H) : TOw K mg d σ H fun v H1 => gName i v σ H1 D.nx := by
  obtain ⟨Z, O, C, ρ, R, h⟩ := h
  unfold sSet at h
  cases e : d ρ with
  | ok p =>
    rw [e] at h
    unfold asg at h
    refine ⟨Z, O, C, ρ, R, p.1, p.2, e, fun v H' Z' O' x R' r => ?_⟩
    simp only at h
    split at h
    · rename_i hl
      obtain ⟨R2, n2⟩ := R'.place hl r
      exact h _ H' Z' _ (x.place n2) R2
    · exact h.elim
  | exc _ => rw [e] at h; exact h.elim
  | bad => rw [e] at h; exact h.elim
section
variable {X : Cx} {elt tg iter : Expr} {ifs : List Expr} {scope : Scope} {own : List (Str × Nat)} {pos : Pos} {it : DI} {g : DG} {t : DT} {e : DV} {ws : List Nat}
theorem pow_lc (hc : X.calm = true) (hN : X.N.Nodup) (hi : PIt X tg iter it) (ok : BlkOk X.N X.env.scope scope own)
    (hg : ∀ (s : Shared) (H : Hp) (C : Addr) (cl : List (Str × Addr)) (fp : List Addr), PGt (X.blk s H scope (compEnvC scope cl C X.env) fp) tg g ws) (ht : ∀ (s : Shared) (H : Hp) (C : Addr) (cl : List (Str × Addr)) (fp : List Addr), PTts (X.blk s H scope (compEnvC scope cl C X.env) fp) ifs t)
    (he : ∀ (s : Shared) (H : Hp) (C : Addr) (cl : List (Str × Addr)) (fp : List Addr), PV (X.blk s H scope (compEnvC scope cl C X.env) fp) elt e) (hw : ∀ i ∈ ws, i ∈ own.map (·.2)) (hs : ∀ x, foldedSetIterable iter X.env x = pure x := by intro _; rfl) :
    POw X (.ListComp elt [⟨tg, iter, ifs, 0⟩] scope pos) (dLc it g t e (own.map (·.2))) := PE.imp (pe_lc hc hN hi ok hg ht he hs) fun _ _ _ => lc_run hw
theorem st_setLc {i : Nat} {y : Str} {py spos : Pos} (hc : X.calm = true) (hN : X.N.Nodup) (hy : X.N[i]? = some y) (hyl : X.env.scope.names.lookup y = some .local)
    (hsw : swapsWith (.ListComp elt [⟨tg, iter, ifs, 0⟩] scope pos) (some (.Name y py)) spos.line X.env = pure true) (hi : PIt X tg iter it) (ok : BlkOk X.N X.env.scope scope own)
    (hg : ∀ (s : Shared) (H : Hp) (C : Addr) (cl : List (Str × Addr)) (fp : List Addr), PGt (X.blk s H scope (compEnvC scope cl C X.env) fp) tg g ws) (ht : ∀ (s : Shared) (H : Hp) (C : Addr) (cl : List (Str × Addr)) (fp : List Addr), PTts (X.blk s H scope (compEnvC scope cl C X.env) fp) ifs t)
    (he : ∀ (s : Shared) (H : Hp) (C : Addr) (cl : List (Str × Addr)) (fp : List Addr), PV (X.blk s H scope (compEnvC scope cl C X.env) fp) elt e) (hw : ∀ i ∈ ws, i ∈ own.map (·.2)) (hs : ∀ x, foldedSetIterable iter X.env x = pure x := by intro _; rfl) :
    PSt X (.Assign [.Name y py] (.ListComp elt [⟨tg, iter, ifs, 0⟩] scope pos) spos) (sSet i (dLc it g t e (own.map (·.2)))) := PS.imp (ps_setLc hc hN hy hyl hsw hi ok hg ht he hs) fun D σ H h => lc_run hw (runSet h)
end

/-! ### two clauses -/
/-- the second clause's turns, for one item of the first -/
def lcL2 (it1 : DI) (g1 : DG) (t1 : DT) (e : DV) (vs1 : List Nat) (ρ : Env) : Option (List Val × Env) := match it1 ρ with
  | .ok (xs, ρ1) => if xs.length ≤ sizeLine then (lcL g1 t1 e vs1 xs (wipeE ρ1 vs1)).map fun p => (p.1, rest ρ1 vs1 p.2) else none
  | _ => none
def lcO (g : DG) (t : DT) (f : Env → Option (List Val × Env)) (vs : List Nat) : List Val → Env → Option (List Val × Env)
  | [], ρ => some ([], ρ)
  | x :: xs, ρ => match g x ρ with
    | some ρ1 => match t ρ1 with
      | .ok (true, ρ2) => match f ρ2 with
        | some (ys, ρ3) => (lcO g t f vs xs (wipeE ρ3 vs)).map fun p => (ys ++ p.1, p.2)
        | none => none
      | .ok (false, ρ2) => lcO g t f vs xs (wipeE ρ2 vs)
      | _ => none
    | none => none
def dLc2 (it : DI) (g : DG) (t : DT) (it1 : DI) (g1 : DG) (t1 : DT) (e : DV) (vs vs1 : List Nat) : DO := fun ρ => match it ρ with
  | .ok (xs, ρ1) => match lcO g t (lcL2 it1 g1 t1 e vs1) vs xs (wipeE ρ1 vs) with
    | some (ys, ρ2) => if ys.length ≤ sizeLine then .ok (.own ys, rest ρ1 vs ρ2) else .bad
    | none => .bad
  | _ => .bad

/-- where the new list is, and what it holds -/
structure Acc (K : PySem.W.Frag) (mg : MG) (Z H : Hp) (O : Lab) (D : Addr) (acc : List Val) : Prop where
  ex : ∃ ac, H D = some (.lst ac) ∧ Rls K mg Z ac acc
  o : O D = none
  z : Z D = none
theorem Acc.step {K : PySem.W.Frag} {mg : MG} {Z H Z1 H1 : Hp} {O O1 : Lab} {C : Lk} {σ : L2.St} {ρ : Env} {D : Addr} {acc : List Val} (a : Acc K mg Z H O D acc) (x : Ext Z H O Z1 H1 O1) (hc : C D = none) (R : EnvR K mg Z1 H1 O1 C σ ρ) : Acc K mg Z1 H1 O1 D acc := by
  obtain ⟨ac, h1, h2⟩ := a.ex
  obtain ⟨n1, n2, n3⟩ := x.nobody h1 a.o a.z hc R
  exact ⟨⟨ac, n1, h2.mono x.z⟩, n2, n3⟩
theorem lc_inner {K : PySem.W.Frag} {mg : MG} {it : DI} {g : DG} {t : DT} {e : DV} {vs ws : List Nat} (hw : ∀ i ∈ ws, i ∈ vs) {σ : L2.St} {Z0 H0 Z H : Hp} {O0 O : Lab} {C : Lk} {ρ ρ3 : Env} {D : Addr} {acc ys : List Val} {Nx : Hp → Prop}
    (R : EnvR K mg Z H O C σ ρ) (x0 : Ext Z0 H0 O0 Z H O) (h0 : H0 D = none) (hc : C D = none) (A : Acc K mg Z H O D acc) (hl : lcL2 it g t e vs ρ = some (ys, ρ3)) (hz : (acc ++ ys).length ≤ sizeLine)
    (hN : ∀ Z' H' O', Ext Z0 H0 O0 Z' H' O' → EnvR K mg Z' H' O' C σ ρ3 → Acc K mg Z' H' O' D (acc ++ ys) → Nx H') :
    TIt K mg it σ H fun J1 H4 => ∃ W1 : Nat → Nat → Hp → Prop, (∃ m, W1 0 m H4) ∧ ∀ j k H, W1 j k H →
      (J1.stop j H ∧ Nx H) ∨ (J1.go j H ∧ ∃ Nx1 : Hp → Prop, (∀ H', Nx1 H' → ∃ k', k' < k ∧ W1 (j + 1) k' H') ∧ ∀ x H', J1.yld j H x H' → TGt K mg g ws x (wipe σ vs) H' fun σ3 H5 => wipe σ3 vs = wipe σ vs ∧ TTt K mg t σ3 H5 fun b H6 =>
        if b = true then TV K mg e σ3 H6 fun y H7 => ∃ acc, H7 D = some (.lst acc) ∧ acc.length < sizeLine ∧ Nx1 (upd H7 D (.lst (acc ++ [y]))) else Nx1 H6) := by
  unfold lcL2 at hl
  cases ei : it ρ with
  | exc _ => rw [ei] at hl; cases hl
  | bad => rw [ei] at hl; cases hl
  | ok p =>
    obtain ⟨xs, ρ1⟩ := p
    rw [ei] at hl
    simp only at hl
    split at hl
    case isFalse => cases hl
    obtain ⟨⟨ys', ρ2⟩, el, e0⟩ := Option.map_eq_some_iff.mp hl
    cases e0
    refine ⟨Z, O, C, ρ, R, xs, ρ1, ei, fun J H1 Z1 O1 x1 R1 w => ?_⟩
    have A1 := A.step x1 hc R1
    refine ⟨fun i m H2 => m = xs.length - i ∧ i ≤ xs.length ∧ ∃ Z2 O2 ρa ac yr, Ext Z0 H0 O0 Z2 H2 O2 ∧ Same Z1 Z2 ∧ EnvR K mg Z2 H2 O2 C (wipe σ vs) ρa ∧ Acc K mg Z2 H2 O2 D ac ∧ lcL g t e vs (xs.drop i) ρa = some (yr, ρ2) ∧ acc ++ ys' = ac ++ yr, ⟨_, rfl, Nat.zero_le _, Z1, O1, wipeE ρ1 vs, acc, ys', x0.trans x1, Same.refl _, R1.wipe vs, A1, by simpa using el, rfl⟩, ?_⟩
    rintro i m H2 ⟨rfl, hi, Z2, O2, ρa, ac, yr, x2, z12, R2, A2, el2, ey⟩
    by_cases hlt : i < xs.length
    · refine .inr ⟨w.go i Z2 H2 z12 R2.zh R2.ch hlt, _, fun H' hN => ⟨_, Nat.sub_lt_sub_left hlt (Nat.lt_succ_self i), rfl, hlt, hN⟩, fun v H3 y => ?_⟩
      obtain ⟨Z3, z, gr, hz2, rz⟩ := w.yld i Z2 H2 v H3 z12 R2.zh R2.ch hlt y
      have ed : xs.drop i = z :: xs.drop (i + 1) := by
        rw [List.drop_eq_getElem_cons hlt]
        have : xs[i] = z := by rw [List.getElem?_eq_getElem hlt] at hz2; exact Option.some.inj hz2
        rw [this]
      rw [ed] at el2
      unfold lcL at el2
      cases eg : g z ρa with
      | none => rw [eg] at el2; cases el2
      | some ρb =>
        rw [eg] at el2
        simp only at el2
        have R3 := R2.grow gr
        refine ⟨Z3, O2, C, ρa, R3, z, ρb, rz, eg, fun σ4 O4 x4 hoff R4 => ?_⟩
        have hwp : wipe σ4 vs = wipe σ vs := by rw [wipe_eq hoff hw, wipe_twice]
        refine ⟨hwp, ?_⟩
        have x24 : Ext Z2 H2 O2 Z3 H3 O4 := gr.ext.trans x4
        cases et : t ρb with
        | exc _ => rw [et] at el2; cases el2
        | bad => rw [et] at el2; cases el2
        | ok p3 =>
          obtain ⟨b, ρc⟩ := p3
          rw [et] at el2
          refine ⟨Z3, O4, C, ρb, R4, b, ρc, et, fun H5 Z5 O5 x5 R5 => ?_⟩
          cases b with
          | false =>
            simp only at el2
            rw [if_neg (by decide)]
            have R6 := R5.wipe vs
            rw [hwp] at R6
            exact ⟨Z5, O5, _, ac, yr, x2.trans (x24.trans x5), z12.trans (x24.trans x5).z, R6, A2.step (x24.trans x5) hc R5, el2, ey⟩
          | true =>
            simp only at el2
            rw [if_pos rfl]
            cases ee : e ρc with
            | exc _ => rw [ee] at el2; cases el2
            | bad => rw [ee] at el2; cases el2
            | ok p4 =>
              obtain ⟨yv, ρd⟩ := p4
              rw [ee] at el2
              obtain ⟨⟨yr', ρf⟩, el3, e3⟩ := Option.map_eq_some_iff.mp el2
              cases e3
              refine ⟨Z5, O5, C, ρc, R5, yv, ρd, ee, fun u H6 Z6 O6 x6 R6 r6 => ?_⟩
              have x26 := (x24.trans x5).trans x6
              obtain ⟨⟨aw, n1, ra⟩, n2, n3⟩ := A2.step x26 hc R6
              have R7 := (R6.wipe vs).free (o := .lst (aw ++ [u])) n2 n3 hc
              rw [hwp] at R7
              refine ⟨aw, n1, ?_, Z6, O6, _, ac ++ [yv], yr', (x2.trans x26).free h0, z12.trans x26.z, R7, ⟨⟨_, upd_same, ra.append (.one r6)⟩, n2, n3⟩, el3, by rw [ey]; simp⟩
              rw [ra.length]
              rw [ey] at hz
              simp at hz
              omega
    · have e1 : i = xs.length := by omega
      subst e1
      rw [List.drop_length] at el2
      cases el2
      refine .inl ⟨w.stop _ Z2 H2 z12 R2.zh R2.ch (Nat.le_refl _), hN Z2 H2 O2 x2 (EnvR.unwipe R1 z12 R2) ?_⟩
      rw [ey, List.append_nil]
      exact A2
theorem lc2_run {K : PySem.W.Frag} {mg : MG} {it it1 : DI} {g g1 : DG} {t t1 : DT} {e : DV} {vs vs1 ws ws1 : List Nat} (hw : ∀ i ∈ ws, i ∈ vs) (hw1 : ∀ i ∈ ws1, i ∈ vs1) {σ : L2.St} {H : Hp} {Q : VK} (h : TOw K mg (dLc2 it g t it1 g1 t1 e vs vs1) σ H Q) :
    tLc2 (TIt K mg it) (TGt K mg g ws) (TTt K mg t) (TIt K mg it1) (TGt K mg g1 ws1) (TTt K mg t1) (TV K mg e) vs vs1 σ H Q := by
  obtain ⟨Z, O, C, ρ, R, s, ρ', q, k⟩ := h
  unfold dLc2 at q
  cases ei : it ρ with
  | exc _ => rw [ei] at q; cases q
  | bad => rw [ei] at q; cases q
  | ok p =>
    obtain ⟨xs, ρ1⟩ := p
    rw [ei] at q
    simp only at q
    cases el : lcO g t (lcL2 it1 g1 t1 e vs1) vs xs (wipeE ρ1 vs) with
    | none => rw [el] at q; cases q
    | some p2 =>
      obtain ⟨ys, ρ2⟩ := p2
      rw [el] at q
      simp only at q
      split at q
      case isFalse => cases q
      rename_i hz
      cases q
      refine ⟨Z, O, C, ρ, R, xs, ρ1, ei, fun J H1 Z1 O1 x1 R1 w => fun D hD => ?_⟩
      obtain ⟨f1, f2, f3⟩ := R1.fresh hD
      refine ⟨fun i m H2 => m = xs.length - i ∧ i ≤ xs.length ∧ ∃ Z2 O2 ρa acc yr, Ext Z1 H1 O1 Z2 H2 O2 ∧ EnvR K mg Z2 H2 O2 C (wipe σ vs) ρa ∧ Acc K mg Z2 H2 O2 D acc ∧ lcO g t (lcL2 it1 g1 t1 e vs1) vs (xs.drop i) ρa = some (yr, ρ2) ∧ ys = acc ++ yr, ⟨_, rfl, Nat.zero_le _, Z1, O1, wipeE ρ1 vs, [], ys, (Ext.refl Z1 H1 O1).free hD, (R1.wipe vs).free f1 f2 f3, ⟨⟨[], upd_same, .nil⟩, f1, f2⟩, by simpa using el, rfl⟩, ?_⟩
      rintro i m H2 ⟨rfl, hi, Z2, O2, ρa, acc, yr, x2, R2, A2, el2, ey⟩
      by_cases hlt : i < xs.length
      · refine .inr ⟨w.go i Z2 H2 x2.z R2.zh R2.ch hlt, _, fun H' hN => ⟨_, Nat.sub_lt_sub_left hlt (Nat.lt_succ_self i), rfl, hlt, hN⟩, fun v H3 y => ?_⟩
        obtain ⟨Z3, z, gr, hz2, rz⟩ := w.yld i Z2 H2 v H3 x2.z R2.zh R2.ch hlt y
        have ed : xs.drop i = z :: xs.drop (i + 1) := by
          rw [List.drop_eq_getElem_cons hlt]
          have : xs[i] = z := by rw [List.getElem?_eq_getElem hlt] at hz2; exact Option.some.inj hz2
          rw [this]
        rw [ed] at el2
        unfold lcO at el2
        cases eg : g z ρa with
        | none => rw [eg] at el2; cases el2
        | some ρb =>
          rw [eg] at el2
          simp only at el2
          have R3 := R2.grow gr
          refine ⟨Z3, O2, C, ρa, R3, z, ρb, rz, eg, fun σ4 O4 x4 hoff R4 => ?_⟩
          have hwp : wipe σ4 vs = wipe σ vs := by rw [wipe_eq hoff hw, wipe_twice]
          refine ⟨hwp, ?_⟩
          have x24 : Ext Z2 H2 O2 Z3 H3 O4 := gr.ext.trans x4
          cases et : t ρb with
          | exc _ => rw [et] at el2; cases el2
          | bad => rw [et] at el2; cases el2
          | ok p3 =>
            obtain ⟨b, ρc⟩ := p3
            rw [et] at el2
            refine ⟨Z3, O4, C, ρb, R4, b, ρc, et, fun H5 Z5 O5 x5 R5 => ?_⟩
            cases b with
            | false =>
              simp only at el2
              rw [if_neg (by decide)]
              have R6 := R5.wipe vs
              rw [hwp] at R6
              exact ⟨Z5, O5, _, acc, yr, x2.trans (x24.trans x5), R6, A2.step (x24.trans x5) f3 R5, el2, ey⟩
            | true =>
              simp only at el2
              rw [if_pos rfl]
              cases ef : lcL2 it1 g1 t1 e vs1 ρc with
              | none => rw [ef] at el2; cases el2
              | some p4 =>
                obtain ⟨yi, ρd⟩ := p4
                rw [ef] at el2
                obtain ⟨⟨yr', ρf⟩, el3, e3⟩ := Option.map_eq_some_iff.mp el2
                cases e3
                refine lc_inner hw1 R5 (x2.trans (x24.trans x5)) hD f3 (A2.step (x24.trans x5) f3 R5) ef ?_ fun Z6 H6 O6 x6 R6 A6 => ?_
                · rw [ey] at hz
                  simp at hz ⊢
                  omega
                · have R7 := R6.wipe vs
                  rw [hwp] at R7
                  exact ⟨Z6, O6, _, acc ++ yi, yr', x6, R7, A6, el3, by rw [ey]; simp⟩
      · have e1 : i = xs.length := by omega
        subst e1
        rw [List.drop_length] at el2
        cases el2
        refine .inl ⟨w.stop _ Z2 H2 x2.z R2.zh R2.ch (Nat.le_refl _), ?_⟩
        have R3 := EnvR.unwipe R1 x2.z R2
        obtain ⟨⟨ac, hd, ra⟩, o2, z2⟩ := A2
        subst ey
        rw [List.append_nil] at k
        exact k (.ref D) H2 Z2 O2 (x1.trans x2) R3 ⟨D, ac, rfl, o2, z2, f3, x1.fresh hD, hd, ra⟩
section
variable {X : Cx} {elt tg iter tg1 iter1 : Expr} {ifs ifs1 : List Expr} {scope : Scope} {own : List (Str × Nat)} {vs1 : List Nat} {pos : Pos} {it it1 : DI} {g g1 : DG} {t t1 : DT} {e : DV} {ws ws1 : List Nat}
theorem pow_lc2 (hc : X.calm = true) (hN : X.N.Nodup) (hi : PIt X tg iter it) (ok : BlkOk X.N X.env.scope scope own) (hv : ∀ i ∈ vs1, i ∈ own.map (·.2))
    (hg : ∀ (s : Shared) (H : Hp) (C : Addr) (cl : List (Str × Addr)) (fp : List Addr), PGt (X.blk s H scope (compEnvC scope cl C X.env) fp) tg g ws) (ht : ∀ (s : Shared) (H : Hp) (C : Addr) (cl : List (Str × Addr)) (fp : List Addr), PTts (X.blk s H scope (compEnvC scope cl C X.env) fp) ifs t)
    (hi1 : ∀ (s : Shared) (H : Hp) (C : Addr) (cl : List (Str × Addr)) (fp : List Addr), PIt (X.blk s H scope (compEnvC scope cl C X.env) fp) tg1 iter1 it1)
    (hg1 : ∀ (s : Shared) (H : Hp) (C : Addr) (cl : List (Str × Addr)) (fp : List Addr), PGt (X.blk s H scope (compEnvC scope cl C X.env) fp) tg1 g1 ws1) (ht1 : ∀ (s : Shared) (H : Hp) (C : Addr) (cl : List (Str × Addr)) (fp : List Addr), PTts (X.blk s H scope (compEnvC scope cl C X.env) fp) ifs1 t1)
    (he : ∀ (s : Shared) (H : Hp) (C : Addr) (cl : List (Str × Addr)) (fp : List Addr), PV (X.blk s H scope (compEnvC scope cl C X.env) fp) elt e) (hw : ∀ i ∈ ws, i ∈ own.map (·.2)) (hw1 : ∀ i ∈ ws1, i ∈ vs1) (hs : ∀ x, foldedSetIterable iter X.env x = pure x := by intro _; rfl) (hs1 : ∀ env x, foldedSetIterable iter1 env x = pure x := by intro _ _; rfl) :
    POw X (.ListComp elt [⟨tg, iter, ifs, 0⟩, ⟨tg1, iter1, ifs1, 0⟩] scope pos) (dLc2 it g t it1 g1 t1 e (own.map (·.2)) vs1) := PE.imp (pe_lc2 hc hN hi ok hv hg ht hi1 hg1 ht1 he hs hs1) fun _ _ _ => lc2_run hw hw1
theorem st_setLc2 {i : Nat} {y : Str} {py spos : Pos} (hc : X.calm = true) (hN : X.N.Nodup) (hy : X.N[i]? = some y) (hyl : X.env.scope.names.lookup y = some .local)
    (hsw : swapsWith (.ListComp elt [⟨tg, iter, ifs, 0⟩, ⟨tg1, iter1, ifs1, 0⟩] scope pos) (some (.Name y py)) spos.line X.env = pure true) (hi : PIt X tg iter it) (ok : BlkOk X.N X.env.scope scope own) (hv : ∀ i ∈ vs1, i ∈ own.map (·.2))
    (hg : ∀ (s : Shared) (H : Hp) (C : Addr) (cl : List (Str × Addr)) (fp : List Addr), PGt (X.blk s H scope (compEnvC scope cl C X.env) fp) tg g ws) (ht : ∀ (s : Shared) (H : Hp) (C : Addr) (cl : List (Str × Addr)) (fp : List Addr), PTts (X.blk s H scope (compEnvC scope cl C X.env) fp) ifs t)
    (hi1 : ∀ (s : Shared) (H : Hp) (C : Addr) (cl : List (Str × Addr)) (fp : List Addr), PIt (X.blk s H scope (compEnvC scope cl C X.env) fp) tg1 iter1 it1)
    (hg1 : ∀ (s : Shared) (H : Hp) (C : Addr) (cl : List (Str × Addr)) (fp : List Addr), PGt (X.blk s H scope (compEnvC scope cl C X.env) fp) tg1 g1 ws1) (ht1 : ∀ (s : Shared) (H : Hp) (C : Addr) (cl : List (Str × Addr)) (fp : List Addr), PTts (X.blk s H scope (compEnvC scope cl C X.env) fp) ifs1 t1)
    (he : ∀ (s : Shared) (H : Hp) (C : Addr) (cl : List (Str × Addr)) (fp : List Addr), PV (X.blk s H scope (compEnvC scope cl C X.env) fp) elt e) (hw : ∀ i ∈ ws, i ∈ own.map (·.2)) (hw1 : ∀ i ∈ ws1, i ∈ vs1) (hs : ∀ x, foldedSetIterable iter X.env x = pure x := by intro _; rfl) (hs1 : ∀ env x, foldedSetIterable iter1 env x = pure x := by intro _ _; rfl) :
    PSt X (.Assign [.Name y py] (.ListComp elt [⟨tg, iter, ifs, 0⟩, ⟨tg1, iter1, ifs1, 0⟩] scope pos) spos) (sSet i (dLc2 it g t it1 g1 t1 e (own.map (·.2)) vs1)) := PS.imp (ps_setLc2 hc hN hy hyl hsw hi ok hv hg ht hi1 hg1 ht1 he hs hs1) fun D σ H h => lc2_run hw hw1 (runSet h)
end
end Ev

/-! Ev: lists that change, methods, sorted. -/
namespace Ev
open PySem PySem.Spec PyProof.Rows L2

theorem list_extend_tupAt (l : Addr) (items : Array Value) (n : Nat) (b : Addr) (items2 : Array Value) (n2 : Nat) (dd : Option Addr) (sl : Array (Option Value)) (hs0 : ¬(!items.isEmpty && Builtin.List.listTooLong (items.size + items2.size)) = true) (hs1 : items.size ≤ sizeLine) (hs2 : items.size + items2.size ≤ sizeLine + 1) :
    Meets (Builtin.«list.extend» ⟨[.ref l, .ref b], []⟩) (fun _ R s => s.heap.get? l = some { cls := .type "list", dict := none, data := .seq items n, slots := #[] } ∧ s.heap.get? b = some { cls := .type "tuple", dict := dd, data := .seq items2 n2, slots := sl } ∧ R (.ok (.ret Value.none)) { s with heap := s.heap.update l (Obj.mapSeq fun x => x ++ items2), toks := s.toks }) :=
  .of_wp fun prog w A R s h => by
    obtain ⟨hp, g, d, tk, os⟩ := s; obtain ⟨hl, hb, h⟩ := h; have f1 := AutoSeq1.idx_int; have f2 := AutoSeq1.sub_tuple_tuple; have f3 := AutoSeq1.sub_list_list; have f4 := AutoSeq1.sub_tuple_list; have f5 := AutoSeq1.sub_list_tuple;
    have hz' : (items ++ items2).size ≤ sizeLine + 1 := by rw [Array.size_append]; exact hs2
    wp_walk using (wpAny_updateSeq hl rfl (hz := hs1) (_hz' := hz')), AutoSeq1.wpAny_loadPart' hl, AutoSeq1.wpAny_loadPart' hb; exact ⟨_, rfl, h⟩
def lstOf : Sl → Option (List Val)
  | .own xs => some xs
  | .par xs => some xs
  | _ => none
def setL : Sl → List Val → Sl
  | .own _, ys => .own ys
  | .par _, ys => .par ys
  | s, _ => s
section
variable {K : PySem.W.Frag} {mg : MG} {Z H : Hp} {O : Lab} {C : Lk} {σ : L2.St} {ρ : Env}
/-- a thing of a slot's is changed -/
theorem EnvR.chg (R : EnvR K mg Z H O C σ ρ) {a : Addr} {i q : Nat} {o : HO} {s : Sl} (ho : O a = some (i, q)) (hs : SlotR K mg Z (upd H a o) O C i σ[i]? s) :
    EnvR K mg Z (upd H a o) O C σ (ρ.set i s) ∧ Ext Z H O Z (upd H a o) O := by
  obtain ⟨h1, h2, h3⟩ := R.oz a (by rw [ho]; simp)
  refine ⟨⟨by rw [List.length_set]; exact R.len, same_updF R.zh h1, same_updF R.ch h2, fun b hb => ?_, fun b j q' h => by rw [List.length_set]; exact R.ob b j q' h, fun j t ej => ?_⟩, ⟨Same.refl Z, fun b u e1 e2 => ⟨?_, e2⟩, fun b e => ?_, fun b j q' h => .inr ⟨q', h⟩, fun b h => .inl h⟩⟩
  · obtain ⟨k1, k2, k3⟩ := R.oz b hb
    refine ⟨k1, k2, ?_⟩
    by_cases e : b = a
    · rw [e, upd_same]; simp
    · rw [upd_ne e]; exact k3
  · by_cases hj : j = i
    · subst hj
      by_cases hl : j < ρ.length
      · rw [List.getElem?_set_self hl] at ej; cases ej; exact hs
      · rw [List.getElem?_eq_none (by simpa using hl)] at ej; cases ej
    · rw [List.getElem?_set_ne (Ne.symm hj)] at ej
      exact (R.sl j t ej).keep (Same.refl Z) fun b q' hb => ⟨upd_ne (fun z => by rw [z, ho] at hb; cases hb; exact hj rfl), hb⟩
  · rw [upd_ne (fun z => by rw [z, ho] at e2; cases e2)]; exact e1
  · by_cases h : b = a
    · rw [h, upd_same]; simp
    · rw [upd_ne h]; exact e
theorem EnvR.lst (R : EnvR K mg Z H O C σ ρ) {i : Nat} {s0 : Sl} {ys : List Val} (e : ρ[i]? = some s0) (hl : lstOf s0 = some ys) :
    ∃ a ws, σ[i]? = some (some (.ref a)) ∧ H a = some (.lst ws) ∧ Rls K mg Z ws ys ∧
      ∀ ws' ys', Rls K mg Z ws' ys' → EnvR K mg Z (upd H a (.lst ws')) O C σ (ρ.set i (setL s0 ys')) ∧ Ext Z H O Z (upd H a (.lst ws')) O := by
  have z := R.sl i s0 e
  cases s0 with
  | own xs =>
    cases hl
    obtain ⟨a, ws, ea, o, m, r⟩ := z
    exact ⟨a, ws, ea, m, r, fun ws' ys' r' => R.chg o ⟨a, ws', ea, o, upd_same, r'⟩⟩
  | par xs =>
    cases hl
    obtain ⟨a, ws, ea, o, m, r, fx⟩ := z
    exact ⟨a, ws, ea, m, r, fun ws' ys' r' => R.chg o ⟨a, ws', ea, o, upd_same, r', fx⟩⟩
  | _ => cases hl
end

/-! ### a method that changes its list -/
def rU (K : PySem.W.Frag) (mg : MG) (g : List Val → List Val → Option (Val × List Val)) : V → List V → Hp → VK → Prop := fun x vs H Q => ∃ Z a ws ys xs z ys', Same Z H ∧ x = .ref a ∧ H a = some (.lst ws) ∧ Rls K mg Z ws ys ∧ Rls K mg Z vs xs ∧ g ys xs = some (z, ys') ∧
  ∀ u ws', Rl K mg Z u z → Rls K mg Z ws' ys' → Q u (upd H a (.lst ws'))
def dU (g : List Val → List Val → Option (Val × List Val)) (i : Nat) (d : DA) : DV := fun ρ => match (ρ[i]?).bind lstOf with
  | some _ => (d ρ).bind fun p => Out.of ((takes p.2 p.1).bind fun q => (q.2[i]?).bind fun s => (lstOf s).bind fun ys => (g ys q.1).map fun r => (r.1, q.2.set i (setL s r.2)))
  | none => .bad
section
variable {X : Cx} {o e : Expr} {es : List Expr} {name : Str} {apos cpos : Pos} {id : String} {g : List Val → List Val → Option (Val × List Val)} {i : Nat} {d : DA}
theorem runU {K : PySem.W.Frag} {mg : MG} {σ : L2.St} {H : Hp} {Q : VK} (h : TV K mg (dU g i d) σ H Q) : tBM K "list" (rU K mg g) (tVar i) (TAs K mg d) σ H Q := by
  obtain ⟨Z, O, C, ρ, R, x, ρ', q, k⟩ := h
  unfold dU at q
  cases e0 : (ρ[i]?).bind lstOf with
  | none => rw [e0] at q; cases q
  | some ys0 =>
    rw [e0] at q
    obtain ⟨s0, e1, e2⟩ := Option.bind_eq_some_iff.mp e0
    obtain ⟨a, ws, ea, m, r, _⟩ := R.lst e1 e2
    obtain ⟨⟨hs, ρ1⟩, e3, q⟩ := Out.bind_ok q
    obtain ⟨⟨xs, ρ2⟩, e4, q⟩ := Option.bind_eq_some_iff.mp (Out.of_ok q)
    obtain ⟨s, e5, q⟩ := Option.bind_eq_some_iff.mp q
    obtain ⟨ys, e6, q⟩ := Option.bind_eq_some_iff.mp q
    obtain ⟨⟨z, ys'⟩, e7, q⟩ := Option.map_eq_some_iff.mp q
    cases q
    refine ⟨.ref a, ea, .inl ⟨rfl, _, SqL.of m⟩, Z, O, C, ρ, R, hs, ρ1, e3, fun vs H1 Z1 O1 x1 R1 r1 => ?_⟩
    obtain ⟨Z2, O2, x2, R2, r2⟩ := takes_ok R1 r1 e4
    obtain ⟨a2, ws2, ea2, m2, rr, nx⟩ := R2.lst e5 e6
    rw [ea] at ea2
    cases ea2
    refine ⟨Z2, a, ws2, ys, xs, z, ys', R2.zh, rfl, m2, rr, r2, e7, fun u ws' ru rw' => ?_⟩
    obtain ⟨R3, x3⟩ := nx ws' ys' rw'
    exact k u _ Z2 O2 ((x1.trans x2).trans x3) R3 ru
theorem pv_bmU (slot : Slot "list" name id) (hty : typeOf (.builtin id) = pure (.type "method_descriptor")) (hm : MtR X id (rU X.K X.mg g)) (ho : PE X o (tVar i)) (ha : PAs X (e :: es) d)
    (hbase : attributeBase o name X.env (eval o X.env) = eval o X.env := by rfl)
    (hfew : ((backTo cpos (starEach (e :: es) X.env)).all (fun x => !x.1) && (backToKw cpos (keywordEach [] X.env)).all (fun x => x.1.isSome)
      && decide ((e :: es).length + ([] : List Keyword).length + (if ([] : List Keyword).isEmpty then 0 else 1) < 30)) = true := by rfl)
    (hline : (apos.endLine == cpos.line) = true := by rfl) (hs : starEach (e :: es) X.env = (false, eval e X.env) :: starEach es X.env := by rfl) (hplain : (backTo cpos (starEach es X.env)).any (·.1) = false := by rfl) :
    PV X (.Call (.Attribute o name apos) (e :: es) [] cpos) (dU g i d) := PE.imp (pe_bm PySem.F.plainAttrs_list slot hty hm ho ha hbase hfew hline hs hplain) fun _ _ _ => runU
theorem pv_bmU0 (slot : Slot "list" name id) (hty : typeOf (.builtin id) = pure (.type "method_descriptor")) (hm : MtR X id (rU X.K X.mg g)) (ho : PE X o (tVar i))
    (hbase : attributeBase o name X.env (eval o X.env) = eval o X.env := by rfl) (hline : (apos.endLine == cpos.line) = true := by rfl) :
    PV X (.Call (.Attribute o name apos) [] [] cpos) (dU g i aNil) := PE.imp (pe_bm0 PySem.F.plainAttrs_list slot hty hm ho hbase hline) fun σ H Q h => by
  obtain ⟨v, e1, e2, Z, O, C, ρ, R, hs, ρ', e3, k⟩ := runU h
  cases e3
  exact ⟨v, e1, e2, k [] H Z O (Ext.refl _ _ _) R .nil⟩
def appV (ys xs : List Val) : Option (Val × List Val) := match xs with
  | [x] => if ys.length < sizeLine then some (.non, ys ++ [x]) else none
  | _ => none
theorem m_append : MtR X "list.append" (rU X.K X.mg appV) := MtR.imp mt_append fun v vs H Q ⟨Z, a, ws, ys, xs, z, ys', zh, e1, m, r, rx, e, q⟩ => by
  cases rx with
  | nil => cases e
  | cons r1 t =>
    cases t with
    | cons _ _ => cases e
    | nil =>
      unfold appV at e
      simp only at e
      split at e
      · rename_i hl
        cases e
        exact ⟨a, ws, _, e1, rfl, m, by rw [r.length]; exact hl, q _ _ .non (r.append (.one r1))⟩
      · cases e
def extV (ys xs : List Val) : Option (Val × List Val) := match xs with
  | [.lst zs] => if ys.length + zs.length ≤ sizeLine then some (.non, ys ++ zs) else none
  | [.tup zs] => if ys.length + zs.length ≤ sizeLine then some (.non, ys ++ zs) else none
  | _ => none
def rExtendT : V → List V → Hp → VK → Prop := fun x vs H Q => ∃ l b xs zs, x = .ref l ∧ vs = [.ref b] ∧ H l = some (.lst xs) ∧ H b = some (.tup zs) ∧ xs.length + zs.length ≤ sizeLine ∧ Q .non (upd H l (.lst (xs ++ zs)))
theorem mt_extendT : MtR X "list.extend" rExtendT := by
  intro pins s σ H x vs v us Q I rx rv h
  obtain ⟨l, b, xs, zs, rfl, rfl, hH, hB, hz, q⟩ := h
  cases rx
  obtain ⟨u, rfl, ru⟩ := rv.one
  cases ru
  obtain ⟨z, its, n, r, hl, e⟩ := I.lstM hH
  obtain ⟨hz2, its2, r2, ⟨cls, dd, data, sl⟩, e2, hc2, n2, hd2⟩ := I.hok b _ hB
  simp only at hc2 hd2
  subst hc2 hd2
  have hl2 := r2.length
  obtain ⟨z, its, n, r, hl, e⟩ := I.lstM hH
  have hsz : its.toArray.size + its2.toArray.size ≤ sizeLine := by rw [List.size_toArray, List.size_toArray]; omega
  have hlong : ¬ (!its.toArray.isEmpty && Builtin.List.listTooLong (its.toArray.size + its2.toArray.size)) = true := by
    rw [notLongL hsz, Bool.and_false]
    exact Bool.false_ne_true
  refine call_meets F.slot_list_extend ⟨_, e, rfl⟩ F.entry_list_extend (F.args_list_extend_2 _ _)
    (list_extend_tupAt l its.toArray n b its2.toArray n2 dd sl hlong (by rw [List.size_toArray]; omega) (by omega)) ⟨e, e2, ?_⟩
  refine ⟨.non, _, I.lset (its' := its ++ its2) hH e (by simp) (r.append r2) ?_, rfl, q⟩
  rw [List.length_append]
  omega
theorem Rls.two {K : PySem.W.Frag} {mg : MG} {Z : Hp} {vs : List V} {x y : Val} (h : Rls K mg Z vs [x, y]) : ∃ u v, vs = [u, v] ∧ Rl K mg Z u x ∧ Rl K mg Z v y := by
  cases h with
  | cons a t =>
    cases t with
    | cons b t => cases t; exact ⟨_, _, rfl, a, b⟩
theorem Rls.only {K : PySem.W.Frag} {mg : MG} {Z : Hp} {vs : List V} {x : Val} (h : Rls K mg Z vs [x]) : ∃ u, vs = [u] ∧ Rl K mg Z u x := by
  cases h with
  | cons a t => cases t; exact ⟨_, rfl, a⟩
theorem m_extend : MtR X "list.extend" (rU X.K X.mg extV) := MtR.imp (MtR.or mt_extend mt_extendT) fun v vs H Q ⟨Z, a, ws, ys, xs, z, ys', zh, e1, m, r, rx, e, q⟩ => by
  unfold extV at e
  split at e
  · split at e
    · rename_i zs hl
      cases e
      obtain ⟨u, rfl, ru⟩ := rx.only
      cases ru with
      | lst mb rb => exact .inl ⟨a, _, ws, _, e1, rfl, m, zh _ _ mb, by rw [r.length, rb.length]; exact hl, q _ _ .non (r.append rb)⟩
    · cases e
  · split at e
    · rename_i zs hl
      cases e
      obtain ⟨u, rfl, ru⟩ := rx.only
      cases ru with
      | tup mb rb => exact .inr ⟨a, _, ws, _, e1, rfl, m, zh _ _ mb, by rw [r.length, rb.length]; exact hl, q _ _ .non (r.append rb)⟩
    · cases e
  · cases e
def popV (ys xs : List Val) : Option (Val × List Val) := match xs with
  | [] => (ys[ys.length - 1]?).map fun y => (y, ys.dropLast)
  | [.int i] => if -(2 ^ 63) ≤ i ∧ i < 2 ^ 63 then (seqIndex? i ys.length).bind fun k => (ys[k]?).map fun y => (y, ys.eraseIdx k) else none
  | _ => none
theorem m_pop : MtR X "list.pop" (rU X.K X.mg popV) := MtR.imp (MtR.or mt_pop mt_popAt) fun v vs H Q ⟨Z, a, ws, ys, xs, z, ys', zh, e1, m, r, rx, e, q⟩ => by
  unfold popV at e
  split at e
  · cases rx
    obtain ⟨y, h1, h2⟩ := Option.map_eq_some_iff.mp e
    cases h2
    obtain ⟨u, h3, h4⟩ := r.get h1
    exact .inl ⟨a, ws, u, e1, rfl, m, by rw [r.length]; exact h3, q _ _ h4 r.dropLast⟩
  · rename_i i
    split at e
    · rename_i hi
      obtain ⟨k, h1, e⟩ := Option.bind_eq_some_iff.mp e
      obtain ⟨y, h2, h3⟩ := Option.map_eq_some_iff.mp e
      cases h3
      obtain ⟨u, rfl, ru⟩ := rx.only
      cases ru
      obtain ⟨w, h3, h4⟩ := r.get h2
      exact .inr ⟨a, ws, i, k, w, e1, rfl, m, hi.1, hi.2, by rw [r.length]; exact h1, h3, q _ _ h4 (r.eraseIdx k)⟩
    · cases e
  · cases e
def insV (ys xs : List Val) : Option (Val × List Val) := match xs with
  | [.int i, y] => if ys.length < sizeLine ∧ 0 ≤ i ∧ i < 2 ^ 63 then some (.non, ys.take i.toNat ++ [y] ++ ys.drop i.toNat) else none
  | _ => none
theorem m_insert : MtR X "list.insert" (rU X.K X.mg insV) := MtR.imp mt_insert fun v vs H Q ⟨Z, a, ws, ys, xs, z, ys', zh, e1, m, r, rx, e, q⟩ => by
  unfold insV at e
  split at e
  · rename_i i y
    split at e
    · rename_i hi
      cases e
      obtain ⟨u, w, rfl, ru, rw'⟩ := rx.two
      cases ru
      exact ⟨a, ws, i, w, e1, rfl, m, by rw [r.length]; exact hi.1, hi.2.1, hi.2.2, q _ _ .non (((r.take _).append (.one rw')).append (r.drop _))⟩
    · cases e
  · cases e
def remV (ys xs : List Val) : Option (Val × List Val) := match xs with
  | [.int k] => (intsOf ys).bind fun ns => if k ∈ ns then some (.non, (ns.erase k).map .int) else none
  | _ => none
end
end Ev

/-! Ev: stores into lists, sorted, loops over a slot. -/
namespace Ev
open PySem PySem.Spec PyProof.Rows L2

/-! ### xs[i] = e -/
def putV (ys : List Val) (i x : Val) : Option (List Val) := match i with
  | .int k => (ixN ys.length k).map fun j => ys.set j x
  | _ => none
def sPut (i : Nat) (di dv : DV) : DS := fun ρ => match dv ρ with
  | .ok (x, ρ1) => match (ρ1[i]?).bind lstOf with
    | some _ => match di ρ1 with
      | .ok (k, ρ2) => match ρ2[i]? with
        | some s => match (lstOf s).bind fun ys => putV ys k x with
          | some ys' => .nx (ρ2.set i (setL s ys'))
          | none => .bad
        | none => .bad
      | _ => .bad
    | none => .bad
  | _ => .bad
theorem PS.or {X : Cx} {st : Stmt} {t t' : TS} (h : PS X st t) (h' : PS X st t') : PS X st (fun D σ H => t D σ H ∨ t' D σ H) := ⟨fun pins s σ H D I q => q.elim (h.run pins s σ H D I) (h'.run pins s σ H D I)⟩
section
variable {X : Cx}
theorem runPut {K : PySem.W.Frag} {mg : MG} {i : Nat} {di dv : DV} {D : Ends} {σ : L2.St} {H : Hp} (h : TSt K mg (sPut i di dv) D σ H) :
    tAsg (TV K mg dv) (gSub (tVar i) (TV K mg di) rSetL) D σ H := by
  obtain ⟨Z, O, C, ρ, R, h⟩ := h
  unfold sPut at h
  cases e1 : dv ρ with
  | exc _ => rw [e1] at h; exact h.elim
  | bad => rw [e1] at h; exact h.elim
  | ok p =>
    obtain ⟨x, ρ1⟩ := p
    rw [e1] at h
    simp only at h
    refine ⟨Z, O, C, ρ, R, x, ρ1, e1, fun v H1 Z1 O1 x1 R1 r1 => ?_⟩
    cases e0 : (ρ1[i]?).bind lstOf with
    | none => rw [e0] at h; exact h.elim
    | some ys0 =>
      rw [e0] at h
      simp only at h
      obtain ⟨s0, e2, e3⟩ := Option.bind_eq_some_iff.mp e0
      obtain ⟨a, ws, ea, m, r, _⟩ := R1.lst e2 e3
      refine ⟨.ref a, ea, ?_⟩
      cases e4 : di ρ1 with
      | exc _ => rw [e4] at h; exact h.elim
      | bad => rw [e4] at h; exact h.elim
      | ok p =>
        obtain ⟨k, ρ2⟩ := p
        rw [e4] at h
        simp only at h
        refine ⟨Z1, O1, C, ρ1, R1, k, ρ2, e4, fun u H2 Z2 O2 x2 R2 r2 => ?_⟩
        cases e5 : ρ2[i]? with
        | none => rw [e5] at h; exact h.elim
        | some s =>
          rw [e5] at h
          simp only at h
          cases e6 : (lstOf s).bind fun ys => putV ys k x with
          | none => rw [e6] at h; exact h.elim
          | some ys' =>
            rw [e6] at h
            obtain ⟨ys, e7, e8⟩ := Option.bind_eq_some_iff.mp e6
            obtain ⟨a2, ws2, ea2, m2, rr, nx⟩ := R2.lst e5 e7
            rw [ea] at ea2
            cases ea2
            unfold putV at e8
            cases k with
            | int k =>
              obtain ⟨j, e9, e10⟩ := Option.map_eq_some_iff.mp e8
              cases r2
              refine ⟨a, ws2, k, j, rfl, rfl, m2, by rw [rr.length]; exact e9, ?_⟩
              obtain ⟨R3, x3⟩ := nx (ws2.set j v) ys' (by rw [← e10]; exact Rls.set (r1.mono x2.z) j rr)
              exact h σ _ Z2 O2 ((x1.trans x2).trans x3) R3
            | _ => cases e8
theorem st_put {i : Nat} {x : Str} {e ix : Expr} {di dv : DV} {p pos pos2 : Pos} (ho : PE X (.Name x p) (tVar i)) (hi : PV X ix di) (he : PV X e dv)
    (ha : ∀ v, assign (.Subscript (.Name x p) ix pos2) X.env v = (do
      let ov ← holding [v] (eval (.Name x p) X.env)
      let iv ← holding [v, ov] (eval ix X.env)
      standAt pos2
      holding [v, ov, iv] (setItem ov iv v)
      release [v, ov, iv] []) := by intro _; rfl)
    (hs : swapsWithSole [.Subscript (.Name x p) ix pos2] e pos.line X.env = pure false := by rfl) (hw : swappedStores [.Subscript (.Name x p) ix pos2] e X.env = pure none := by rfl)
    (h1 : (assignEach [.Subscript (.Name x p) ix pos2] X.env).map (·.2) = [assign (.Subscript (.Name x p) ix pos2) X.env] := by rfl) :
    PSt X (.Assign [.Subscript (.Name x p) ix pos2] e pos) (sPut i di dv) := PS.imp (ps_asg he (pg_sub ho hi set_list ha) hs hw h1) fun _ _ _ => runPut
end

/-! ### sorted -/
def alikeOk (ds : List PyData) : Bool := ds.all fun d => ds.all fun d' => PySem.W.alike d d'
def isTupD : PyData → Bool
  | .tuple (_ :: _) => true
  | _ => false
def isOthD : PyData → Bool
  | .none => false
  | .tuple _ => false
  | _ => true
def sortOk (xs : List Val) : Bool := xs.all (fun x => x.py.plain && decide (x.py.depth ≤ 64)) && alikeOk (xs.map Val.py) && ((xs.map Val.py).all isTupD || (xs.map Val.py).all isOthD) && decide (xs.length ≤ sizeLine)
def sortedL (xs : List Val) : List Val := xs.mergeSort (PySem.W.dataLe false Val.py)
def sortV : Val → Option (List Val)
  | .lst xs => if sortOk xs then some (sortedL xs) else none
  | .scr ns => if sortOk (ns.map .int) then some (sortedL (ns.map .int)) else none
  | _ => none
theorem alikeOk_out {ds : List PyData} (h : alikeOk ds = true) : PySem.W.AllAlike ds := fun d hd d' hd' => List.all_eq_true.mp (List.all_eq_true.mp h d hd) d' hd'
theorem sortable_out {ds : List PyData} (h : (ds.all isTupD || ds.all isOthD) = true) : PySem.W.Sortable ds := by
  rcases Bool.or_eq_true_iff.mp h with h | h
  · refine .inl fun d hd => ?_
    have := List.all_eq_true.mp h d hd
    cases d with
    | tuple xs =>
      cases xs with
      | nil => cases this
      | cons x r => exact ⟨x, r, rfl⟩
    | _ => cases this
  · refine .inr fun d hd => ?_
    have := List.all_eq_true.mp h d hd
    cases d <;> first | (cases this; done) | exact ⟨(by intro h; cases h), (by intro _ h; cases h)⟩
/-- items and what they are -/
theorem each_rls {K : PySem.W.Frag} {mg : MG} {Z : Hp} : ∀ {vs : List V} {xs : List Val} {us : List Value}, Rls K mg Z vs xs → Vals vs us → PySem.W.EachIs (fun u x => ∃ v, RelV v u ∧ Rl K mg Z v x) us xs
  | _, _, _, .nil, .nil => .nil
  | _, _, _, .cons r t, .cons q u => .cons ⟨_, q, r⟩ (each_rls t u)
theorem each_back {K : PySem.W.Frag} {mg : MG} {Z : Hp} : ∀ {us : List Value} {xs : List Val}, PySem.W.EachIs (fun u x => ∃ v, RelV v u ∧ Rl K mg Z v x) us xs → ∃ vs, Rls K mg Z vs xs ∧ Vals vs us
  | _, _, .nil => ⟨[], .nil, .nil⟩
  | _, _, .cons ⟨v, q, r⟩ t => by
    obtain ⟨vs, h1, h2⟩ := each_back t
    exact ⟨v :: vs, .cons r h1, .cons q h2⟩
section
variable {X : Cx}
theorem each_reads {pins : List (Addr × Obj)} {σ : L2.St} {Z H : Hp} {s : Shared} (I : Inv X pins σ H s) (zh : Same Z H) : ∀ {us : List Value} {xs : List Val}, PySem.W.EachIs (fun u x => ∃ v, RelV v u ∧ Rl X.K X.mg Z v x) us xs → (∀ x ∈ xs, x.py.plain = true) →
    PySem.W.EachIs (fun u x => ∃ as, Reads s.heap u (Val.py x) as) us xs
  | _, _, .nil, _ => .nil
  | _, _, .cons ⟨v, q, r⟩ t, h => .cons (reads_of I zh (.fz r) (h _ List.mem_cons_self) q) (each_reads I zh t fun x hx => h x (List.mem_cons_of_mem _ hx))
theorem sorted_core {k : Nat} (hr : Room k X.A) {pins : List (Addr × Obj)} {σ : L2.St} {Z H : Hp} {s : Shared} {a : Addr} {vs : List V} {xs : List Val} {Q : VK} (I : Inv X pins σ H s) (zh : Same Z H) (hl : SqL X.K H a vs) (r : Rls X.K X.mg Z vs xs) (hok : sortOk xs = true) (q : QO X.K X.mg Z H (sortedL xs) Q) :
    wpAny (model X.prog X.w) X.A (call (.builtin "sorted") [.ref a]) (EP X pins σ Q) X.xe s := by
  simp only [sortOk, Bool.and_eq_true, decide_eq_true_eq] at hok
  obtain ⟨⟨⟨h1, h2⟩, h3⟩, h4⟩ := hok
  have hp : ∀ x ∈ xs, x.py.plain = true ∧ x.py.depth ≤ 64 := fun x hx => by
    have := List.all_eq_true.mp h1 x hx
    simpa using this
  obtain ⟨its, rv, pl, hz⟩ := I.list hl
  have e := each_rls r rv
  refine PySem.W.sorted_data (enc := Val.py) (R := fun u x => ∃ v, RelV v u ∧ Rl X.K X.mg Z v x) (bs := xs) pl.isList e (each_reads I zh e fun x hx => (hp x hx).1) (alikeOk_out h2) (sortable_out h3) h4 (fun b hb => ?_) fun out ho eo => ?_
  · have := (hp b hb).2
    have := hr.un
    omega
  · obtain ⟨ws, rw', vo⟩ := each_back eo
    obtain ⟨ep, he'⟩ := PyProof.Rows.sortedAll_at s.heap its out.toArray
    have hlen : ws.length ≤ sizeLine := by rw [rw'.length, List.length_mergeSort]; exact h4
    exact ⟨.ref _, upd H (s.heap.objs.size + 1) (.lst ws), I.laid (t' := s.toks) (fun _ _ => PyProof.Rows.sortedAll_old) (Nat.le_succ _) ⟨hlen, out, ep, vo, he'⟩, rfl, q _ ws (I.hok.fresh (Nat.le_succ _)) rw'⟩
theorem c_sorted {k : Nat} (hr : Room k X.A) : CallR X (.builtin "sorted") (rNo X.K X.mg (go1 sortV)) := by
  intro pins s σ H vs us Q I r h
  obtain ⟨Z, v, x, z, rfl, zh, b, e, q⟩ := rNo1 h
  cases x with
  | lst xs =>
    obtain ⟨a, vs, rfl, h1, r1⟩ := bor_lst zh b
    unfold sortV at e
    simp only at e
    split at e
    · rename_i hok
      cases e
      rw [Vals.ref1 r]
      exact sorted_core hr I zh (SqL.of h1) r1 hok q
    · cases e
  | scr ns =>
    obtain ⟨a, rfl, h1⟩ := bor_scr b
    unfold sortV at e
    simp only at e
    split at e
    · rename_i hok
      cases e
      rw [Vals.ref1 r]
      exact sorted_core hr I zh (zh.seq h1) (Rls.ints ns) hok q
    · cases e
  | _ => cases e
end
end Ev

/-! Ev: loops over a slot's own list, which is locked meanwhile. -/
namespace Ev
open PySem PySem.Spec PyProof.Rows L2
section
variable {K : PySem.W.Frag} {mg : MG} {Z H : Hp} {O : Lab} {C : Lk} {σ : L2.St} {ρ : Env}
def lockC (C : Lk) (i : Nat) (a : Addr) (ws : List V) : Lk := ⟨fun b => if b = a then some (.lst ws) else C b, C.fx, fun j => if j = i then some a else C.lk j, fun j b h => by
  by_cases hb : b = a
  · rw [if_pos hb]; simp
  · rw [if_neg hb]
    by_cases hj : j = i
    · rw [if_pos hj] at h; cases h; exact absurd rfl hb
    · rw [if_neg hj] at h; exact C.wf j b h⟩
def unO (O : Lab) (i : Nat) (a : Addr) : Lab := fun b => if b = a then some (i, 0) else O b
theorem EnvR.lock (R : EnvR K mg Z H O C σ ρ) {i : Nat} {s0 : Sl} {ys : List Val} (e : ρ[i]? = some s0) (hl : lstOf s0 = some ys) :
    ∃ a ws, σ[i]? = some (some (.ref a)) ∧ Rls K mg Z ws ys ∧ EnvR K mg Z H (frO i O) (lockC C i a ws) σ (ρ.set i (.lck ys)) ∧
      ∀ Z' H' O' σ' ρ' ys', Ext Z H (frO i O) Z' H' O' → EnvR K mg Z' H' O' (lockC C i a ws) σ' ρ' → ρ'[i]? = some (.lck ys') →
        Ext Z H O Z' H' (unO O' i a) ∧ EnvR K mg Z' H' (unO O' i a) C σ' (ρ'.set i (setL s0 ys')) := by
  have hi : i < ρ.length := (List.getElem?_eq_some_iff.mp e).1
  obtain ⟨a, ws, ea, o, m, r, fx⟩ : ∃ a ws, σ[i]? = some (some (.ref a)) ∧ O a = some (i, 0) ∧ H a = some (.lst ws) ∧ Rls K mg Z ws ys ∧ ((∃ zs, s0 = .own zs) ∨ (∃ zs, s0 = .par zs) ∧ C.fx i = some a) := by
    have z := R.sl i s0 e
    cases s0 with
    | own xs => cases hl; obtain ⟨a, ws, ea, o, m, r⟩ := z; exact ⟨a, ws, ea, o, m, r, .inl ⟨_, rfl⟩⟩
    | par xs => cases hl; obtain ⟨a, ws, ea, o, m, r, fx⟩ := z; exact ⟨a, ws, ea, o, m, r, .inr ⟨⟨_, rfl⟩, fx⟩⟩
    | _ => cases hl
  obtain ⟨za, ca, _⟩ := R.oz a (by rw [o]; simp)
  refine ⟨a, ws, ea, r, ⟨by rw [List.length_set]; exact R.len, R.zh, fun b x hb => ?_, fun b hb => ?_, fun b j q h => by rw [List.length_set]; exact R.ob b j q (frO_some h).1, fun j t ej => ?_⟩, fun Z' H' O' σ' ρ' ys' x R' e' => ?_⟩
  · have hb : (if b = a then some (HO.lst ws) else C b) = some x := hb
    split at hb
    · rename_i h; rw [h, m]; exact hb
    · exact R.ch b x hb
  · obtain ⟨⟨j, q⟩, hp⟩ := Option.ne_none_iff_exists'.mp hb
    obtain ⟨h1, h2⟩ := frO_some hp
    obtain ⟨k1, k2, k3⟩ := R.oz b (by rw [h1]; simp)
    refine ⟨k1, ?_, k3⟩
    show (if b = a then some (HO.lst ws) else C b) = none
    rw [if_neg (fun z => by rw [z, o] at h1; cases h1; exact h2 rfl)]
    exact k2
  · by_cases hj : j = i
    · subst hj
      rw [List.getElem?_set_self hi] at ej
      cases ej
      exact ⟨a, ws, ea, by show (if a = a then some (HO.lst ws) else C a) = _; rw [if_pos rfl], r, by show (if j = j then some a else C.lk j) = _; rw [if_pos rfl]⟩
    · rw [List.getElem?_set_ne (Ne.symm hj)] at ej
      have h := (R.sl j t ej).keep (Same.refl Z) (O' := frO i O) (H' := H) fun b q hb => ⟨rfl, frO_ne hb hj⟩
      have hfx : (lockC C i a ws).lk j = C.lk j := by show (if j = i then some a else C.lk j) = _; rw [if_neg hj]
      have hhp : ∀ b o', C b = some o' → (lockC C i a ws) b = some o' := fun b o' hb => by
        show (if b = a then some (HO.lst ws) else C b) = _
        rw [if_neg (fun z => by rw [z, ca] at hb; cases hb)]; exact hb
      cases t with
      | par xs => exact h
      | lck xs => obtain ⟨a', vs, e1, m1, r1, f1⟩ := h; exact ⟨a', vs, e1, hhp _ _ m1, r1, by rw [hfx]; exact f1⟩
      | _ => exact h
  · have hi' : i < ρ'.length := (List.getElem?_eq_some_iff.mp e').1
    have z := R'.sl i _ e'
    obtain ⟨a', ws', ea', m', r', f'⟩ := z
    have f' : (if i = i then some a else C.lk i) = some a' := f'
    rw [if_pos rfl] at f'
    cases f'
    have m' : (if a = a then some (HO.lst ws) else C a) = some (.lst ws') := m'
    rw [if_pos rfl] at m'
    cases m'
    have oa' : O' a = none := by
      cases q : O' a with
      | none => rfl
      | some p =>
        have := (R'.oz a (by rw [q]; simp)).2.1
        have this : (if a = a then some (HO.lst ws) else C a) = none := this
        rw [if_pos rfl] at this
        cases this
    have ha' : H' a = some (.lst ws) := R'.ch a _ (by show (if a = a then some (HO.lst ws) else C a) = _; rw [if_pos rfl])
    have za' : Z' a = none := by
      cases q : Z' a with
      | none => rfl
      | some w =>
        rcases x.zn a (by rw [q]; simp) with h | h | h
        · exact absurd za h
        · rw [m] at h; cases h
        · rw [frO_at o] at h; exact absurd rfl h
    have cC : ∀ b u, C b = some u → (lockC C i a ws) b = some u := fun b u h => by
      show (if b = a then some (HO.lst ws) else C b) = _
      rw [if_neg (fun z => by rw [z, ca] at h; cases h)]; exact h
    refine ⟨⟨x.z, fun b u h1 h2 => ?_, x.t, fun b j q h => ?_, fun b h => ?_⟩, ⟨by rw [List.length_set]; exact R'.len, R'.zh, fun b u h => R'.ch b u (cC b u h), fun b hb => ?_, fun b j q h => ?_, fun j t ej => ?_⟩⟩
    · have hb : b ≠ a := fun z => by rw [z, o] at h2; cases h2
      obtain ⟨k1, k2⟩ := x.h b u h1 (frO_none h2)
      exact ⟨k1, by unfold unO; rw [if_neg hb]; exact k2⟩
    · unfold unO at h
      split at h
      · rename_i hb
        cases h
        exact .inr ⟨0, by rw [hb]; exact o⟩
      · rcases x.o b j q h with h | ⟨q', h⟩
        · exact .inl h
        · exact .inr ⟨q', (frO_some h).1⟩
    · rcases x.zn b h with h | h | h
      · exact .inl h
      · exact .inr (.inl h)
      · refine .inr (.inr fun z => h (frO_none z))
    · by_cases h : b = a
      · rw [h]
        exact ⟨za', ca, by rw [ha']; simp⟩
      · have hb' : O' b ≠ none := by unfold unO at hb; rw [if_neg h] at hb; exact hb
        obtain ⟨k1, k2, k3⟩ := R'.oz b hb'
        have k2 : (if b = a then some (HO.lst ws) else C b) = none := k2
        rw [if_neg h] at k2
        exact ⟨k1, k2, k3⟩
    · rw [List.length_set]
      unfold unO at h
      split at h
      · cases h; exact hi'
      · exact R'.ob b j q h
    · by_cases hj : j = i
      · subst hj
        rw [List.getElem?_set_self hi'] at ej
        cases ej
        rcases fx with ⟨zs, rfl⟩ | ⟨⟨zs, rfl⟩, fx⟩
        · exact ⟨a, ws, ea', by unfold unO; rw [if_pos rfl], ha', r'⟩
        · exact ⟨a, ws, ea', by unfold unO; rw [if_pos rfl], ha', r', fx⟩
      · rw [List.getElem?_set_ne (Ne.symm hj)] at ej
        have h := (R'.sl j t ej).keep (Same.refl Z') (O' := unO O' i a) (H' := H') fun b q hb => ⟨rfl, by unfold unO; rw [if_neg (fun z => by rw [z, oa'] at hb; cases hb)]; exact hb⟩
        have hfx : (lockC C i a ws).lk j = C.lk j := by show (if j = i then some a else C.lk j) = _; rw [if_neg hj]
        cases t with
        | par xs => exact h
        | lck xs =>
          obtain ⟨a', vs, e1, m1, r1, f1⟩ := h
          rw [hfx] at f1
          refine ⟨a', vs, e1, ?_, r1, f1⟩
          have m1 : (if a' = a then some (HO.lst ws) else C a') = some (.lst vs) := m1
          split at m1
          · rename_i h; rw [h] at f1; exact absurd ca (C.wf j a f1)
          · exact m1
        | _ => exact h

def unlk (i : Nat) (s0 : Sl) : Fl → Fl
  | .nx ρ => match ρ[i]? with
    | some (.lck ys) => .nx (ρ.set i (setL s0 ys))
    | _ => .bad
  | .bk ρ => match ρ[i]? with
    | some (.lck ys) => .bk (ρ.set i (setL s0 ys))
    | _ => .bad
  | .ct ρ => match ρ[i]? with
    | some (.lck ys) => .ct (ρ.set i (setL s0 ys))
    | _ => .bad
  | .rt s ρ => match ρ[i]? with
    | some (.lck ys) => .rt s (ρ.set i (setL s0 ys))
    | _ => .bad
  | .bad => .bad
theorem unlk_run {D : Ends} {i : Nat} {s0 : Sl} {a : Addr} {ws : List V}
    (un : ∀ Z' H' O' σ' ρ' ys', Ext Z H (frO i O) Z' H' O' → EnvR K mg Z' H' O' (lockC C i a ws) σ' ρ' → ρ'[i]? = some (.lck ys') →
        Ext Z H O Z' H' (unO O' i a) ∧ EnvR K mg Z' H' (unO O' i a) C σ' (ρ'.set i (setL s0 ys'))) {f : Fl} (h : FlR K mg Z H O C D (unlk i s0 f)) : FlR K mg Z H (frO i O) (lockC C i a ws) D f := by
  cases f with
  | nx ρ =>
    unfold unlk at h
    simp only at h
    split at h
    · rename_i ys e
      exact fun σ' H' Z' O' x R' => let ⟨x2, R2⟩ := un Z' H' O' σ' ρ ys x R' e; h σ' H' Z' _ x2 R2
    · exact h.elim
  | bk ρ =>
    unfold unlk at h
    simp only at h
    split at h
    · rename_i ys e
      exact fun σ' H' Z' O' x R' => let ⟨x2, R2⟩ := un Z' H' O' σ' ρ ys x R' e; h σ' H' Z' _ x2 R2
    · exact h.elim
  | ct ρ =>
    unfold unlk at h
    simp only at h
    split at h
    · rename_i ys e
      exact fun σ' H' Z' O' x R' => let ⟨x2, R2⟩ := un Z' H' O' σ' ρ ys x R' e; h σ' H' Z' _ x2 R2
    · exact h.elim
  | rt s ρ =>
    unfold unlk at h
    simp only at h
    split at h
    · rename_i ys e
      refine fun v σ' H' Z' O' x R' => ?_
      have hi := (List.getElem?_eq_some_iff.mp e).1
      obtain ⟨x2, R2⟩ := un Z' H' O' _ _ ys x R' (by rw [List.getElem?_append_left hi]; exact e)
      rw [List.set_append_left _ _ hi] at R2
      exact h v σ' H' Z' _ x2 R2
    · exact h.elim
  | bad => exact h
end
/-- for g in xs: .., xs a name: its own list is locked meanwhile -/
def sForV (i : Nat) (g : DG) (b : DS) : DS := fun ρ => match ρ[i]? with
  | some s => match lstOf s with
    | some xs => unlk i s (forL g b xs (ρ.set i (.lck xs)))
    | none => sFor (dIt (dVH (dVar i))) g b ρ
  | none => .bad
section
variable {X : Cx}
theorem st_forV {tg : Expr} {x : Str} {p : Pos} {body : List Stmt} {i : Nat} {g : DG} {b : DS} {ws : List Nat} {pos : Pos} (hp : PassesOwn (model X.prog X.w) X.A X.env X.xe) (hc : X.calm = true) (h0 : PH X (.Name x p) (dVar i)) (hv : PE X (.Name x p) (tVar i)) (hg : PGt X tg g ws) (hb : PSSt X body b)
    (hs : ∀ y, foldedSetIterable (.Name x p) X.env y = pure y := by intro _; rfl) : PSt X (.For tg (.Name x p) body [] pos) (sForV i g b) := PS.imp (PS.or (st_for hp hc (it_val (pv_of h0)) hg hb hs) (ps_for hp hc (pi_list hv) hg hb hs)) fun D σ H ⟨Z, O, C, ρ, R, h⟩ => by
  unfold sForV at h
  cases e : ρ[i]? with
  | none => rw [e] at h; exact h.elim
  | some s =>
    rw [e] at h
    simp only at h
    cases e2 : lstOf s with
    | none => rw [e2] at h; exact .inl ⟨Z, O, C, ρ, R, h⟩
    | some xs =>
      rw [e2] at h
      simp only at h
      right
      obtain ⟨a, vs, ea, r, R2, un⟩ := R.lock e e2
      have hH : H a = some (.lst vs) := R2.ch a _ (by show (if a = a then some (HO.lst vs) else C a) = _; rw [if_pos rfl])
      refine ⟨.ref a, ea, a, rfl, ⟨vs, SqL.of hH⟩, for_run (xs := xs) R2 (walk_l r fun Zc H' z zh c => SqL.of (c a _ (by show (if a = a then some (HO.lst vs) else C a) = _; rw [if_pos rfl]))) (unlk_run un h)⟩
end
end Ev

/-! Ev: what the operations give, on good data (no bools within, ints, texts, None, tuples, lists). -/
namespace Ev
open PySem PySem.Spec PyProof.Rows L2

theorem mulOk_l {i j : Int} (h : -(2 ^ 64) < i ∧ i < 2 ^ 64) : mulOk i j = true := by unfold mulOk; rw [decide_eq_true h.1, decide_eq_true h.2]; rfl
theorem mulOk_r {i j : Int} (h : -(2 ^ 64) < j ∧ j < 2 ^ 64) : mulOk i j = true := by unfold mulOk; rw [decide_eq_true h.1, decide_eq_true h.2, Bool.and_self, Bool.or_true]
theorem mul_l {i j : Int} (h : -(2 ^ 64) < i ∧ i < 2 ^ 64) : mulV (.int i) (.int j) = some (.int (i * j)) := by show (if mulOk i j = true then _ else _) = _; rw [if_pos (mulOk_l h)]
theorem mul_r {i j : Int} (h : -(2 ^ 64) < j ∧ j < 2 ^ 64) : mulV (.int i) (.int j) = some (.int (i * j)) := by show (if mulOk i j = true then _ else _) = _; rw [if_pos (mulOk_r h)]
theorem div_of {i j : Int} (h : 0 < j) (h2 : j < 2 ^ 200) : divV (.int i) (.int j) = some (.int (i / j)) := by
  unfold divV
  have : j.natAbs.log2 < 9000 := by
    have h3 : j.natAbs < 2 ^ 200 := by omega
    have h4 : j.natAbs ≠ 0 := by omega
    have := (Nat.log2_lt h4).mpr h3
    omega
  simp [h, this]
theorem mod_of {i j : Int} (h : 0 < j) : modV (.int i) (.int j) = some (.int (i % j)) := by
  unfold modV
  simp [h]

/-! ### good data -/
mutual
def gd : Val → Bool
  | .non => true
  | .int _ => true
  | .str _ => true
  | .tup xs => gds xs
  | .lst xs => gds xs
  | _ => false
def gds : List Val → Bool
  | [] => true
  | x :: xs => gd x && gds xs
end
mutual
theorem gd_plain : ∀ {x : Val}, gd x = true → x.py.plain = true
  | .non, _ => by simp [Val.py, PyData.plain]
  | .int _, _ => by simp [Val.py, PyData.plain]
  | .str _, _ => by simp [Val.py, PyData.plain]
  | .tup xs, h => by simp only [Val.py, PyData.plain]; exact gds_plain (by simpa [gd] using h)
  | .lst xs, h => by simp only [Val.py, PyData.plain]; exact gds_plain (by simpa [gd] using h)
  | .bl _, h => by simp [gd] at h
  | .ktup _, h => by simp [gd] at h
  | .dK _, h => by simp [gd] at h
  | .dT _, h => by simp [gd] at h
  | .scr _, h => by simp [gd] at h
  | .fn _, h => by simp [gd] at h
theorem gds_plain : ∀ {xs : List Val}, gds xs = true → PyData.plainAll (pys xs) = true
  | [], _ => by simp [pys, PyData.plainAll]
  | x :: xs, h => by
    simp only [gds, Bool.and_eq_true] at h
    simp only [pys, PyData.plainAll, Bool.and_eq_true]
    exact ⟨gd_plain h.1, gds_plain h.2⟩
end
mutual
theorem gd_eqv : ∀ {x y : Val}, gd x = true → gd y = true → (PyData.eqv x.py y.py = true ↔ x = y)
  | .non, y, _, h => by cases y <;> simp [gd] at h <;> simp [Val.py, PyData.eqv]
  | .int i, y, _, h => by cases y <;> simp [gd] at h <;> simp [Val.py, PyData.eqv]
  | .str s, y, _, h => by cases y <;> simp [gd] at h <;> simp [Val.py, PyData.eqv]
  | .tup xs, y, h1, h => by
    cases y <;> simp [gd] at h <;> simp [Val.py, PyData.eqv]
    exact gds_eqv (by simpa [gd] using h1) h
  | .lst xs, y, h1, h => by
    cases y <;> simp [gd] at h <;> simp [Val.py, PyData.eqv]
    exact gds_eqv (by simpa [gd] using h1) h
  | .bl _, _, h, _ => by simp [gd] at h
  | .ktup _, _, h, _ => by simp [gd] at h
  | .dK _, _, h, _ => by simp [gd] at h
  | .dT _, _, h, _ => by simp [gd] at h
  | .scr _, _, h, _ => by simp [gd] at h
  | .fn _, _, h, _ => by simp [gd] at h
theorem gds_eqv : ∀ {xs ys : List Val}, gds xs = true → gds ys = true → (PyData.eqvAll (pys xs) (pys ys) = true ↔ xs = ys)
  | [], [], _, _ => by simp [pys, PyData.eqvAll]
  | [], y :: ys, _, _ => by simp [pys, PyData.eqvAll]
  | x :: xs, [], _, _ => by simp [pys, PyData.eqvAll]
  | x :: xs, y :: ys, h1, h2 => by
    simp only [gds, Bool.and_eq_true] at h1 h2
    simp only [pys, PyData.eqvAll, Bool.and_eq_true, List.cons.injEq, gd_eqv h1.1 h2.1, gds_eqv h1.2 h2.2]
end
open Classical in
theorem gd_eqb {x y : Val} (h1 : gd x = true) (h2 : gd y = true) : PyData.eqv x.py y.py = decide (x = y) := by
  by_cases e : x = y
  · rw [decide_eq_true e, (gd_eqv h1 h2).mpr e]
  · rw [decide_eq_false e]
    cases q : PyData.eqv x.py y.py with
    | false => rfl
    | true => exact absurd ((gd_eqv h1 h2).mp q) e
/-- the depth of a value -/
def dp (x : Val) : Nat := x.py.depth
open Classical in
theorem eqB_gd {x y : Val} (h1 : gd x = true) (h2 : gd y = true) (hd : dp x ≤ 64 ∨ dp y ≤ 64) : eqB x y = some (decide (x = y)) := by
  unfold eqB small2
  have : min x.py.depth y.py.depth ≤ 64 := by unfold dp at hd; omega
  rw [gd_plain h1, gd_plain h2, decide_eq_true this, gd_eqb h1 h2]
  rfl
theorem dp_int (i : Int) : dp (.int i) = 0 := by simp [dp, Val.py, PyData.depth]
theorem dp_str (i : Str) : dp (.str i) = 0 := by simp [dp, Val.py, PyData.depth]
theorem dp_non : dp .non = 0 := by simp [dp, Val.py, PyData.depth]
theorem dp_bl (b : Bool) : dp (.bl b) = 0 := by simp [dp, Val.py, PyData.depth]
theorem depthAll_le {n : Nat} : ∀ {xs : List Val}, (∀ x ∈ xs, dp x ≤ n) → PyData.depthAll (pys xs) ≤ n
  | [], _ => by simp [pys, PyData.depthAll]
  | x :: xs, h => by
    simp only [pys, PyData.depthAll]
    have a := h x List.mem_cons_self
    have b := depthAll_le fun y hy => h y (List.mem_cons_of_mem _ hy)
    unfold dp at a
    omega
theorem dp_tup {n : Nat} {xs : List Val} (h : ∀ x ∈ xs, dp x ≤ n) : dp (.tup xs) ≤ n + 1 := by
  have := depthAll_le h
  simp only [dp, Val.py, PyData.depth]
  omega
theorem dp_lst {n : Nat} {xs : List Val} (h : ∀ x ∈ xs, dp x ≤ n) : dp (.lst xs) ≤ n + 1 := by
  have := depthAll_le h
  simp only [dp, Val.py, PyData.depth]
  omega
/-! comparisons -/
theorem eq_int (i j : Int) : eqV (.int i) (.int j) = some (.bl (decide (i = j))) := by
  simp [eqV, eqB, small2, Val.py, PyData.plain, PyData.depth, PyData.eqv]
  by_cases h : i = j <;> simp [h]
theorem ne_int (i j : Int) : neV (.int i) (.int j) = some (.bl (!decide (i = j))) := by
  simp [neV, eqB, small2, Val.py, PyData.plain, PyData.depth, PyData.eqv]
  by_cases h : i = j <;> simp [h]
theorem cmp_int (i j : Int) : cmpOk (.int i) (.int j) = true := by simp [cmpOk, PySem.W.alike, notNone, small2, PyData.plain, PyData.depth]
theorem lt_int (i j : Int) : ltV (.int i) (.int j) = some (.bl (decide (i < j))) := by simp [ltV, ltB, Val.py, cmp_int, PySem.W.dataLt_int]
theorem gt_int (i j : Int) : gtV (.int i) (.int j) = some (.bl (decide (j < i))) := by simp [gtV, Val.py, cmp_int, PySem.W.dataLt_int]
theorem le_int (i j : Int) : leV (.int i) (.int j) = some (.bl (decide (i ≤ j))) := by
  simp [leV, Val.py, cmp_int, PySem.W.dataLt_int]
  by_cases h : i ≤ j
  · simp [h]
  · simp [h]; omega
theorem ge_int (i j : Int) : geV (.int i) (.int j) = some (.bl (decide (j ≤ i))) := by
  simp [geV, ltB, Val.py, cmp_int, PySem.W.dataLt_int]
  by_cases h : j ≤ i
  · simp [h]
  · simp [h]; omega
open Classical in
theorem eq_gd {x y : Val} (h1 : gd x = true) (h2 : gd y = true) (hd : dp x ≤ 64 ∨ dp y ≤ 64) : eqV x y = some (.bl (decide (x = y))) := by unfold eqV; rw [eqB_gd h1 h2 hd]; rfl
open Classical in
theorem ne_gd {x y : Val} (h1 : gd x = true) (h2 : gd y = true) (hd : dp x ≤ 64 ∨ dp y ≤ 64) : neV x y = some (.bl (!decide (x = y))) := by unfold neV; rw [eqB_gd h1 h2 hd]; rfl

/-! ### places -/
theorem ixN_nat {n i : Nat} (h : i < n) : ixN n (i : Int) = some i := by
  unfold ixN
  rw [if_pos (by omega), if_pos (by omega)]
  simp
theorem atI_nat {α : Type} {xs : List α} {i : Nat} (h : i < xs.length) : atI xs (i : Int) = xs[i]? := by
  unfold atI
  rw [ixN_nat h]
  rfl
theorem atI_int {α : Type} {xs : List α} {i : Int} (h0 : 0 ≤ i) (h : i < xs.length) : atI xs i = xs[i.toNat]? := by
  obtain ⟨k, rfl⟩ := Int.eq_ofNat_of_zero_le h0
  rw [atI_nat (by omega)]
  rfl

/-! ### loops -/
theorem forL_inv {α : Type} {g : DG} {b : DS} (enc : α → Val) (xs : List α) (I : List α → Env → Prop) : ∀ (pre post : List α) (ρ : Env), xs = pre ++ post → I pre ρ →
    (∀ pre a post ρ, xs = pre ++ a :: post → I pre ρ → ∃ ρ1 ρ2, g (enc a) ρ = some ρ1 ∧ (b ρ1 = .nx ρ2 ∨ b ρ1 = .ct ρ2) ∧ I (pre ++ [a]) ρ2) → ∃ ρ', forL g b (post.map enc) ρ = .nx ρ' ∧ I xs ρ'
  | pre, [], ρ, e, h, _ => ⟨ρ, rfl, by rw [e, List.append_nil]; exact h⟩
  | pre, a :: post, ρ, e, h, st => by
    obtain ⟨ρ1, ρ2, h1, h2, h3⟩ := st pre a post ρ e h
    obtain ⟨ρ', h4, h5⟩ := forL_inv enc xs I (pre ++ [a]) post ρ2 (by rw [e]; simp) h3 st
    refine ⟨ρ', ?_, h5⟩
    rw [List.map_cons]
    unfold forL
    rw [h1]
    rcases h2 with h2 | h2 <;> (simp only [h2]; exact h4)
/-- a for that comes to its end -/
theorem forL_all {α : Type} {g : DG} {b : DS} (enc : α → Val) (xs : List α) (I : List α → Env → Prop) {ρ : Env} (h0 : I [] ρ)
    (st : ∀ pre a post ρ, xs = pre ++ a :: post → I pre ρ → ∃ ρ1 ρ2, g (enc a) ρ = some ρ1 ∧ (b ρ1 = .nx ρ2 ∨ b ρ1 = .ct ρ2) ∧ I (pre ++ [a]) ρ2) : ∃ ρ', forL g b (xs.map enc) ρ = .nx ρ' ∧ I xs ρ' :=
  forL_inv enc xs I [] xs ρ rfl h0 st
/-- a for that may answer -/
theorem forL_ret {α : Type} {g : DG} {b : DS} (enc : α → Val) (xs : List α) (I : List α → Env → Prop) (F : Sl → Env → Prop) : ∀ (pre post : List α) (ρ : Env), xs = pre ++ post → I pre ρ →
    (∀ pre a post ρ, xs = pre ++ a :: post → I pre ρ → ∃ ρ1, g (enc a) ρ = some ρ1 ∧ ((∃ ρ2, (b ρ1 = .nx ρ2 ∨ b ρ1 = .ct ρ2) ∧ I (pre ++ [a]) ρ2) ∨ ∃ s ρ2, b ρ1 = .rt s ρ2 ∧ F s ρ2)) →
    (∃ ρ', forL g b (post.map enc) ρ = .nx ρ' ∧ I xs ρ') ∨ ∃ s ρ', forL g b (post.map enc) ρ = .rt s ρ' ∧ F s ρ'
  | pre, [], ρ, e, h, _ => .inl ⟨ρ, rfl, by rw [e, List.append_nil]; exact h⟩
  | pre, a :: post, ρ, e, h, st => by
    obtain ⟨ρ1, h1, h2⟩ := st pre a post ρ e h
    rw [List.map_cons]
    unfold forL
    rw [h1]
    rcases h2 with ⟨ρ2, h2, h3⟩ | ⟨s, ρ2, h2, h3⟩
    · have := forL_ret enc xs I F (pre ++ [a]) post ρ2 (by rw [e]; simp) h3 st
      rcases h2 with h2 | h2 <;> (simp only [h2]; exact this)
    · simp only [h2]
      exact .inr ⟨s, ρ2, rfl, h3⟩
/-- a comprehension's turns, each of which leaves the environment's word true: the items that come are told by F -/
theorem lcL_inv {α : Type} {g : DG} {t : DT} {e : DV} {vs : List Nat} (enc : α → Val) (I : Env → Prop) (F : α → List Val → Prop) : ∀ (xs : List α) (ρ : Env), I ρ →
    (∀ a, a ∈ xs → ∀ ρ, I ρ → ∃ ρ1 b ρ2, g (enc a) ρ = some ρ1 ∧ t ρ1 = .ok (b, ρ2) ∧ ((b = true ∧ ∃ y ρ3, e ρ2 = .ok (y, ρ3) ∧ I (wipeE ρ3 vs) ∧ F a [y]) ∨ (b = false ∧ I (wipeE ρ2 vs) ∧ F a []))) →
    ∃ yss ρ', lcL g t e vs (xs.map enc) ρ = some (yss.flatten, ρ') ∧ I ρ' ∧ Paired F xs yss
  | [], ρ, h, _ => ⟨[], ρ, rfl, h, .nil⟩
  | a :: xs, ρ, h, st => by
    obtain ⟨ρ1, b, ρ2, h1, h2, h3⟩ := st a List.mem_cons_self ρ h
    rw [List.map_cons]
    unfold lcL
    rw [h1]
    simp only [h2]
    rcases h3 with ⟨rfl, y, ρ3, h4, h5, h6⟩ | ⟨rfl, h5, h6⟩
    · obtain ⟨yss, ρ', k1, k2, k3⟩ := lcL_inv enc I F xs (wipeE ρ3 vs) h5 fun c hc => st c (List.mem_cons_of_mem _ hc)
      refine ⟨[y] :: yss, ρ', ?_, k2, .cons h6 k3⟩
      simp only [h4, k1]
      rfl
    · obtain ⟨yss, ρ', k1, k2, k3⟩ := lcL_inv enc I F xs (wipeE ρ2 vs) h5 fun c hc => st c (List.mem_cons_of_mem _ hc)
      exact ⟨[] :: yss, ρ', by simp only [k1]; rfl, k2, .cons h6 k3⟩
/-- .. that leaves the environment as it is -/
theorem lcL_map {α : Type} {g : DG} {t : DT} {e : DV} {vs : List Nat} (enc : α → Val) (p : α → Bool) (f : α → Val) (ρ : Env) : ∀ (xs : List α),
    (∀ a, a ∈ xs → ∃ ρ1 ρ2, g (enc a) ρ = some ρ1 ∧ t ρ1 = .ok (p a, ρ2) ∧ (if p a = true then ∃ ρ3, e ρ2 = .ok (f a, ρ3) ∧ wipeE ρ3 vs = ρ else wipeE ρ2 vs = ρ)) →
    lcL g t e vs (xs.map enc) ρ = some ((xs.filter p).map f, ρ)
  | [], _ => rfl
  | a :: xs, st => by
    obtain ⟨ρ1, ρ2, h1, h2, h3⟩ := st a List.mem_cons_self
    have ih := lcL_map enc p f ρ xs fun c hc => st c (List.mem_cons_of_mem _ hc)
    rw [List.map_cons]
    unfold lcL
    rw [h1]
    simp only [h2]
    cases hp : p a with
    | true =>
      rw [hp, if_pos rfl] at h3
      obtain ⟨ρ3, h4, h5⟩ := h3
      simp only [h4, h5, ih, List.filter_cons, hp]
      rfl
    | false =>
      rw [hp, if_neg (by decide)] at h3
      simp only [h3, ih, List.filter_cons, hp]
      rfl
end Ev
namespace Ev
open PySem PySem.Spec PyProof.Rows L2
theorem add_int (i j : Int) : addV (.int i) (.int j) = some (.int (i + j)) := rfl
theorem sub_int (i j : Int) : subV (.int i) (.int j) = some (.int (i - j)) := rfl
theorem ixl (xs : List Val) (i : Int) : ixV (.lst xs) (.int i) = atI xs i := rfl
theorem ixt (xs : List Val) (i : Int) : ixV (.tup xs) (.int i) = atI xs i := rfl
theorem len_lst (xs : List Val) : lenV (.lst xs) = some (.int xs.length) := rfl
theorem len_tup (xs : List Val) : lenV (.tup xs) = some (.int xs.length) := rfl
theorem len_scr (xs : List Int) : lenV (.scr xs) = some (.int xs.length) := by first | rfl | simp [lenV]
theorem int_int (i : Int) : intV (.int i) = some (.int i) := rfl
theorem at0 {α : Type} (a : α) (xs : List α) : atI (a :: xs) (0 : Int) = some a := by rw [atI_int (by decide) (by simp)]; rfl
theorem at1 {α : Type} (a b : α) (xs : List α) : atI (a :: b :: xs) (1 : Int) = some b := by rw [atI_int (by decide) (by simp; omega)]; rfl
theorem at2 {α : Type} (a b c : α) (xs : List α) : atI (a :: b :: c :: xs) (2 : Int) = some c := by rw [atI_int (by decide) (by simp; omega)]; rfl
theorem at3 {α : Type} (a b c d : α) (xs : List α) : atI (a :: b :: c :: d :: xs) (3 : Int) = some d := by rw [atI_int (by decide) (by simp; omega)]; rfl
end Ev

/-! Ev: comprehensions with their environment, membership, sorted lists. -/
namespace Ev
open PySem PySem.Spec PyProof.Rows L2

theorem seq_nx {a b : DS} {ρ ρ' : Env} (h : a ρ = .nx ρ') : sSeq a b ρ = b ρ' := by unfold sSeq; rw [h]
theorem seq_rt {a b : DS} {ρ ρ' : Env} {s : Sl} (h : a ρ = .rt s ρ') : sSeq a b ρ = .rt s ρ' := by unfold sSeq; rw [h]
theorem if_t {c : DT} {a b : DS} {ρ ρ' : Env} (h : c ρ = .ok (true, ρ')) : sIf c a b ρ = a ρ' := by unfold sIf; rw [h]
theorem if_f {c : DT} {a b : DS} {ρ ρ' : Env} (h : c ρ = .ok (false, ρ')) : sIf c a b ρ = b ρ' := by unfold sIf; rw [h]
theorem for_eq {it : DI} {g : DG} {b : DS} {ρ ρ' : Env} {xs : List Val} (h : it ρ = .ok (xs, ρ')) : sFor it g b ρ = forL g b xs ρ' := by unfold sFor; rw [h]
theorem lc_eq {it : DI} {g : DG} {t : DT} {e : DV} {vs : List Nat} {ρ ρ1 ρ2 : Env} {xs ys : List Val} (h : it ρ = .ok (xs, ρ1)) (hl : xs.length ≤ sizeLine) (h2 : lcL g t e vs xs (wipeE ρ1 vs) = some (ys, ρ2)) : dLc it g t e vs ρ = .ok (.own ys, rest ρ1 vs ρ2) := by
  unfold dLc
  rw [h]
  simp only [h2, if_pos hl]

/-- a comprehension's turns with a word of what was gone through, what came and the environment -/
theorem lcL_go {α : Type} {g : DG} {t : DT} {e : DV} {vs : List Nat} (enc : α → Val) (xs : List α) (I : List α → List Val → Env → Prop) : ∀ (pre post : List α) (out : List Val) (ρ : Env), xs = pre ++ post → I pre out ρ →
    (∀ pre a post out ρ, xs = pre ++ a :: post → I pre out ρ → ∃ ρ1 b ρ2, g (enc a) ρ = some ρ1 ∧ t ρ1 = .ok (b, ρ2) ∧ ((b = true ∧ ∃ y ρ3, e ρ2 = .ok (y, ρ3) ∧ I (pre ++ [a]) (out ++ [y]) (wipeE ρ3 vs)) ∨ (b = false ∧ I (pre ++ [a]) out (wipeE ρ2 vs)))) →
    ∃ ys ρ', lcL g t e vs (post.map enc) ρ = some (ys, ρ') ∧ I xs (out ++ ys) ρ'
  | pre, [], out, ρ, e, h, _ => ⟨[], ρ, rfl, by rw [e, List.append_nil, List.append_nil]; exact h⟩
  | pre, a :: post, out, ρ, e, h, st => by
    obtain ⟨ρ1, b, ρ2, h1, h2, h3⟩ := st pre a post out ρ e h
    rw [List.map_cons]
    unfold lcL
    rw [h1]
    simp only [h2]
    rcases h3 with ⟨rfl, y, ρ3, h4, h5⟩ | ⟨rfl, h5⟩
    · obtain ⟨ys, ρ', k1, k2⟩ := lcL_go enc xs I (pre ++ [a]) post (out ++ [y]) (wipeE ρ3 vs) (by rw [e]; simp) h5 st
      refine ⟨y :: ys, ρ', by simp only [h4, k1]; rfl, ?_⟩
      rw [List.append_assoc] at k2
      exact k2
    · obtain ⟨ys, ρ', k1, k2⟩ := lcL_go enc xs I (pre ++ [a]) post out (wipeE ρ2 vs) (by rw [e]; simp) h5 st
      exact ⟨ys, ρ', by simp only [k1], k2⟩
theorem lcL_all {α : Type} {g : DG} {t : DT} {e : DV} {vs : List Nat} (enc : α → Val) (xs : List α) (I : List α → List Val → Env → Prop) {ρ : Env} (h0 : I [] [] ρ)
    (st : ∀ pre a post out ρ, xs = pre ++ a :: post → I pre out ρ → ∃ ρ1 b ρ2, g (enc a) ρ = some ρ1 ∧ t ρ1 = .ok (b, ρ2) ∧ ((b = true ∧ ∃ y ρ3, e ρ2 = .ok (y, ρ3) ∧ I (pre ++ [a]) (out ++ [y]) (wipeE ρ3 vs)) ∨ (b = false ∧ I (pre ++ [a]) out (wipeE ρ2 vs)))) :
    ∃ ys ρ', lcL g t e vs (xs.map enc) ρ = some (ys, ρ') ∧ I xs ys ρ' := by
  obtain ⟨ys, ρ', h1, h2⟩ := lcL_go enc xs I [] xs [] ρ rfl h0 st
  exact ⟨ys, ρ', h1, by simpa using h2⟩

/-! ### membership -/
def eqvs (x : Val) (ys : List Val) : Bool := (pys ys).any fun d => PyData.eqv d x.py
open Classical in
theorem any_eqv {x : Val} (hx : gd x = true) : ∀ {ys : List Val}, gds ys = true → ((ys.map Val.py).any fun d => PyData.eqv x.py d) = decide (x ∈ ys)
  | [], _ => by simp
  | y :: ys, h => by
    simp only [gds, Bool.and_eq_true] at h
    rw [List.map_cons, List.any_cons, any_eqv hx h.2, gd_eqb hx h.1]
    by_cases e : x = y <;> simp [e]
open Classical in
theorem any_eqv' {x : Val} (hx : gd x = true) : ∀ {ys : List Val}, gds ys = true → ((ys.map Val.py).any fun d => PyData.eqv d x.py) = decide (x ∈ ys)
  | [], _ => by simp
  | y :: ys, h => by
    simp only [gds, Bool.and_eq_true] at h
    rw [List.map_cons, List.any_cons, any_eqv' hx h.2, gd_eqb h.1 hx]
    by_cases e : y = x
    · subst e; simp
    · simp [e, Ne.symm e]
theorem gds_all {xs : List Val} : gds xs = true ↔ ∀ x ∈ xs, gd x = true := by
  induction xs with
  | nil => simp [gds]
  | cons x xs ih => simp [gds, ih]
/-! ### sorted -/
def srt {α : Type} (f : α → Val) (xs : List α) : List α := xs.mergeSort fun a b => PySem.W.dataLe false Val.py (f a) (f b)
theorem sortedL_map {α : Type} (f : α → Val) (xs : List α) : sortedL (xs.map f) = (srt f xs).map f := by
  unfold sortedL srt
  rw [List.map_mergeSort]
  intro a _ b _
  rfl
theorem srt_perm {α : Type} (f : α → Val) (xs : List α) : (srt f xs).Perm xs := List.mergeSort_perm _ _
theorem alikeOk_map {α : Type} (f : α → Val) (xs : List α) (h : ∀ a b, PySem.W.alike (f a).py (f b).py = true) : alikeOk ((xs.map f).map Val.py) = true := by
  refine List.all_eq_true.mpr fun d hd => List.all_eq_true.mpr fun d' hd' => ?_
  obtain ⟨y, hy, rfl⟩ := List.mem_map.mp hd
  obtain ⟨a, _, rfl⟩ := List.mem_map.mp hy
  obtain ⟨y', hy', rfl⟩ := List.mem_map.mp hd'
  obtain ⟨b, _, rfl⟩ := List.mem_map.mp hy'
  exact h a b
theorem sortOk_map {α : Type} (f : α → Val) (xs : List α) (h : ∀ a b, PySem.W.alike (f a).py (f b).py = true) (hp : ∀ a, (f a).py.plain = true ∧ (f a).py.depth ≤ 64) (hk : (∀ a, isTupD (f a).py = true) ∨ ∀ a, isOthD (f a).py = true) (hl : xs.length ≤ sizeLine) : sortOk (xs.map f) = true := by
  unfold sortOk
  rw [alikeOk_map f xs h, Bool.and_true, List.length_map, decide_eq_true hl, Bool.and_true]
  rw [Bool.and_eq_true]
  refine ⟨List.all_eq_true.mpr fun y hy => ?_, ?_⟩
  · obtain ⟨a, _, rfl⟩ := List.mem_map.mp hy
    rw [(hp a).1, decide_eq_true (hp a).2]
    rfl
  · rw [Bool.or_eq_true]
    rcases hk with hk | hk
    · refine .inl (List.all_eq_true.mpr fun d hd => ?_)
      obtain ⟨y, hy, rfl⟩ := List.mem_map.mp hd
      obtain ⟨a, _, rfl⟩ := List.mem_map.mp hy
      exact hk a
    · refine .inr (List.all_eq_true.mpr fun d hd => ?_)
      obtain ⟨y, hy, rfl⟩ := List.mem_map.mp hd
      obtain ⟨a, _, rfl⟩ := List.mem_map.mp hy
      exact hk a
theorem sortOk_ints (xs : List Int) (h : xs.length ≤ sizeLine) : sortOk (xs.map .int) = true :=
  sortOk_map Val.int xs (fun a b => by simp [Val.py, PySem.W.alike]) (fun a => by simp [Val.py, PyData.plain, PyData.depth]) (.inr fun a => by simp [Val.py, isOthD]) h
def prV (p : Int × Int) : Val := .tup [.int p.1, .int p.2]
theorem prV_py (p : Int × Int) : (prV p).py = .tuple [.int p.1, .int p.2] := by simp [prV, Val.py, pys]
theorem sortOk_prs (xs : List (Int × Int)) (h : xs.length ≤ sizeLine) : sortOk (xs.map prV) = true :=
  sortOk_map prV xs (fun a b => by rw [prV_py, prV_py]; simp [PySem.W.alike, PySem.W.alikeAll]) (fun a => by rw [prV_py]; simp [PyData.plain, PyData.plainAll, PyData.depth, PyData.depthAll]) (.inl fun a => by rw [prV_py]; simp [isTupD]) h
theorem sort_ints (xs : List Int) (h : xs.length ≤ sizeLine) : sortV (.lst (xs.map .int)) = some ((srt Val.int xs).map .int) := by
  show (if sortOk (xs.map .int) = true then _ else _) = _
  rw [if_pos (sortOk_ints xs h), sortedL_map]
theorem sort_prs (xs : List (Int × Int)) (h : xs.length ≤ sizeLine) : sortV (.lst (xs.map prV)) = some ((srt prV xs).map prV) := by
  show (if sortOk (xs.map prV) = true then _ else _) = _
  rw [if_pos (sortOk_prs xs h), sortedL_map]

/-! membership by value -/
theorem in_of {x : Val} {ys : List Val} {b : Bool} (hx : gd x = true) (hy : gds ys = true) (hd : PyData.depthAll (pys ys) ≤ 64 ∨ dp x ≤ 64) (hb : b = true ↔ x ∈ ys) : (inB x (.lst ys) = some b) ∧ inB x (.tup ys) = some b := by
  have h1 : ((pys ys).any fun y => PyData.eqv y x.py) = b := by
    rw [pys_map, any_eqv' hx hy]
    cases b with
    | true => exact @decide_eq_true _ (_) (hb.mp rfl)
    | false => exact @decide_eq_false _ (_) fun z => by have := hb.mpr z; cases this
  have h2 : decide (min (PyData.depthAll (pys ys)) x.py.depth ≤ 64) = true := by
    refine decide_eq_true ?_
    unfold dp at hd
    omega
  have h3 : (x.py.plain && PyData.plainAll (pys ys) && decide (min (PyData.depthAll (pys ys)) x.py.depth ≤ 64)) = true := by rw [gd_plain hx, gds_plain hy, h2]; rfl
  constructor
  · show (if _ then _ else _) = _
    rw [if_pos h3, h1]
  · show (if _ then _ else _) = _
    rw [if_pos h3, h1]
theorem eqB_b {x y : Val} {b : Bool} (h1 : gd x = true) (h2 : gd y = true) (hd : dp x ≤ 64 ∨ dp y ≤ 64) (hb : b = true ↔ x = y) : eqB x y = some b := by
  rw [eqB_gd h1 h2 hd]
  cases b with
  | true => exact congrArg some (@decide_eq_true _ (_) (hb.mp rfl))
  | false => exact congrArg some (@decide_eq_false _ (_) fun z => by have := hb.mpr z; cases this)
theorem gds_ints (xs : List Int) : gds (xs.map .int) = true := gds_all.mpr fun x hx => by obtain ⟨a, _, rfl⟩ := List.mem_map.mp hx; rfl
theorem gd_pr (p : Int × Int) : gd (prV p) = true := by simp [prV, gd, gds]
theorem gds_prs (xs : List (Int × Int)) : gds (xs.map prV) = true := gds_all.mpr fun x hx => by obtain ⟨a, _, rfl⟩ := List.mem_map.mp hx; exact gd_pr a
theorem dp_pr (p : Int × Int) : dp (prV p) = 1 := by unfold dp; rw [prV_py]; simp [PyData.depth, PyData.depthAll]
theorem int_mem (x : Int) (xs : List Int) : Val.int x ∈ xs.map Val.int ↔ x ∈ xs := by
  constructor
  · intro h; obtain ⟨a, h1, h2⟩ := List.mem_map.mp h; cases h2; exact h1
  · exact fun h => List.mem_map.mpr ⟨x, h, rfl⟩
theorem pr_inj {p q : Int × Int} (h : prV p = prV q) : p = q := by
  obtain ⟨a, b⟩ := p
  obtain ⟨c, d⟩ := q
  simp [prV] at h
  rw [h.1, h.2]
theorem pr_mem (x : Int × Int) (xs : List (Int × Int)) : prV x ∈ xs.map prV ↔ x ∈ xs := by
  constructor
  · intro h; obtain ⟨a, h1, h2⟩ := List.mem_map.mp h; rw [← pr_inj h2]; exact h1
  · exact fun h => List.mem_map.mpr ⟨x, h, rfl⟩
theorem in_ints (x : Int) (xs : List Int) : inV (.int x) (.lst (xs.map .int)) = some (.bl (decide (x ∈ xs))) ∧ inV (.int x) (.tup (xs.map .int)) = some (.bl (decide (x ∈ xs))) ∧
    ninV (.int x) (.lst (xs.map .int)) = some (.bl (!decide (x ∈ xs))) ∧ ninV (.int x) (.tup (xs.map .int)) = some (.bl (!decide (x ∈ xs))) := by
  have h := in_of (x := .int x) (ys := xs.map .int) (b := decide (x ∈ xs)) rfl (gds_ints xs) (.inr (by rw [dp_int]; omega)) (by rw [decide_eq_true_iff]; exact (int_mem x xs).symm)
  unfold inV ninV
  rw [h.1, h.2]
  exact ⟨rfl, rfl, rfl, rfl⟩
theorem in_prs (x : Int × Int) (xs : List (Int × Int)) : inV (prV x) (.lst (xs.map prV)) = some (.bl (decide (x ∈ xs))) ∧ inV (prV x) (.tup (xs.map prV)) = some (.bl (decide (x ∈ xs))) ∧
    ninV (prV x) (.lst (xs.map prV)) = some (.bl (!decide (x ∈ xs))) ∧ ninV (prV x) (.tup (xs.map prV)) = some (.bl (!decide (x ∈ xs))) := by
  have h := in_of (x := prV x) (ys := xs.map prV) (b := decide (x ∈ xs)) (gd_pr x) (gds_prs xs) (.inr (by rw [dp_pr]; omega)) (by rw [decide_eq_true_iff]; exact (pr_mem x xs).symm)
  unfold inV ninV
  rw [h.1, h.2]
  exact ⟨rfl, rfl, rfl, rfl⟩
/-! all, any -/
theorem all_bls (bs : List Bool) : allV (.lst (bs.map .bl)) = some (.bl (bs.all id)) := by
  show (boolsOf (bs.map .bl)).map _ = _
  rw [boolsOf_map]
  rfl
theorem any_bls (bs : List Bool) : anyV (.lst (bs.map .bl)) = some (.bl (bs.any id)) := by
  show (boolsOf (bs.map .bl)).map _ = _
  rw [boolsOf_map]
  rfl
end Ev
namespace Ev
open PySem PySem.Spec PyProof.Rows L2
theorem lcO_map {α : Type} {g : DG} {t : DT} {f : Env → Option (List Val × Env)} {vs : List Nat} (enc : α → Val) (ys : α → List Val) (ρ : Env) : ∀ (xs : List α),
    (∀ a, a ∈ xs → ∃ ρ1 ρ2 ρ3, g (enc a) ρ = some ρ1 ∧ t ρ1 = .ok (true, ρ2) ∧ f ρ2 = some (ys a, ρ3) ∧ wipeE ρ3 vs = ρ) →
    lcO g t f vs (xs.map enc) ρ = some (xs.flatMap ys, ρ)
  | [], _ => rfl
  | a :: xs, st => by
    obtain ⟨ρ1, ρ2, ρ3, h1, h2, h3, h4⟩ := st a List.mem_cons_self
    have ih := lcO_map enc ys ρ xs fun c hc => st c (List.mem_cons_of_mem _ hc)
    rw [List.map_cons]
    unfold lcO
    rw [h1]
    simp only [h2, h3, h4, ih]
    rfl
theorem lc2_eq {it it1 : DI} {g g1 : DG} {t t1 : DT} {e : DV} {vs vs1 : List Nat} {ρ ρ1 ρ2 : Env} {xs ys : List Val} (h : it ρ = .ok (xs, ρ1)) (h2 : lcO g t (lcL2 it1 g1 t1 e vs1) vs xs (wipeE ρ1 vs) = some (ys, ρ2)) (hl : ys.length ≤ sizeLine) : dLc2 it g t it1 g1 t1 e vs vs1 ρ = .ok (.own ys, rest ρ1 vs ρ2) := by
  unfold dLc2
  rw [h]
  simp only [h2, if_pos hl]
theorem lcL2_eq {it1 : DI} {g1 : DG} {t1 : DT} {e : DV} {vs1 : List Nat} {ρ ρ1 ρ2 : Env} {xs ys : List Val} (h : it1 ρ = .ok (xs, ρ1)) (hl : xs.length ≤ sizeLine) (h2 : lcL g1 t1 e vs1 xs (wipeE ρ1 vs1) = some (ys, ρ2)) : lcL2 it1 g1 t1 e vs1 ρ = some (ys, rest ρ1 vs1 ρ2) := by
  unfold lcL2
  rw [h]
  simp only [h2, if_pos hl]
  rfl
theorem rOk_of {i : Int} (h : -(2 ^ 62) ≤ i ∧ i < 2 ^ 62) : rOk i = true := decide_eq_true h
/-- range(n), range(a, n) in a for -/
theorem rg1 {d : DV} {ρ ρ' : Env} {n : Int} (h : d ρ = .ok (.int n, ρ')) (hn : -(2 ^ 62) ≤ n ∧ n < 2 ^ 62) : dRg (dR1 d) ρ = .ok ((rangeI 0 n).map .int, ρ') := by
  unfold dRg dR1
  rw [h]
  simp only [Out.bind]
  rw [rOk_of hn]
  rfl
theorem rg2 {a b : DV} {ρ ρ1 ρ2 : Env} {m n : Int} (h : a ρ = .ok (.int m, ρ1)) (h2 : b ρ1 = .ok (.int n, ρ2)) (hm : -(2 ^ 62) ≤ m ∧ m < 2 ^ 62) (hn : -(2 ^ 62) ≤ n ∧ n < 2 ^ 62) : dRg (dR2 a b) ρ = .ok ((rangeI m n).map .int, ρ2) := by
  unfold dRg dR2
  rw [h]
  simp only [Out.bind, h2]
  rw [rOk_of hn, rOk_of hm]
  rfl
theorem mem_rangeI {a b x : Int} : x ∈ rangeI a b ↔ a ≤ x ∧ x < b := by
  unfold rangeI
  rw [List.mem_map]
  constructor
  · rintro ⟨i, hi, rfl⟩
    have := List.mem_range.mp hi
    omega
  · rintro ⟨h1, h2⟩
    exact ⟨(x - a).toNat, List.mem_range.mpr (by omega), by omega⟩
theorem length_rangeI (a b : Int) : (rangeI a b).length = (b - a).toNat := by simp [rangeI]
theorem sizeLine_big : 2 ^ 20 ≤ sizeLine := by decide
end Ev
namespace Ev
open PySem PySem.Spec PyProof.Rows L2
theorem lcL_map1 {α : Type} {g : DG} {t : DT} {e : DV} {vs : List Nat} (enc : α → Val) (f : α → Val) (ρ : Env) (xs : List α)
    (st : ∀ a, a ∈ xs → ∃ ρ1 ρ2 ρ3, g (enc a) ρ = some ρ1 ∧ t ρ1 = .ok (true, ρ2) ∧ e ρ2 = .ok (f a, ρ3) ∧ wipeE ρ3 vs = ρ) : lcL g t e vs (xs.map enc) ρ = some (xs.map f, ρ) := by
  have h := lcL_map (g := g) (t := t) (e := e) (vs := vs) enc (fun _ => true) f ρ xs fun a ha => by
    obtain ⟨ρ1, ρ2, ρ3, h1, h2, h3, h4⟩ := st a ha
    exact ⟨ρ1, ρ2, h1, h2, by rw [if_pos rfl]; exact ⟨ρ3, h3, h4⟩⟩
  rw [List.filter_eq_self.mpr fun _ _ => rfl] at h
  exact h
theorem all_map {α : Type} (p : α → Bool) (xs : List α) : allV (.lst (xs.map fun a => .bl (p a))) = some (.bl (xs.all p)) := by
  have := all_bls (xs.map p)
  rw [List.map_map] at this
  rw [show (xs.map fun a => Val.bl (p a)) = xs.map (Val.bl ∘ p) from rfl, this, List.all_map]
  rfl
theorem any_map {α : Type} (p : α → Bool) (xs : List α) : anyV (.lst (xs.map fun a => .bl (p a))) = some (.bl (xs.any p)) := by
  have := any_bls (xs.map p)
  rw [List.map_map] at this
  rw [show (xs.map fun a => Val.bl (p a)) = xs.map (Val.bl ∘ p) from rfl, this, List.any_map]
  rfl
end Ev

/-! Ev: each word's meaning, with the environment written. -/
namespace Ev
open PySem PySem.Spec PyProof.Rows L2
theorem ob_ok {α β : Type} (a : α) (f : α → Out β) : Out.bind (.ok a) f = f a := rfl
theorem oo_s {α : Type} (a : α) : Out.of (some a) = .ok a := rfl
theorem de_v (ρ : Env) (x : Val) : deref ρ (.val x) = some x := rfl
theorem de_s (ρ : Env) (i : Nat) : deref ρ (.slot i) = (match ρ[i]? with
  | some s => s.view
  | none => none) := rfl
theorem ds_n (ρ : Env) : derefs ρ [] = some [] := rfl
theorem ds_c (ρ : Env) (h : Hd) (hs : List Hd) : derefs ρ (h :: hs) = (deref ρ h).bind fun x => (derefs ρ hs).map fun xs => x :: xs := rfl
theorem ts_n (ρ : Env) : takes ρ [] = some ([], ρ) := rfl
theorem ts_c (ρ : Env) (h : Hd) (hs : List Hd) : takes ρ (h :: hs) = (takeV h ρ).bind fun p => (takes p.2 hs).map fun q => (p.1 :: q.1, q.2) := rfl
theorem tv_v (ρ : Env) (x : Val) : takeV (.val x) ρ = some (x, ρ) := rfl
theorem tv_s (ρ : Env) (i : Nat) : takeV (.slot i) ρ = (match ρ[i]? with
  | some s => match frOf s with
    | some x => some (x, ρ.set i (.fz x))
    | none => none
  | none => none) := rfl
theorem fl_rt (np : Nat) (rf : Option Nat) (s : Sl) (ρ : Env) : flRes np rf (.rt s ρ) = (match parOf np rf ρ with
    | some t => if notNo s then .ok (s, t) else .bad
    | none => .bad) := rfl
theorem fl_nx (np : Nat) (rf : Option Nat) (ρ : Env) : flRes np rf (.nx ρ) = (match parOf np rf ρ with
    | some t => .ok (.fz .non, t)
    | none => .bad) := rfl
def Out.fl {α : Type} (x : Out α) (f : α → Fl) : Fl := match x with
  | .ok a => f a
  | _ => .bad
theorem fo_ok {α : Type} (a : α) (f : α → Fl) : Out.fl (.ok a) f = f a := rfl
def Fl.thn (x : Fl) (f : Env → Fl) : Fl := match x with
  | .nx ρ => f ρ
  | y => y
theorem th_nx (ρ : Env) (f : Env → Fl) : Fl.thn (.nx ρ) f = f ρ := rfl
theorem th_rt (s : Sl) (ρ : Env) (f : Env → Fl) : Fl.thn (.rt s ρ) f = .rt s ρ := rfl
theorem th_bk (ρ : Env) (f : Env → Fl) : Fl.thn (.bk ρ) f = .bk ρ := rfl
theorem th_ct (ρ : Env) (f : Env → Fl) : Fl.thn (.ct ρ) f = .ct ρ := rfl
theorem x_sSeq (a b : DS) (ρ : Env) : sSeq a b ρ = (a ρ).thn b := by unfold sSeq Fl.thn; cases a ρ <;> rfl
theorem x_sIf (c : DT) (a b : DS) (ρ : Env) : sIf c a b ρ = (c ρ).fl fun p => if p.1 = true then a p.2 else b p.2 := by
  unfold sIf Out.fl
  rcases c ρ with ⟨⟨_ | _, _⟩⟩ | _ | _ <;> rfl
theorem x_sDrop (d : DO) (ρ : Env) : sDrop d ρ = (d ρ).fl fun p => .nx p.2 := by unfold sDrop Out.fl; rcases d ρ with ⟨⟨_, _⟩⟩ | _ | _ <;> rfl
theorem x_sRet (d : DO) (ρ : Env) : sRet d ρ = (d ρ).fl fun p => .rt p.1 p.2 := by unfold sRet Out.fl; rcases d ρ with ⟨⟨_, _⟩⟩ | _ | _ <;> rfl
theorem x_sSet (i : Nat) (d : DO) (ρ : Env) : sSet i d ρ = (d ρ).fl fun p => asg i p.1 p.2 := by unfold sSet Out.fl; rcases d ρ with ⟨⟨_, _⟩⟩ | _ | _ <;> rfl
def Opt.fl {α : Type} (x : Option α) (f : α → Fl) : Fl := match x with
  | some a => f a
  | none => .bad
theorem op_s {α : Type} (a : α) (f : α → Fl) : Opt.fl (some a) f = f a := rfl
theorem x_sAsg (d : DV) (g : DG) (ρ : Env) : sAsg d g ρ = (d ρ).fl fun p => Opt.fl (g p.1 p.2) .nx := by
  unfold sAsg Out.fl
  rcases d ρ with ⟨⟨x, r⟩⟩ | _ | _
  · show (match g x r with | some ρ2 => Fl.nx ρ2 | none => .bad) = Opt.fl (g x r) .nx
    unfold Opt.fl
    cases g x r <;> rfl
  · rfl
  · rfl
theorem x_sPut (i : Nat) (di dv : DV) (ρ : Env) : sPut i di dv ρ = (dv ρ).fl fun p => Opt.fl ((p.2[i]?).bind lstOf) fun _ => (di p.2).fl fun q => Opt.fl (q.2[i]?) fun s => Opt.fl ((lstOf s).bind fun ys => putV ys q.1 p.1) fun ys => .nx (q.2.set i (setL s ys)) := by
  unfold sPut Out.fl Opt.fl
  rcases dv ρ with ⟨⟨x, r⟩⟩ | _ | _
  · simp only
    cases h1 : (r[i]?).bind lstOf with
    | none => rfl
    | some _ =>
      simp only
      rcases di r with ⟨⟨k, r2⟩⟩ | _ | _
      · simp only
        cases h2 : r2[i]? with
        | none => rfl
        | some s =>
          simp only
          cases h3 : (lstOf s).bind fun ys => putV ys k x <;> rfl
      · rfl
      · rfl
  · rfl
  · rfl
theorem x_sPar (i j : Nat) (d : DA) (ρ : Env) : sPar i j d ρ = (d ρ).fl fun p => Opt.fl (takes p.2 p.1) fun q => match q.1 with
    | [x, y] => if i < q.2.length ∧ j < q.2.length then .nx ((q.2.set i (.fz x)).set j (.fz y)) else .bad
    | _ => .bad := by
  unfold sPar Out.fl Opt.fl
  rcases d ρ with ⟨⟨hs, r⟩⟩ | _ | _
  · simp only
    cases h : takes r hs with
    | none => rfl
    | some q =>
      obtain ⟨xs, r2⟩ := q
      rcases xs with _ | ⟨x, _ | ⟨y, _ | ⟨z, t⟩⟩⟩ <;> rfl
  · rfl
  · rfl
theorem x_dHV (d : DV) (ρ : Env) : dHV d ρ = ((d ρ).bind fun p => .ok (.val p.1, p.2)) := by rfl
theorem x_dVar (i : Nat) (ρ : Env) : dVar i ρ = (match ρ[i]? with
    | some (.fz x) => .ok (.val x, ρ)
    | some (.own _) => .ok (.slot i, ρ)
    | some (.par _) => .ok (.slot i, ρ)
    | some (.odK _) => .ok (.slot i, ρ)
    | some (.odT _) => .ok (.slot i, ρ)
    | some (.lck _) => .ok (.slot i, ρ)
    | some (.box _ _ _) => .ok (.slot i, ρ)
    | some (.pbox _ _ _) => .ok (.slot i, ρ)
    | some (.own2 _) => .ok (.slot i, ρ)
    | _ => .bad) := by rfl
theorem x_dC (x : Val) (ρ : Env) : dC x ρ = (.ok (x, ρ)) := by rfl
theorem x_dVH (d : DH) (ρ : Env) : dVH d ρ = ((d ρ).bind fun p => Out.of (takeV p.1 p.2)) := by rfl
theorem x_dIt (d : DV) (ρ : Env) : dIt d ρ = ((d ρ).bind fun p => Out.of ((goesV p.1).map fun xs => (xs, p.2))) := by rfl
theorem x_dRg (d : DR) (ρ : Env) : dRg d ρ = ((d ρ).bind fun p => if rOk p.1.1 && rOk p.1.2 then .ok ((rangeI p.1.1 p.1.2).map .int, p.2) else .bad) := by rfl
theorem x_tYesD  (ρ : Env) : tYesD ρ = (.ok (true, ρ)) := by rfl
theorem x_dU (g : List Val → List Val → Option (Val × List Val)) (i : Nat) (d : DA) (ρ : Env) : dU g i d ρ = (match (ρ[i]?).bind lstOf with
    | some _ => (d ρ).bind fun p => Out.of ((takes p.2 p.1).bind fun q => (q.2[i]?).bind fun s => (lstOf s).bind fun ys => (g ys q.1).map fun r => (r.1, q.2.set i (setL s r.2)))
    | none => .bad) := by rfl
theorem x_d2 (g : Val → Val → Option Val) (da db : DH) (ρ : Env) : d2 g da db ρ = ((da ρ).bind fun p => (db p.2).bind fun q =>
    Out.of ((deref q.2 p.1).bind fun x => (deref q.2 q.1).bind fun y => (g x y).map fun z => (z, q.2))) := by rfl
theorem x_aNil  (ρ : Env) : aNil ρ = (.ok ([], ρ)) := by rfl
theorem x_aCons (d : DH) (ds : DA) (ρ : Env) : aCons d ds ρ = ((d ρ).bind fun p => (ds p.2).bind fun q => .ok (p.1 :: q.1, q.2)) := by rfl
theorem x_dN (g : List Val → Option Val) (d : DA) (ρ : Env) : dN g d ρ = ((d ρ).bind fun p => Out.of ((derefs p.2 p.1).bind fun xs => (g xs).map fun z => (z, p.2))) := by rfl
theorem x_pNone  (ρ : Env) : pNone ρ = (.ok (none, ρ)) := by rfl
theorem x_pSome (d : DV) (ρ : Env) : pSome d ρ = ((d ρ).bind fun p => match p.1 with
    | .int i => .ok (some i, p.2)
    | _ => .bad) := by rfl
theorem x_dSl (da : DH) (dl dh : DP) (ρ : Env) : dSl da dl dh ρ = ((da ρ).bind fun p => (dl p.2).bind fun l => (dh l.2).bind fun h => Out.of ((deref h.2 p.1).bind fun x => (slV x l.1 h.1).map fun z => (z, h.2))) := by rfl
theorem x_dTup (d : DA) (ρ : Env) : dTup d ρ = ((d ρ).bind fun p => Out.of ((takes p.2 p.1).bind fun q => if q.1.length ≤ sizeLine then some (.tup q.1, q.2) else none)) := by rfl
theorem x_dOV (d : DV) (ρ : Env) : dOV d ρ = ((d ρ).bind fun p => .ok (.fz p.1, p.2)) := by rfl
theorem x_dVO (d : DO) (ρ : Env) : dVO d ρ = ((d ρ).bind fun p => Out.of ((frOf p.1).map fun x => (x, p.2))) := by rfl
theorem x_dLst (d : DA) (ρ : Env) : dLst d ρ = ((d ρ).bind fun p => Out.of ((takes p.2 p.1).bind fun q => if q.1.length ≤ sizeLine then some (.own q.1, q.2) else none)) := by rfl
theorem x_tOf (d : DH) (ρ : Env) : tOf d ρ = ((d ρ).bind fun p => Out.of ((deref p.2 p.1).bind fun x => (truth x).map fun b => (b, p.2))) := by rfl
theorem x_tBl (d : DV) (ρ : Env) : tBl d ρ = ((d ρ).bind fun p => match p.1 with
    | .bl b => .ok (b, p.2)
    | _ => .bad) := by rfl
theorem x_dChain (g g' : Val → Val → Option Val) (da db dc : DH) (ρ : Env) : dChain g g' da db dc ρ = ((da ρ).bind fun p => (db p.2).bind fun q =>
    match (deref q.2 p.1).bind fun x => (deref q.2 q.1).bind fun y => g x y with
    | some (.bl true) => (dc q.2).bind fun r => Out.of ((deref r.2 q.1).bind fun y => (deref r.2 r.1).bind fun w => (g' y w).map fun z => (z, r.2))
    | some (.bl false) => .ok (.bl false, q.2)
    | _ => .bad) := by rfl
theorem x_tAndD (a b : DT) (ρ : Env) : tAndD a b ρ = ((a ρ).bind fun p => if p.1 = true then b p.2 else .ok (false, p.2)) := by rfl
theorem x_tOrD (a b : DT) (ρ : Env) : tOrD a b ρ = ((a ρ).bind fun p => if p.1 = true then .ok (true, p.2) else b p.2) := by rfl
theorem x_tNotD (a : DT) (ρ : Env) : tNotD a ρ = ((a ρ).bind fun p => .ok (!p.1, p.2)) := by rfl
theorem x_vAnd (a b : DV) (ρ : Env) : vAnd a b ρ = ((a ρ).bind fun p => match truth p.1 with
    | some true => b p.2
    | some false => .ok p
    | none => .bad) := by rfl
theorem x_vOr (a b : DV) (ρ : Env) : vOr a b ρ = ((a ρ).bind fun p => match truth p.1 with
    | some true => .ok p
    | some false => b p.2
    | none => .bad) := by rfl
theorem x_vNot (a : DH) (ρ : Env) : vNot a ρ = ((a ρ).bind fun p => Out.of ((deref p.2 p.1).bind fun x => (truth x).map fun b => (.bl (!b), p.2))) := by rfl
theorem x_dIf (t : DT) (a b : DV) (ρ : Env) : dIf t a b ρ = ((t ρ).bind fun p => if p.1 = true then a p.2 else b p.2) := by rfl
theorem x_dNeg (a : DV) (ρ : Env) : dNeg a ρ = ((a ρ).bind fun p => match p.1 with
    | .int i => .ok (.int (-i), p.2)
    | _ => .bad) := by rfl
theorem x_dIsN (d : DV) (ρ : Env) : dIsN d ρ = ((d ρ).bind fun p => .ok (.bl (isNone p.1), p.2)) := by rfl
theorem x_dNotN (d : DV) (ρ : Env) : dNotN d ρ = ((d ρ).bind fun p => .ok (.bl (!isNone p.1), p.2)) := by rfl
theorem x_dNo (g : List Val → Option (List Val)) (d : DA) (ρ : Env) : dNo g d ρ = ((d ρ).bind fun p => Out.of ((derefs p.2 p.1).bind fun xs => (g xs).map fun ys => (.own ys, p.2))) := by rfl
theorem x_dR1 (d : DV) (ρ : Env) : dR1 d ρ = ((d ρ).bind fun p => match p.1 with
    | .int n => .ok (((0 : Int), n), p.2)
    | _ => .bad) := by rfl
theorem x_dR2 (a b : DV) (ρ : Env) : dR2 a b ρ = ((a ρ).bind fun p => (b p.2).bind fun q => match p.1, q.1 with
    | .int i, .int j => .ok ((i, j), q.2)
    | _, _ => .bad) := by rfl
theorem x_dLR (d : DR) (ρ : Env) : dLR d ρ = ((d ρ).bind fun p => if rgOk p.1.1 p.1.2 then .ok (.own ((rangeI p.1.1 p.1.2).map .int), p.2) else .bad) := by rfl
theorem x_dIsi (T : String) (d : DH) (ρ : Env) : dIsi T d ρ = ((d ρ).bind fun p => Out.of ((deref p.2 p.1).bind fun x => (isiV T x).map fun z => (z, p.2))) := by rfl
theorem x_sSkip  (ρ : Env) : sSkip ρ = (Fl.nx ρ) := by rfl
theorem x_sBreak  (ρ : Env) : sBreak ρ = (Fl.bk ρ) := by rfl
theorem x_sCont  (ρ : Env) : sCont ρ = (Fl.ct ρ) := by rfl
theorem x_asg (i : Nat) (s : Sl) (ρ : Env)  : asg i s ρ = (if i < ρ.length then .nx (ρ.set i s) else .bad) := by rfl
theorem x_gNm (i : Nat) (x : Val) (ρ : Env) : gNm i x ρ = (if i < ρ.length then some (ρ.set i (.fz x)) else none) := by rfl
theorem x_gN  (xs : List Val) (ρ : Env) : gN xs ρ = (match xs with
    | [] => some ρ
    | _ => none) := by rfl
theorem x_gC (g : DG) (gs : DGs) (xs : List Val) (ρ : Env) : gC g gs xs ρ = (match xs with
    | x :: xs => (g x ρ).bind fun ρ' => gs xs ρ'
    | [] => none) := by rfl
theorem x_gTp (n : Nat) (gs : DGs) (x : Val) (ρ : Env) : gTp n gs x ρ = ((tupOf x).bind fun xs => if xs.length = n then gs xs ρ else none) := by rfl
theorem x_g1 (g : Val → Option Val) (xs : List Val) : g1 g xs = (match xs with | [x] => g x | _ => none) := by rfl
theorem x_g2 (g : Val → Val → Option Val) (xs : List Val) : g2 g xs = (match xs with | [x, y] => g x y | _ => none) := by rfl
theorem x_go1 (g : Val → Option (List Val)) (xs : List Val) : go1 g xs = (match xs with | [x] => g x | _ => none) := by rfl
theorem x_callD0 (e : FnE) (d : DA) (ρ : Env) : callD0 e d ρ = ((d ρ).bind fun p => match takes p.2 p.1 with
    | some q => if q.1.length = e.np then (e.sem (q.1.map .fz)).bind fun r => if notNo r.1 = true then .ok (r.1, q.2) else .bad else .bad
    | none => .bad) := by rfl
theorem x_callD1 (e : FnE) (k : Nat) (d : DA) (ρ : Env) : callD1 e k d ρ = ((d ρ).bind fun p => match p.1[k]? with
    | some (.slot i) => match takes p.2 (p.1.set k (.val .non)) with
      | some q => match q.2[i]? with
        | some s0 => match parIn s0 with
          | some p0 => if q.1.length = e.np then (e.sem ((q.1.map .fz).set k p0)).bind fun r => match parBack s0 r.2 with
            | some sR => if notNo r.1 = true then .ok (r.1, q.2.set i sR) else .bad
            | none => .bad
            else .bad
          | none => .bad
        | none => .bad
      | none => .bad
    | _ => .bad) := by rfl
end Ev

/-! Ev: slices with the step -1. -/
namespace Ev
open PySem PySem.Spec PyProof.Rows L2

/-- the places that xs[start:stop:-1] takes -/
def backN (n : Nat) (start stop : Option Int) : Int × Nat := ((Builtin.Slice.sliceAdjust start stop (-1) (n : Int)).1, Builtin.Slice.slicePlaces (Builtin.Slice.sliceAdjust start stop (-1) (n : Int)).1 (Builtin.Slice.sliceAdjust start stop (-1) (n : Int)).2 (-1))
def backL {α : Type} (xs : List α) (start stop : Option Int) : List α := (List.range (backN xs.length start stop).2).filterMap fun (m : Nat) => xs[((backN xs.length start stop).1 + (m : Int) * (-1)).toNat]?
theorem slicePlaces_le {a b : Int} {n : Nat} (h : a ≤ n) (h2 : -1 ≤ b) : Builtin.Slice.slicePlaces a b (-1) ≤ n + 1 := by
  unfold Builtin.Slice.slicePlaces
  have h1 : ¬ ((-1 : Int) > 0) := by omega
  simp only [h1, if_false]
  split
  · have : (a - b - 1) / (- -1) = a - b - 1 := by simp
    rw [this]
    omega
  · omega
theorem adjust_le (n : Nat) (start stop : Option Int) : (Builtin.Slice.sliceAdjust start stop (-1) (n : Int)).1 ≤ (n : Int) - 1 ∧ -1 ≤ (Builtin.Slice.sliceAdjust start stop (-1) (n : Int)).2 := by
  unfold Builtin.Slice.sliceAdjust
  have h1 : ((-1 : Int) < 0) := by omega
  simp only [h1, if_true]
  constructor
  · cases start with
    | none => simp
    | some v => simp only; split <;> omega
  · cases stop with
    | none => simp
    | some v => simp only; split <;> omega
theorem backL_len {α : Type} (xs : List α) (start stop : Option Int) : (backL xs start stop).length ≤ xs.length := by
  unfold backL
  refine Nat.le_trans (List.length_filterMap_le _ _) ?_
  rw [List.length_range]
  obtain ⟨h1, h2⟩ := adjust_le xs.length start stop
  unfold backN
  simp only
  unfold Builtin.Slice.slicePlaces
  have h3 : ¬ ((-1 : Int) > 0) := by omega
  simp only [h3, if_false]
  split
  · have : ∀ z : Int, z / (- -1) = z := fun z => by simp
    rw [this]
    omega
  · omega
theorem slicePart_neg {prog : Program} {w : World} {A : Around} {E : Value → Shared → Prop} {s : Shared} {sl : Addr} {vl vu vs : Value} {lo hi : Option Int} {n : Nat} {Q : Int × Int × Nat → Shared → Prop} (hs : s.heap.IsSliceOf sl vl vu vs) (pl : IsPart vl lo) (pu : IsPart vu hi) (ps : IsPart vs (some (-1)))
    (h : Q ((backN n lo hi).1, -1, (backN n lo hi).2) s) : wpAny (model prog w) A (Builtin.Slice.sliceApplied (.ref sl) (pure (n : Int))) Q E s := by
  obtain ⟨os, hos, hcs, hds⟩ := id hs
  unfold Builtin.Slice.sliceApplied Builtin.Slice.sliceFields
  refine wpAny_bind (wpAny_bind (wpAny_field hos hds (x := vl) rfl (wpAny_bind (wpAny_field hos hds (x := vu) rfl (wpAny_bind (wpAny_field hos hds (x := vs) rfl (wpAny_pure ?_)))))))
  refine wpAny_bind (HT.slicePart_ ps ?_)
  show wpAny _ _ (if ((-1 : Int) == 0) = true then _ else _) _ _ s
  rw [if_neg (by decide)]
  refine wpAny_bind (HT.slicePart_ pl (wpAny_bind (HT.slicePart_ pu (wpAny_bind (wpAny_pure ?_)))))
  exact wpAny_pure h
theorem getItem_tuple_neg {prog : Program} {w : World} {A : Around} {E : Value → Shared → Prop} {s : Shared} {t sl : Addr} {items : Array Value} {vl vu vs : Value} {lo hi : Option Int} {Q : Value → Shared → Prop} (ht : IsTup s.heap t items) (hs : s.heap.IsSliceOf sl vl vu vs) (pl : IsPart vl lo) (pu : IsPart vu hi) (ps : IsPart vs (some (-1)))
    (h : Q (.ref s.heap.objs.size) { s with heap := s.heap.push { cls := .type "tuple", data := .seq (backL items.toList lo hi).toArray } })
    (hsz : items.size ≤ sizeLine) : wpAny (model prog w) A (getItem (.ref t) (.ref sl)) Q E s := by
  have htake : sizeOk (.seq (backL items.toList lo hi).toArray) := by
    have h1 := backL_len items.toList lo hi
    have h2 : items.toList.length = items.size := Array.length_toList
    have h3 : (backL items.toList lo hi).toArray.size = (backL items.toList lo hi).length := List.size_toArray
    show (backL items.toList lo hi).toArray.size ≤ sizeLine
    rw [h3]
    omega
  obtain ⟨os, hos, hcs, hds⟩ := id hs
  have hTs : s.TypeIs (.ref sl) "slice" := ⟨os, hos, hcs⟩
  unfold getItem
  try with_reducible refine wpAny_holding ?_
  first | refine wpAny_bind (wpAny_pure ?_) | skip
  refine wpAny_bind (wpAny_sequenceKey ht.typeIs (by decide) ?_)
  refine wpAny_bind (wpAny_callSpecial?_slot (name := Str.ofString "__getitem__") ht.typeIs PyProof.Rows.slot_tuple_getitem
    (wpAny_call_entry PyProof.Rows.slot_tuple_getitem ht.typeIs entry_tuple_getitem ?_ (args_tuple_getitem _ _)))
  show wpAny _ _ (Builtin.Tuple.tupleItemsOf (.ref t) >>= _) _ _ s
  refine wpAny_bind (PyProof.Rows.tupleItemsOf_ ht ?_)
  refine wpAny_bind (wpAny_typeOf hTs ?_)
  rw [if_pos (by decide)]
  refine wpAny_bind (slicePart_neg hs pl pu ps ?_)
  have hno : ¬ (((backN items.size lo hi).1 == 0 && (-1 : Int) == 1 && (backN items.size lo hi).2 == items.size) = true) := by
    intro q
    rw [Bool.and_eq_true, Bool.and_eq_true] at q
    exact absurd q.1.2 (by decide)
  show wpAny _ _ (if ((backN items.size lo hi).1 == 0 && (-1 : Int) == 1 && (backN items.size lo hi).2 == items.size) = true then _ else _) _ _ s
  rw [if_neg hno]
  have hp : ((List.range (backN items.size lo hi).2).filterMap fun (m : Nat) => items[((backN items.size lo hi).1 + (m : Int) * (-1)).toNat]?).toArray = (backL items.toList lo hi).toArray := by
    unfold backL
    rw [Array.length_toList]
    simp only [Array.getElem?_toList]
  rw [hp]
  first
    | exact wpAny_bind (m := Builtin.Tuple.tupleExact _) (wpAny_newObj_type (wpAny_pure ⟨_, rfl, wpAny_pure h⟩) htake)
    | exact wpAny_bind (m := Builtin.Tuple.tupleExact _) (wpAny_newObj_type (wpAny_bind (wpAny_pure (wpAny_pure ⟨_, rfl, wpAny_pure h⟩))) htake)
    | exact wpAny_bind (wpAny_bind (m := Builtin.Tuple.tupleExact _) (wpAny_newObj_type (wpAny_pure (wpAny_pure ⟨_, rfl, wpAny_pure h⟩)) htake))
    | exact wpAny_bind (wpAny_bind (m := Builtin.Tuple.tupleExact _) (wpAny_newObj_type (wpAny_pure ⟨_, rfl, wpAny_pure h⟩) htake))

/-! ### as a rule -/
def tBack (K : PySem.W.Frag) (te : TE) (tl th : TO) : TE := fun σ H Q => te σ H fun v H1 => tl σ H1 fun lo H2 => th σ H2 fun hi H3 =>
  (∃ (a : Addr) (xs : List V), v = .ref a ∧ SqT K H3 a xs ∧ ∀ p, H3 p = none → Q (.ref p) (upd H3 p (.tup (backL xs lo hi)))) ∨
  (lo = none ∧ hi = none ∧ ∃ (a : Addr) (xs : List V), v = .ref a ∧ SqL K H3 a xs ∧ ∀ p, H3 p = none → Q (.ref p) (upd H3 p (.lst xs.reverse)))
theorem vals_back {xs : List V} {us : List Value} (h : Vals xs us) (lo hi : Option Int) : Vals (backL xs lo hi) (backL us lo hi) := by
  unfold backL
  rw [h.length]
  generalize (backN us.length lo hi).1 = a
  generalize (List.range (backN us.length lo hi).2) = ms
  induction ms with
  | nil => exact .nil
  | cons m ms ih =>
    rw [List.filterMap_cons, List.filterMap_cons]
    cases e : xs[(a + (m : Int) * (-1)).toNat]? with
    | none =>
      have : us[(a + (m : Int) * (-1)).toNat]? = none := by
        rw [List.getElem?_eq_none_iff] at e ⊢
        rw [← h.length]; exact e
      rw [this]
      exact ih
    | some x =>
      obtain ⟨u, hu, ru⟩ := h.get e
      rw [hu]
      exact .cons ru ih
section
variable {X : Cx}
theorem pe_back {e : Expr} {lo hi : Option Expr} {te : TE} {tl th : TO} {k : Nat} {p1 p2 p3 pos : Pos} (he : PE X e te) (hl : PO X lo tl) (hu : PO X hi th) : PE X (.Subscript e (.Slice lo hi (some (.UnaryOp .USub (.Constant (.int 1) k p1) p2)) p3) pos) (tBack X.K te tl th) := by
  refine ⟨fun pins s σ H Q I h => ?_⟩
  refine Subscript_ (thn (he.run pins s σ H _ I h) fun v s1 ⟨x, H1, I1, r1, q1⟩ => ?_)
  have hst : PO X (some (.UnaryOp .USub (.Constant (.int 1) k p1) p2)) (tPart (tUn (L2.rU fun i => .int (-i)) (tC (.int 1)))) := po_some (pe_un un_neg pe_int)
  refine wpAny_Slice (thn (hl.run pins s1 σ H1 _ I1 q1) fun vl s2 ⟨l, H2, I2, pl, q2⟩ => ?_)
  refine thn (hu.run pins s2 σ H2 _ I2 q2) fun vu s3 ⟨u, H3, I3, pu, q3⟩ => ?_
  refine thn (hst.run pins s3 σ H3 (fun o H4 => o = some (-1) ∧ H4 = H3) I3 ⟨1, rfl, -1, rfl, rfl, rfl⟩) fun vs s4 ⟨o, H4, I4, ps, eo, e4⟩ => ?_
  subst eo e4
  have I5 : Inv X pins σ H4 { s4 with heap := s4.heap.push { cls := .type "slice", data := .fields #[vl, vu, vs] } } := I4.kept (t' := s4.toks) fun b ob q => Heap.get?_push_of_some _ q
  rcases q3 with ⟨a, xs, ex, hx, q⟩ | ⟨el, eh, a, xs, ex, hx, q⟩
  · subst ex
    cases r1
    obtain ⟨its, r, ht, hz⟩ := I5.tuple hx
    have hlen := r.length
    show wpAny (model X.prog X.w) X.A (subscriptTail e (.Slice lo hi (some (.UnaryOp .USub (.Constant (.int 1) k p1) p2)) p3) (.ref a) (.ref s4.heap.objs.size)) (EP X pins σ Q) X.xe { s4 with heap := s4.heap.push { cls := .type "slice", data := .fields #[vl, vu, vs] } }
    refine tail_any (ops := [.ref a, .ref s4.heap.objs.size]) ht.typeIs (PyProof.Rows.slot_tuple_getitem.lookup) ?_ (by with_unfolding_all rfl)
    refine getItem_tuple_neg ht (Heap.IsSliceOf.new _ vl vu vs) pl pu ps ?_ (by rw [List.size_toArray]; omega)
    have rb := vals_back r l u
    refine ⟨.ref _, _, I5.laid (t' := s4.toks) (o := .tup (backL xs l u)) (fun b ob q => Heap.get?_push_of_some _ q) (Nat.le_refl _) ?_, rfl, q _ (I5.hok.fresh (Nat.le_refl _))⟩
    exact ⟨Nat.le_trans (backL_len xs l u) hz, _, rb, ⟨_, Heap.get?_push_size _ rfl, rfl, 0, rfl⟩⟩
  · subst ex el eh
    cases r1
    obtain ⟨its, r, ht, hz⟩ := I5.list hx
    have hlen := r.length
    show wpAny (model X.prog X.w) X.A (subscriptTail e (.Slice lo hi (some (.UnaryOp .USub (.Constant (.int 1) k p1) p2)) p3) (.ref a) (.ref s4.heap.objs.size)) (EP X pins σ Q) X.xe { s4 with heap := s4.heap.push { cls := .type "slice", data := .fields #[vl, vu, vs] } }
    refine tail_any (ops := [.ref a, .ref s4.heap.objs.size]) ht.isList.typeIs (PySem.slot_list_getitem.lookup) ?_ (by with_unfolding_all rfl)
    refine wpAny_getItem_list_slice ht.isList (Heap.IsSliceOf.new _ vl vu vs) pl pu ps (by decide) ?_ (by rw [List.size_toArray]; omega)
    rw [PySem.W.krv_pick]
    refine ⟨.ref _, _, I5.laid (t' := s4.toks) (o := .lst xs.reverse) (fun b ob q => Heap.get?_push_of_some _ q) (Nat.le_refl _) ?_, rfl, q _ (I5.hok.fresh (Nat.le_refl _))⟩
    exact ⟨by rw [List.length_reverse]; exact hz, _, 0, r.reverse, Heap.get?_push_size _ rfl⟩
end
end Ev

namespace Ev
open PySem PySem.Spec PyProof.Rows L2
def backV (x : Val) (lo hi : Option Int) : Option Val := match x with
  | .tup xs => some (.tup (backL xs lo hi))
  | .lst xs => if lo = none ∧ hi = none then some (.lst xs.reverse) else none
  | .scr ns => if lo = none ∧ hi = none then some (.lst (ns.reverse.map .int)) else none
  | _ => none
def dBk (da : DH) (dl dh : DP) : DV := fun ρ => (da ρ).bind fun p => (dl p.2).bind fun l => (dh l.2).bind fun h => Out.of ((deref h.2 p.1).bind fun x => (backV x l.1 h.1).map fun z => (z, h.2))
theorem Rls.back {K : PySem.W.Frag} {mg : MG} {Z : Hp} {vs : List V} {xs : List Val} (h : Rls K mg Z vs xs) (lo hi : Option Int) : Rls K mg Z (backL vs lo hi) (backL xs lo hi) := by
  unfold backL
  rw [h.length]
  generalize (backN xs.length lo hi).1 = a
  generalize (List.range (backN xs.length lo hi).2) = ms
  induction ms with
  | nil => exact .nil
  | cons m ms ih =>
    rw [List.filterMap_cons, List.filterMap_cons]
    cases e : vs[(a + (m : Int) * (-1)).toNat]? with
    | none =>
      have : xs[(a + (m : Int) * (-1)).toNat]? = none := by
        rw [List.getElem?_eq_none_iff] at e ⊢
        rw [← h.length]; exact e
      rw [this]
      exact ih
    | some x =>
      obtain ⟨u, hu, ru⟩ := h.get' e
      rw [hu]
      exact .cons ru ih
theorem pv_back {X : Cx} {e : Expr} {lo hi : Option Expr} {da : DH} {dl dh : DP} {k : Nat} {p1 p2 p3 pos : Pos} (he : PH X e da) (hl : POo X lo dl) (hu : POo X hi dh) : PV X (.Subscript e (.Slice lo hi (some (.UnaryOp .USub (.Constant (.int 1) k p1) p2)) p3) pos) (dBk da dl dh) :=
  PE.imp (pe_back he hl hu) fun σ H Q ⟨Z, O, C, ρ, R, x, ρ', q, k⟩ => by
    obtain ⟨⟨h1, ρ1⟩, e1, q⟩ := Out.bind_ok q
    obtain ⟨⟨l, ρ2⟩, e2, q⟩ := Out.bind_ok q
    obtain ⟨⟨u, ρ3⟩, e3, q⟩ := Out.bind_ok q
    obtain ⟨y, e4, q⟩ := Option.bind_eq_some_iff.mp (Out.of_ok q)
    obtain ⟨z, e5, q⟩ := Option.map_eq_some_iff.mp q
    cases q
    refine ⟨Z, O, C, ρ, R, h1, ρ1, e1, fun v H1 Z1 O1 x1 R1 r1 => ⟨Z1, O1, C, ρ1, R1, l, ρ2, e2, fun H2 Z2 O2 x2 R2 => ⟨Z2, O2, C, ρ2, R2, u, ρ3, e3, fun H3 Z3 O3 x3 R3 => ?_⟩⟩⟩
    have bo := deref_bor R3 (r1.mono (x2.z.trans x3.z)) e4
    have qq : PQ X.K X.mg Z3 H3 x (Q) := fun w Z4 H4 gr r => k w H4 Z4 O3 ((x1.trans (x2.trans x3)).trans gr.ext) (R3.grow gr) r
    unfold backV at e5
    split at e5
    · cases e5
      obtain ⟨a, vs, rfl, m, r⟩ := bor_tup bo
      exact .inl ⟨a, vs, rfl, SqT.of (R3.zh _ _ m), fun p hp => qq.newT R3.zh hp (r.back l u)⟩
    · split at e5
      · rename_i hh
        cases e5
        obtain ⟨a, vs, rfl, m, r⟩ := bor_lst R3.zh bo
        exact .inr ⟨hh.1, hh.2, a, vs, rfl, SqL.of m, fun p hp => qq.newL R3.zh hp r.reverse⟩
      · cases e5
    · split at e5
      · rename_i ns hh
        cases e5
        obtain ⟨a, rfl, m⟩ := bor_scr bo
        exact .inr ⟨hh.1, hh.2, a, _, rfl, R3.zh.seq m, fun p hp => qq.newL R3.zh hp (by rw [← List.map_reverse]; exact Rls.ints _)⟩
      · cases e5
    · cases e5
theorem x_dBk (da : DH) (dl dh : DP) (ρ : Env) : dBk da dl dh ρ = ((da ρ).bind fun p => (dl p.2).bind fun l => (dh l.2).bind fun h => Out.of ((deref h.2 p.1).bind fun x => (backV x l.1 h.1).map fun z => (z, h.2))) := by rfl
end Ev

/-! Ev: sorted(set(ints)), len(set(ints)). The first proof is turned from that of a tuple's. -/
namespace Ev
open PySem PySem.Spec PyProof.Rows L2
section
variable {P : Program} {w : World} {A : Around} {E : Value → Shared → Prop} {s : Shared}
theorem call_set_lstI {l : Addr} {items : Array Value} (ns : List Int) {Q : Value → Shared → Prop} (hh : A.handled = none) (hl : s.heap.IsList l items) (hit : IntsAre items.toList ns) (hb : ns.length + 1 < scanBound)
    (h : ∀ (h' : Heap) (tk c : Nat), SetR w h' s.heap.objs.size (fun j => decide (j ∈ ns)) c → c ≤ ns.length → (∀ b o, s.heap.get? b = some o → h'.get? b = some o) → Q (.ref s.heap.objs.size) { s with heap := h', toks := tk }) :
    wpAny (model P w) A (call (.type "set") [.ref l]) Q E s := by
  have hisz : items.size = ns.length := by
    have q := IntsAre.length hit
    rw [Array.length_toList] at q
    exact q
  obtain ⟨c, tl, hmro⟩ := F.called_set.mro
  have hmade := F.called_set.made
  have hsub := F.called_set.sub
  refine wpAny_call (codeAny_of_tree ?_)
  show wpAny _ _ (callAny (.type "set") _) _ _ _
  refine wpAny_pure ⟨Code.quiet_builtin _ (by decide +kernel), codeAny_builtin F.entry_type_call ?_⟩
  rw [Around.under_plain (weight_type_call_type "set" [.ref l] []) rfl]
  have h1 := F.called_set.notType
  have h2 := F.called_set.canCreate
  have hct := F.typeCall_set_1 (.ref l)
  repeat (any_goals (first | assumption | wp_step))

  refine codeAny_mono (code_set_led1 (.ref l) (E := E) (Q₁ := fun obj s₁ => obj = .ref s.heap.objs.size ∧ s₁ = { s with heap := s.heap.push { cls := .type "set", dict := none, data := .set #[] 0 (.fresh 0 0 (!w.params.followText "set-order")) } }) ⟨rfl, rfl⟩) fun r s₁ hr => ?_
  cases r with
  | error e => exact hr
  | ok fl =>
    cases fl with
    | ret obj =>
      obtain ⟨rfl, rfl⟩ := hr
      have hS : (s.heap.push { cls := .type "set", dict := none, data := .set #[] 0 (.fresh 0 0 (!w.params.followText "set-order")) }).get? s.heap.objs.size = some { cls := .type "set", dict := none, data := .set #[] 0 (.fresh 0 0 (!w.params.followText "set-order")) } := Heap.get?_push_size _ rfl
      have hT : Shared.TypeIs { s with heap := s.heap.push { cls := .type "set", dict := none, data := .set #[] 0 (.fresh 0 0 (!w.params.followText "set-order")) } } (.ref s.heap.objs.size) "set" := ⟨_, hS, rfl⟩
      have hli := F.called_set.init.lookup
      have hbi := F.called_set.init.bind (.ref s.heap.objs.size)
      repeat (any_goals (first | assumption | wp_step))

      refine codeAny_mono (codeAny_call_builtin (R := wants (fun r s₂ => r = .none ∧ ∃ h' tk c, s₂ = { s with heap := h', toks := tk } ∧ SetR w h' s.heap.objs.size (fun j => decide (j ∈ ns)) c ∧ c ≤ ns.length ∧
          (∀ b o, s.heap.get? b = some o → h'.get? b = some o)) E) F.called_set.init.plain F.entry_set_init (check_set_init_1 hT ?_)) fun r₂ s₂ hr₂ => ?_
      · obtain ⟨ol, hol, hcl, nl, hdl⟩ := hl
        obtain ⟨ocls, odict, odata, oslots⟩ := ol
        simp only at hcl hdl
        subst hcl; subst hdl
        have hol' : (s.heap.push { cls := .type "set", dict := none, data := .set #[] 0 (.fresh 0 0 (!w.params.followText "set-order")) }).get? l = some { cls := .type "list", dict := odict, data := .seq items nl, slots := oslots } := Heap.get?_push_of_some _ hol
        have hsls := F.sub_list_set
        have hslf := F.sub_list_frozenset
        have hne : (Value.type "list" == Value.type "dict") = false := by decide
        have hl1 : (s.heap.push { cls := .type "set", dict := none, data := .set #[] 0 (.fresh 0 0 (!w.params.followText "set-order")) }).IsList l items := ⟨_, hol', rfl, nl, rfl⟩
        unfold Builtin.«set.__init__» noKeywords Builtin.Frozenset.updateFrom
        generalize hPI : pyIter = PI
        wp_walk
        subst hPI

        refine wpAny_pyIter_list hl1 ?_
        refine wpAny_bind (wpAny_runValue ?_)
        have hlS : l < s.heap.objs.size := Heap.lt_size hol
        have hh3 : A.in1.in1.in1.handled = none := by simp [hh]
        have hz1 : (s.heap.push { cls := .type "set", dict := none, data := .set #[] 0 (.fresh 0 0 (!w.params.followText "set-order")) }).objs.size = s.heap.objs.size + 1 := Heap.size_push ..
        have hneI : l ≠ (s.heap.push { cls := .type "set", dict := none, data := .set #[] 0 (.fresh 0 0 (!w.params.followText "set-order")) }).objs.size := by
          rw [Heap.size_push]; exact Nat.ne_of_lt (Nat.lt_succ_of_lt hlS)
        have hSf : s.heap.objs.size ∉ [(s.heap.push { cls := .type "set", dict := none, data := .set #[] 0 (.fresh 0 0 (!w.params.followText "set-order")) }).objs.size, l] := by
          rw [Heap.size_push]; simp only [List.mem_cons, List.mem_singleton, List.not_mem_nil, or_false, not_or]
          exact ⟨Nat.ne_of_lt (Nat.lt_succ_self _), Nat.ne_of_gt hlS⟩
        have hval : ∀ (i : Nat) (v : Value), items[i]? = some v → ∃ k t, ns[i]? = some k ∧ v = .int k t := fun i v hv => by
          have hi : i < ns.length := by rw [← hisz]; exact (Array.getElem?_eq_some_iff.mp hv).1
          obtain ⟨t, e⟩ := PyProof.Rows.IntsAre.int_at hit i v (by rw [Array.getElem?_toList]; exact hv)
          refine ⟨ns[i], t, List.getElem?_eq_getElem hi, ?_⟩
          rw [e, List.getD_eq_getElem?_getD, List.getElem?_eq_getElem hi] <;> rfl
        refine set_update_ints ((Walks.list hh3 _ l hneI items).toS) s.heap.objs.size
          hSf ns hisz hb hval (items.size - 0) 0 _ (by omega) (Nat.zero_le _)
          ⟨⟨_, Heap.get?_push_size _ rfl, rfl, rfl⟩, (hl1.push _)⟩ ?hS0 ?hR
        case hS0 =>
          have hget : ((s.heap.push { cls := .type "set", dict := none, data := .set #[] 0 (.fresh 0 0 (!w.params.followText "set-order")) }).push { cls := .type "list_iterator", data := .fields #[.ref l, .int 0 0] }).get? s.heap.objs.size
              = some { cls := .type "set", dict := none, data := .set #[] 0 (.fresh 0 0 (!w.params.followText "set-order")) } := Heap.get?_push_of_some _ hS
          exact ⟨0, Nat.le_refl 0, setR_new_at hget⟩
        case hR =>
          intro s' c' hm hc' hS'
          obtain ⟨h', g2, d', tk', os'⟩ := s'
          have eg : g2 = s.gens := hm.gens
          have ed : d' = s.drawn := hm.drawn
          have eo : os' = s.os := hm.os
          subst eg; subst ed; subst eo
          show wpAny _ _ _ _ _ _
          refine wpAny_pure ?_
          show wpAny _ _ (ret Value.none) _ _ _
          rw [hisz] at hc'
          refine wpAny_pure ⟨rfl, h', tk', c', rfl, hS', hc', fun b o e => ?_⟩
          have hb0 : b < s.heap.objs.size := Heap.lt_size e
          have hb1 : b ≠ s.heap.objs.size := Nat.ne_of_lt hb0
          have hb2 : b ≠ (s.heap.push { cls := .type "set", dict := none, data := .set #[] 0 (.fresh 0 0 (!w.params.followText "set-order")) }).objs.size := by
            rw [Heap.size_push]; exact Nat.ne_of_lt (Nat.lt_succ_of_lt hb0)
          exact hm.heap b o (by simp only [List.mem_cons, List.mem_singleton, List.not_mem_nil, or_false, not_or]; exact ⟨hb1, hb2⟩) (Heap.get?_push_of_some _ (Heap.get?_push_of_some _ e))

      · cases r₂ with
        | error e => exact hr₂
        | ok fl₂ =>
          cases fl₂ with
          | ret r =>
            obtain ⟨rfl, h', tk, c', rfl, hS', hc', hk'⟩ := hr₂
            repeat (any_goals (first | assumption | wp_step))
            exact h _ _ _ hS' hc' hk'
          | _ => exact hr₂.elim
    | _ => exact hr.elim

end
/-! ### rising lists of ints -/
def ddI : List Int → List Int
  | [] => []
  | x :: xs => if x ∈ xs then ddI xs else x :: ddI xs
theorem mem_ddI {k : Int} : ∀ {xs : List Int}, k ∈ ddI xs ↔ k ∈ xs
  | [] => Iff.rfl
  | x :: xs => by
    have ih := @mem_ddI k xs
    unfold ddI
    split
    · rename_i h
      rw [ih, List.mem_cons]
      constructor
      · exact .inr
      · rintro (rfl | h2)
        · exact h
        · exact h2
    · rw [List.mem_cons, List.mem_cons, ih]
theorem nodup_ddI : ∀ (xs : List Int), (ddI xs).Nodup
  | [] => List.nodup_nil
  | x :: xs => by
    unfold ddI
    split
    · exact nodup_ddI xs
    · rename_i h
      exact List.nodup_cons.mpr ⟨fun z => h (mem_ddI.mp z), nodup_ddI xs⟩
theorem rise_ext : ∀ {xs ys : List Int}, xs.Pairwise (· < ·) → ys.Pairwise (· < ·) → (∀ k, k ∈ xs ↔ k ∈ ys) → xs = ys
  | [], [], _, _, _ => rfl
  | [], y :: ys, _, _, h => absurd ((h y).mpr List.mem_cons_self) List.not_mem_nil
  | x :: xs, [], _, _, h => absurd ((h x).mp List.mem_cons_self) List.not_mem_nil
  | x :: xs, y :: ys, hx, hy, h => by
    obtain ⟨x1, x2⟩ := List.pairwise_cons.mp hx
    obtain ⟨y1, y2⟩ := List.pairwise_cons.mp hy
    have e : x = y := by
      rcases List.mem_cons.mp ((h x).mp List.mem_cons_self) with e | e
      · exact e
      · rcases List.mem_cons.mp ((h y).mpr List.mem_cons_self) with e2 | e2
        · exact e2.symm
        · have a := y1 x e
          have b := x1 y e2
          omega
    subst e
    rw [rise_ext x2 y2 fun k => ?_]
    constructor
    · intro m
      rcases List.mem_cons.mp ((h k).mp (List.mem_cons_of_mem _ m)) with e | e
      · have := x1 k m; omega
      · exact e
    · intro m
      rcases List.mem_cons.mp ((h k).mpr (List.mem_cons_of_mem _ m)) with e | e
      · have := y1 k m; omega
      · exact e
/-- the members, rising -/
def sdL (ns : List Int) : List Int := (ddI ns).mergeSort fun a b => decide (a ≤ b)
theorem sdL_rise (ns : List Int) : (sdL ns).Pairwise (· < ·) := by
  have h1 : (sdL ns).Pairwise fun a b => decide (a ≤ b) = true := List.pairwise_mergeSort (fun a b c h1 h2 => by simp only [decide_eq_true_eq] at *; omega) (fun a b => by simp only [Bool.or_eq_true, decide_eq_true_eq]; omega) _
  have hp : (sdL ns).Perm (ddI ns) := List.mergeSort_perm _ _
  exact lt_of_le_nodup _ (h1.imp fun h => by simpa using h) (hp.nodup_iff.mpr (nodup_ddI ns))
theorem mem_sdL {k : Int} {ns : List Int} : k ∈ sdL ns ↔ k ∈ ns := by
  have hp : (sdL ns).Perm (ddI ns) := List.mergeSort_perm _ _
  rw [hp.mem_iff, mem_ddI]
theorem sdL_len (ns : List Int) : (sdL ns).length = (ddI ns).length := (List.mergeSort_perm _ _).length_eq
theorem ddI_le : ∀ (ns : List Int), (ddI ns).length ≤ ns.length
  | [] => Nat.le_refl _
  | x :: xs => by
    have := ddI_le xs
    unfold ddI
    split
    · rw [List.length_cons]; omega
    · rw [List.length_cons, List.length_cons]; omega
theorem sdL_eq {ms ns : List Int} (h : ms.Pairwise (· < ·)) (m : ∀ k, k ∈ ms ↔ k ∈ ns) : ms = sdL ns := rise_ext h (sdL_rise ns) fun k => (m k).trans mem_sdL.symm
theorem perm_mem {xs ys : List Int} (hx : xs.Nodup) (hy : ys.Nodup) (h : ∀ k, k ∈ xs ↔ k ∈ ys) : xs.length = ys.length := (List.perm_ext_iff_of_nodup hx hy |>.mpr h).length_eq
/-- how many members a set has -/
theorem setR_card {w : World} {h : Heap} {a : Addr} {ns : List Int} {n : Nat} (R : SetR w h a (fun j => decide (j ∈ ns)) n) : n = (ddI ns).length := by
  obtain ⟨o, es, ep, t, ho, hex, hd, g, nd, hm, hb, hf, hn, hr, hl⟩ := R
  rw [← hn, ← perm_mem nd (nodup_ddI ns) fun k => by rw [← hm k, decide_eq_true_eq, mem_ddI], List.length_map, Array.length_toList]
/-! ### set(ints) -/
def rSetI (K : PySem.W.Frag) (w : World) : List V → Hp → VK → Prop := fun vs H Q => ∃ (l : Addr) (ns : List Int), vs = [V.ref l] ∧ (SqL K H l (ns.map V.int) ∨ SqT K H l (ns.map V.int)) ∧ ns.length ≤ 4000 ∧
  ∀ p, H p = none → Q (.ref p) (upd H p (SetO w p (fun j => decide (j ∈ ns)) (ddI ns).length))
theorem cr_setI {X : Cx} (hc : X.calm = true) : CallR X (.type "set") (rSetI X.K X.w) := by
  intro pins s σ H vs us Q I r h
  obtain ⟨l, ns, rfl, hq, hl, q⟩ := h
  rw [Vals.ref1 r]
  have fin : ∀ (h' : Heap) (tk c : Nat), SetR X.w h' s.heap.objs.size (fun j => decide (j ∈ ns)) c → c ≤ ns.length → (∀ b o, s.heap.get? b = some o → h'.get? b = some o) → EP X pins σ Q (.ref s.heap.objs.size) { s with heap := h', toks := tk } := fun h' tk c R1 hcn k => by
    have e := setR_card R1
    subst e
    exact ⟨.ref _, upd H s.heap.objs.size (SetO X.w s.heap.objs.size (fun j => decide (j ∈ ns)) (ddI ns).length), I.laid (t' := tk) k (Nat.le_refl _) (setO_new R1), rfl, q _ (I.hok.fresh (Nat.le_refl _))⟩
  rcases hq with hq | hq
  · obtain ⟨its, rv, pt, hz⟩ := I.list hq
    exact call_set_lstI ns (I.ok.hd hc) (show s.heap.IsList l its.toArray from pt.isList) (by simpa using ints_of_vals rv) (by unfold scanBound; omega) fin
  · obtain ⟨its, rv, pt, hz⟩ := I.tuple hq
    exact call_set_tupI ns (I.ok.hd hc) (show s.heap.IsTuple l its.toArray from pt) (by simpa using ints_of_vals rv) (by unfold scanBound; omega) fin
def rLenS (w : World) : List V → Hp → VK → Prop := fun vs H Q => ∃ (a : Addr) (S : Int → Bool) (n : Nat), vs = [V.ref a] ∧ H a = some (SetO w a S n) ∧ n < 4000 ∧ Q (.int (n : Int)) H
theorem cr_lenS {X : Cx} : CallR X (.builtin "len") (rLenS X.w) := by
  intro pins s σ H vs us Q I r h
  obtain ⟨a, S, n, rfl, ha, hn, q⟩ := h
  have R := setO_get I ha
  rw [Vals.ref1 r]
  obtain ⟨o, es, ep, t, ho, hex, hd, g, nd, hm, hb, hf, hn2, hr, hl⟩ := R
  refine call_len_set ho hex hd hf (by rw [hn2]; omega) ⟨.int (n : Int), H, I.tok _, ⟨_, by rw [hn2]⟩, q⟩
/-! ### as values -/
theorem rls_ints_eq {K : PySem.W.Frag} {mg : MG} {Z : Hp} : ∀ {vs : List V} {ns : List Int}, Rls K mg Z vs (ns.map .int) → vs = ns.map V.int
  | [], [], _ => rfl
  | _ :: _, n :: ns, .cons r t => by
    cases r
    rw [rls_ints_eq t]; rfl
def seqOf : Val → Option (List Int)
  | .lst xs => intsOf xs
  | .tup xs => intsOf xs
  | .scr ns => some ns
  | _ => none
theorem bor_ints {K : PySem.W.Frag} {mg : MG} {Z H : Hp} (zh : Same Z H) {v : V} {x : Val} {ns : List Int} (b : BorR K mg Z H v x) (e : seqOf x = some ns) : ∃ l, v = .ref l ∧ (SqL K H l (ns.map V.int) ∨ SqT K H l (ns.map V.int)) := by
  cases x with
  | lst xs =>
    obtain ⟨a, vs, rfl, h1, r1⟩ := bor_lst zh b
    cases intsOf_eq e
    rw [rls_ints_eq r1] at h1
    exact ⟨a, rfl, .inl (SqL.of h1)⟩
  | tup xs =>
    obtain ⟨a, vs, rfl, h1, r1⟩ := bor_tup b
    cases intsOf_eq e
    rw [rls_ints_eq r1] at h1
    exact ⟨a, rfl, .inr (SqT.of (zh _ _ h1))⟩
  | scr ms =>
    cases e
    obtain ⟨a, rfl, h1⟩ := bor_scr b
    exact ⟨a, rfl, .inl (zh.seq h1)⟩
  | _ => cases e
def sdV (x : Val) : Option (List Val) := (seqOf x).bind fun ns => if ns.length ≤ 4000 ∧ (ddI ns).length < 64 then some ((sdL ns).map .int) else none
def lsV (x : Val) : Option Val := (seqOf x).bind fun ns => if ns.length < 4000 then some (.int ((ddI ns).length : Nat)) else none
section
variable {X : Cx} {e : Expr} {d : DA} {p p2 q pos : Pos}
theorem pow_sortedSet (hc : X.calm = true) (hg : Gl X "sorted") (hm : X.mg "sorted" = none) (hg2 : Gl X "set") (hm2 : X.mg "set" = none) (ha : PAs X [e] d)
    (na : starEach [e] X.env = (false, eval e X.env) :: starEach [] X.env := by rfl)
    (na2 : starEach [.Call (.Name "set" p2) [e] [] q] X.env = (false, eval (.Call (.Name "set" p2) [e] [] q) X.env) :: starEach [] X.env := by rfl) : POw X (.Call (.Name "sorted" p) [.Call (.Name "set" p2) [e] [] q] [] pos) (dNo (go1 sdV) d) :=
  PE.imp (pe_callB (cr_sortedSet hc) hg hm (by decide +kernel) (pa_cons (pe_callTy (cr_setI hc) hg2 hm2 (by decide +kernel) ha (by decide) (by decide) na (by rfl)) pa_nil na2) (by decide) (by decide) na2 (by rfl)) fun σ H Q h => by
    obtain ⟨Z, O, C, ρ, R, x, ρ', e0, k⟩ := h
    obtain ⟨⟨hs, ρ1⟩, e1, e0⟩ := Out.bind_ok e0
    obtain ⟨xs, e2, e0⟩ := Option.bind_eq_some_iff.mp (Out.of_ok e0)
    obtain ⟨ys, e3, e0⟩ := Option.map_eq_some_iff.mp e0
    cases e0
    refine ⟨Z, O, C, ρ, R, hs, ρ1, e1, fun vs H1 Z1 O1 x1 R1 r1 => ?_⟩
    have bs := derefs_bor R1 r1 e2
    have zh := R1.zh
    rcases bs with _ | ⟨b, _ | _⟩
    · cases e3
    · obtain ⟨ns, e4, e5⟩ := Option.bind_eq_some_iff.mp e3
      split at e5
      · rename_i hh
        cases e5
        obtain ⟨l, rfl, hs2⟩ := bor_ints zh b e4
        refine ⟨l, ns, rfl, hs2, hh.1, fun a hp => ⟨a, _, _, rfl, upd_same, hh.2, fun ms p2 h1 h2 h3 h4 => ?_⟩⟩
        have em : ms = sdL ns := sdL_eq h1 fun k => (h2 k).trans decide_eq_true_iff
        subst em
        let gr := Grow.newH (o := SetO X.w a (fun j => decide (j ∈ ns)) (ddI ns).length) R1.zh hp
        exact own_new (x1.trans gr.ext) (R1.grow gr) k p2 _ h4 (Rls.ints _)
      · cases e5
    · cases e3
theorem pv_lenSet (hc : X.calm = true) (hg : Gl X "len") (hm : X.mg "len" = none) (hg2 : Gl X "set") (hm2 : X.mg "set" = none) (ha : PAs X [e] d)
    (na : starEach [e] X.env = (false, eval e X.env) :: starEach [] X.env := by rfl)
    (na2 : starEach [.Call (.Name "set" p2) [e] [] q] X.env = (false, eval (.Call (.Name "set" p2) [e] [] q) X.env) :: starEach [] X.env := by rfl) : PV X (.Call (.Name "len" p) [.Call (.Name "set" p2) [e] [] q] [] pos) (dN (g1 lsV) d) :=
  PE.imp (pe_callB cr_lenS hg hm (by decide +kernel) (pa_cons (pe_callTy (cr_setI hc) hg2 hm2 (by decide +kernel) ha (by decide) (by decide) na (by rfl)) pa_nil na2) (by decide) (by decide) na2 (by rfl)) fun σ H Q h => by
    obtain ⟨Z, O, C, ρ, R, x, ρ', e0, k⟩ := h
    obtain ⟨⟨hs, ρ1⟩, e1, e0⟩ := Out.bind_ok e0
    obtain ⟨xs, e2, e0⟩ := Option.bind_eq_some_iff.mp (Out.of_ok e0)
    obtain ⟨y, e3, e0⟩ := Option.map_eq_some_iff.mp e0
    cases e0
    refine ⟨Z, O, C, ρ, R, hs, ρ1, e1, fun vs H1 Z1 O1 x1 R1 r1 => ?_⟩
    have bs := derefs_bor R1 r1 e2
    have zh := R1.zh
    rcases bs with _ | ⟨b, _ | _⟩
    · cases e3
    · obtain ⟨ns, e4, e5⟩ := Option.bind_eq_some_iff.mp e3
      split at e5
      · rename_i hh
        cases e5
        obtain ⟨l, rfl, hs2⟩ := bor_ints zh b e4
        refine ⟨l, ns, rfl, hs2, by omega, fun a hp => ⟨a, _, _, rfl, upd_same, by have := ddI_le ns; omega, ?_⟩⟩
        let gr := Grow.newH (o := SetO X.w a (fun j => decide (j ∈ ns)) (ddI ns).length) R1.zh hp
        exact k _ _ _ O1 (x1.trans gr.ext) (R1.grow gr) (.int _)
      · cases e5
    · cases e3
end
end Ev

/-! Ev: isinstance, truth and equality of plain values, for simp. -/
namespace Ev
open PySem PySem.Spec PyProof.Rows L2
theorem isi_non_int  : isiV "int" .non = some (.bl false) := by show some (Val.bl (isiB "NoneType" "int")) = _; rw [show isiB "NoneType" "int" = false by decide +kernel]
theorem isi_non_bool  : isiV "bool" .non = some (.bl false) := by show some (Val.bl (isiB "NoneType" "bool")) = _; rw [show isiB "NoneType" "bool" = false by decide +kernel]
theorem isi_non_str  : isiV "str" .non = some (.bl false) := by show some (Val.bl (isiB "NoneType" "str")) = _; rw [show isiB "NoneType" "str" = false by decide +kernel]
theorem isi_non_tuple  : isiV "tuple" .non = some (.bl false) := by show some (Val.bl (isiB "NoneType" "tuple")) = _; rw [show isiB "NoneType" "tuple" = false by decide +kernel]
theorem isi_non_list  : isiV "list" .non = some (.bl false) := by show some (Val.bl (isiB "NoneType" "list")) = _; rw [show isiB "NoneType" "list" = false by decide +kernel]
theorem isi_bl_int (b : Bool) : isiV "int" (.bl b) = some (.bl true) := by show some (Val.bl (isiB "bool" "int")) = _; rw [show isiB "bool" "int" = true by decide +kernel]
theorem isi_bl_bool (b : Bool) : isiV "bool" (.bl b) = some (.bl true) := by show some (Val.bl (isiB "bool" "bool")) = _; rw [show isiB "bool" "bool" = true by decide +kernel]
theorem isi_bl_str (b : Bool) : isiV "str" (.bl b) = some (.bl false) := by show some (Val.bl (isiB "bool" "str")) = _; rw [show isiB "bool" "str" = false by decide +kernel]
theorem isi_bl_tuple (b : Bool) : isiV "tuple" (.bl b) = some (.bl false) := by show some (Val.bl (isiB "bool" "tuple")) = _; rw [show isiB "bool" "tuple" = false by decide +kernel]
theorem isi_bl_list (b : Bool) : isiV "list" (.bl b) = some (.bl false) := by show some (Val.bl (isiB "bool" "list")) = _; rw [show isiB "bool" "list" = false by decide +kernel]
theorem isi_int_int (i : Int) : isiV "int" (.int i) = some (.bl true) := by show some (Val.bl (isiB "int" "int")) = _; rw [show isiB "int" "int" = true by decide +kernel]
theorem isi_int_bool (i : Int) : isiV "bool" (.int i) = some (.bl false) := by show some (Val.bl (isiB "int" "bool")) = _; rw [show isiB "int" "bool" = false by decide +kernel]
theorem isi_int_str (i : Int) : isiV "str" (.int i) = some (.bl false) := by show some (Val.bl (isiB "int" "str")) = _; rw [show isiB "int" "str" = false by decide +kernel]
theorem isi_int_tuple (i : Int) : isiV "tuple" (.int i) = some (.bl false) := by show some (Val.bl (isiB "int" "tuple")) = _; rw [show isiB "int" "tuple" = false by decide +kernel]
theorem isi_int_list (i : Int) : isiV "list" (.int i) = some (.bl false) := by show some (Val.bl (isiB "int" "list")) = _; rw [show isiB "int" "list" = false by decide +kernel]
theorem isi_str_int (s : Str) : isiV "int" (.str s) = some (.bl false) := by show some (Val.bl (isiB "str" "int")) = _; rw [show isiB "str" "int" = false by decide +kernel]
theorem isi_str_bool (s : Str) : isiV "bool" (.str s) = some (.bl false) := by show some (Val.bl (isiB "str" "bool")) = _; rw [show isiB "str" "bool" = false by decide +kernel]
theorem isi_str_str (s : Str) : isiV "str" (.str s) = some (.bl true) := by show some (Val.bl (isiB "str" "str")) = _; rw [show isiB "str" "str" = true by decide +kernel]
theorem isi_str_tuple (s : Str) : isiV "tuple" (.str s) = some (.bl false) := by show some (Val.bl (isiB "str" "tuple")) = _; rw [show isiB "str" "tuple" = false by decide +kernel]
theorem isi_str_list (s : Str) : isiV "list" (.str s) = some (.bl false) := by show some (Val.bl (isiB "str" "list")) = _; rw [show isiB "str" "list" = false by decide +kernel]
theorem isi_tup_int (xs : List Val) : isiV "int" (.tup xs) = some (.bl false) := by show some (Val.bl (isiB "tuple" "int")) = _; rw [show isiB "tuple" "int" = false by decide +kernel]
theorem isi_tup_bool (xs : List Val) : isiV "bool" (.tup xs) = some (.bl false) := by show some (Val.bl (isiB "tuple" "bool")) = _; rw [show isiB "tuple" "bool" = false by decide +kernel]
theorem isi_tup_str (xs : List Val) : isiV "str" (.tup xs) = some (.bl false) := by show some (Val.bl (isiB "tuple" "str")) = _; rw [show isiB "tuple" "str" = false by decide +kernel]
theorem isi_tup_tuple (xs : List Val) : isiV "tuple" (.tup xs) = some (.bl true) := by show some (Val.bl (isiB "tuple" "tuple")) = _; rw [show isiB "tuple" "tuple" = true by decide +kernel]
theorem isi_tup_list (xs : List Val) : isiV "list" (.tup xs) = some (.bl false) := by show some (Val.bl (isiB "tuple" "list")) = _; rw [show isiB "tuple" "list" = false by decide +kernel]
theorem isi_lst_int (xs : List Val) : isiV "int" (.lst xs) = some (.bl false) := by show some (Val.bl (isiB "list" "int")) = _; rw [show isiB "list" "int" = false by decide +kernel]
theorem isi_lst_bool (xs : List Val) : isiV "bool" (.lst xs) = some (.bl false) := by show some (Val.bl (isiB "list" "bool")) = _; rw [show isiB "list" "bool" = false by decide +kernel]
theorem isi_lst_str (xs : List Val) : isiV "str" (.lst xs) = some (.bl false) := by show some (Val.bl (isiB "list" "str")) = _; rw [show isiB "list" "str" = false by decide +kernel]
theorem isi_lst_tuple (xs : List Val) : isiV "tuple" (.lst xs) = some (.bl false) := by show some (Val.bl (isiB "list" "tuple")) = _; rw [show isiB "list" "tuple" = false by decide +kernel]
theorem isi_lst_list (xs : List Val) : isiV "list" (.lst xs) = some (.bl true) := by show some (Val.bl (isiB "list" "list")) = _; rw [show isiB "list" "list" = true by decide +kernel]
theorem eq_bl (a b : Bool) : eqV (.bl a) (.bl b) = some (.bl (a == b)) := by cases a <;> cases b <;> rfl
theorem ne_bl (a b : Bool) : neV (.bl a) (.bl b) = some (.bl (a != b)) := by cases a <;> cases b <;> rfl
/-! a value without lists, with tuples of at most L -/
mutual
def nice (L : Nat) : Val → Bool
  | .tup xs => decide (xs.length ≤ L) && nices L xs
  | .non => true
  | .bl _ => true
  | .int _ => true
  | .str _ => true
  | _ => false
def nices (L : Nat) : List Val → Bool
  | [] => true
  | x :: xs => nice L x && nices L xs
end
theorem nices_all {L : Nat} {xs : List Val} : nices L xs = true ↔ ∀ x ∈ xs, nice L x = true := by
  induction xs with
  | nil => simp [nices]
  | cons x xs ih => simp [nices, ih]
mutual
theorem nice_mono {L M : Nat} (h : L ≤ M) : ∀ {x : Val}, nice L x = true → nice M x = true
  | .tup xs, g => by
    simp only [nice, Bool.and_eq_true, decide_eq_true_eq] at g ⊢
    exact ⟨by omega, nices_mono h g.2⟩
  | .non, _ => rfl
  | .bl _, _ => rfl
  | .int _, _ => rfl
  | .str _, _ => rfl
theorem nices_mono {L M : Nat} (h : L ≤ M) : ∀ {xs : List Val}, nices L xs = true → nices M xs = true
  | [], _ => rfl
  | x :: xs, g => by
    simp only [nices, Bool.and_eq_true] at g ⊢
    exact ⟨nice_mono h g.1, nices_mono h g.2⟩
end
end Ev

/-! Ev: evaluation by frames: what is still to be done is a closed word, which simp does not enter. -/
namespace Ev
open PySem PySem.Spec PyProof.Rows L2

theorem ob_exc {α β : Type} (a : Val) (f : α → Out β) : Out.bind (.exc a) f = .exc a := by rfl
theorem ob_bad {α β : Type} (f : α → Out β) : Out.bind .bad f = .bad := by rfl
theorem of_bad {α : Type} (f : α → Fl) : Out.fl .bad f = .bad := by rfl
def wE {α : Type} (o : Option α) (ρ : Env) : Out (α × Env) := Out.of (o.map fun z => (z, ρ))
theorem z_wE {α : Type} (a : α) (ρ : Env) : wE (some a) ρ = .ok (a, ρ) := by rfl
def drK : Option Sl → Option Val
  | some s => s.view
  | none => none
theorem z_deS (ρ : Env) (i : Nat) : deref ρ (.slot i) = drK ρ[i]? := by rfl
theorem z_drK (s : Sl) : drK (some s) = s.view := by rfl
def consO (o : Option Val) (os : Option (List Val)) : Option (List Val) := o.bind fun x => os.map fun xs => x :: xs
theorem z_dsC (ρ : Env) (h : Hd) (hs : List Hd) : derefs ρ (h :: hs) = consO (deref ρ h) (derefs ρ hs) := by rfl
theorem z_consO (x : Val) (xs : List Val) : consO (some x) (some xs) = some (x :: xs) := by rfl
def tkK (i : Nat) (ρ : Env) : Option Sl → Option (Val × Env)
  | some s => match frOf s with
    | some x => some (x, ρ.set i (.fz x))
    | none => none
  | none => none
def tkK2 (i : Nat) (ρ : Env) : Option Val → Option (Val × Env)
  | some x => some (x, ρ.set i (.fz x))
  | none => none
theorem z_tvS (ρ : Env) (i : Nat) : takeV (.slot i) ρ = tkK i ρ ρ[i]? := by rfl
theorem z_tkK (i : Nat) (ρ : Env) (s : Sl) : tkK i ρ (some s) = tkK2 i ρ (frOf s) := by rfl
theorem z_tkK2 (i : Nat) (ρ : Env) (x : Val) : tkK2 i ρ (some x) = some (x, ρ.set i (.fz x)) := by rfl
def tkD (x : Val) (o : Option (List Val × Env)) : Option (List Val × Env) := o.map fun q => (x :: q.1, q.2)
def tkC (hs : List Hd) (o : Option (Val × Env)) : Option (List Val × Env) := o.bind fun p => (takes p.2 hs).map fun q => (p.1 :: q.1, q.2)
theorem z_tsC (ρ : Env) (h : Hd) (hs : List Hd) : takes ρ (h :: hs) = tkC hs (takeV h ρ) := by rfl
theorem z_tkC (hs : List Hd) (x : Val) (ρ : Env) : tkC hs (some (x, ρ)) = tkD x (takes ρ hs) := by rfl
theorem z_tkD (x : Val) (xs : List Val) (ρ : Env) : tkD x (some (xs, ρ)) = some (x :: xs, ρ) := by rfl

def kHV (p : Val × Env) : Out (Hd × Env) := .ok (.val p.1, p.2)
theorem y_dHV (d : DV) (ρ : Env) : dHV d ρ = (d ρ).bind kHV := by rfl
theorem z_kHV (x : Val) (ρ : Env) : kHV (x, ρ) = .ok (.val x, ρ) := by rfl
def kVar (i : Nat) (ρ : Env) : Option Sl → Out (Hd × Env)
  | some (.fz x) => .ok (.val x, ρ)
  | some (.own _) => .ok (.slot i, ρ)
  | some (.par _) => .ok (.slot i, ρ)
  | some (.odK _) => .ok (.slot i, ρ)
  | some (.odT _) => .ok (.slot i, ρ)
  | some (.lck _) => .ok (.slot i, ρ)
  | some (.box _ _ _) => .ok (.slot i, ρ)
  | some (.pbox _ _ _) => .ok (.slot i, ρ)
  | some (.own2 _) => .ok (.slot i, ρ)
  | _ => .bad
theorem y_dVar (i : Nat) (ρ : Env) : dVar i ρ = kVar i ρ ρ[i]? := by
  unfold dVar kVar
  rcases ρ[i]? with _ | s
  · rfl
  · cases s <;> rfl
theorem z_vFz (i : Nat) (ρ : Env) (x : Val) : kVar i ρ (some (.fz x)) = .ok (.val x, ρ) := by rfl
theorem z_vOwn (i : Nat) (ρ : Env) (x : List Val) : kVar i ρ (some (.own x)) = .ok (.slot i, ρ) := by rfl
theorem z_vPar (i : Nat) (ρ : Env) (x : List Val) : kVar i ρ (some (.par x)) = .ok (.slot i, ρ) := by rfl
theorem z_vOdK (i : Nat) (ρ : Env) (x : List (Key × Val)) : kVar i ρ (some (.odK x)) = .ok (.slot i, ρ) := by rfl
theorem z_vOdT (i : Nat) (ρ : Env) (x : List (List Key × Val)) : kVar i ρ (some (.odT x)) = .ok (.slot i, ρ) := by rfl
theorem z_vLck (i : Nat) (ρ : Env) (x : List Val) : kVar i ρ (some (.lck x)) = .ok (.slot i, ρ) := by rfl
theorem z_vBox (i : Nat) (ρ : Env) (c : List Int) (d s : Int) : kVar i ρ (some (.box c d s)) = .ok (.slot i, ρ) := by rfl
theorem z_vPbx (i : Nat) (ρ : Env) (c : List Int) (d s : Int) : kVar i ρ (some (.pbox c d s)) = .ok (.slot i, ρ) := by rfl
theorem z_vOw2 (i : Nat) (ρ : Env) (x : List (List Val)) : kVar i ρ (some (.own2 x)) = .ok (.slot i, ρ) := by rfl
theorem y_dC (x : Val) (ρ : Env) : dC x ρ = .ok (x, ρ) := by rfl
def kVH (p : Hd × Env) : Out (Val × Env) := Out.of (takeV p.1 p.2)
theorem y_dVH (d : DH) (ρ : Env) : dVH d ρ = (d ρ).bind kVH := by rfl
theorem z_kVH (h : Hd) (ρ : Env) : kVH (h, ρ) = Out.of (takeV h ρ) := by rfl
def kIt (p : Val × Env) : Out (List Val × Env) := Out.of ((goesV p.1).map fun xs => (xs, p.2))
theorem y_dIt (d : DV) (ρ : Env) : dIt d ρ = (d ρ).bind kIt := by rfl
theorem z_kIt (x : Val) (ρ : Env) : kIt (x, ρ) = wE (goesV x) ρ := by rfl
def kRg (p : (Int × Int) × Env) : Out (List Val × Env) := if rOk p.1.1 && rOk p.1.2 then .ok ((rangeI p.1.1 p.1.2).map .int, p.2) else .bad
theorem y_dRg (d : DR) (ρ : Env) : dRg d ρ = (d ρ).bind kRg := by rfl
theorem z_kRg (a b : Int) (ρ : Env) : kRg ((a, b), ρ) = if rOk a && rOk b then .ok ((rangeI a b).map .int, ρ) else .bad := by rfl
theorem y_tYes (ρ : Env) : tYesD ρ = .ok (true, ρ) := by rfl
def k2c (g : Val → Val → Option Val) (o o' : Option Val) (ρ : Env) : Out (Val × Env) := Out.of (o.bind fun x => o'.bind fun y => (g x y).map fun z => (z, ρ))
def k2b (g : Val → Val → Option Val) (h : Hd) (q : Hd × Env) : Out (Val × Env) := Out.of ((deref q.2 h).bind fun x => (deref q.2 q.1).bind fun y => (g x y).map fun z => (z, q.2))
def k2a (g : Val → Val → Option Val) (db : DH) (p : Hd × Env) : Out (Val × Env) := (db p.2).bind (k2b g p.1)
theorem y_d2 (g : Val → Val → Option Val) (da db : DH) (ρ : Env) : d2 g da db ρ = (da ρ).bind (k2a g db) := by rfl
theorem z_k2a (g : Val → Val → Option Val) (db : DH) (h : Hd) (ρ : Env) : k2a g db (h, ρ) = (db ρ).bind (k2b g h) := by rfl
theorem z_k2b (g : Val → Val → Option Val) (h h' : Hd) (ρ : Env) : k2b g h (h', ρ) = k2c g (deref ρ h) (deref ρ h') ρ := by rfl
theorem z_k2c (g : Val → Val → Option Val) (x y : Val) (ρ : Env) : k2c g (some x) (some y) ρ = wE (g x y) ρ := by rfl
theorem y_aNil (ρ : Env) : aNil ρ = .ok ([], ρ) := by rfl
def kA2 (h : Hd) (q : List Hd × Env) : Out (List Hd × Env) := .ok (h :: q.1, q.2)
def kA (ds : DA) (p : Hd × Env) : Out (List Hd × Env) := (ds p.2).bind (kA2 p.1)
theorem y_aCons (d : DH) (ds : DA) (ρ : Env) : aCons d ds ρ = (d ρ).bind (kA ds) := by rfl
theorem z_kA (ds : DA) (h : Hd) (ρ : Env) : kA ds (h, ρ) = (ds ρ).bind (kA2 h) := by rfl
theorem z_kA2 (h : Hd) (hs : List Hd) (ρ : Env) : kA2 h (hs, ρ) = .ok (h :: hs, ρ) := by rfl
def kN2 (g : List Val → Option Val) (o : Option (List Val)) (ρ : Env) : Out (Val × Env) := Out.of (o.bind fun xs => (g xs).map fun z => (z, ρ))
def kN (g : List Val → Option Val) (p : List Hd × Env) : Out (Val × Env) := Out.of ((derefs p.2 p.1).bind fun xs => (g xs).map fun z => (z, p.2))
theorem y_dN (g : List Val → Option Val) (d : DA) (ρ : Env) : dN g d ρ = (d ρ).bind (kN g) := by rfl
theorem z_kN (g : List Val → Option Val) (hs : List Hd) (ρ : Env) : kN g (hs, ρ) = kN2 g (derefs ρ hs) ρ := by rfl
theorem z_kN2 (g : List Val → Option Val) (xs : List Val) (ρ : Env) : kN2 g (some xs) ρ = wE (g xs) ρ := by rfl
theorem y_pNone (ρ : Env) : pNone ρ = .ok (none, ρ) := by rfl
def kPS (p : Val × Env) : Out (Option Int × Env) := match p.1 with
    | .int i => .ok (some i, p.2)
    | _ => .bad
theorem y_pSome (d : DV) (ρ : Env) : pSome d ρ = (d ρ).bind kPS := by rfl
theorem z_kPS (i : Int) (ρ : Env) : kPS (.int i, ρ) = .ok (some i, ρ) := by rfl
def kSl4 (o : Option Val) (l u : Option Int) (ρ : Env) : Out (Val × Env) := Out.of (o.bind fun x => (slV x l u).map fun z => (z, ρ))
def kSl3 (h : Hd) (l : Option Int) (p : Option Int × Env) : Out (Val × Env) := Out.of ((deref p.2 h).bind fun x => (slV x l p.1).map fun z => (z, p.2))
def kSl2 (dh : DP) (h : Hd) (p : Option Int × Env) : Out (Val × Env) := (dh p.2).bind (kSl3 h p.1)
def kSl (dl dh : DP) (p : Hd × Env) : Out (Val × Env) := (dl p.2).bind (kSl2 dh p.1)
theorem y_dSl (da : DH) (dl dh : DP) (ρ : Env) : dSl da dl dh ρ = (da ρ).bind (kSl dl dh) := by rfl
theorem z_kSl (dl dh : DP) (h : Hd) (ρ : Env) : kSl dl dh (h, ρ) = (dl ρ).bind (kSl2 dh h) := by rfl
theorem z_kSl2 (dh : DP) (h : Hd) (l : Option Int) (ρ : Env) : kSl2 dh h (l, ρ) = (dh ρ).bind (kSl3 h l) := by rfl
theorem z_kSl3 (h : Hd) (l u : Option Int) (ρ : Env) : kSl3 h l (u, ρ) = kSl4 (deref ρ h) l u ρ := by rfl
theorem z_kSl4 (x : Val) (l u : Option Int) (ρ : Env) : kSl4 (some x) l u ρ = wE (slV x l u) ρ := by rfl
def kBk4 (o : Option Val) (l u : Option Int) (ρ : Env) : Out (Val × Env) := Out.of (o.bind fun x => (backV x l u).map fun z => (z, ρ))
def kBk3 (h : Hd) (l : Option Int) (p : Option Int × Env) : Out (Val × Env) := Out.of ((deref p.2 h).bind fun x => (backV x l p.1).map fun z => (z, p.2))
def kBk2 (dh : DP) (h : Hd) (p : Option Int × Env) : Out (Val × Env) := (dh p.2).bind (kBk3 h p.1)
def kBk (dl dh : DP) (p : Hd × Env) : Out (Val × Env) := (dl p.2).bind (kBk2 dh p.1)
theorem y_dBk (da : DH) (dl dh : DP) (ρ : Env) : dBk da dl dh ρ = (da ρ).bind (kBk dl dh) := by rfl
theorem z_kBk (dl dh : DP) (h : Hd) (ρ : Env) : kBk dl dh (h, ρ) = (dl ρ).bind (kBk2 dh h) := by rfl
theorem z_kBk2 (dh : DP) (h : Hd) (l : Option Int) (ρ : Env) : kBk2 dh h (l, ρ) = (dh ρ).bind (kBk3 h l) := by rfl
theorem z_kBk3 (h : Hd) (l u : Option Int) (ρ : Env) : kBk3 h l (u, ρ) = kBk4 (deref ρ h) l u ρ := by rfl
theorem z_kBk4 (x : Val) (l u : Option Int) (ρ : Env) : kBk4 (some x) l u ρ = wE (backV x l u) ρ := by rfl
def kT2 (o : Option (List Val × Env)) : Out (Val × Env) := Out.of (o.bind fun q => if q.1.length ≤ sizeLine then some (.tup q.1, q.2) else none)
def kT (p : List Hd × Env) : Out (Val × Env) := Out.of ((takes p.2 p.1).bind fun q => if q.1.length ≤ sizeLine then some (.tup q.1, q.2) else none)
theorem y_dTup (d : DA) (ρ : Env) : dTup d ρ = (d ρ).bind kT := by rfl
theorem z_kT (hs : List Hd) (ρ : Env) : kT (hs, ρ) = kT2 (takes ρ hs) := by rfl
theorem z_kT2 (xs : List Val) (ρ : Env) : kT2 (some (xs, ρ)) = if xs.length ≤ sizeLine then .ok (.tup xs, ρ) else .bad := by
  unfold kT2
  by_cases h : xs.length ≤ sizeLine <;> simp [h, Out.of]
def kOV (p : Val × Env) : Out (Sl × Env) := .ok (.fz p.1, p.2)
theorem y_dOV (d : DV) (ρ : Env) : dOV d ρ = (d ρ).bind kOV := by rfl
theorem z_kOV (x : Val) (ρ : Env) : kOV (x, ρ) = .ok (.fz x, ρ) := by rfl
def kVO (p : Sl × Env) : Out (Val × Env) := Out.of ((frOf p.1).map fun x => (x, p.2))
theorem y_dVO (d : DO) (ρ : Env) : dVO d ρ = (d ρ).bind kVO := by rfl
theorem z_kVO (s : Sl) (ρ : Env) : kVO (s, ρ) = wE (frOf s) ρ := by rfl
def kLst2 (o : Option (List Val × Env)) : Out (Sl × Env) := Out.of (o.bind fun q => if q.1.length ≤ sizeLine then some (.own q.1, q.2) else none)
def kLst (p : List Hd × Env) : Out (Sl × Env) := Out.of ((takes p.2 p.1).bind fun q => if q.1.length ≤ sizeLine then some (.own q.1, q.2) else none)
theorem y_dLst (d : DA) (ρ : Env) : dLst d ρ = (d ρ).bind kLst := by rfl
theorem z_kLst (hs : List Hd) (ρ : Env) : kLst (hs, ρ) = kLst2 (takes ρ hs) := by rfl
theorem z_kLst2 (xs : List Val) (ρ : Env) : kLst2 (some (xs, ρ)) = if xs.length ≤ sizeLine then .ok (.own xs, ρ) else .bad := by
  unfold kLst2
  by_cases h : xs.length ≤ sizeLine <;> simp [h, Out.of]
def kTO2 (o : Option Val) (ρ : Env) : Out (Bool × Env) := Out.of (o.bind fun x => (truth x).map fun b => (b, ρ))
def kTO (p : Hd × Env) : Out (Bool × Env) := Out.of ((deref p.2 p.1).bind fun x => (truth x).map fun b => (b, p.2))
theorem y_tOf (d : DH) (ρ : Env) : tOf d ρ = (d ρ).bind kTO := by rfl
theorem z_kTO (h : Hd) (ρ : Env) : kTO (h, ρ) = kTO2 (deref ρ h) ρ := by rfl
theorem z_kTO2 (x : Val) (ρ : Env) : kTO2 (some x) ρ = wE (truth x) ρ := by rfl
def kBl (p : Val × Env) : Out (Bool × Env) := match p.1 with
    | .bl b => .ok (b, p.2)
    | _ => .bad
theorem y_tBl (d : DV) (ρ : Env) : tBl d ρ = (d ρ).bind kBl := by rfl
theorem z_kBl (b : Bool) (ρ : Env) : kBl (.bl b, ρ) = .ok (b, ρ) := by rfl
def kC5 (g' : Val → Val → Option Val) (h2 : Hd) (r : Hd × Env) : Out (Val × Env) := Out.of ((deref r.2 h2).bind fun y => (deref r.2 r.1).bind fun w => (g' y w).map fun z => (z, r.2))
def kC4 (g' : Val → Val → Option Val) (dc : DH) (h2 : Hd) (o : Option Val) (ρ : Env) : Out (Val × Env) := match o with
    | some (.bl true) => (dc ρ).bind (kC5 g' h2)
    | some (.bl false) => .ok (.bl false, ρ)
    | _ => .bad
def kC2 (g g' : Val → Val → Option Val) (dc : DH) (h : Hd) (q : Hd × Env) : Out (Val × Env) := match (deref q.2 h).bind fun x => (deref q.2 q.1).bind fun y => g x y with
    | some (.bl true) => (dc q.2).bind fun r => Out.of ((deref r.2 q.1).bind fun y => (deref r.2 r.1).bind fun w => (g' y w).map fun z => (z, r.2))
    | some (.bl false) => .ok (.bl false, q.2)
    | _ => .bad
def kC3 (g : Val → Val → Option Val) (o o' : Option Val) : Option Val := o.bind fun x => o'.bind fun y => g x y
def kC1 (g g' : Val → Val → Option Val) (db dc : DH) (p : Hd × Env) : Out (Val × Env) := (db p.2).bind (kC2 g g' dc p.1)
theorem y_dChain (g g' : Val → Val → Option Val) (da db dc : DH) (ρ : Env) : dChain g g' da db dc ρ = (da ρ).bind (kC1 g g' db dc) := by rfl
theorem z_kC1 (g g' : Val → Val → Option Val) (db dc : DH) (h : Hd) (ρ : Env) : kC1 g g' db dc (h, ρ) = (db ρ).bind (kC2 g g' dc h) := by rfl
theorem z_kC2 (g g' : Val → Val → Option Val) (dc : DH) (h h2 : Hd) (ρ : Env) : kC2 g g' dc h (h2, ρ) = kC4 g' dc h2 (kC3 g (deref ρ h) (deref ρ h2)) ρ := by rfl
theorem z_kC3 (g : Val → Val → Option Val) (x y : Val) : kC3 g (some x) (some y) = g x y := by rfl
theorem z_kC4 (g' : Val → Val → Option Val) (dc : DH) (h2 : Hd) (b : Bool) (ρ : Env) : kC4 g' dc h2 (some (.bl b)) ρ = if b = true then (dc ρ).bind (kC5 g' h2) else .ok (.bl false, ρ) := by cases b <;> rfl
theorem z_kC5 (g' : Val → Val → Option Val) (h2 h3 : Hd) (ρ : Env) : kC5 g' h2 (h3, ρ) = k2c g' (deref ρ h2) (deref ρ h3) ρ := by rfl
def kAnd (b : DT) (p : Bool × Env) : Out (Bool × Env) := if p.1 = true then b p.2 else .ok (false, p.2)
def kOr (b : DT) (p : Bool × Env) : Out (Bool × Env) := if p.1 = true then .ok (true, p.2) else b p.2
def kNot (p : Bool × Env) : Out (Bool × Env) := .ok (!p.1, p.2)
theorem y_tAnd (a b : DT) (ρ : Env) : tAndD a b ρ = (a ρ).bind (kAnd b) := by rfl
theorem y_tOr (a b : DT) (ρ : Env) : tOrD a b ρ = (a ρ).bind (kOr b) := by rfl
theorem y_tNot (a : DT) (ρ : Env) : tNotD a ρ = (a ρ).bind kNot := by rfl
theorem z_kAnd (b : DT) (c : Bool) (ρ : Env) : kAnd b (c, ρ) = if c = true then b ρ else .ok (false, ρ) := by rfl
theorem z_kOr (b : DT) (c : Bool) (ρ : Env) : kOr b (c, ρ) = if c = true then .ok (true, ρ) else b ρ := by rfl
theorem z_kNot (c : Bool) (ρ : Env) : kNot (c, ρ) = .ok (!c, ρ) := by rfl
theorem i_and (c d : Bool) (ρ : Env) : (if c = true then Out.ok (d, ρ) else .ok (false, ρ)) = .ok (c && d, ρ) := by cases c <;> rfl
theorem i_or (c d : Bool) (ρ : Env) : (if c = true then Out.ok (true, ρ) else .ok (d, ρ)) = .ok (c || d, ρ) := by cases c <;> rfl
theorem i_vand (c d : Bool) (ρ : Env) : (if c = true then Out.ok (Val.bl d, ρ) else .ok (.bl false, ρ)) = .ok (.bl (c && d), ρ) := by cases c <;> rfl
theorem i_vor (c d : Bool) (ρ : Env) : (if c = true then Out.ok (Val.bl true, ρ) else .ok (.bl d, ρ)) = .ok (.bl (c || d), ρ) := by cases c <;> rfl
def kvAnd2 (b : DV) (o : Option Bool) (x : Val) (ρ : Env) : Out (Val × Env) := match o with
    | some true => b ρ
    | some false => .ok (x, ρ)
    | none => .bad
def kvAnd (b : DV) (p : Val × Env) : Out (Val × Env) := match truth p.1 with
    | some true => b p.2
    | some false => .ok p
    | none => .bad
def kvOr2 (b : DV) (o : Option Bool) (x : Val) (ρ : Env) : Out (Val × Env) := match o with
    | some true => .ok (x, ρ)
    | some false => b ρ
    | none => .bad
def kvOr (b : DV) (p : Val × Env) : Out (Val × Env) := match truth p.1 with
    | some true => .ok p
    | some false => b p.2
    | none => .bad
theorem y_vAnd (a b : DV) (ρ : Env) : vAnd a b ρ = (a ρ).bind (kvAnd b) := by rfl
theorem y_vOr (a b : DV) (ρ : Env) : vOr a b ρ = (a ρ).bind (kvOr b) := by rfl
theorem z_kvAndB (b : DV) (c : Bool) (ρ : Env) : kvAnd b (.bl c, ρ) = if c = true then b ρ else .ok (.bl false, ρ) := by cases c <;> rfl
theorem z_kvOrB (b : DV) (c : Bool) (ρ : Env) : kvOr b (.bl c, ρ) = if c = true then .ok (.bl true, ρ) else b ρ := by cases c <;> rfl
def kvNot3 (o : Option Bool) (ρ : Env) : Out (Val × Env) := Out.of (o.map fun b => (.bl (!b), ρ))
def kvNot2 (o : Option Val) (ρ : Env) : Out (Val × Env) := Out.of (o.bind fun x => (truth x).map fun b => (.bl (!b), ρ))
def kvNot (p : Hd × Env) : Out (Val × Env) := Out.of ((deref p.2 p.1).bind fun x => (truth x).map fun b => (.bl (!b), p.2))
theorem y_vNot (a : DH) (ρ : Env) : vNot a ρ = (a ρ).bind kvNot := by rfl
theorem z_kvNot (h : Hd) (ρ : Env) : kvNot (h, ρ) = kvNot2 (deref ρ h) ρ := by rfl
theorem z_kvNot2 (x : Val) (ρ : Env) : kvNot2 (some x) ρ = kvNot3 (truth x) ρ := by rfl
theorem z_kvNot3 (b : Bool) (ρ : Env) : kvNot3 (some b) ρ = .ok (.bl (!b), ρ) := by rfl
def kIf (a b : DV) (p : Bool × Env) : Out (Val × Env) := if p.1 = true then a p.2 else b p.2
theorem y_dIf (t : DT) (a b : DV) (ρ : Env) : dIf t a b ρ = (t ρ).bind (kIf a b) := by rfl
theorem z_kIf (a b : DV) (c : Bool) (ρ : Env) : kIf a b (c, ρ) = if c = true then a ρ else b ρ := by rfl
def kNeg (p : Val × Env) : Out (Val × Env) := match p.1 with
    | .int i => .ok (.int (-i), p.2)
    | _ => .bad
theorem y_dNeg (a : DV) (ρ : Env) : dNeg a ρ = (a ρ).bind kNeg := by rfl
theorem z_kNeg (i : Int) (ρ : Env) : kNeg (.int i, ρ) = .ok (.int (-i), ρ) := by rfl
def kIsN (p : Val × Env) : Out (Val × Env) := .ok (.bl (isNone p.1), p.2)
def kNotN (p : Val × Env) : Out (Val × Env) := .ok (.bl (!isNone p.1), p.2)
theorem y_dIsN (d : DV) (ρ : Env) : dIsN d ρ = (d ρ).bind kIsN := by rfl
theorem y_dNotN (d : DV) (ρ : Env) : dNotN d ρ = (d ρ).bind kNotN := by rfl
theorem z_kIsN (x : Val) (ρ : Env) : kIsN (x, ρ) = .ok (.bl (isNone x), ρ) := by rfl
theorem z_kNotN (x : Val) (ρ : Env) : kNotN (x, ρ) = .ok (.bl (!isNone x), ρ) := by rfl
def kNo3 (o : Option (List Val)) (ρ : Env) : Out (Sl × Env) := Out.of (o.map fun ys => (.own ys, ρ))
def kNo2 (g : List Val → Option (List Val)) (o : Option (List Val)) (ρ : Env) : Out (Sl × Env) := Out.of (o.bind fun xs => (g xs).map fun ys => (.own ys, ρ))
def kNo (g : List Val → Option (List Val)) (p : List Hd × Env) : Out (Sl × Env) := Out.of ((derefs p.2 p.1).bind fun xs => (g xs).map fun ys => (.own ys, p.2))
theorem y_dNo (g : List Val → Option (List Val)) (d : DA) (ρ : Env) : dNo g d ρ = (d ρ).bind (kNo g) := by rfl
theorem z_kNo (g : List Val → Option (List Val)) (hs : List Hd) (ρ : Env) : kNo g (hs, ρ) = kNo2 g (derefs ρ hs) ρ := by rfl
theorem z_kNo2 (g : List Val → Option (List Val)) (xs : List Val) (ρ : Env) : kNo2 g (some xs) ρ = kNo3 (g xs) ρ := by rfl
theorem z_kNo3 (ys : List Val) (ρ : Env) : kNo3 (some ys) ρ = .ok (.own ys, ρ) := by rfl
def kR1 (p : Val × Env) : Out ((Int × Int) × Env) := match p.1 with
    | .int n => .ok (((0 : Int), n), p.2)
    | _ => .bad
theorem y_dR1 (d : DV) (ρ : Env) : dR1 d ρ = (d ρ).bind kR1 := by rfl
theorem z_kR1 (n : Int) (ρ : Env) : kR1 (.int n, ρ) = .ok ((0, n), ρ) := by rfl
def kR3 (i : Int) (q : Val × Env) : Out ((Int × Int) × Env) := match q.1 with
    | .int j => .ok ((i, j), q.2)
    | _ => .bad
def kR2 (b : DV) (p : Val × Env) : Out ((Int × Int) × Env) := (b p.2).bind fun q => match p.1, q.1 with
    | .int i, .int j => .ok ((i, j), q.2)
    | _, _ => .bad
theorem y_dR2 (a b : DV) (ρ : Env) : dR2 a b ρ = (a ρ).bind (kR2 b) := by rfl
theorem z_kR2 (b : DV) (i : Int) (ρ : Env) : kR2 b (.int i, ρ) = (b ρ).bind (kR3 i) := by
  unfold kR2
  congr 1
  funext q
  obtain ⟨x, r⟩ := q
  cases x <;> rfl
theorem z_kR3 (i j : Int) (ρ : Env) : kR3 i (.int j, ρ) = .ok ((i, j), ρ) := by rfl
def kLR (p : (Int × Int) × Env) : Out (Sl × Env) := if rgOk p.1.1 p.1.2 then .ok (.own ((rangeI p.1.1 p.1.2).map .int), p.2) else .bad
theorem y_dLR (d : DR) (ρ : Env) : dLR d ρ = (d ρ).bind kLR := by rfl
theorem z_kLR (a b : Int) (ρ : Env) : kLR ((a, b), ρ) = if rgOk a b then .ok (.own ((rangeI a b).map .int), ρ) else .bad := by rfl
def kIsi2 (T : String) (o : Option Val) (ρ : Env) : Out (Val × Env) := Out.of (o.bind fun x => (isiV T x).map fun z => (z, ρ))
def kIsi (T : String) (p : Hd × Env) : Out (Val × Env) := Out.of ((deref p.2 p.1).bind fun x => (isiV T x).map fun z => (z, p.2))
theorem y_dIsi (T : String) (d : DH) (ρ : Env) : dIsi T d ρ = (d ρ).bind (kIsi T) := by rfl
theorem z_kIsi (T : String) (h : Hd) (ρ : Env) : kIsi T (h, ρ) = kIsi2 T (deref ρ h) ρ := by rfl
theorem z_kIsi2 (T : String) (x : Val) (ρ : Env) : kIsi2 T (some x) ρ = wE (isiV T x) ρ := by rfl
/-! calls -/
def kC0c (ρ : Env) (r : Sl × Sl) : Out (Sl × Env) := if notNo r.1 = true then .ok (r.1, ρ) else .bad
def kC0b (e : FnE) (o : Option (List Val × Env)) : Out (Sl × Env) := match o with
    | some q => if q.1.length = e.np then (e.sem (q.1.map .fz)).bind (kC0c q.2) else .bad
    | none => .bad
def kC0 (e : FnE) (p : List Hd × Env) : Out (Sl × Env) := kC0b e (takes p.2 p.1)
theorem y_call0 (e : FnE) (d : DA) (ρ : Env) : callD0 e d ρ = (d ρ).bind (kC0 e) := by rfl
theorem z_kC0 (e : FnE) (hs : List Hd) (ρ : Env) : kC0 e (hs, ρ) = kC0b e (takes ρ hs) := by rfl
theorem z_kC0b (e : FnE) (xs : List Val) (ρ : Env) : kC0b e (some (xs, ρ)) = if xs.length = e.np then (e.sem (xs.map .fz)).bind (kC0c ρ) else .bad := by rfl
theorem z_kC0c (ρ : Env) (s s' : Sl) : kC0c ρ (s, s') = if notNo s = true then .ok (s, ρ) else .bad := by rfl
def kD7 (i : Nat) (ρ : Env) (r : Sl) (o : Option Sl) : Out (Sl × Env) := match o with
    | some sR => if notNo r = true then .ok (r, ρ.set i sR) else .bad
    | none => .bad
def kD6 (i : Nat) (ρ : Env) (s0 : Sl) (r : Sl × Sl) : Out (Sl × Env) := kD7 i ρ r.1 (parBack s0 r.2)
def kD5 (e : FnE) (k i : Nat) (xs : List Val) (ρ : Env) (s0 : Sl) (o : Option Sl) : Out (Sl × Env) := match o with
    | some p0 => if xs.length = e.np then (e.sem ((xs.map .fz).set k p0)).bind (kD6 i ρ s0) else .bad
    | none => .bad
def kD4 (e : FnE) (k i : Nat) (xs : List Val) (ρ : Env) (o : Option Sl) : Out (Sl × Env) := match o with
    | some s0 => kD5 e k i xs ρ s0 (parIn s0)
    | none => .bad
def kD3 (e : FnE) (k i : Nat) (o : Option (List Val × Env)) : Out (Sl × Env) := match o with
    | some q => kD4 e k i q.1 q.2 q.2[i]?
    | none => .bad
def kD2 (e : FnE) (k : Nat) (hs : List Hd) (ρ : Env) (o : Option Hd) : Out (Sl × Env) := match o with
    | some (.slot i) => kD3 e k i (takes ρ (hs.set k (.val .non)))
    | _ => .bad
def kD1 (e : FnE) (k : Nat) (p : List Hd × Env) : Out (Sl × Env) := kD2 e k p.1 p.2 p.1[k]?
theorem y_call1 (e : FnE) (k : Nat) (d : DA) (ρ : Env) : callD1 e k d ρ = (d ρ).bind (kD1 e k) := by
  unfold callD1
  congr 1
theorem z_kD1 (e : FnE) (k : Nat) (hs : List Hd) (ρ : Env) : kD1 e k (hs, ρ) = kD2 e k hs ρ hs[k]? := by rfl
theorem z_kD2 (e : FnE) (k i : Nat) (hs : List Hd) (ρ : Env) : kD2 e k hs ρ (some (.slot i)) = kD3 e k i (takes ρ (hs.set k (.val .non))) := by rfl
theorem z_kD3 (e : FnE) (k i : Nat) (xs : List Val) (ρ : Env) : kD3 e k i (some (xs, ρ)) = kD4 e k i xs ρ ρ[i]? := by rfl
theorem z_kD4 (e : FnE) (k i : Nat) (xs : List Val) (ρ : Env) (s0 : Sl) : kD4 e k i xs ρ (some s0) = kD5 e k i xs ρ s0 (parIn s0) := by rfl
theorem z_kD5 (e : FnE) (k i : Nat) (xs : List Val) (ρ : Env) (s0 p0 : Sl) : kD5 e k i xs ρ s0 (some p0) = if xs.length = e.np then (e.sem ((xs.map .fz).set k p0)).bind (kD6 i ρ s0) else .bad := by rfl
theorem z_kD6 (i : Nat) (ρ : Env) (s0 r s' : Sl) : kD6 i ρ s0 (r, s') = kD7 i ρ r (parBack s0 s') := by rfl
theorem z_kD7 (i : Nat) (ρ : Env) (r sR : Sl) : kD7 i ρ r (some sR) = if notNo r = true then .ok (r, ρ.set i sR) else .bad := by rfl
/-! changes -/
def kU6 (i : Nat) (ρ : Env) (s : Sl) (o : Option (Val × List Val)) : Out (Val × Env) := Out.of (o.map fun r => (r.1, ρ.set i (setL s r.2)))
def kU5 (g : List Val → List Val → Option (Val × List Val)) (i : Nat) (xs : List Val) (ρ : Env) (s : Sl) (o : Option (List Val)) : Out (Val × Env) := Out.of (o.bind fun ys => (g ys xs).map fun r => (r.1, ρ.set i (setL s r.2)))
def kU4 (g : List Val → List Val → Option (Val × List Val)) (i : Nat) (xs : List Val) (ρ : Env) (o : Option Sl) : Out (Val × Env) := Out.of (o.bind fun s => (lstOf s).bind fun ys => (g ys xs).map fun r => (r.1, ρ.set i (setL s r.2)))
def kU3 (g : List Val → List Val → Option (Val × List Val)) (i : Nat) (o : Option (List Val × Env)) : Out (Val × Env) := Out.of (o.bind fun q => (q.2[i]?).bind fun s => (lstOf s).bind fun ys => (g ys q.1).map fun r => (r.1, q.2.set i (setL s r.2)))
def kU2 (g : List Val → List Val → Option (Val × List Val)) (i : Nat) (p : List Hd × Env) : Out (Val × Env) := Out.of ((takes p.2 p.1).bind fun q => (q.2[i]?).bind fun s => (lstOf s).bind fun ys => (g ys q.1).map fun r => (r.1, q.2.set i (setL s r.2)))
def kU1 (g : List Val → List Val → Option (Val × List Val)) (i : Nat) (d : DA) (ρ : Env) (o : Option (List Val)) : Out (Val × Env) := match o with
    | some _ => (d ρ).bind (kU2 g i)
    | none => .bad
def lstO : Option Sl → Option (List Val)
  | some s => lstOf s
  | none => none
theorem y_dU (g : List Val → List Val → Option (Val × List Val)) (i : Nat) (d : DA) (ρ : Env) : dU g i d ρ = kU1 g i d ρ (lstO ρ[i]?) := by
  unfold dU kU1
  cases ρ[i]? with
  | none => rfl
  | some s => show (match lstOf s with | some _ => _ | none => _) = (match lstOf s with | some _ => _ | none => _); cases lstOf s <;> rfl
theorem z_lstO (s : Sl) : lstO (some s) = lstOf s := by rfl
theorem z_kU1 (g : List Val → List Val → Option (Val × List Val)) (i : Nat) (d : DA) (ρ : Env) (ys : List Val) : kU1 g i d ρ (some ys) = (d ρ).bind (kU2 g i) := by rfl
theorem z_kU2 (g : List Val → List Val → Option (Val × List Val)) (i : Nat) (hs : List Hd) (ρ : Env) : kU2 g i (hs, ρ) = kU3 g i (takes ρ hs) := by rfl
theorem z_kU3 (g : List Val → List Val → Option (Val × List Val)) (i : Nat) (xs : List Val) (ρ : Env) : kU3 g i (some (xs, ρ)) = kU4 g i xs ρ ρ[i]? := by rfl
theorem z_kU4 (g : List Val → List Val → Option (Val × List Val)) (i : Nat) (xs : List Val) (ρ : Env) (s : Sl) : kU4 g i xs ρ (some s) = kU5 g i xs ρ s (lstOf s) := by rfl
theorem z_kU5 (g : List Val → List Val → Option (Val × List Val)) (i : Nat) (xs : List Val) (ρ : Env) (s : Sl) (ys : List Val) : kU5 g i xs ρ s (some ys) = kU6 i ρ s (g ys xs) := by rfl
theorem z_kU6 (i : Nat) (ρ : Env) (s : Sl) (z : Val) (ys : List Val) : kU6 i ρ s (some (z, ys)) = .ok (z, ρ.set i (setL s ys)) := by rfl
/-! statements -/
theorem y_sSeq (a b : DS) (ρ : Env) : sSeq a b ρ = Fl.thn (a ρ) b := by
  unfold sSeq Fl.thn
  cases a ρ <;> rfl
theorem th_bad (f : Env → Fl) : Fl.thn .bad f = .bad := by rfl
def kSIf (a b : DS) (p : Bool × Env) : Fl := if p.1 = true then a p.2 else b p.2
theorem y_sIf (c : DT) (a b : DS) (ρ : Env) : sIf c a b ρ = (c ρ).fl (kSIf a b) := by
  unfold sIf Out.fl kSIf
  rcases c ρ with ⟨⟨k, r⟩⟩ | _ | _
  · cases k <;> rfl
  · rfl
  · rfl
theorem z_kSIf (a b : DS) (k : Bool) (ρ : Env) : kSIf a b (k, ρ) = if k = true then a ρ else b ρ := by rfl
def kDrop (p : Sl × Env) : Fl := .nx p.2
def kRet (p : Sl × Env) : Fl := .rt p.1 p.2
def kSet (i : Nat) (p : Sl × Env) : Fl := asg i p.1 p.2
theorem y_sDrop (d : DO) (ρ : Env) : sDrop d ρ = (d ρ).fl kDrop := by unfold sDrop Out.fl kDrop; cases d ρ <;> rfl
theorem y_sRet (d : DO) (ρ : Env) : sRet d ρ = (d ρ).fl kRet := by unfold sRet Out.fl kRet; cases d ρ <;> rfl
theorem y_sSet (i : Nat) (d : DO) (ρ : Env) : sSet i d ρ = (d ρ).fl (kSet i) := by unfold sSet Out.fl kSet; cases d ρ <;> rfl
theorem z_kDrop (s : Sl) (ρ : Env) : kDrop (s, ρ) = .nx ρ := by rfl
theorem z_kRet (s : Sl) (ρ : Env) : kRet (s, ρ) = .rt s ρ := by rfl
theorem z_kSet (i : Nat) (s : Sl) (ρ : Env) : kSet i (s, ρ) = if i < ρ.length then .nx (ρ.set i s) else .bad := by rfl
def kAsg2 : Option Env → Fl
  | some ρ => .nx ρ
  | none => .bad
def kAsg (g : DG) (p : Val × Env) : Fl := kAsg2 (g p.1 p.2)
theorem y_sAsg (d : DV) (g : DG) (ρ : Env) : sAsg d g ρ = (d ρ).fl (kAsg g) := by
  unfold sAsg Out.fl kAsg
  rcases d ρ with ⟨⟨x, r⟩⟩ | _ | _
  · show (match g x r with | some ρ2 => _ | none => _) = kAsg2 (g x r)
    cases g x r <;> rfl
  · rfl
  · rfl
theorem z_kAsg (g : DG) (x : Val) (ρ : Env) : kAsg g (x, ρ) = kAsg2 (g x ρ) := by rfl
theorem z_kAsg2 (ρ : Env) : kAsg2 (some ρ) = .nx ρ := by rfl
def gK (gs : DGs) (xs : List Val) (o : Option Env) : Option Env := o.bind fun ρ => gs xs ρ
theorem y_gC (g : DG) (gs : DGs) (x : Val) (xs : List Val) (ρ : Env) : gC g gs (x :: xs) ρ = gK gs xs (g x ρ) := by rfl
theorem z_gK (gs : DGs) (xs : List Val) (ρ : Env) : gK gs xs (some ρ) = gs xs ρ := by rfl
theorem y_gN (ρ : Env) : gN [] ρ = some ρ := by rfl
def gT (n : Nat) (gs : DGs) (o : Option (List Val)) (ρ : Env) : Option Env := o.bind fun xs => if xs.length = n then gs xs ρ else none
theorem y_gTp (n : Nat) (gs : DGs) (x : Val) (ρ : Env) : gTp n gs x ρ = gT n gs (tupOf x) ρ := by rfl
theorem z_gT (n : Nat) (gs : DGs) (xs : List Val) (ρ : Env) : gT n gs (some xs) ρ = if xs.length = n then gs xs ρ else none := by rfl
theorem y_gNm (i : Nat) (x : Val) (ρ : Env) : gNm i x ρ = if i < ρ.length then some (ρ.set i (.fz x)) else none := by rfl
def Opt.k {α : Type} (o : Option α) (f : α → Fl) : Fl := match o with
  | some a => f a
  | none => .bad
theorem z_ok {α : Type} (a : α) (f : α → Fl) : Opt.k (some a) f = f a := by rfl
def kPut6 (i : Nat) (ρ : Env) (s : Sl) (ys : List Val) : Fl := .nx (ρ.set i (setL s ys))
def kPut5 (i : Nat) (x k : Val) (ρ : Env) (s : Sl) (ys : List Val) : Fl := Opt.k (putV ys k x) (kPut6 i ρ s)
def kPut4 (i : Nat) (x k : Val) (ρ : Env) (s : Sl) : Fl := Opt.k (lstOf s) (kPut5 i x k ρ s)
def kPut3 (i : Nat) (x : Val) (q : Val × Env) : Fl := Opt.k (q.2[i]?) (kPut4 i x q.1 q.2)
def kPut2 (i : Nat) (di : DV) (x : Val) (ρ : Env) (ys : List Val) : Fl := (di ρ).fl (kPut3 i x)
def kPut (i : Nat) (di : DV) (p : Val × Env) : Fl := Opt.k (lstO p.2[i]?) (kPut2 i di p.1 p.2)
theorem y_sPut (i : Nat) (di dv : DV) (ρ : Env) : sPut i di dv ρ = (dv ρ).fl (kPut i di) := by
  unfold sPut Out.fl kPut
  rcases dv ρ with ⟨⟨x, r⟩⟩ | _ | _
  · simp only
    have e : (r[i]?).bind lstOf = lstO r[i]? := by cases r[i]? <;> rfl
    rw [e]
    cases lstO r[i]? with
    | none => rfl
    | some ys =>
      show _ = (di r).fl (kPut3 i x)
      unfold Out.fl
      rcases di r with ⟨⟨k, r2⟩⟩ | _ | _
      · simp only
        show _ = Opt.k (r2[i]?) (kPut4 i x k r2)
        cases r2[i]? with
        | none => rfl
        | some s =>
          show _ = Opt.k (lstOf s) (kPut5 i x k r2 s)
          simp only
          cases lstOf s with
          | none => rfl
          | some ys =>
            show _ = Opt.k (putV ys k x) (kPut6 i r2 s)
            simp only [Option.bind_some]
            cases putV ys k x <;> rfl
      · rfl
      · rfl
  · rfl
  · rfl
theorem z_kPut (i : Nat) (di : DV) (x : Val) (ρ : Env) : kPut i di (x, ρ) = Opt.k (lstO ρ[i]?) (kPut2 i di x ρ) := by rfl
theorem z_kPut2 (i : Nat) (di : DV) (x : Val) (ρ : Env) (ys : List Val) : kPut2 i di x ρ ys = (di ρ).fl (kPut3 i x) := by rfl
theorem z_kPut3 (i : Nat) (x k : Val) (ρ : Env) : kPut3 i x (k, ρ) = Opt.k (ρ[i]?) (kPut4 i x k ρ) := by rfl
theorem z_kPut4 (i : Nat) (x k : Val) (ρ : Env) (s : Sl) : kPut4 i x k ρ s = Opt.k (lstOf s) (kPut5 i x k ρ s) := by rfl
theorem z_kPut5 (i : Nat) (x k : Val) (ρ : Env) (s : Sl) (ys : List Val) : kPut5 i x k ρ s ys = Opt.k (putV ys k x) (kPut6 i ρ s) := by rfl
theorem z_kPut6 (i : Nat) (ρ : Env) (s : Sl) (ys : List Val) : kPut6 i ρ s ys = .nx (ρ.set i (setL s ys)) := by rfl
def kPar2 (i j : Nat) (q : List Val × Env) : Fl := match q.1 with
    | [x, y] => if i < q.2.length ∧ j < q.2.length then .nx ((q.2.set i (.fz x)).set j (.fz y)) else .bad
    | _ => .bad
def kPar (i j : Nat) (p : List Hd × Env) : Fl := Opt.k (takes p.2 p.1) (kPar2 i j)
theorem y_sPar (i j : Nat) (d : DA) (ρ : Env) : sPar i j d ρ = (d ρ).fl (kPar i j) := by
  unfold sPar Out.fl kPar
  rcases d ρ with ⟨⟨hs, r⟩⟩ | _ | _
  · simp only
    cases takes r hs with
    | none => rfl
    | some q =>
      obtain ⟨xs, r2⟩ := q
      rcases xs with _ | ⟨x, _ | ⟨y, _ | ⟨z, t⟩⟩⟩ <;> rfl
  · rfl
  · rfl
theorem z_kPar (i j : Nat) (hs : List Hd) (ρ : Env) : kPar i j (hs, ρ) = Opt.k (takes ρ hs) (kPar2 i j) := by rfl
theorem z_kPar2 (i j : Nat) (x y : Val) (ρ : Env) : kPar2 i j ([x, y], ρ) = if i < ρ.length ∧ j < ρ.length then .nx ((ρ.set i (.fz x)).set j (.fz y)) else .bad := by rfl
/-! loops -/
def kFor (g : DG) (b : DS) (p : List Val × Env) : Fl := forL g b p.1 p.2
theorem y_sFor (it : DI) (g : DG) (b : DS) (ρ : Env) : sFor it g b ρ = (it ρ).fl (kFor g b) := by
  unfold sFor Out.fl kFor
  cases it ρ <;> rfl
theorem z_kFor (g : DG) (b : DS) (xs : List Val) (ρ : Env) : kFor g b (xs, ρ) = forL g b xs ρ := by rfl
def kFV2 (i : Nat) (g : DG) (b : DS) (ρ : Env) (s : Sl) : Option (List Val) → Fl
  | some xs => unlk i s (forL g b xs (ρ.set i (.lck xs)))
  | none => sFor (dIt (dVH (dVar i))) g b ρ
def kFV (i : Nat) (g : DG) (b : DS) (ρ : Env) (s : Sl) : Fl := kFV2 i g b ρ s (lstOf s)
theorem y_sForV (i : Nat) (g : DG) (b : DS) (ρ : Env) : sForV i g b ρ = Opt.k (ρ[i]?) (kFV i g b ρ) := by
  unfold sForV Opt.k kFV kFV2
  cases ρ[i]? with
  | none => rfl
  | some s => first | (simp only; done) | (simp only; cases lstOf s <;> rfl)
theorem z_kFV (i : Nat) (g : DG) (b : DS) (ρ : Env) (s : Sl) : kFV i g b ρ s = kFV2 i g b ρ s (lstOf s) := by rfl
theorem z_kFV2s (i : Nat) (g : DG) (b : DS) (ρ : Env) (s : Sl) (xs : List Val) : kFV2 i g b ρ s (some xs) = unlk i s (forL g b xs (ρ.set i (.lck xs))) := by rfl
theorem z_kFV2n (i : Nat) (g : DG) (b : DS) (ρ : Env) (s : Sl) : kFV2 i g b ρ s none = sFor (dIt (dVH (dVar i))) g b ρ := by rfl
theorem y_sSkip (ρ : Env) : sSkip ρ = .nx ρ := by rfl
theorem y_sBreak (ρ : Env) : sBreak ρ = .bk ρ := by rfl
theorem y_sCont (ρ : Env) : sCont ρ = .ct ρ := by rfl
/-! the end of a def -/
def kFl2 (s : Sl) (o : Option Sl) : Out (Sl × Sl) := match o with
    | some t => if notNo s then .ok (s, t) else .bad
    | none => .bad
theorem y_fRt (np : Nat) (rf : Option Nat) (s : Sl) (ρ : Env) : flRes np rf (.rt s ρ) = kFl2 s (parOf np rf ρ) := by rfl
theorem z_kFl2 (s t : Sl) : kFl2 s (some t) = if notNo s then .ok (s, t) else .bad := by rfl
def kFl3 (o : Option Sl) : Out (Sl × Sl) := match o with
    | some t => .ok (.fz .non, t)
    | none => .bad
theorem y_fNx (np : Nat) (rf : Option Nat) (ρ : Env) : flRes np rf (.nx ρ) = kFl3 (parOf np rf ρ) := by rfl
theorem z_kFl3 (t : Sl) : kFl3 (some t) = .ok (.fz .non, t) := by rfl
/-- sizes -/
theorem szk {n : Nat} (h : n ≤ 1000000) : (n ≤ sizeLine) = True := eq_true (Nat.le_trans h (by decide))
theorem rok {i : Int} (h : -(2 ^ 62) ≤ i ∧ i < 2 ^ 62) : rOk i = true := decide_eq_true h
/-- what holds behind a flow that goes on -/
def Fl.go (f : Fl) (P : Env → Prop) : Prop := ∃ ρ, f = .nx ρ ∧ P ρ
theorem go_nx {ρ : Env} {P : Env → Prop} (h : P ρ) : Fl.go (.nx ρ) P := ⟨ρ, rfl, h⟩
theorem go_thn {f : Fl} {g : Env → Fl} {P Q : Env → Prop} (h : Fl.go f P) (k : ∀ ρ, P ρ → Fl.go (g ρ) Q) : Fl.go (Fl.thn f g) Q := by
  obtain ⟨ρ, rfl, h⟩ := h
  exact k ρ h
/-- a for with one name: what holds of the environment from turn to turn -/
theorem forL_nm {α : Type} {i : Nat} {b : DS} (enc : α → Val) (xs : List α) (I : List α → Env → Prop) {ρ : Env} (h0 : I [] ρ)
    (st : ∀ pre a post ρ, xs = pre ++ a :: post → I pre ρ → i < ρ.length ∧ ∃ ρ2, (b (ρ.set i (.fz (enc a))) = .nx ρ2 ∨ b (ρ.set i (.fz (enc a))) = .ct ρ2) ∧ I (pre ++ [a]) ρ2) : ∃ ρ', forL (gNm i) b (xs.map enc) ρ = .nx ρ' ∧ I xs ρ' :=
  forL_all enc xs I h0 fun pre a post ρ e h => by
    obtain ⟨hi, ρ2, h1, h2⟩ := st pre a post ρ e h
    exact ⟨_, ρ2, by rw [y_gNm, if_pos hi], h1, h2⟩
/-- the same, where the turn's number does not matter -/
theorem forL_nm0 {α : Type} {i : Nat} {b : DS} (enc : α → Val) (xs : List α) (I : Env → Prop) {ρ : Env} (h0 : I ρ)
    (st : ∀ a ρ, a ∈ xs → I ρ → i < ρ.length ∧ ∃ ρ2, (b (ρ.set i (.fz (enc a))) = .nx ρ2 ∨ b (ρ.set i (.fz (enc a))) = .ct ρ2) ∧ I ρ2) : ∃ ρ', forL (gNm i) b (xs.map enc) ρ = .nx ρ' ∧ I ρ' :=
  forL_nm enc xs (fun _ ρ => I ρ) h0 fun pre a post ρ e h => st a ρ (by rw [e]; simp) h
/-! comprehensions with one name, whose parts leave the environment -/
theorem set_set {α : Type} (l : List α) (i : Nat) (a b : α) : (l.set i a).set i b = l.set i b := List.set_set ..
theorem lcL_nm {α : Type} {i : Nat} {t : DT} {e : DV} (enc : α → Val) (p : α → Bool) (f : α → Val) (ρ : Env) (xs : List α) (hi : i < ρ.length)
    (h : ∀ a ∈ xs, t (ρ.set i (.fz (enc a))) = .ok (p a, ρ.set i (.fz (enc a))) ∧ (p a = true → e (ρ.set i (.fz (enc a))) = .ok (f a, ρ.set i (.fz (enc a))))) :
    lcL (gNm i) t e [i] (xs.map enc) (ρ.set i .no) = some ((xs.filter p).map f, ρ.set i .no) :=
  lcL_map enc p f (ρ.set i .no) xs fun a ha => by
    obtain ⟨h1, h2⟩ := h a ha
    refine ⟨ρ.set i (.fz (enc a)), ρ.set i (.fz (enc a)), by rw [y_gNm, if_pos (by simpa using hi), set_set], h1, ?_⟩
    cases hp : p a with
    | true => rw [if_pos rfl]; exact ⟨_, h2 hp, by simp [wipeE]⟩
    | false => rw [if_neg (by simp)]; simp [wipeE]
theorem dLc_nm {α : Type} {it : DI} {i : Nat} {t : DT} {e : DV} (enc : α → Val) (p : α → Bool) (f : α → Val) {ρ : Env} {xs : List α} (hit : it ρ = .ok (xs.map enc, ρ)) (hl : xs.length ≤ 1000000) (hi : i < ρ.length)
    (h : ∀ a ∈ xs, t (ρ.set i (.fz (enc a))) = .ok (p a, ρ.set i (.fz (enc a))) ∧ (p a = true → e (ρ.set i (.fz (enc a))) = .ok (f a, ρ.set i (.fz (enc a))))) :
    dLc it (gNm i) t e [i] ρ = .ok (.own ((xs.filter p).map f), ρ.set i (keepFz ρ[i]?)) := by
  rw [lc_eq hit (by rw [List.length_map]; exact Nat.le_trans hl (by decide)) (lcL_nm enc p f ρ xs hi h)]
  simp [rest]
/-- .. and without a test -/
theorem dLc_nm1 {α : Type} {it : DI} {i : Nat} {e : DV} (enc : α → Val) (f : α → Val) {ρ : Env} {xs : List α} (hit : it ρ = .ok (xs.map enc, ρ)) (hl : xs.length ≤ 1000000) (hi : i < ρ.length)
    (h : ∀ a ∈ xs, e (ρ.set i (.fz (enc a))) = .ok (f a, ρ.set i (.fz (enc a)))) :
    dLc it (gNm i) tYesD e [i] ρ = .ok (.own (xs.map f), ρ.set i (keepFz ρ[i]?)) := by
  have := dLc_nm (t := tYesD) enc (fun _ => true) f hit hl hi fun a ha => ⟨rfl, fun _ => h a ha⟩
  rw [List.filter_eq_self.mpr (fun _ _ => rfl)] at this
  exact this
theorem z_kpN : keepFz (some .no) = .no := by rfl
theorem z_kpF (x : Val) : keepFz (some (.fz x)) = .fz x := by rfl
end Ev

/-! Ev: the words of the evaluation, marked for simp. -/
namespace Ev
open PySem PySem.Spec PyProof.Rows L2
@[simp] theorem t_ob_exc {α β : Type} (a : Val) (f : α → Out β) : Out.bind (.exc a) f = .exc a := ob_exc ..
@[simp] theorem t_ob_bad {α β : Type} (f : α → Out β) : Out.bind .bad f = .bad := ob_bad ..
@[simp] theorem t_of_bad {α : Type} (f : α → Fl) : Out.fl .bad f = .bad := of_bad ..
@[simp] theorem t_z_wE {α : Type} (a : α) (ρ : Env) : wE (some a) ρ = .ok (a, ρ) := z_wE ..
@[simp] theorem t_z_deS (ρ : Env) (i : Nat) : deref ρ (.slot i) = drK ρ[i]? := z_deS ..
@[simp] theorem t_z_drK (s : Sl) : drK (some s) = s.view := z_drK ..
@[simp] theorem t_z_dsC (ρ : Env) (h : Hd) (hs : List Hd) : derefs ρ (h :: hs) = consO (deref ρ h) (derefs ρ hs) := z_dsC ..
@[simp] theorem t_z_consO (x : Val) (xs : List Val) : consO (some x) (some xs) = some (x :: xs) := z_consO ..
@[simp] theorem t_z_tvS (ρ : Env) (i : Nat) : takeV (.slot i) ρ = tkK i ρ ρ[i]? := z_tvS ..
@[simp] theorem t_z_tkK (i : Nat) (ρ : Env) (s : Sl) : tkK i ρ (some s) = tkK2 i ρ (frOf s) := z_tkK ..
@[simp] theorem t_z_tkK2 (i : Nat) (ρ : Env) (x : Val) : tkK2 i ρ (some x) = some (x, ρ.set i (.fz x)) := z_tkK2 ..
@[simp] theorem t_z_tsC (ρ : Env) (h : Hd) (hs : List Hd) : takes ρ (h :: hs) = tkC hs (takeV h ρ) := z_tsC ..
@[simp] theorem t_z_tkC (hs : List Hd) (x : Val) (ρ : Env) : tkC hs (some (x, ρ)) = tkD x (takes ρ hs) := z_tkC ..
@[simp] theorem t_z_tkD (x : Val) (xs : List Val) (ρ : Env) : tkD x (some (xs, ρ)) = some (x :: xs, ρ) := z_tkD ..
@[simp] theorem t_y_dHV (d : DV) (ρ : Env) : dHV d ρ = (d ρ).bind kHV := y_dHV ..
@[simp] theorem t_z_kHV (x : Val) (ρ : Env) : kHV (x, ρ) = .ok (.val x, ρ) := z_kHV ..
@[simp] theorem t_y_dVar (i : Nat) (ρ : Env) : dVar i ρ = kVar i ρ ρ[i]? := y_dVar ..
@[simp] theorem t_z_vFz (i : Nat) (ρ : Env) (x : Val) : kVar i ρ (some (.fz x)) = .ok (.val x, ρ) := z_vFz ..
@[simp] theorem t_z_vOwn (i : Nat) (ρ : Env) (x : List Val) : kVar i ρ (some (.own x)) = .ok (.slot i, ρ) := z_vOwn ..
@[simp] theorem t_z_vPar (i : Nat) (ρ : Env) (x : List Val) : kVar i ρ (some (.par x)) = .ok (.slot i, ρ) := z_vPar ..
@[simp] theorem t_z_vOdK (i : Nat) (ρ : Env) (x : List (Key × Val)) : kVar i ρ (some (.odK x)) = .ok (.slot i, ρ) := z_vOdK ..
@[simp] theorem t_z_vOdT (i : Nat) (ρ : Env) (x : List (List Key × Val)) : kVar i ρ (some (.odT x)) = .ok (.slot i, ρ) := z_vOdT ..
@[simp] theorem t_z_vLck (i : Nat) (ρ : Env) (x : List Val) : kVar i ρ (some (.lck x)) = .ok (.slot i, ρ) := z_vLck ..
@[simp] theorem t_z_vBox (i : Nat) (ρ : Env) (c : List Int) (d s : Int) : kVar i ρ (some (.box c d s)) = .ok (.slot i, ρ) := z_vBox ..
@[simp] theorem t_z_vPbx (i : Nat) (ρ : Env) (c : List Int) (d s : Int) : kVar i ρ (some (.pbox c d s)) = .ok (.slot i, ρ) := z_vPbx ..
@[simp] theorem t_z_vOw2 (i : Nat) (ρ : Env) (x : List (List Val)) : kVar i ρ (some (.own2 x)) = .ok (.slot i, ρ) := z_vOw2 ..
@[simp] theorem t_y_dC (x : Val) (ρ : Env) : dC x ρ = .ok (x, ρ) := y_dC ..
@[simp] theorem t_y_dVH (d : DH) (ρ : Env) : dVH d ρ = (d ρ).bind kVH := y_dVH ..
@[simp] theorem t_z_kVH (h : Hd) (ρ : Env) : kVH (h, ρ) = Out.of (takeV h ρ) := z_kVH ..
@[simp] theorem t_y_dIt (d : DV) (ρ : Env) : dIt d ρ = (d ρ).bind kIt := y_dIt ..
@[simp] theorem t_z_kIt (x : Val) (ρ : Env) : kIt (x, ρ) = wE (goesV x) ρ := z_kIt ..
@[simp] theorem t_y_dRg (d : DR) (ρ : Env) : dRg d ρ = (d ρ).bind kRg := y_dRg ..
@[simp] theorem t_z_kRg (a b : Int) (ρ : Env) : kRg ((a, b), ρ) = if rOk a && rOk b then .ok ((rangeI a b).map .int, ρ) else .bad := z_kRg ..
@[simp] theorem t_y_tYes (ρ : Env) : tYesD ρ = .ok (true, ρ) := y_tYes ..
@[simp] theorem t_y_d2 (g : Val → Val → Option Val) (da db : DH) (ρ : Env) : d2 g da db ρ = (da ρ).bind (k2a g db) := y_d2 ..
@[simp] theorem t_z_k2a (g : Val → Val → Option Val) (db : DH) (h : Hd) (ρ : Env) : k2a g db (h, ρ) = (db ρ).bind (k2b g h) := z_k2a ..
@[simp] theorem t_z_k2b (g : Val → Val → Option Val) (h h' : Hd) (ρ : Env) : k2b g h (h', ρ) = k2c g (deref ρ h) (deref ρ h') ρ := z_k2b ..
@[simp] theorem t_z_k2c (g : Val → Val → Option Val) (x y : Val) (ρ : Env) : k2c g (some x) (some y) ρ = wE (g x y) ρ := z_k2c ..
@[simp] theorem t_y_aNil (ρ : Env) : aNil ρ = .ok ([], ρ) := y_aNil ..
@[simp] theorem t_y_aCons (d : DH) (ds : DA) (ρ : Env) : aCons d ds ρ = (d ρ).bind (kA ds) := y_aCons ..
@[simp] theorem t_z_kA (ds : DA) (h : Hd) (ρ : Env) : kA ds (h, ρ) = (ds ρ).bind (kA2 h) := z_kA ..
@[simp] theorem t_z_kA2 (h : Hd) (hs : List Hd) (ρ : Env) : kA2 h (hs, ρ) = .ok (h :: hs, ρ) := z_kA2 ..
@[simp] theorem t_y_dN (g : List Val → Option Val) (d : DA) (ρ : Env) : dN g d ρ = (d ρ).bind (kN g) := y_dN ..
@[simp] theorem t_z_kN (g : List Val → Option Val) (hs : List Hd) (ρ : Env) : kN g (hs, ρ) = kN2 g (derefs ρ hs) ρ := z_kN ..
@[simp] theorem t_z_kN2 (g : List Val → Option Val) (xs : List Val) (ρ : Env) : kN2 g (some xs) ρ = wE (g xs) ρ := z_kN2 ..
@[simp] theorem t_y_pNone (ρ : Env) : pNone ρ = .ok (none, ρ) := y_pNone ..
@[simp] theorem t_y_pSome (d : DV) (ρ : Env) : pSome d ρ = (d ρ).bind kPS := y_pSome ..
@[simp] theorem t_z_kPS (i : Int) (ρ : Env) : kPS (.int i, ρ) = .ok (some i, ρ) := z_kPS ..
@[simp] theorem t_y_dSl (da : DH) (dl dh : DP) (ρ : Env) : dSl da dl dh ρ = (da ρ).bind (kSl dl dh) := y_dSl ..
@[simp] theorem t_z_kSl (dl dh : DP) (h : Hd) (ρ : Env) : kSl dl dh (h, ρ) = (dl ρ).bind (kSl2 dh h) := z_kSl ..
@[simp] theorem t_z_kSl2 (dh : DP) (h : Hd) (l : Option Int) (ρ : Env) : kSl2 dh h (l, ρ) = (dh ρ).bind (kSl3 h l) := z_kSl2 ..
@[simp] theorem t_z_kSl3 (h : Hd) (l u : Option Int) (ρ : Env) : kSl3 h l (u, ρ) = kSl4 (deref ρ h) l u ρ := z_kSl3 ..
@[simp] theorem t_z_kSl4 (x : Val) (l u : Option Int) (ρ : Env) : kSl4 (some x) l u ρ = wE (slV x l u) ρ := z_kSl4 ..
@[simp] theorem t_y_dBk (da : DH) (dl dh : DP) (ρ : Env) : dBk da dl dh ρ = (da ρ).bind (kBk dl dh) := y_dBk ..
@[simp] theorem t_z_kBk (dl dh : DP) (h : Hd) (ρ : Env) : kBk dl dh (h, ρ) = (dl ρ).bind (kBk2 dh h) := z_kBk ..
@[simp] theorem t_z_kBk2 (dh : DP) (h : Hd) (l : Option Int) (ρ : Env) : kBk2 dh h (l, ρ) = (dh ρ).bind (kBk3 h l) := z_kBk2 ..
@[simp] theorem t_z_kBk3 (h : Hd) (l u : Option Int) (ρ : Env) : kBk3 h l (u, ρ) = kBk4 (deref ρ h) l u ρ := z_kBk3 ..
@[simp] theorem t_z_kBk4 (x : Val) (l u : Option Int) (ρ : Env) : kBk4 (some x) l u ρ = wE (backV x l u) ρ := z_kBk4 ..
@[simp] theorem t_y_dTup (d : DA) (ρ : Env) : dTup d ρ = (d ρ).bind kT := y_dTup ..
@[simp] theorem t_z_kT (hs : List Hd) (ρ : Env) : kT (hs, ρ) = kT2 (takes ρ hs) := z_kT ..
@[simp] theorem t_z_kT2 (xs : List Val) (ρ : Env) : kT2 (some (xs, ρ)) = if xs.length ≤ sizeLine then .ok (.tup xs, ρ) else .bad := z_kT2 ..
@[simp] theorem t_y_dOV (d : DV) (ρ : Env) : dOV d ρ = (d ρ).bind kOV := y_dOV ..
@[simp] theorem t_z_kOV (x : Val) (ρ : Env) : kOV (x, ρ) = .ok (.fz x, ρ) := z_kOV ..
@[simp] theorem t_y_dVO (d : DO) (ρ : Env) : dVO d ρ = (d ρ).bind kVO := y_dVO ..
@[simp] theorem t_z_kVO (s : Sl) (ρ : Env) : kVO (s, ρ) = wE (frOf s) ρ := z_kVO ..
@[simp] theorem t_y_dLst (d : DA) (ρ : Env) : dLst d ρ = (d ρ).bind kLst := y_dLst ..
@[simp] theorem t_z_kLst (hs : List Hd) (ρ : Env) : kLst (hs, ρ) = kLst2 (takes ρ hs) := z_kLst ..
@[simp] theorem t_z_kLst2 (xs : List Val) (ρ : Env) : kLst2 (some (xs, ρ)) = if xs.length ≤ sizeLine then .ok (.own xs, ρ) else .bad := z_kLst2 ..
@[simp] theorem t_y_tOf (d : DH) (ρ : Env) : tOf d ρ = (d ρ).bind kTO := y_tOf ..
@[simp] theorem t_z_kTO (h : Hd) (ρ : Env) : kTO (h, ρ) = kTO2 (deref ρ h) ρ := z_kTO ..
@[simp] theorem t_z_kTO2 (x : Val) (ρ : Env) : kTO2 (some x) ρ = wE (truth x) ρ := z_kTO2 ..
@[simp] theorem t_y_tBl (d : DV) (ρ : Env) : tBl d ρ = (d ρ).bind kBl := y_tBl ..
@[simp] theorem t_z_kBl (b : Bool) (ρ : Env) : kBl (.bl b, ρ) = .ok (b, ρ) := z_kBl ..
@[simp] theorem t_y_dChain (g g' : Val → Val → Option Val) (da db dc : DH) (ρ : Env) : dChain g g' da db dc ρ = (da ρ).bind (kC1 g g' db dc) := y_dChain ..
@[simp] theorem t_z_kC1 (g g' : Val → Val → Option Val) (db dc : DH) (h : Hd) (ρ : Env) : kC1 g g' db dc (h, ρ) = (db ρ).bind (kC2 g g' dc h) := z_kC1 ..
@[simp] theorem t_z_kC2 (g g' : Val → Val → Option Val) (dc : DH) (h h2 : Hd) (ρ : Env) : kC2 g g' dc h (h2, ρ) = kC4 g' dc h2 (kC3 g (deref ρ h) (deref ρ h2)) ρ := z_kC2 ..
@[simp] theorem t_z_kC3 (g : Val → Val → Option Val) (x y : Val) : kC3 g (some x) (some y) = g x y := z_kC3 ..
@[simp] theorem t_z_kC4 (g' : Val → Val → Option Val) (dc : DH) (h2 : Hd) (b : Bool) (ρ : Env) : kC4 g' dc h2 (some (.bl b)) ρ = if b = true then (dc ρ).bind (kC5 g' h2) else .ok (.bl false, ρ) := z_kC4 ..
@[simp] theorem t_z_kC5 (g' : Val → Val → Option Val) (h2 h3 : Hd) (ρ : Env) : kC5 g' h2 (h3, ρ) = k2c g' (deref ρ h2) (deref ρ h3) ρ := z_kC5 ..
@[simp] theorem t_y_tAnd (a b : DT) (ρ : Env) : tAndD a b ρ = (a ρ).bind (kAnd b) := y_tAnd ..
@[simp] theorem t_y_tOr (a b : DT) (ρ : Env) : tOrD a b ρ = (a ρ).bind (kOr b) := y_tOr ..
@[simp] theorem t_y_tNot (a : DT) (ρ : Env) : tNotD a ρ = (a ρ).bind kNot := y_tNot ..
@[simp] theorem t_z_kAnd (b : DT) (c : Bool) (ρ : Env) : kAnd b (c, ρ) = if c = true then b ρ else .ok (false, ρ) := z_kAnd ..
@[simp] theorem t_z_kOr (b : DT) (c : Bool) (ρ : Env) : kOr b (c, ρ) = if c = true then .ok (true, ρ) else b ρ := z_kOr ..
@[simp] theorem t_z_kNot (c : Bool) (ρ : Env) : kNot (c, ρ) = .ok (!c, ρ) := z_kNot ..
@[simp] theorem t_i_and (c d : Bool) (ρ : Env) : (if c = true then Out.ok (d, ρ) else .ok (false, ρ)) = .ok (c && d, ρ) := i_and ..
@[simp] theorem t_i_or (c d : Bool) (ρ : Env) : (if c = true then Out.ok (true, ρ) else .ok (d, ρ)) = .ok (c || d, ρ) := i_or ..
@[simp] theorem t_i_vand (c d : Bool) (ρ : Env) : (if c = true then Out.ok (Val.bl d, ρ) else .ok (.bl false, ρ)) = .ok (.bl (c && d), ρ) := i_vand ..
@[simp] theorem t_i_vor (c d : Bool) (ρ : Env) : (if c = true then Out.ok (Val.bl true, ρ) else .ok (.bl d, ρ)) = .ok (.bl (c || d), ρ) := i_vor ..
@[simp] theorem t_y_vAnd (a b : DV) (ρ : Env) : vAnd a b ρ = (a ρ).bind (kvAnd b) := y_vAnd ..
@[simp] theorem t_y_vOr (a b : DV) (ρ : Env) : vOr a b ρ = (a ρ).bind (kvOr b) := y_vOr ..
@[simp] theorem t_z_kvAndB (b : DV) (c : Bool) (ρ : Env) : kvAnd b (.bl c, ρ) = if c = true then b ρ else .ok (.bl false, ρ) := z_kvAndB ..
@[simp] theorem t_z_kvOrB (b : DV) (c : Bool) (ρ : Env) : kvOr b (.bl c, ρ) = if c = true then .ok (.bl true, ρ) else b ρ := z_kvOrB ..
@[simp] theorem t_y_vNot (a : DH) (ρ : Env) : vNot a ρ = (a ρ).bind kvNot := y_vNot ..
@[simp] theorem t_z_kvNot (h : Hd) (ρ : Env) : kvNot (h, ρ) = kvNot2 (deref ρ h) ρ := z_kvNot ..
@[simp] theorem t_z_kvNot2 (x : Val) (ρ : Env) : kvNot2 (some x) ρ = kvNot3 (truth x) ρ := z_kvNot2 ..
@[simp] theorem t_z_kvNot3 (b : Bool) (ρ : Env) : kvNot3 (some b) ρ = .ok (.bl (!b), ρ) := z_kvNot3 ..
@[simp] theorem t_y_dIf (t : DT) (a b : DV) (ρ : Env) : dIf t a b ρ = (t ρ).bind (kIf a b) := y_dIf ..
@[simp] theorem t_z_kIf (a b : DV) (c : Bool) (ρ : Env) : kIf a b (c, ρ) = if c = true then a ρ else b ρ := z_kIf ..
@[simp] theorem t_y_dNeg (a : DV) (ρ : Env) : dNeg a ρ = (a ρ).bind kNeg := y_dNeg ..
@[simp] theorem t_z_kNeg (i : Int) (ρ : Env) : kNeg (.int i, ρ) = .ok (.int (-i), ρ) := z_kNeg ..
@[simp] theorem t_y_dIsN (d : DV) (ρ : Env) : dIsN d ρ = (d ρ).bind kIsN := y_dIsN ..
@[simp] theorem t_y_dNotN (d : DV) (ρ : Env) : dNotN d ρ = (d ρ).bind kNotN := y_dNotN ..
@[simp] theorem t_z_kIsN (x : Val) (ρ : Env) : kIsN (x, ρ) = .ok (.bl (isNone x), ρ) := z_kIsN ..
@[simp] theorem t_z_kNotN (x : Val) (ρ : Env) : kNotN (x, ρ) = .ok (.bl (!isNone x), ρ) := z_kNotN ..
@[simp] theorem t_y_dNo (g : List Val → Option (List Val)) (d : DA) (ρ : Env) : dNo g d ρ = (d ρ).bind (kNo g) := y_dNo ..
@[simp] theorem t_z_kNo (g : List Val → Option (List Val)) (hs : List Hd) (ρ : Env) : kNo g (hs, ρ) = kNo2 g (derefs ρ hs) ρ := z_kNo ..
@[simp] theorem t_z_kNo2 (g : List Val → Option (List Val)) (xs : List Val) (ρ : Env) : kNo2 g (some xs) ρ = kNo3 (g xs) ρ := z_kNo2 ..
@[simp] theorem t_z_kNo3 (ys : List Val) (ρ : Env) : kNo3 (some ys) ρ = .ok (.own ys, ρ) := z_kNo3 ..
@[simp] theorem t_y_dR1 (d : DV) (ρ : Env) : dR1 d ρ = (d ρ).bind kR1 := y_dR1 ..
@[simp] theorem t_z_kR1 (n : Int) (ρ : Env) : kR1 (.int n, ρ) = .ok ((0, n), ρ) := z_kR1 ..
@[simp] theorem t_y_dR2 (a b : DV) (ρ : Env) : dR2 a b ρ = (a ρ).bind (kR2 b) := y_dR2 ..
@[simp] theorem t_z_kR2 (b : DV) (i : Int) (ρ : Env) : kR2 b (.int i, ρ) = (b ρ).bind (kR3 i) := z_kR2 ..
@[simp] theorem t_z_kR3 (i j : Int) (ρ : Env) : kR3 i (.int j, ρ) = .ok ((i, j), ρ) := z_kR3 ..
@[simp] theorem t_y_dLR (d : DR) (ρ : Env) : dLR d ρ = (d ρ).bind kLR := y_dLR ..
@[simp] theorem t_z_kLR (a b : Int) (ρ : Env) : kLR ((a, b), ρ) = if rgOk a b then .ok (.own ((rangeI a b).map .int), ρ) else .bad := z_kLR ..
@[simp] theorem t_y_dIsi (T : String) (d : DH) (ρ : Env) : dIsi T d ρ = (d ρ).bind (kIsi T) := y_dIsi ..
@[simp] theorem t_z_kIsi (T : String) (h : Hd) (ρ : Env) : kIsi T (h, ρ) = kIsi2 T (deref ρ h) ρ := z_kIsi ..
@[simp] theorem t_z_kIsi2 (T : String) (x : Val) (ρ : Env) : kIsi2 T (some x) ρ = wE (isiV T x) ρ := z_kIsi2 ..
@[simp] theorem t_y_call0 (e : FnE) (d : DA) (ρ : Env) : callD0 e d ρ = (d ρ).bind (kC0 e) := y_call0 ..
@[simp] theorem t_z_kC0 (e : FnE) (hs : List Hd) (ρ : Env) : kC0 e (hs, ρ) = kC0b e (takes ρ hs) := z_kC0 ..
@[simp] theorem t_z_kC0b (e : FnE) (xs : List Val) (ρ : Env) : kC0b e (some (xs, ρ)) = if xs.length = e.np then (e.sem (xs.map .fz)).bind (kC0c ρ) else .bad := z_kC0b ..
@[simp] theorem t_z_kC0c (ρ : Env) (s s' : Sl) : kC0c ρ (s, s') = if notNo s = true then .ok (s, ρ) else .bad := z_kC0c ..
@[simp] theorem t_y_call1 (e : FnE) (k : Nat) (d : DA) (ρ : Env) : callD1 e k d ρ = (d ρ).bind (kD1 e k) := y_call1 ..
@[simp] theorem t_z_kD1 (e : FnE) (k : Nat) (hs : List Hd) (ρ : Env) : kD1 e k (hs, ρ) = kD2 e k hs ρ hs[k]? := z_kD1 ..
@[simp] theorem t_z_kD2 (e : FnE) (k i : Nat) (hs : List Hd) (ρ : Env) : kD2 e k hs ρ (some (.slot i)) = kD3 e k i (takes ρ (hs.set k (.val .non))) := z_kD2 ..
@[simp] theorem t_z_kD3 (e : FnE) (k i : Nat) (xs : List Val) (ρ : Env) : kD3 e k i (some (xs, ρ)) = kD4 e k i xs ρ ρ[i]? := z_kD3 ..
@[simp] theorem t_z_kD4 (e : FnE) (k i : Nat) (xs : List Val) (ρ : Env) (s0 : Sl) : kD4 e k i xs ρ (some s0) = kD5 e k i xs ρ s0 (parIn s0) := z_kD4 ..
@[simp] theorem t_z_kD5 (e : FnE) (k i : Nat) (xs : List Val) (ρ : Env) (s0 p0 : Sl) : kD5 e k i xs ρ s0 (some p0) = if xs.length = e.np then (e.sem ((xs.map .fz).set k p0)).bind (kD6 i ρ s0) else .bad := z_kD5 ..
@[simp] theorem t_z_kD6 (i : Nat) (ρ : Env) (s0 r s' : Sl) : kD6 i ρ s0 (r, s') = kD7 i ρ r (parBack s0 s') := z_kD6 ..
@[simp] theorem t_z_kD7 (i : Nat) (ρ : Env) (r sR : Sl) : kD7 i ρ r (some sR) = if notNo r = true then .ok (r, ρ.set i sR) else .bad := z_kD7 ..
@[simp] theorem t_y_dU (g : List Val → List Val → Option (Val × List Val)) (i : Nat) (d : DA) (ρ : Env) : dU g i d ρ = kU1 g i d ρ (lstO ρ[i]?) := y_dU ..
@[simp] theorem t_z_lstO (s : Sl) : lstO (some s) = lstOf s := z_lstO ..
@[simp] theorem t_z_kU1 (g : List Val → List Val → Option (Val × List Val)) (i : Nat) (d : DA) (ρ : Env) (ys : List Val) : kU1 g i d ρ (some ys) = (d ρ).bind (kU2 g i) := z_kU1 ..
@[simp] theorem t_z_kU2 (g : List Val → List Val → Option (Val × List Val)) (i : Nat) (hs : List Hd) (ρ : Env) : kU2 g i (hs, ρ) = kU3 g i (takes ρ hs) := z_kU2 ..
@[simp] theorem t_z_kU3 (g : List Val → List Val → Option (Val × List Val)) (i : Nat) (xs : List Val) (ρ : Env) : kU3 g i (some (xs, ρ)) = kU4 g i xs ρ ρ[i]? := z_kU3 ..
@[simp] theorem t_z_kU4 (g : List Val → List Val → Option (Val × List Val)) (i : Nat) (xs : List Val) (ρ : Env) (s : Sl) : kU4 g i xs ρ (some s) = kU5 g i xs ρ s (lstOf s) := z_kU4 ..
@[simp] theorem t_z_kU5 (g : List Val → List Val → Option (Val × List Val)) (i : Nat) (xs : List Val) (ρ : Env) (s : Sl) (ys : List Val) : kU5 g i xs ρ s (some ys) = kU6 i ρ s (g ys xs) := z_kU5 ..
@[simp] theorem t_z_kU6 (i : Nat) (ρ : Env) (s : Sl) (z : Val) (ys : List Val) : kU6 i ρ s (some (z, ys)) = .ok (z, ρ.set i (setL s ys)) := z_kU6 ..
@[simp] theorem t_y_sSeq (a b : DS) (ρ : Env) : sSeq a b ρ = Fl.thn (a ρ) b := y_sSeq ..
@[simp] theorem t_th_bad (f : Env → Fl) : Fl.thn .bad f = .bad := th_bad ..
@[simp] theorem t_y_sIf (c : DT) (a b : DS) (ρ : Env) : sIf c a b ρ = (c ρ).fl (kSIf a b) := y_sIf ..
@[simp] theorem t_z_kSIf (a b : DS) (k : Bool) (ρ : Env) : kSIf a b (k, ρ) = if k = true then a ρ else b ρ := z_kSIf ..
@[simp] theorem t_y_sDrop (d : DO) (ρ : Env) : sDrop d ρ = (d ρ).fl kDrop := y_sDrop ..
@[simp] theorem t_y_sRet (d : DO) (ρ : Env) : sRet d ρ = (d ρ).fl kRet := y_sRet ..
@[simp] theorem t_y_sSet (i : Nat) (d : DO) (ρ : Env) : sSet i d ρ = (d ρ).fl (kSet i) := y_sSet ..
@[simp] theorem t_z_kDrop (s : Sl) (ρ : Env) : kDrop (s, ρ) = .nx ρ := z_kDrop ..
@[simp] theorem t_z_kRet (s : Sl) (ρ : Env) : kRet (s, ρ) = .rt s ρ := z_kRet ..
@[simp] theorem t_z_kSet (i : Nat) (s : Sl) (ρ : Env) : kSet i (s, ρ) = if i < ρ.length then .nx (ρ.set i s) else .bad := z_kSet ..
@[simp] theorem t_y_sAsg (d : DV) (g : DG) (ρ : Env) : sAsg d g ρ = (d ρ).fl (kAsg g) := y_sAsg ..
@[simp] theorem t_z_kAsg (g : DG) (x : Val) (ρ : Env) : kAsg g (x, ρ) = kAsg2 (g x ρ) := z_kAsg ..
@[simp] theorem t_z_kAsg2 (ρ : Env) : kAsg2 (some ρ) = .nx ρ := z_kAsg2 ..
@[simp] theorem t_y_gC (g : DG) (gs : DGs) (x : Val) (xs : List Val) (ρ : Env) : gC g gs (x :: xs) ρ = gK gs xs (g x ρ) := y_gC ..
@[simp] theorem t_z_gK (gs : DGs) (xs : List Val) (ρ : Env) : gK gs xs (some ρ) = gs xs ρ := z_gK ..
@[simp] theorem t_y_gN (ρ : Env) : gN [] ρ = some ρ := y_gN ..
@[simp] theorem t_y_gTp (n : Nat) (gs : DGs) (x : Val) (ρ : Env) : gTp n gs x ρ = gT n gs (tupOf x) ρ := y_gTp ..
@[simp] theorem t_z_gT (n : Nat) (gs : DGs) (xs : List Val) (ρ : Env) : gT n gs (some xs) ρ = if xs.length = n then gs xs ρ else none := z_gT ..
@[simp] theorem t_y_gNm (i : Nat) (x : Val) (ρ : Env) : gNm i x ρ = if i < ρ.length then some (ρ.set i (.fz x)) else none := y_gNm ..
@[simp] theorem t_z_ok {α : Type} (a : α) (f : α → Fl) : Opt.k (some a) f = f a := z_ok ..
@[simp] theorem t_y_sPut (i : Nat) (di dv : DV) (ρ : Env) : sPut i di dv ρ = (dv ρ).fl (kPut i di) := y_sPut ..
@[simp] theorem t_z_kPut (i : Nat) (di : DV) (x : Val) (ρ : Env) : kPut i di (x, ρ) = Opt.k (lstO ρ[i]?) (kPut2 i di x ρ) := z_kPut ..
@[simp] theorem t_z_kPut2 (i : Nat) (di : DV) (x : Val) (ρ : Env) (ys : List Val) : kPut2 i di x ρ ys = (di ρ).fl (kPut3 i x) := z_kPut2 ..
@[simp] theorem t_z_kPut3 (i : Nat) (x k : Val) (ρ : Env) : kPut3 i x (k, ρ) = Opt.k (ρ[i]?) (kPut4 i x k ρ) := z_kPut3 ..
@[simp] theorem t_z_kPut4 (i : Nat) (x k : Val) (ρ : Env) (s : Sl) : kPut4 i x k ρ s = Opt.k (lstOf s) (kPut5 i x k ρ s) := z_kPut4 ..
@[simp] theorem t_z_kPut5 (i : Nat) (x k : Val) (ρ : Env) (s : Sl) (ys : List Val) : kPut5 i x k ρ s ys = Opt.k (putV ys k x) (kPut6 i ρ s) := z_kPut5 ..
@[simp] theorem t_z_kPut6 (i : Nat) (ρ : Env) (s : Sl) (ys : List Val) : kPut6 i ρ s ys = .nx (ρ.set i (setL s ys)) := z_kPut6 ..
@[simp] theorem t_y_sPar (i j : Nat) (d : DA) (ρ : Env) : sPar i j d ρ = (d ρ).fl (kPar i j) := y_sPar ..
@[simp] theorem t_z_kPar (i j : Nat) (hs : List Hd) (ρ : Env) : kPar i j (hs, ρ) = Opt.k (takes ρ hs) (kPar2 i j) := z_kPar ..
@[simp] theorem t_z_kPar2 (i j : Nat) (x y : Val) (ρ : Env) : kPar2 i j ([x, y], ρ) = if i < ρ.length ∧ j < ρ.length then .nx ((ρ.set i (.fz x)).set j (.fz y)) else .bad := z_kPar2 ..
@[simp] theorem t_y_sFor (it : DI) (g : DG) (b : DS) (ρ : Env) : sFor it g b ρ = (it ρ).fl (kFor g b) := y_sFor ..
@[simp] theorem t_z_kFor (g : DG) (b : DS) (xs : List Val) (ρ : Env) : kFor g b (xs, ρ) = forL g b xs ρ := z_kFor ..
@[simp] theorem t_y_sForV (i : Nat) (g : DG) (b : DS) (ρ : Env) : sForV i g b ρ = Opt.k (ρ[i]?) (kFV i g b ρ) := y_sForV ..
@[simp] theorem t_z_kFV (i : Nat) (g : DG) (b : DS) (ρ : Env) (s : Sl) : kFV i g b ρ s = kFV2 i g b ρ s (lstOf s) := z_kFV ..
@[simp] theorem t_z_kFV2s (i : Nat) (g : DG) (b : DS) (ρ : Env) (s : Sl) (xs : List Val) : kFV2 i g b ρ s (some xs) = unlk i s (forL g b xs (ρ.set i (.lck xs))) := z_kFV2s ..
@[simp] theorem t_z_kFV2n (i : Nat) (g : DG) (b : DS) (ρ : Env) (s : Sl) : kFV2 i g b ρ s none = sFor (dIt (dVH (dVar i))) g b ρ := z_kFV2n ..
@[simp] theorem t_y_sSkip (ρ : Env) : sSkip ρ = .nx ρ := y_sSkip ..
@[simp] theorem t_y_sBreak (ρ : Env) : sBreak ρ = .bk ρ := y_sBreak ..
@[simp] theorem t_y_sCont (ρ : Env) : sCont ρ = .ct ρ := y_sCont ..
@[simp] theorem t_y_fRt (np : Nat) (rf : Option Nat) (s : Sl) (ρ : Env) : flRes np rf (.rt s ρ) = kFl2 s (parOf np rf ρ) := y_fRt ..
@[simp] theorem t_z_kFl2 (s t : Sl) : kFl2 s (some t) = if notNo s then .ok (s, t) else .bad := z_kFl2 ..
@[simp] theorem t_y_fNx (np : Nat) (rf : Option Nat) (ρ : Env) : flRes np rf (.nx ρ) = kFl3 (parOf np rf ρ) := y_fNx ..
@[simp] theorem t_z_kFl3 (t : Sl) : kFl3 (some t) = .ok (.fz .non, t) := z_kFl3 ..
@[simp] theorem t_szk {n : Nat} (h : n ≤ 1000000) : (n ≤ sizeLine) = True := szk h
@[simp] theorem t_z_kpN : keepFz (some .no) = .no := z_kpN ..
@[simp] theorem t_z_kpF (x : Val) : keepFz (some (.fz x)) = .fz x := z_kpF ..
@[simp] theorem t_ob_ok {α β : Type} (a : α) (f : α → Out β) : Out.bind (.ok a) f = f a := ob_ok ..
@[simp] theorem t_oo_s {α : Type} (a : α) : Out.of (some a) = .ok a := oo_s ..
@[simp] theorem t_de_v (ρ : Env) (x : Val) : deref ρ (.val x) = some x := de_v ..
@[simp] theorem t_ds_n (ρ : Env) : derefs ρ [] = some [] := ds_n ..
@[simp] theorem t_ts_n (ρ : Env) : takes ρ [] = some ([], ρ) := ts_n ..
@[simp] theorem t_tv_v (ρ : Env) (x : Val) : takeV (.val x) ρ = some (x, ρ) := tv_v ..
@[simp] theorem t_fo_ok {α : Type} (a : α) (f : α → Fl) : Out.fl (.ok a) f = f a := fo_ok ..
@[simp] theorem t_th_nx (ρ : Env) (f : Env → Fl) : Fl.thn (.nx ρ) f = f ρ := th_nx ..
@[simp] theorem t_th_rt (s : Sl) (ρ : Env) (f : Env → Fl) : Fl.thn (.rt s ρ) f = .rt s ρ := th_rt ..
@[simp] theorem t_th_bk (ρ : Env) (f : Env → Fl) : Fl.thn (.bk ρ) f = .bk ρ := th_bk ..
@[simp] theorem t_th_ct (ρ : Env) (f : Env → Fl) : Fl.thn (.ct ρ) f = .ct ρ := th_ct ..
@[simp] theorem t_parN (np : Nat) (ρ : Env) : parOf np none ρ = if ρ.length < np then none else some .no := by rfl
def pk (k np : Nat) : Option Sl → Option Sl
  | some (.par xs) => if k < np then some (.par xs) else none
  | some (.pbox c d s) => if k < np then some (.pbox c d s) else none
  | _ => none
@[simp] theorem t_parS (np k : Nat) (ρ : Env) : parOf np (some k) ρ = if ρ.length < np then none else pk k np ρ[k]? := by
  unfold parOf
  split
  · rfl
  · simp only
    generalize ρ[k]? = o
    cases o with
    | none => rfl
    | some s => cases s <;> rfl
@[simp] theorem t_pkP (np k : Nat) (xs : List Val) : pk k np (some (.par xs)) = if k < np then some (.par xs) else none := by rfl
@[simp] theorem t_pkB (np k : Nat) (c : List Int) (d s : Int) : pk k np (some (.pbox c d s)) = if k < np then some (.pbox c d s) else none := by rfl
@[simp] theorem t_putV (ys : List Val) (k : Int) (x : Val) : putV ys (.int k) x = (ixN ys.length k).map fun j => ys.set j x := by rfl
@[simp] theorem t_lstO (xs : List Val) : lstOf (.own xs) = some xs := by rfl
@[simp] theorem t_lstP (xs : List Val) : lstOf (.par xs) = some xs := by rfl
@[simp] theorem t_lstF (x : Val) : lstOf (.fz x) = none := by rfl
@[simp] theorem t_setLO (xs ys : List Val) : setL (.own xs) ys = .own ys := by rfl
@[simp] theorem t_setLP (xs ys : List Val) : setL (.par xs) ys = .par ys := by rfl
@[simp] theorem t_frF (x : Val) : frOf (.fz x) = some x := by rfl
@[simp] theorem t_frO (x : List Val) : frOf (.own x) = some (.lst x) := by rfl
@[simp] theorem t_frO2 (x : List (List Val)) : frOf (.own2 x) = some (.lst (x.map Val.lst)) := by rfl
@[simp] theorem t_frK (x : List (Key × Val)) : frOf (.odK x) = some (.dK x) := by rfl
@[simp] theorem t_frT (x : List (List Key × Val)) : frOf (.odT x) = some (.dT x) := by rfl
@[simp] theorem t_vwF (x : Val) : Sl.view (.fz x) = some x := by rfl
@[simp] theorem t_vwO (x : List Val) : Sl.view (.own x) = some (.lst x) := by rfl
@[simp] theorem t_vwP (x : List Val) : Sl.view (.par x) = some (.lst x) := by rfl
@[simp] theorem t_vwL (x : List Val) : Sl.view (.lck x) = some (.lst x) := by rfl
@[simp] theorem t_vwK (x : List (Key × Val)) : Sl.view (.odK x) = some (.dK x) := by rfl
@[simp] theorem t_vwT (x : List (List Key × Val)) : Sl.view (.odT x) = some (.dT x) := by rfl
@[simp] theorem t_add (i j : Int) : addV (.int i) (.int j) = some (.int (i + j)) := by rfl
@[simp] theorem t_addT (xs ys : List Val) : addV (.tup xs) (.tup ys) = if xs.length + ys.length ≤ sizeLine then some (.tup (xs ++ ys)) else none := by rfl
@[simp] theorem t_addL (xs ys : List Val) : addV (.lst xs) (.lst ys) = if xs.length + ys.length ≤ sizeLine then some (.lst (xs ++ ys)) else none := by rfl
@[simp] theorem t_goS (ns : List Int) : goesV (.scr ns) = some (ns.map .int) := by rfl
@[simp] theorem t_itS (ns : List Int) : itemsV (.scr ns) = some (ns.map .int) := by rfl
@[simp] theorem t_slS (ns : List Int) (l u : Option Int) : slV (.scr ns) l u = some (.lst ((cutL ns l u).map .int)) := by rfl
@[simp] theorem t_bkT (xs : List Val) (l u : Option Int) : backV (.tup xs) l u = some (.tup (backL xs l u)) := by rfl
@[simp] theorem t_sub (i j : Int) : subV (.int i) (.int j) = some (.int (i - j)) := by rfl
@[simp] theorem t_intI (i : Int) : intV (.int i) = some (.int i) := by rfl
@[simp] theorem t_intB (b : Bool) : intV (.bl b) = some (.int (if b then 1 else 0)) := by rfl
@[simp] theorem t_ixl (xs : List Val) (i : Int) : ixV (.lst xs) (.int i) = L2.atI xs i := by rfl
@[simp] theorem t_ixt (xs : List Val) (i : Int) : ixV (.tup xs) (.int i) = L2.atI xs i := by rfl
@[simp] theorem t_lenL (xs : List Val) : lenV (.lst xs) = some (.int xs.length) := by rfl
@[simp] theorem t_lenT (xs : List Val) : lenV (.tup xs) = some (.int xs.length) := by rfl
@[simp] theorem t_lenS (xs : List Int) : lenV (.scr xs) = some (.int xs.length) := len_scr xs
@[simp] theorem t_lt (i j : Int) : ltV (.int i) (.int j) = some (.bl (decide (i < j))) := lt_int ..
@[simp] theorem t_gt (i j : Int) : gtV (.int i) (.int j) = some (.bl (decide (j < i))) := gt_int ..
@[simp] theorem t_le (i j : Int) : leV (.int i) (.int j) = some (.bl (decide (i ≤ j))) := le_int ..
@[simp] theorem t_ge (i j : Int) : geV (.int i) (.int j) = some (.bl (decide (j ≤ i))) := ge_int ..
@[simp] theorem t_eq (i j : Int) : eqV (.int i) (.int j) = some (.bl (decide (i = j))) := eq_int ..
@[simp] theorem t_ne (i j : Int) : neV (.int i) (.int j) = some (.bl (!decide (i = j))) := ne_int ..
@[simp] theorem t_eqB (i j : Bool) : eqV (.bl i) (.bl j) = some (.bl (i == j)) := eq_bl ..
@[simp] theorem t_neB (i j : Bool) : neV (.bl i) (.bl j) = some (.bl (i != j)) := ne_bl ..
@[simp] theorem t_isB (i j : Bool) : isBV (.bl i) (.bl j) = some (.bl (decide (i = j))) := by rfl
@[simp] theorem t_isntB (i j : Bool) : isntBV (.bl i) (.bl j) = some (.bl (decide (i ≠ j))) := by cases i <;> cases j <;> rfl
@[simp] theorem t_at0 {α : Type} (a : α) (xs : List α) : L2.atI (a :: xs) (0 : Int) = some a := at0 ..
@[simp] theorem t_at1 {α : Type} (a b : α) (xs : List α) : L2.atI (a :: b :: xs) (1 : Int) = some b := at1 ..
@[simp] theorem t_at2 {α : Type} (a b c : α) (xs : List α) : L2.atI (a :: b :: c :: xs) (2 : Int) = some c := at2 ..
@[simp] theorem t_at3 {α : Type} (a b c d : α) (xs : List α) : L2.atI (a :: b :: c :: d :: xs) (3 : Int) = some d := at3 ..
@[simp] theorem t_nnF (x : Val) : notNo (.fz x) = true := by rfl
@[simp] theorem t_nnO (x : List Val) : notNo (.own x) = true := by rfl
@[simp] theorem t_nnK (x : List (Key × Val)) : notNo (.odK x) = true := by rfl
@[simp] theorem t_nnT (x : List (List Key × Val)) : notNo (.odT x) = true := by rfl
@[simp] theorem t_nnO2 (x : List (List Val)) : notNo (.own2 x) = true := by rfl
@[simp] theorem t_nnB (c : List Int) (d s : Int) : notNo (.box c d s) = true := by rfl
@[simp] theorem t_inN : isNone .non = true := by rfl
@[simp] theorem t_inB (b : Bool) : isNone (.bl b) = false := by rfl
@[simp] theorem t_inI (b : Int) : isNone (.int b) = false := by rfl
@[simp] theorem t_inS (b : Str) : isNone (.str b) = false := by rfl
@[simp] theorem t_inT (b : List Val) : isNone (.tup b) = false := by rfl
@[simp] theorem t_inL (b : List Val) : isNone (.lst b) = false := by rfl
@[simp] theorem t_toT (b : List Val) : tupOf (.tup b) = some b := by rfl
@[simp] theorem t_toL (b : List Val) : tupOf (.lst b) = some b := by rfl
@[simp] theorem t_trN : truth .non = some false := by rfl
@[simp] theorem t_trB (b : Bool) : truth (.bl b) = some b := by rfl
@[simp] theorem t_trI (b : Int) : truth (.int b) = some (b != 0) := by rfl
@[simp] theorem t_trT (b : List Val) : truth (.tup b) = some (!b.isEmpty) := by rfl
@[simp] theorem t_trL (b : List Val) : truth (.lst b) = some (!b.isEmpty) := by rfl
@[simp] theorem t_piO (x : List Val) : parIn (.own x) = some (.par x) := by rfl
@[simp] theorem t_piP (x : List Val) : parIn (.par x) = some (.par x) := by rfl
@[simp] theorem t_piB (c : List Int) (d s : Int) : parIn (.box c d s) = some (.pbox c d s) := by rfl
@[simp] theorem t_piPB (c : List Int) (d s : Int) : parIn (.pbox c d s) = some (.pbox c d s) := by rfl
@[simp] theorem t_pbO (x y : List Val) : parBack (.own x) (.par y) = some (.own y) := by rfl
@[simp] theorem t_pbP (x y : List Val) : parBack (.par x) (.par y) = some (.par y) := by rfl
@[simp] theorem t_pbB (c c' : List Int) (d s d' s' : Int) : parBack (.box c d s) (.pbox c' d' s') = some (.box c' d' s') := by rfl
@[simp] theorem t_pbPB (c c' : List Int) (d s d' s' : Int) : parBack (.pbox c d s) (.pbox c' d' s') = some (.pbox c' d' s') := by rfl
@[simp] theorem t_g1 (g : Val → Option Val) (x : Val) : g1 g [x] = g x := by rfl
@[simp] theorem t_g2 (g : Val → Val → Option Val) (x y : Val) : g2 g [x, y] = g x y := by rfl
@[simp] theorem t_go1 (g : Val → Option (List Val)) (x : Val) : go1 g [x] = g x := by rfl
@[simp] theorem t_goT (xs : List Val) : goesV (.tup xs) = some xs := by rfl
@[simp] theorem t_goL (xs : List Val) : goesV (.lst xs) = some xs := by rfl
@[simp] theorem t_tupL (xs : List Val) : tupV (.lst xs) = some (.tup xs) := by rfl
@[simp] theorem t_tupT (xs : List Val) : tupV (.tup xs) = some (.tup xs) := by rfl
@[simp] theorem t_itL (xs : List Val) : itemsV (.lst xs) = some xs := by rfl
@[simp] theorem t_itT (xs : List Val) : itemsV (.tup xs) = some xs := by rfl
@[simp] theorem t_slL (xs : List Val) (l u : Option Int) : slV (.lst xs) l u = some (.lst (cutL xs l u)) := by rfl
@[simp] theorem t_slT (xs : List Val) (l u : Option Int) : slV (.tup xs) l u = some (.tup (cutL xs l u)) := by rfl
@[simp] theorem t_app (ys : List Val) (x : Val) : appV ys [x] = if ys.length < sizeLine then some (.non, ys ++ [x]) else none := by rfl
@[simp] theorem t_extL (ys zs : List Val) : extV ys [.lst zs] = if ys.length + zs.length ≤ sizeLine then some (.non, ys ++ zs) else none := by rfl
@[simp] theorem t_extT (ys zs : List Val) : extV ys [.tup zs] = if ys.length + zs.length ≤ sizeLine then some (.non, ys ++ zs) else none := by rfl
@[simp] theorem t_max2 (i j : Int) : max2V (.int i) (.int j) = some (.int (if j > i then j else i)) := by rfl
@[simp] theorem t_min2 (i j : Int) : min2V (.int i) (.int j) = some (.int (if j < i then j else i)) := by rfl
@[simp] theorem t_szl {n : Nat} (h : n < 1000000) : (n < sizeLine) = True := eq_true (Nat.lt_of_lt_of_le h (by decide))
@[simp] theorem t_rok {i : Int} (h : -(2 ^ 62) ≤ i ∧ i < 2 ^ 62) : rOk i = true := decide_eq_true h
@[simp] theorem t_isi_non_int  : isiV "int" .non = some (.bl false) := isi_non_int ..
@[simp] theorem t_isi_non_bool  : isiV "bool" .non = some (.bl false) := isi_non_bool ..
@[simp] theorem t_isi_non_str  : isiV "str" .non = some (.bl false) := isi_non_str ..
@[simp] theorem t_isi_non_tuple  : isiV "tuple" .non = some (.bl false) := isi_non_tuple ..
@[simp] theorem t_isi_non_list  : isiV "list" .non = some (.bl false) := isi_non_list ..
@[simp] theorem t_isi_bl_int (b : Bool) : isiV "int" (.bl b) = some (.bl true) := isi_bl_int ..
@[simp] theorem t_isi_bl_bool (b : Bool) : isiV "bool" (.bl b) = some (.bl true) := isi_bl_bool ..
@[simp] theorem t_isi_bl_str (b : Bool) : isiV "str" (.bl b) = some (.bl false) := isi_bl_str ..
@[simp] theorem t_isi_bl_tuple (b : Bool) : isiV "tuple" (.bl b) = some (.bl false) := isi_bl_tuple ..
@[simp] theorem t_isi_bl_list (b : Bool) : isiV "list" (.bl b) = some (.bl false) := isi_bl_list ..
@[simp] theorem t_isi_int_int (i : Int) : isiV "int" (.int i) = some (.bl true) := isi_int_int ..
@[simp] theorem t_isi_int_bool (i : Int) : isiV "bool" (.int i) = some (.bl false) := isi_int_bool ..
@[simp] theorem t_isi_int_str (i : Int) : isiV "str" (.int i) = some (.bl false) := isi_int_str ..
@[simp] theorem t_isi_int_tuple (i : Int) : isiV "tuple" (.int i) = some (.bl false) := isi_int_tuple ..
@[simp] theorem t_isi_int_list (i : Int) : isiV "list" (.int i) = some (.bl false) := isi_int_list ..
@[simp] theorem t_isi_str_int (s : Str) : isiV "int" (.str s) = some (.bl false) := isi_str_int ..
@[simp] theorem t_isi_str_bool (s : Str) : isiV "bool" (.str s) = some (.bl false) := isi_str_bool ..
@[simp] theorem t_isi_str_str (s : Str) : isiV "str" (.str s) = some (.bl true) := isi_str_str ..
@[simp] theorem t_isi_str_tuple (s : Str) : isiV "tuple" (.str s) = some (.bl false) := isi_str_tuple ..
@[simp] theorem t_isi_str_list (s : Str) : isiV "list" (.str s) = some (.bl false) := isi_str_list ..
@[simp] theorem t_isi_tup_int (xs : List Val) : isiV "int" (.tup xs) = some (.bl false) := isi_tup_int ..
@[simp] theorem t_isi_tup_bool (xs : List Val) : isiV "bool" (.tup xs) = some (.bl false) := isi_tup_bool ..
@[simp] theorem t_isi_tup_str (xs : List Val) : isiV "str" (.tup xs) = some (.bl false) := isi_tup_str ..
@[simp] theorem t_isi_tup_tuple (xs : List Val) : isiV "tuple" (.tup xs) = some (.bl true) := isi_tup_tuple ..
@[simp] theorem t_isi_tup_list (xs : List Val) : isiV "list" (.tup xs) = some (.bl false) := isi_tup_list ..
@[simp] theorem t_isi_lst_int (xs : List Val) : isiV "int" (.lst xs) = some (.bl false) := isi_lst_int ..
@[simp] theorem t_isi_lst_bool (xs : List Val) : isiV "bool" (.lst xs) = some (.bl false) := isi_lst_bool ..
@[simp] theorem t_isi_lst_str (xs : List Val) : isiV "str" (.lst xs) = some (.bl false) := isi_lst_str ..
@[simp] theorem t_isi_lst_tuple (xs : List Val) : isiV "tuple" (.lst xs) = some (.bl false) := isi_lst_tuple ..
@[simp] theorem t_isi_lst_list (xs : List Val) : isiV "list" (.lst xs) = some (.bl true) := isi_lst_list ..
end Ev

/-! Ev: the box: a list of a list of ints and two ints. -/
namespace Ev
open PySem PySem.Spec PyProof.Rows L2
def bxOf : Option Sl → Option (List Int × Int × Int)
  | some (.box c d s) => some (c, d, s)
  | some (.pbox c d s) => some (c, d, s)
  | _ => none
def setB (c : List Int) (d s : Int) : Sl → Sl
  | .box _ _ _ => .box c d s
  | .pbox _ _ _ => .pbox c d s
  | x => x
section
variable {K : PySem.W.Frag} {mg : MG} {Z H : Hp} {O : Lab} {C : Lk} {σ : L2.St} {ρ : Env}
theorem EnvR.bx (R : EnvR K mg Z H O C σ ρ) {i : Nat} {cells : List Int} {d s : Int} (e : bxOf ρ[i]? = some (cells, d, s)) :
    ∃ a c s0, ρ[i]? = some s0 ∧ σ[i]? = some (some (.ref a)) ∧ O a = some (i, 0) ∧ O c = some (i, 1) ∧ H a = some (.lst [.ref c, .int d, .int s]) ∧ H c = some (.lst (cells.map V.int)) ∧
      ∀ d' s', EnvR K mg Z (upd H a (.lst [.ref c, .int d', .int s'])) O C σ (ρ.set i (setB cells d' s' s0)) ∧ Ext Z H O Z (upd H a (.lst [.ref c, .int d', .int s'])) O := by
  cases q : ρ[i]? with
  | none => rw [q] at e; cases e
  | some s0 =>
    have z := R.sl i s0 q
    rw [q] at e
    have ne : ∀ {a c : Addr}, O a = some (i, 0) → O c = some (i, 1) → c ≠ a := fun h1 h2 z => by rw [z, h1] at h2; cases h2
    cases s0 with
    | box cells d s =>
      cases e
      obtain ⟨a, c, e1, o1, o2, m1, m2⟩ := z
      exact ⟨a, c, _, rfl, e1, o1, o2, m1, m2, fun d' s' => R.chg o1 ⟨a, c, e1, o1, o2, upd_same, by rw [upd_ne (ne o1 o2)]; exact m2⟩⟩
    | pbox cells d s =>
      cases e
      obtain ⟨a, c, e1, o1, o2, m1, m2, fx⟩ := z
      exact ⟨a, c, _, rfl, e1, o1, o2, m1, m2, fun d' s' => R.chg o1 ⟨a, c, e1, o1, o2, upd_same, by rw [upd_ne (ne o1 o2)]; exact m2, fx⟩⟩
    | _ => cases e
end
/-- box[1], box[2] -/
def bxGet (k : Int) (ρ : Env) : Option (List Int × Int × Int) → Out (Val × Env)
  | some q => if k = 1 then .ok (.int q.2.1, ρ) else if k = 2 then .ok (.int q.2.2, ρ) else .bad
  | none => .bad
def dBx (i : Nat) (k : Int) : DV := fun ρ => bxGet k ρ (bxOf ρ[i]?)
theorem pv_bx {X : Cx} {i : Nat} {k : Int} {x : Str} {p p2 pos : Pos} {j} (ho : PE X (.Name x p) (tVar i)) : PV X (.Subscript (.Name x p) (.Constant (.int k) j p2) pos) (dBx i k) :=
  PE.imp (pe_ix ix_list ho pe_int (fun _ _ => rfl)) fun σ H Q ⟨Z, O, C, ρ, R, y, ρ', q, kk⟩ => by
  unfold dBx bxGet at q
  cases e : bxOf ρ[i]? with
  | none => rw [e] at q; cases q
  | some t =>
    obtain ⟨cells, d, s⟩ := t
    rw [e] at q
    simp only at q
    obtain ⟨a, c, s0, _, e1, _, _, m1, _⟩ := R.bx e
    refine ⟨.ref a, e1, a, [.ref c, .int d, .int s], k, ?_⟩
    split at q
    · rename_i h
      subst h
      cases q
      exact ⟨.int d, rfl, rfl, SqL.of m1, by rfl, kk _ H Z O (Ext.refl _ _ _) R (.int d)⟩
    · split at q
      · rename_i h
        subst h
        cases q
        exact ⟨.int s, rfl, rfl, SqL.of m1, by rfl, kk _ H Z O (Ext.refl _ _ _) R (.int s)⟩
      · cases q
/-- box[1] = e, box[2] = e -/
def bxPut (i : Nat) (k : Int) (x : Val) (ρ : Env) (s0 : Option Sl) : Option (List Int × Int × Int) → Fl
  | some q => match s0, x with
    | some t, .int n => if k = 1 then .nx (ρ.set i (setB q.1 n q.2.2 t)) else if k = 2 then .nx (ρ.set i (setB q.1 q.2.1 n t)) else .bad
    | _, _ => .bad
  | none => .bad
def kBx (i : Nat) (k : Int) (p : Val × Env) : Fl := bxPut i k p.1 p.2 p.2[i]? (bxOf p.2[i]?)
def sBx (i : Nat) (k : Int) (dv : DV) : DS := fun ρ => (dv ρ).fl (kBx i k)
theorem st_bx {X : Cx} {i : Nat} {k : Int} {x : Str} {e : Expr} {dv : DV} {p p2 pos pos2 : Pos} {j} (ho : PE X (.Name x p) (tVar i)) (he : PV X e dv)
    (ha : ∀ v, assign (.Subscript (.Name x p) (.Constant (.int k) j p2) pos2) X.env v = (do
      let ov ← holding [v] (eval (.Name x p) X.env)
      let iv ← holding [v, ov] (eval (.Constant (.int k) j p2) X.env)
      standAt pos2
      holding [v, ov, iv] (setItem ov iv v)
      release [v, ov, iv] []) := by intro _; rfl)
    (hs : swapsWithSole [.Subscript (.Name x p) (.Constant (.int k) j p2) pos2] e pos.line X.env = pure false := by rfl) (hw : swappedStores [.Subscript (.Name x p) (.Constant (.int k) j p2) pos2] e X.env = pure none := by rfl)
    (h1 : (assignEach [.Subscript (.Name x p) (.Constant (.int k) j p2) pos2] X.env).map (·.2) = [assign (.Subscript (.Name x p) (.Constant (.int k) j p2) pos2) X.env] := by rfl) :
    PSt X (.Assign [.Subscript (.Name x p) (.Constant (.int k) j p2) pos2] e pos) (sBx i k dv) := PS.imp (ps_asg he (pg_sub ho pe_int set_list ha) hs hw h1) fun D σ H ⟨Z, O, C, ρ, R, h⟩ => by
  unfold sBx at h
  rcases e1 : dv ρ with ⟨⟨y, ρ1⟩⟩ | _ | _
  · rw [e1] at h
    refine ⟨Z, O, C, ρ, R, y, ρ1, e1, fun v H1 Z1 O1 x1 R1 r1 => ?_⟩
    have h : FlR X.K X.mg Z H O C D (bxPut i k y ρ1 ρ1[i]? (bxOf ρ1[i]?)) := h
    cases e2 : bxOf ρ1[i]? with
    | none => rw [e2] at h; exact h.elim
    | some q =>
      obtain ⟨cells, d, s⟩ := q
      rw [e2] at h
      obtain ⟨a, c, s0, q0, ea, _, _, m1, _, nx⟩ := R1.bx e2
      rw [q0] at h
      cases y with
      | int n =>
        cases r1
        have h : FlR X.K X.mg Z H O C D (if k = 1 then .nx (ρ1.set i (setB cells n s s0)) else if k = 2 then .nx (ρ1.set i (setB cells d n s0)) else .bad) := h
        refine ⟨.ref a, ea, a, [.ref c, .int d, .int s], k, ?_⟩
        split at h
        · rename_i hk
          subst hk
          obtain ⟨R2, x2⟩ := nx n s
          exact ⟨1, rfl, rfl, m1, by rfl, h σ _ Z1 O1 (x1.trans x2) R2⟩
        · split at h
          · rename_i hk
            subst hk
            obtain ⟨R2, x2⟩ := nx d n
            exact ⟨2, rfl, rfl, m1, by rfl, h σ _ Z1 O1 (x1.trans x2) R2⟩
          · exact h.elim
      | _ => exact h.elim
  · rw [e1] at h; exact h.elim
  · rw [e1] at h; exact h.elim
/-- [cells, d, s]: a new box -/
def intsL : List Val → Option (List Int)
  | [] => some []
  | .int n :: xs => (intsL xs).map (n :: ·)
  | _ => none
theorem intsL_ok {K : PySem.W.Frag} {mg : MG} {Z : Hp} : ∀ {vs : List V} {xs : List Val} {ns : List Int}, Rls K mg Z vs xs → intsL xs = some ns → vs = ns.map V.int
  | _, _, _, .nil, e => by cases e; rfl
  | _, _, _, .cons r t, e => by
    cases r with
    | int n =>
      obtain ⟨ms, e1, rfl⟩ := Option.map_eq_some_iff.mp e
      rw [intsL_ok t e1]; rfl
    | _ => cases e
theorem intsL_map : ∀ ns : List Int, intsL (ns.map .int) = some ns
  | [] => rfl
  | n :: ns => by
    show (intsL (ns.map .int)).map (n :: ·) = _
    rw [intsL_map ns]; rfl
def kBn3 (cells : List Int) (d : Int) (p : Val × Env) : Out (Sl × Env) := match p.1 with
  | .int s => .ok (.box cells d s, p.2)
  | _ => .bad
def kBn2 (d3 : DV) (cells : List Int) (p : Val × Env) : Out (Sl × Env) := match p.1 with
  | .int d => (d3 p.2).bind (kBn3 cells d)
  | _ => .bad
def kBn1 (d2 d3 : DV) (ρ : Env) : Option (List Int) → Out (Sl × Env)
  | some cells => (d2 ρ).bind (kBn2 d3 cells)
  | none => .bad
def kBn (d2 d3 : DV) (p : Sl × Env) : Out (Sl × Env) := match p.1 with
  | .own xs => kBn1 d2 d3 p.2 (intsL xs)
  | _ => .bad
def dBn (d1 : DO) (d2 d3 : DV) : DO := fun ρ => (d1 ρ).bind (kBn d2 d3)
theorem pow_bx {X : Cx} {e1 e2 e3 : Expr} {d1 : DO} {d2 d3 : DV} {pos : Pos} (h1 : POw X e1 d1) (h2 : PV X e2 d2) (h3 : PV X e3 d3)
    (s1 : starEach [e1, e2, e3] X.env = (false, eval e1 X.env) :: starEach [e2, e3] X.env := by rfl) (s2 : starEach [e2, e3] X.env = (false, eval e2 X.env) :: starEach [e3] X.env := by rfl) (s3 : starEach [e3] X.env = (false, eval e3 X.env) :: starEach [] X.env := by rfl) :
    POw X (.List [e1, e2, e3] pos) (dBn d1 d2 d3) := PE.imp (pe_lst (pa_cons h1 (pa_cons h2 (pa_cons h3 pa_nil s3) s2) s1)) fun σ H Q ⟨Z, O, C, ρ, R, sl, ρ', q, k⟩ => by
  obtain ⟨⟨t1, ρ1⟩, e1, q⟩ := Out.bind_ok q
  cases t1 with
  | own xs =>
    have q : kBn1 d2 d3 ρ1 (intsL xs) = .ok (sl, ρ') := q
    cases e4 : intsL xs with
    | none => rw [e4] at q; cases q
    | some cells =>
      rw [e4] at q
      obtain ⟨⟨y2, ρ2⟩, e2, q⟩ := Out.bind_ok q
      refine ⟨Z, O, C, ρ, R, .own xs, ρ1, e1, fun v1 H1 Z1 O1 x1 R1 r1 => ?_⟩
      obtain ⟨c, vs, rfl, k1, k2, k3, k4, k5, k6⟩ := r1
      have ev := intsL_ok k6 e4
      subst ev
      refine ⟨Z1, O1, C, ρ1, R1, y2, ρ2, e2, fun v2 H2 Z2 O2 x2 R2 r2 => ?_⟩
      cases y2 with
      | int d =>
        cases r2
        obtain ⟨⟨y3, ρ3⟩, e3, q⟩ := Out.bind_ok q
        refine ⟨Z2, O2, C, ρ2, R2, y3, ρ3, e3, fun v3 H3 Z3 O3 x3 R3 r3 => ?_⟩
        cases y3 with
        | int s =>
          cases r3
          cases q
          refine ⟨by show 3 ≤ sizeLine; decide, fun p hp => ?_⟩
          obtain ⟨a1, a2⟩ := x2.h c _ k5 k1
          obtain ⟨b1, b2⟩ := x3.h c _ a1 a2
          have z2 : Z2 c = none := by
            cases e : Z2 c with
            | none => rfl
            | some o =>
              rcases x2.zn c (by rw [e]; simp) with h | h | h
              · exact absurd k2 h
              · rw [k5] at h; cases h
              · exact absurd k1 h
          have z3 : Z3 c = none := by
            cases e : Z3 c with
            | none => rfl
            | some o =>
              rcases x3.zn c (by rw [e]; simp) with h | h | h
              · exact absurd z2 h
              · rw [a1] at h; cases h
              · exact absurd a2 h
          have pc : p ≠ c := fun z => by rw [z, b1] at hp; cases hp
          have gr : Grow Z3 H3 Z3 (upd H3 p (.lst [.ref c, .int d, .int s])) := Grow.newH R3.zh hp
          have ext := ((x1.trans x2).trans x3)
          have hO : O3 p = none := by
            cases e : O3 p with
            | none => rfl
            | some o => exact absurd hp (R3.oz p (by rw [e]; simp)).2.2
          have hH : H p = none := ext.fresh hp
          refine k _ _ Z3 O3 (ext.trans gr.ext) (R3.grow gr) ⟨p, c, rfl, pc, fun b hb => ?_, upd_same, by rw [upd_ne (Ne.symm pc)]; exact b1⟩
          rcases hb with rfl | rfl
          · exact ⟨hO, R3.zh.free hp, R3.ch.free hp, hH⟩
          · exact ⟨b2, z3, k3, k4⟩
        | _ => cases q
      | _ => cases q
  | _ => cases q
end Ev

/-! Ev: the box is loaded. -/
namespace Ev
open PySem PySem.Spec PyProof.Rows L2
def loadFin (s : Int) : Int × Int :=
  ((s * 48271 + 17) % 2147483629 * 4611686014132420609 + ((s * 48271 + 17) % 2147483629 * 69621 + 5) % 2147483587 * 2147483647 + (((s * 48271 + 17) % 2147483629 * 69621 + 5) % 2147483587 * 40692 + 3) % 2147483563,
   (((s * 48271 + 17) % 2147483629 * 69621 + 5) % 2147483587 * 40692 + 3) % 2147483563)
def loadSz (c : Int) : Int := if decide (0 ≤ c) = true then 2 * c else -2 * c - 1
def loadF : List Int → Int → Int × List Int × Int
  | [], s => ((loadFin s).1, [], (loadFin s).2)
  | c :: cs, s => if decide (1000000000000000000 ≤ loadSz c) = true then (loadSz c, cs, s) else
    ((loadFin ((s * 69621 + loadSz c * 48271 + 11) % 2147483647)).1, cs, (loadFin ((s * 69621 + loadSz c * 48271 + 11) % 2147483647)).2)
def loadSem : List Sl → Out (Sl × Sl)
  | [.pbox cells d s] => .ok (.fz (.int (loadF cells s).1), .pbox (loadF cells s).2.1 d (loadF cells s).2.2)
  | _ => .bad
def loadE : FnE := ⟨1, 1, some 0, loadSem⟩
abbrev trInt : List V → Hp → VK → Prop := fun xs H Q => (∃ i, xs = [V.int i] ∧ Q (V.int i) H) ∨ ∃ k, xs = [V.bl k] ∧ Q (V.int (if k = true then 1 else 0)) H
abbrev trLen (K : PySem.W.Frag) : List V → Hp → VK → Prop := fun xs H Q => ∃ p ys, xs = [V.ref p] ∧ (SqL K H p ys ∨ SqT K H p ys) ∧ Q (V.int ys.length) H
def tLoadFin (K : PySem.W.Frag) : TS :=
  tSeq (tAsg (tOp (rI (fun x j => 0 < j) fun i j => V.int (i % j)) (tCB trInt (tCons (tOp (rI0 fun i j => V.int (i + j)) (tOp (rI CMul fun i j => V.int (i * j)) (tOp (rIxL K) (tVar 0) (tC (V.int 2))) (tC (V.int 48271))) (tC (V.int 17))) tNil)) (tC (V.int 2147483629))) (gName 4))
  (tSeq (tAsg (tOp (rI (fun x j => 0 < j) fun i j => V.int (i % j)) (tCB trInt (tCons (tOp (rI0 fun i j => V.int (i + j)) (tOp (rI CMul fun i j => V.int (i * j)) (tVar 4) (tC (V.int 69621))) (tC (V.int 5))) tNil)) (tC (V.int 2147483587))) (gName 5))
  (tSeq (tAsg (tOp (rI (fun x j => 0 < j) fun i j => V.int (i % j)) (tCB trInt (tCons (tOp (rI0 fun i j => V.int (i + j)) (tOp (rI CMul fun i j => V.int (i * j)) (tVar 5) (tC (V.int 40692))) (tC (V.int 3))) tNil)) (tC (V.int 2147483563))) (gSub (tVar 0) (tC (V.int 2)) rSetL))
  (tRet (tOp (rI0 fun i j => V.int (i + j)) (tOp (rI0 fun i j => V.int (i + j)) (tOp (rI CMul fun i j => V.int (i * j)) (tVar 4) (tC (V.int 4611686014132420609))) (tOp (rI CMul fun i j => V.int (i * j)) (tVar 5) (tC (V.int 2147483647)))) (tOp (rIxL K) (tVar 0) (tC (V.int 2)))))))
def tLoad (K : PySem.W.Frag) : TS :=
  tSeq (tAsg (tOp (rIxL K) (tVar 0) (tC (V.int 0))) (gName 1))
  (tSeq (tIfS (tTest (tOp (rI0 fun i j => V.bl (decide (j < i))) (tCB (trLen K) (tCons (tVar 1) tNil)) (tC (V.int 0))))
    (tSeq (tAsg (tCB trInt (tCons (tBM K "list" rPopAt (tVar 1) (tCons (tC (V.int 0)) tNil)) tNil)) (gName 2))
    (tSeq (tAsg (tIf (tTest (tOp (rI0 fun i j => V.bl (decide (j ≤ i))) (tVar 2) (tC (V.int 0)))) (tOp (rI CMul fun i j => V.int (i * j)) (tC (V.int 2)) (tVar 2)) (tOp (rI0 fun i j => V.int (i - j)) (tOp (rI CMul fun i j => V.int (i * j)) (tUn (L2.rU fun i => V.int (-i)) (tC (V.int 2))) (tVar 2)) (tC (V.int 1)))) (gName 3))
    (tSeq (tIfS (tTest (tOp (rI0 fun i j => V.bl (decide (j ≤ i))) (tVar 3) (tC (V.int 1000000000000000000)))) (tRet (tVar 3)) tNext)
    (tAsg (tOp (rI (fun x j => 0 < j) fun i j => V.int (i % j)) (tCB trInt (tCons (tOp (rI0 fun i j => V.int (i + j)) (tOp (rI0 fun i j => V.int (i + j)) (tOp (rI CMul fun i j => V.int (i * j)) (tOp (rIxL K) (tVar 0) (tC (V.int 2))) (tC (V.int 69621))) (tOp (rI CMul fun i j => V.int (i * j)) (tVar 3) (tC (V.int 48271)))) (tC (V.int 11))) tNil)) (tC (V.int 2147483647))) (gSub (tVar 0) (tC (V.int 2)) rSetL))))) tNext)
  (tLoadFin K))
theorem loadFin_read {K : PySem.W.Frag} {a c : Addr} {d s : Int} {H : Hp} {o1 o2 o3 o4 o5 : Option V} {D : Ends} (m : H a = some (.lst [.ref c, .int d, .int s])) (h : D.rt (.int (loadFin s).1) (upd H a (.lst [.ref c, .int d, .int (loadFin s).2]))) :
    tLoadFin K D [some (.ref a), o1, o2, o3, o4, o5] H := by
  have b1 : (-(2 ^ 64) : Int) < 48271 ∧ (48271 : Int) < 2 ^ 64 := by decide
  have b2 : (-(2 ^ 64) : Int) < 69621 ∧ (69621 : Int) < 2 ^ 64 := by decide
  have b3 : (-(2 ^ 64) : Int) < 40692 ∧ (40692 : Int) < 2 ^ 64 := by decide
  have b4 : (-(2 ^ 64) : Int) < 4611686014132420609 ∧ (4611686014132420609 : Int) < 2 ^ 64 := by decide
  have b5 : (-(2 ^ 64) : Int) < 2147483647 ∧ (2147483647 : Int) < 2 ^ 64 := by decide
  have p1 : (0:Int) < 2147483629 := by decide
  have p2 : (0:Int) < 2147483587 := by decide
  have p3 : (0:Int) < 2147483563 := by decide
  refine ⟨_, rfl, a, _, 2, .int s, rfl, rfl, SqL.of m, rfl, s, 48271, rfl, rfl, .inr b1, _, _, rfl, rfl, .inl ⟨_, rfl, _, _, rfl, rfl, p1, ?_⟩⟩
  refine ⟨_, rfl, _, 69621, rfl, rfl, .inr b2, _, _, rfl, rfl, .inl ⟨_, rfl, _, _, rfl, rfl, p2, ?_⟩⟩
  refine ⟨_, rfl, _, 40692, rfl, rfl, .inr b3, _, _, rfl, rfl, .inl ⟨_, rfl, _, _, rfl, rfl, p3, ?_⟩⟩
  refine ⟨_, rfl, a, _, 2, 2, rfl, rfl, m, rfl, ?_⟩
  refine ⟨_, rfl, _, 4611686014132420609, rfl, rfl, .inr b4, _, rfl, _, 2147483647, rfl, rfl, .inr b5, _, _, rfl, rfl, _, rfl, a, _, 2, .int (loadFin s).2, rfl, rfl, SqL.of upd_same, rfl, _, _, rfl, rfl, h⟩
theorem load_read {K : PySem.W.Frag} {a c : Addr} {cells : List Int} {d s : Int} {H : Hp} {D : Ends} (ca : c ≠ a) (m : H a = some (.lst [.ref c, .int d, .int s])) (mc : H c = some (.lst (cells.map V.int)))
    (h : ∀ H1 H2, (H1 = H ∨ H1 = upd H c (.lst ((loadF cells s).2.1.map V.int))) → H1 c = some (.lst ((loadF cells s).2.1.map V.int)) → (H2 = H1 ∧ (loadF cells s).2.2 = s ∨ (∃ s1, H2 = upd (upd H1 a (.lst [.ref c, .int d, .int s1])) a (.lst [.ref c, .int d, .int (loadF cells s).2.2])) ∨ H2 = upd H1 a (.lst [.ref c, .int d, .int (loadF cells s).2.2])) → D.rt (.int (loadF cells s).1) H2) :
    tLoad K D [some (.ref a), none, none, none, none, none] H := by
  have b1 : (-(2 ^ 64) : Int) < 48271 ∧ (48271 : Int) < 2 ^ 64 := by decide
  have b2 : (-(2 ^ 64) : Int) < 69621 ∧ (69621 : Int) < 2 ^ 64 := by decide
  have b3 : (-(2 ^ 64) : Int) < 2 ∧ (2 : Int) < 2 ^ 64 := by decide
  have b4 : (-(2 ^ 64) : Int) < -2 ∧ (-2 : Int) < 2 ^ 64 := by decide
  have p1 : (0:Int) < 2147483647 := by decide
  refine ⟨_, rfl, a, _, 0, .ref c, rfl, rfl, SqL.of m, rfl, ?_⟩
  refine ⟨_, rfl, c, _, rfl, .inl (SqL.of mc), _, _, rfl, rfl, _, rfl, ?_⟩
  rw [List.length_map]
  cases cells with
  | nil =>
    rw [if_neg (by simp)]
    exact loadFin_read m (h H _ (.inl rfl) mc (.inr (.inr rfl)))
  | cons x cs =>
    rw [if_pos (by simp)]
    have pop : ∀ Q : VK, Q (.int x) (upd H c (.lst (cs.map V.int))) → rPopAt (.ref c) [.int 0] H Q := fun Q q => ⟨c, _, 0, 0, .int x, rfl, rfl, mc, by decide, by decide, by simp [seqIndex?], rfl, q⟩
    refine ⟨_, rfl, .inl ⟨rfl, _, SqL.of mc⟩, pop _ (.inl ⟨_, rfl, ?_⟩)⟩
    have mc1 : (upd H c (.lst (cs.map V.int))) c = some (.lst (cs.map V.int)) := upd_same
    have m1 : (upd H c (.lst (cs.map V.int))) a = some (.lst [.ref c, .int d, .int s]) := by rw [upd_ne (Ne.symm ca)]; exact m
    have key : ∀ o2, tSeq (tIfS (tTest (tOp (rI0 fun i j => V.bl (decide (j ≤ i))) (tVar 3) (tC (V.int 1000000000000000000)))) (tRet (tVar 3)) tNext)
        (tAsg (tOp (rI (fun x j => 0 < j) fun i j => V.int (i % j)) (tCB trInt (tCons (tOp (rI0 fun i j => V.int (i + j)) (tOp (rI0 fun i j => V.int (i + j)) (tOp (rI CMul fun i j => V.int (i * j)) (tOp (rIxL K) (tVar 0) (tC (V.int 2))) (tC (V.int 69621))) (tOp (rI CMul fun i j => V.int (i * j)) (tVar 3) (tC (V.int 48271)))) (tC (V.int 11))) tNil)) (tC (V.int 2147483647))) (gSub (tVar 0) (tC (V.int 2)) rSetL))
        { D with nx := tLoadFin K D } [some (.ref a), some (.ref c), o2, some (.int (loadSz x)), none, none] (upd H c (.lst (cs.map V.int))) := fun o2 => by
      refine ⟨_, rfl, _, _, rfl, rfl, _, rfl, ?_⟩
      by_cases hb : decide (1000000000000000000 ≤ loadSz x) = true
      · have e : loadF (x :: cs) s = (loadSz x, cs, s) := by show (if _ then _ else _) = _; rw [if_pos hb]
        rw [e] at h
        dsimp only
        rw [if_pos hb]
        exact ⟨_, rfl, h _ _ (.inr rfl) mc1 (.inl ⟨rfl, rfl⟩)⟩
      · have e : loadF (x :: cs) s = ((loadFin ((s * 69621 + loadSz x * 48271 + 11) % 2147483647)).1, cs, (loadFin ((s * 69621 + loadSz x * 48271 + 11) % 2147483647)).2) := by show (if _ then _ else _) = _; rw [if_neg hb]
        rw [e] at h
        dsimp only
        rw [if_neg hb]
        refine ⟨_, rfl, a, _, 2, .int s, rfl, rfl, SqL.of m1, rfl, s, 69621, rfl, rfl, .inr b2, _, rfl, _, 48271, rfl, rfl, .inr b1, _, _, rfl, rfl, _, _, rfl, rfl, .inl ⟨_, rfl, _, _, rfl, rfl, p1, ?_⟩⟩
        refine ⟨_, rfl, a, _, 2, 2, rfl, rfl, m1, rfl, ?_⟩
        exact loadFin_read upd_same (h _ _ (.inr rfl) mc1 (.inr (.inl ⟨_, rfl⟩)))
    refine ⟨_, rfl, _, _, rfl, rfl, _, rfl, ?_⟩
    by_cases hx : decide ((0:Int) ≤ x) = true
    · have e : loadSz x = 2 * x := by unfold loadSz; rw [if_pos hx]
      have := key (some (.int x))
      rw [e] at this
      dsimp only
      rw [if_pos hx]
      exact ⟨_, rfl, 2, x, rfl, rfl, .inl b3, this⟩
    · have e : loadSz x = -2 * x - 1 := by unfold loadSz; rw [if_neg hx]
      have := key (some (.int x))
      rw [e] at this
      dsimp only
      rw [if_neg hx]
      exact ⟨2, rfl, _, rfl, -2, x, rfl, rfl, .inl b4, _, _, rfl, rfl, this⟩
theorem vints_inj : ∀ {xs ys : List Int}, xs.map V.int = ys.map V.int → xs = ys
  | [], [], _ => rfl
  | [], _ :: _, h => by cases h
  | _ :: _, [], h => by cases h
  | x :: xs, y :: ys, h => by
    rw [List.map_cons, List.map_cons] at h
    injection h with h1 h2
    injection h1 with h1
    rw [h1, vints_inj h2]
/-- the def -/
theorem load_ok {P : Program} {w : World} {K : PySem.W.Frag} {mg : MG} {base : Heap} {x x0 qual : Str} {params : Arguments} {sts : List Stmt} {scope : Scope} {f : Addr} {fd : FuncData} {N : List Str}
    (F : FunD K x0 qual params sts scope [] [] f fd) (S : FnScope N ["box"] scope) (hn : N.length = 6) (hm : mg x = some (.ref f))
    (hb : ∀ (kV doc pm : Value) (an : Option Addr) (cdv ct : Value) (us : List Value), us.length = (["box"] : List Str).length → bindArgs (PySem.W.fnOf x0 qual params sts scope .none kV doc pm an cdv ct) ⟨us, []⟩ = pure ((["box"] : List Str).zip us))
    (body : ∀ (cdv : Value) (A : Around) (outer : List PySem.Env) (s : Shared) (H : Hp) (E : XK), Room 0 (A.deeper (envOfC qual scope s.heap.objs.size f cdv)) →
      PSs (cxOf CX0 P w K mg base N qual scope f cdv A outer s H E).nox sts (tLoad K)) : Cal P w K mg base CX0 x loadE := by
  refine ⟨f, fd, ["box"], ?_, hm, F.kp, F.bindsN hb⟩
  refine F.ok S (fun vs H Q E h => by rw [h.1]; rfl) fun cdv A outer s H vs Q E hr h => ⟨_, PSs.nox (body cdv A outer s H E hr), ?_⟩
  obtain ⟨hvs, Z, O, args, R, r, t, e, kk⟩ := h
  have hvs : vs.length = 1 := hvs
  have hargs : args.length = 1 := by have := R.len; rw [List.length_map] at this; omega
  match args, hargs, e, R with
  | [.pbox cells d s0], _, e, R =>
    cases e
    obtain ⟨a, c, ea, oa, oc, ma, mc, fx⟩ := R.sl 0 _ rfl
    match vs, hvs, ea, R, fx with
    | [v], _, ea, R, fx =>
      cases ea
      have ca : c ≠ a := fun z => by rw [z, oa] at oc; cases oc
      rw [start_eq, hn]
      refine load_read ca ma mc fun H1 H2 h1 hc h2 => ?_
      generalize loadF cells s0 = q at *
      have g1 : EnvR K mg Z H1 O (parL [.ref a]) [some (.ref a)] [.pbox q.2.1 d s0] ∧ Ext Z H O Z H1 O ∧ H1 a = some (.lst [.ref c, .int d, .int s0]) := by
        have upd' := R.chg (o := .lst (q.2.1.map V.int)) (s := .pbox q.2.1 d s0) oc ⟨a, c, rfl, oa, oc, by rw [upd_ne (Ne.symm ca)]; exact ma, upd_same, fx⟩
        rcases h1 with rfl | rfl
        · have : cells = q.2.1 := by
            have e : (HO.lst (cells.map V.int)) = .lst (q.2.1.map V.int) := Option.some.inj (mc.symm.trans hc)
            injection e with e
            exact vints_inj e
          subst this
          exact ⟨R, Ext.refl _ _ _, ma⟩
        · exact ⟨upd'.1, upd'.2, by rw [upd_ne (Ne.symm ca)]; exact ma⟩
      obtain ⟨R1, x1, ma1⟩ := g1
      have st : ∀ {Hx : Hp} {sx sy : Int}, EnvR K mg Z Hx O (parL [.ref a]) [some (.ref a)] [.pbox q.2.1 d sx] → Hx c = some (.lst (q.2.1.map V.int)) →
          EnvR K mg Z (upd Hx a (.lst [.ref c, .int d, .int sy])) O (parL [.ref a]) [some (.ref a)] [.pbox q.2.1 d sy] ∧ Ext Z Hx O Z (upd Hx a (.lst [.ref c, .int d, .int sy])) O ∧ (upd Hx a (.lst [.ref c, .int d, .int sy])) c = some (.lst (q.2.1.map V.int)) := fun {Hx sx sy} Rx hx => by
        have := Rx.chg (o := .lst [.ref c, .int d, .int sy]) (s := .pbox q.2.1 d sy) oa ⟨a, c, rfl, oa, oc, upd_same, by rw [upd_ne ca]; exact hx, fx⟩
        exact ⟨this.1, this.2, by rw [upd_ne ca]; exact hx⟩
      have g2 : EnvR K mg Z H2 O (parL [.ref a]) [some (.ref a)] [.pbox q.2.1 d q.2.2] ∧ Ext Z H O Z H2 O := by
        rcases h2 with ⟨rfl, hs⟩ | ⟨s1, rfl⟩ | rfl
        · rw [hs]; exact ⟨R1, x1⟩
        · obtain ⟨R2, x2, hc2⟩ := st (sy := s1) R1 hc
          obtain ⟨R3, x3, _⟩ := st (sy := q.2.2) R2 hc2
          exact ⟨R3, (x1.trans x2).trans x3⟩
        · obtain ⟨R2, x2, hc2⟩ := st (sy := q.2.2) R1 hc
          exact ⟨R2, x1.trans x2⟩
      obtain ⟨R2, x2⟩ := g2
      obtain ⟨R3, n3⟩ := R2.push (H0 := H) (v := .int q.1) (s := .fz (.int q.1)) (show Rl K mg Z (V.int q.1) (Val.int q.1) from .int _)
      exact kk _ H2 Z _ (x2.place n3) R3
end Ev

/-! Ev: what is never reached; enumerate; x += e. -/
namespace Ev
open PySem PySem.Spec PyProof.Rows L2
def dBad : DV := fun _ => .bad
theorem pv_bad {X : Cx} {e : Expr} : PV X e dBad := ⟨fun pins s σ H Q I h => by obtain ⟨Z, O, C, ρ, R, x, ρ', q, k⟩ := h; cases q⟩
def sBad : DS := fun _ => .bad
theorem st_bad {X : Cx} {st : Stmt} : PSt X st sBad := ⟨fun pins s σ H D I h => by obtain ⟨Z, O, C, ρ, R, q⟩ := h; exact q.elim⟩
def iBad : DI := fun _ => .bad
theorem it_bad {X : Cx} {tg e : Expr} : PIt X tg e iBad := ⟨fun pins s σ H Q I h => by obtain ⟨Z, O, C, ρ, R, x, ρ', q, k⟩ := h; cases q⟩
/-! enumerate -/
def enumV (xs : List Val) : List Val := (xs.zipIdx).map fun p => .tup [.int (p.2 : Nat), p.1]
theorem enumV_get {xs : List Val} {i : Nat} {x : Val} (h : xs[i]? = some x) : (enumV xs)[i]? = some (.tup [.int (i : Nat), x]) := by
  unfold enumV
  rw [List.getElem?_map, List.getElem?_zipIdx, h]
  simp
theorem enumV_len (xs : List Val) : (enumV xs).length = xs.length := by simp [enumV]
theorem enumV_map {α : Type} (f : α → Val) (xs : List α) : enumV (xs.map f) = xs.zipIdx.map fun p => .tup [.int (p.2 : Nat), f p.1] := by
  unfold enumV
  rw [List.zipIdx_map, List.map_map]
  rfl
theorem walk_e {K : PySem.W.Frag} {mg : MG} {Z : Hp} {C : Lk} {a : Addr} {vs : List V} {xs : List Val} (r : Rls K mg Z vs xs) (h : ∀ Zc H, Same Z Zc → Same Zc H → Same C H → SqL K H a vs) : Walk K mg (Ite K a) Z C (enumV xs) where
  go := fun i Zc H z zh c hi => by
    have hi' : i < vs.length := by rw [r.length]; rw [enumV_len] at hi; exact hi
    exact ⟨vs, vs[i], h Zc H z zh c, by simp [hi']⟩
  yld := fun i Zc H v H' z zh c hi y => by
    obtain ⟨T, u, rfl, hT, rfl, y⟩ := y
    obtain ⟨x, h1, h2⟩ := r.get' (y vs (h Zc _ z zh c))
    have gr := Grow.newZ (o := .tup [.int (i : Nat), u]) zh hT
    exact ⟨_, _, gr, enumV_get h1, .tup upd_same (.cons (.int _) (.cons ((h2.mono z).mono gr.z) .nil))⟩
  stop := fun i Zc H z zh c hi => ⟨vs, h Zc H z zh c, by rw [r.length]; rw [enumV_len] at hi; exact hi⟩
def enuV : Val → Option (List Val)
  | .lst xs => some (enumV xs)
  | _ => none
def kEn (p : Val × Env) : Out (List Val × Env) := wE (enuV p.1) p.2
def dEn (d : DV) : DI := fun ρ => (d ρ).bind kEn
theorem it_enum {X : Cx} {e : Expr} {d : DV} {p pos tpos : Pos} {elts : List Expr} {kk : Nat} (hg : Gl X "enumerate") (hm : X.mg "enumerate" = none) (ha : PV X e d) (hs : starEach [e] X.env = [(false, eval e X.env)] := by rfl) (hs2 : starEach [e] X.env = (false, eval e X.env) :: starEach [] X.env := by rfl) :
    PIt X (.Tuple elts kk tpos) (.Call (.Name "enumerate" p) [e] [] pos) (dEn d) := PI.imp (pi_enum hg hm (pa_cons ha pa_nil hs2) hs) fun σ H R ⟨Z, O, C, ρ, R0, xs, ρ', q, k⟩ => by
  obtain ⟨⟨x, ρ1⟩, e1, q⟩ := Out.bind_ok q
  refine ⟨Z, O, C, ρ, R0, x, ρ1, e1, fun v H' Z' O' ex R' r => ?_⟩
  cases x with
  | lst ys =>
    cases q
    cases r with
    | lst m r => exact ⟨_, _, rfl, SqL.of (R'.zh _ _ m), k _ H' Z' O' ex R' (walk_e r fun Zc H z zh _ => SqL.of (zh _ _ (z _ _ m)))⟩
  | _ => cases q
/-! x += e, ints -/
def kAug2 (i : Nat) (g : Int → Int → Int) (ρ : Env) (n : Int) (x : Val) : Fl := match x with
  | .int m => asg i (.fz (.int (g n m))) ρ
  | _ => .bad
def kAug (i : Nat) (g : Int → Int → Int) (n : Int) (p : Val × Env) : Fl := kAug2 i g p.2 n p.1
def kAu0 (i : Nat) (g : Int → Int → Int) (d : DV) (ρ : Env) : Option Sl → Fl
  | some (.fz (.int n)) => (d ρ).fl (kAug i g n)
  | _ => .bad
def sAug (i : Nat) (g : Int → Int → Int) (d : DV) : DS := fun ρ => kAu0 i g d ρ ρ[i]?
def auAdd (i j : Int) : Int := i + j
def auSub (i j : Int) : Int := i - j
theorem st_aug {X : Cx} {i : Nat} {x : Str} {e : Expr} {d : DV} {g : Int → Int → Int} {op : Operator} {pos' pos : Pos} (hN : X.N.Nodup) (hi : X.N[i]? = some x) (hx : Loc X.env.scope x) (he : PV X e d) (ho : PIp X op (ipI g)) (hf : X.fn x = true ∨ X.env.scope.names.lookup x = some .local := by first | exact .inl rfl | exact .inr rfl | assumption) :
    PSt X (.AugAssign (.Name x pos') op e pos) (sAug i g d) := PS.imp (ps_aug hN hi hx he ho hf) fun D σ H ⟨Z, O, C, ρ, R, h⟩ => by
  unfold sAug kAu0 at h
  split at h
  · rename_i n e0
    obtain ⟨u, e1, r⟩ := R.sl i _ e0
    cases r
    refine ⟨_, e1, Z, O, C, ρ, R, ?_⟩
    rcases e2 : d ρ with ⟨⟨y, ρ1⟩⟩ | _ | _
    · rw [e2] at h
      have h : FlR X.K X.mg Z H O C D (kAug2 i g ρ1 n y) := h
      refine ⟨y, ρ1, rfl, fun v H' Z' O' x R' r => ?_⟩
      cases y with
      | int m =>
        cases r
        have h : FlR X.K X.mg Z H O C D (asg i (.fz (.int (g n m))) ρ1) := h
        unfold asg at h
        split at h
        · rename_i hl
          obtain ⟨R2, n2⟩ := R'.place (H0 := H) (s := .fz (.int (g n m))) (v := .int (g n m)) hl (show Rl X.K X.mg Z' (V.int (g n m)) (Val.int (g n m)) from .int _)
          exact ⟨n, m, rfl, rfl, h _ H' Z' _ (x.place n2) R2⟩
        · exact h.elim
      | _ => exact h.elim
    · rw [e2] at h; exact h.elim
    · rw [e2] at h; exact h.elim
  · exact h.elim
end Ev

/-! Ev: more words marked for simp. -/
namespace Ev
open PySem PySem.Spec PyProof.Rows L2
@[simp] theorem u_bxO (c : List Int) (d s : Int) : bxOf (some (.box c d s)) = some (c, d, s) := by rfl
@[simp] theorem u_bxP (c : List Int) (d s : Int) : bxOf (some (.pbox c d s)) = some (c, d, s) := by rfl
@[simp] theorem u_stB (c c' : List Int) (d s d' s' : Int) : setB c d s (.box c' d' s') = .box c d s := by rfl
@[simp] theorem u_stP (c c' : List Int) (d s d' s' : Int) : setB c d s (.pbox c' d' s') = .pbox c d s := by rfl
@[simp] theorem u_dBx (i : Nat) (k : Int) (ρ : Env) : dBx i k ρ = bxGet k ρ (bxOf ρ[i]?) := by rfl
@[simp] theorem u_bg1 (ρ : Env) (c : List Int) (d s : Int) : bxGet 1 ρ (some (c, d, s)) = .ok (.int d, ρ) := by rfl
@[simp] theorem u_bg2 (ρ : Env) (c : List Int) (d s : Int) : bxGet 2 ρ (some (c, d, s)) = .ok (.int s, ρ) := by rfl
@[simp] theorem u_sBx (i : Nat) (k : Int) (d : DV) (ρ : Env) : sBx i k d ρ = (d ρ).fl (kBx i k) := by rfl
@[simp] theorem u_kBx (i : Nat) (k : Int) (x : Val) (ρ : Env) : kBx i k (x, ρ) = bxPut i k x ρ ρ[i]? (bxOf ρ[i]?) := by rfl
@[simp] theorem u_bp1 (i : Nat) (n : Int) (ρ : Env) (t : Sl) (c : List Int) (d s : Int) : bxPut i 1 (.int n) ρ (some t) (some (c, d, s)) = .nx (ρ.set i (setB c n s t)) := by rfl
@[simp] theorem u_bp2 (i : Nat) (n : Int) (ρ : Env) (t : Sl) (c : List Int) (d s : Int) : bxPut i 2 (.int n) ρ (some t) (some (c, d, s)) = .nx (ρ.set i (setB c d n t)) := by rfl
@[simp] theorem u_dBn (d1 : DO) (d2 d3 : DV) (ρ : Env) : dBn d1 d2 d3 ρ = (d1 ρ).bind (kBn d2 d3) := by rfl
@[simp] theorem u_kBn (d2 d3 : DV) (xs : List Val) (ρ : Env) : kBn d2 d3 (.own xs, ρ) = kBn1 d2 d3 ρ (intsL xs) := by rfl
@[simp] theorem u_kBn1 (d2 d3 : DV) (ρ : Env) (c : List Int) : kBn1 d2 d3 ρ (some c) = (d2 ρ).bind (kBn2 d3 c) := by rfl
@[simp] theorem u_kBn2 (d3 : DV) (c : List Int) (d : Int) (ρ : Env) : kBn2 d3 c (.int d, ρ) = (d3 ρ).bind (kBn3 c d) := by rfl
@[simp] theorem u_kBn3 (c : List Int) (d s : Int) (ρ : Env) : kBn3 c d (.int s, ρ) = .ok (.box c d s, ρ) := by rfl
@[simp] theorem u_intsL (ns : List Int) : intsL (ns.map .int) = some ns := intsL_map ns
@[simp] theorem u_dEn (d : DV) (ρ : Env) : dEn d ρ = (d ρ).bind kEn := by rfl
@[simp] theorem u_kEn (x : Val) (ρ : Env) : kEn (x, ρ) = wE (enuV x) ρ := by rfl
@[simp] theorem u_enL (xs : List Val) : enuV (.lst xs) = some (enumV xs) := by rfl
@[simp] theorem u_sAug (i : Nat) (g : Int → Int → Int) (d : DV) (ρ : Env) : sAug i g d ρ = kAu0 i g d ρ ρ[i]? := by rfl
@[simp] theorem u_kAu0 (i : Nat) (g : Int → Int → Int) (d : DV) (ρ : Env) (n : Int) : kAu0 i g d ρ (some (.fz (.int n))) = (d ρ).fl (kAug i g n) := by rfl
@[simp] theorem u_kAug (i : Nat) (g : Int → Int → Int) (n : Int) (x : Val) (ρ : Env) : kAug i g n (x, ρ) = kAug2 i g ρ n x := by rfl
@[simp] theorem u_kAug2 (i : Nat) (g : Int → Int → Int) (ρ : Env) (n m : Int) : kAug2 i g ρ n (.int m) = if i < ρ.length then .nx (ρ.set i (.fz (.int (g n m)))) else .bad := by rfl
@[simp] theorem u_auAdd (i j : Int) : auAdd i j = i + j := by rfl
@[simp] theorem u_auSub (i j : Int) : auSub i j = i - j := by rfl
@[simp] theorem u_loadE (c : List Int) (d s : Int) : loadE.sem [.pbox c d s] = .ok (.fz (.int (loadF c s).1), .pbox (loadF c s).2.1 d (loadF c s).2.2) := by rfl
@[simp] theorem u_loadN : loadE.np = 1 := by rfl
end Ev

/-! Ev: tuple(range(..)). -/
namespace Ev
open PySem PySem.Spec PyProof.Rows L2
def kTR (p : (Int × Int) × Env) : Out (Val × Env) := if rgOk p.1.1 p.1.2 then .ok (.tup ((rangeI p.1.1 p.1.2).map .int), p.2) else .bad
def dTR (d : DR) : DV := fun ρ => (d ρ).bind kTR
@[simp] theorem u_dTR (d : DR) (ρ : Env) : dTR d ρ = (d ρ).bind kTR := by rfl
@[simp] theorem u_kTR (a b : Int) (ρ : Env) : kTR ((a, b), ρ) = if rgOk a b then .ok (.tup ((rangeI a b).map .int), ρ) else .bad := by rfl
theorem pv_tupRg {X : Cx} {e : Expr} {d : DR} {p pos : Pos} (hc : X.calm = true) (hg : Gl X "tuple") (hm : X.mg "tuple" = none) (he : PRv X e d) (na : starEach [e] X.env = (false, eval e X.env) :: starEach [] X.env := by rfl) : PV X (.Call (.Name "tuple" p) [e] [] pos) (dTR d) :=
  PE.imp (pe_tupRg hc hg hm he na) fun σ H Q ⟨Z, O, C, ρ, R, x, ρ', q, k⟩ => by
    obtain ⟨⟨⟨a, b⟩, ρ1⟩, e1, q⟩ := Out.bind_ok q
    refine ⟨Z, O, C, ρ, R, (a, b), ρ1, e1, fun H1 Z1 O1 x1 R1 => ?_⟩
    have q : (if rgOk a b then Out.ok (Val.tup ((rangeI a b).map .int), ρ1) else .bad) = .ok (x, ρ') := q
    split at q
    · rename_i hr
      cases q
      refine ⟨by simpa [rgOk, RgOk] using hr, fun p hp => ?_⟩
      rw [rgV_ints]
      let gr := Grow.newZ (o := .tup ((rangeI a b).map V.int)) R1.zh hp
      exact k _ _ _ O1 (x1.trans gr.ext) (R1.grow gr) (.tup upd_same (Rls.ints _))
    · cases q
@[simp] theorem u_rgOk {a b : Int} (h : 0 ≤ a ∧ a ≤ 1000000 ∧ 0 ≤ b ∧ b ≤ 1000000) : rgOk a b = true := by unfold rgOk; simp; omega
end Ev

/-! Ev: comprehensions whose parts change the environment in a known way. -/
namespace Ev
open PySem PySem.Spec PyProof.Rows L2
theorem set_self {α : Type} {l : List α} {i : Nat} {a : α} (h : l[i]? = some a) : l.set i a = l := by
  apply List.ext_getElem?
  intro j
  by_cases hj : i = j
  · subst hj
    have := (List.getElem?_eq_some_iff.mp h).1
    rw [List.getElem?_set_self this, h]
  · rw [List.getElem?_set_ne hj]
theorem dLc_st {α β τ : Type} {it : DI} {i : Nat} {t : DT} {e : DV} (enc : α → Val) (dec : β → Val) (ρ : τ → Env) {ρ0 : Env} (b0 : τ) {xs : List α} (hit : it ρ0 = .ok (xs.map enc, ρ b0)) (hl : xs.length ≤ 1000000)
    (hk : ∀ b, (ρ b)[i]? = some .no) (I : List α → List β → τ → Prop) (h0 : I [] [] b0)
    (st : ∀ pre a post out b, xs = pre ++ a :: post → I pre out b → ∃ k b1, t ((ρ b).set i (.fz (enc a))) = .ok (k, (ρ b1).set i (.fz (enc a))) ∧ ((k = true ∧ ∃ y b2, e ((ρ b1).set i (.fz (enc a))) = .ok (dec y, (ρ b2).set i (.fz (enc a))) ∧ I (pre ++ [a]) (out ++ [y]) b2) ∨ (k = false ∧ I (pre ++ [a]) out b1))) :
    ∃ ys b', dLc it (gNm i) t e [i] ρ0 = .ok (.own (ys.map dec), ρ b') ∧ I xs ys b' := by
  have hw : ∀ b, wipeE (ρ b) [i] = ρ b := fun b => by simp [wipeE]; exact set_self (hk b)
  have hs : ∀ b (v : Sl), ((ρ b).set i v).set i .no = ρ b := fun b v => by rw [set_set]; exact set_self (hk b)
  have hi : ∀ b, i < (ρ b).length := fun b => (List.getElem?_eq_some_iff.mp (hk b)).1
  obtain ⟨ys, ρ', h1, zs, b', rfl, rfl, h2⟩ := lcL_all (g := gNm i) (t := t) (e := e) (vs := [i]) enc xs (fun pre out r => ∃ zs b, out = zs.map dec ∧ r = ρ b ∧ I pre zs b) (ρ := ρ b0) ⟨[], b0, rfl, rfl, h0⟩ fun pre a post out r e0 ⟨zs, b, h1, h2, h3⟩ => by
    subst h1 h2
    obtain ⟨k, b1, h4, h5⟩ := st pre a post zs b e0 h3
    refine ⟨_, k, _, by rw [y_gNm, if_pos (hi b)], h4, ?_⟩
    rcases h5 with ⟨rfl, y, b2, h6, h7⟩ | ⟨rfl, h7⟩
    · exact .inl ⟨rfl, _, _, h6, zs ++ [y], b2, by simp, by show wipeE _ [i] = _; simp only [wipeE]; exact hs _ _, h7⟩
    · exact .inr ⟨rfl, zs, b1, rfl, by show wipeE _ [i] = _; simp only [wipeE]; exact hs _ _, h7⟩
  refine ⟨zs, b', ?_, h2⟩
  rw [lc_eq hit (by rw [List.length_map]; exact Nat.le_trans hl (by decide)) (by rw [hw]; exact h1)]
  simp only [rest, hk, keepFz]
  rw [set_self (hk b')]
/-- .. without a test -/
theorem dLc_st1 {α β τ : Type} {it : DI} {i : Nat} {e : DV} (enc : α → Val) (dec : β → Val) (ρ : τ → Env) {ρ0 : Env} (b0 : τ) {xs : List α} (hit : it ρ0 = .ok (xs.map enc, ρ b0)) (hl : xs.length ≤ 1000000)
    (hk : ∀ b, (ρ b)[i]? = some .no) (I : List α → List β → τ → Prop) (h0 : I [] [] b0)
    (st : ∀ pre a post out b, xs = pre ++ a :: post → I pre out b → ∃ y b2, e ((ρ b).set i (.fz (enc a))) = .ok (dec y, (ρ b2).set i (.fz (enc a))) ∧ I (pre ++ [a]) (out ++ [y]) b2) :
    ∃ ys b', dLc it (gNm i) tYesD e [i] ρ0 = .ok (.own (ys.map dec), ρ b') ∧ I xs ys b' :=
  dLc_st enc dec ρ b0 hit hl hk I h0 fun pre a post out b e0 h => by
    obtain ⟨y, b2, h1, h2⟩ := st pre a post out b e0 h
    exact ⟨true, b, rfl, .inl ⟨rfl, y, b2, h1, h2⟩⟩
end Ev

/-! Ev: bits; lists of own lists. -/
namespace Ev
open PySem PySem.Spec PyProof.Rows L2
def bandV : Val → Val → Option Val
  | .int i, .int j => some (.int (Builtin.bitAnd i j))
  | _, _ => none
theorem o_band {X : Cx} : OpR X (binaryOp .BitAnd) (r2 X.K X.mg bandV) := OpR.imp op_and fun v w H Q ⟨Z, x, y, z, zh, b1, b2, e, q⟩ => by
  unfold bandV at e
  split at e
  · cases e
    cases bor_int b1
    cases bor_int b2
    exact ⟨_, _, rfl, rfl, q.here zh (.int _)⟩
  · cases e
@[simp] theorem u_band1 (i : Int) : bandV (.int i) (.int 1) = some (.int (i % 2)) := by show some (Val.int (Builtin.bitAnd i 1)) = _; rw [bitAnd_m1]

/-! a comprehension of new lists -/
def lcLo (g : DG) (t : DT) (e : DO) (vs : List Nat) : List Val → Env → Option (List (List Val) × Env)
  | [], ρ => some ([], ρ)
  | x :: xs, ρ => match g x ρ with
    | some ρ1 => match t ρ1 with
      | .ok (true, ρ2) => match e ρ2 with
        | .ok (.own y, ρ3) => (lcLo g t e vs xs (wipeE ρ3 vs)).map fun p => (y :: p.1, p.2)
        | _ => none
      | .ok (false, ρ2) => lcLo g t e vs xs (wipeE ρ2 vs)
      | _ => none
    | none => none
def dLo (it : DI) (g : DG) (t : DT) (e : DO) (vs : List Nat) : DO := fun ρ => match it ρ with
  | .ok (xs, ρ1) => if xs.length ≤ sizeLine then match lcLo g t e vs xs (wipeE ρ1 vs) with
    | some (ys, ρ2) => .ok (.own2 ys, rest ρ1 vs ρ2)
    | none => .bad
    else .bad
  | _ => .bad
/-- the lists that came so far -/
structure AccO (K : PySem.W.Frag) (mg : MG) (Z H : Hp) (O : Lab) (C : Lk) (H1 : Hp) (D : Addr) (bs : List Addr) (acc : List (List Val)) : Prop where
  nd : bs.Nodup
  fr : ∀ b ∈ bs, O b = none ∧ Z b = none ∧ C b = none ∧ H1 b = none ∧ b ≠ D
  pr : Paired (fun b xs => ∃ ws, H b = some (.lst ws) ∧ Rls K mg Z ws xs) bs acc
section
variable {K : PySem.W.Frag} {mg : MG} {Z H : Hp} {O : Lab} {C : Lk} {σ : L2.St} {ρ : Env} {H1 : Hp} {D : Addr} {bs : List Addr} {acc : List (List Val)}
theorem paired_at {F : Addr → List Val → Prop} : ∀ {bs : List Addr} {acc : List (List Val)}, Paired F bs acc → ∀ b ∈ bs, ∃ x, F b x
  | _, _, .nil, b, h => by cases h
  | _, _, .cons q t, b, h => by
    rcases List.mem_cons.mp h with rfl | h
    · exact ⟨_, q⟩
    · exact paired_at t b h
theorem paired_imp {F G : Addr → List Val → Prop} : ∀ {bs : List Addr} {acc : List (List Val)}, Paired F bs acc → (∀ b ∈ bs, ∀ x, F b x → G b x) → Paired G bs acc
  | _, _, .nil, _ => .nil
  | _, _, .cons q t, h => .cons (h _ List.mem_cons_self _ q) (paired_imp t fun b hb => h b (List.mem_cons_of_mem _ hb))
theorem paired_snoc {F : Addr → List Val → Prop} : ∀ {bs : List Addr} {acc : List (List Val)} {b : Addr} {x : List Val}, Paired F bs acc → F b x → Paired F (bs ++ [b]) (acc ++ [x])
  | _, _, _, _, .nil, q => .cons q .nil
  | _, _, _, _, .cons q t, q' => .cons q (paired_snoc t q')
theorem paired_len {F : Addr → List Val → Prop} : ∀ {bs : List Addr} {acc : List (List Val)}, Paired F bs acc → bs.length = acc.length
  | _, _, .nil => rfl
  | _, _, .cons _ t => by rw [List.length_cons, List.length_cons, paired_len t]
theorem AccO.ext (a : AccO K mg Z H O C H1 D bs acc) {Z' H' : Hp} {O' : Lab} {σ' : L2.St} {ρ' : Env} (x : Ext Z H O Z' H' O') (R : EnvR K mg Z' H' O' C σ' ρ') : AccO K mg Z' H' O' C H1 D bs acc := by
  have key : ∀ b ∈ bs, ∀ ws, H b = some (.lst ws) → H' b = some (.lst ws) ∧ O' b = none ∧ Z' b = none := fun b hb ws h => by
    obtain ⟨h1, h2, h3, h4, h5⟩ := a.fr b hb
    exact x.nobody h h1 h2 h3 R
  refine ⟨a.nd, fun b hb => ?_, paired_imp a.pr fun b hb xs ⟨ws, h1, h2⟩ => ⟨ws, (key b hb ws h1).1, h2.mono x.z⟩⟩
  obtain ⟨xs, ws, h1, _⟩ := paired_at a.pr b hb
  obtain ⟨k1, k2, k3⟩ := key b hb ws h1
  obtain ⟨_, _, h3, h4, h5⟩ := a.fr b hb
  exact ⟨k2, k3, h3, h4, h5⟩
theorem AccO.upd (a : AccO K mg Z H O C H1 D bs acc) {o : HO} : AccO K mg Z (upd H D o) O C H1 D bs acc :=
  ⟨a.nd, a.fr, paired_imp a.pr fun b hb xs ⟨ws, h1, h2⟩ => ⟨ws, by rw [upd_ne (a.fr b hb).2.2.2.2]; exact h1, h2⟩⟩
end
theorem lo_run {K : PySem.W.Frag} {mg : MG} {it : DI} {g : DG} {t : DT} {e : DO} {vs ws : List Nat} (hw : ∀ i ∈ ws, i ∈ vs) {σ : L2.St} {H : Hp} {Q : VK} (h : TOw K mg (dLo it g t e vs) σ H Q) :
    tLc (TIt K mg it) (TGt K mg g ws) (TTt K mg t) (TOw K mg e) vs σ H Q := by
  obtain ⟨Z, O, C, ρ, R, s, ρ', q, k⟩ := h
  unfold dLo at q
  cases ei : it ρ with
  | exc _ => rw [ei] at q; cases q
  | bad => rw [ei] at q; cases q
  | ok p =>
    obtain ⟨xs, ρ1⟩ := p
    rw [ei] at q
    simp only at q
    split at q
    case isFalse => cases q
    rename_i hz
    cases el : lcLo g t e vs xs (wipeE ρ1 vs) with
    | none => rw [el] at q; cases q
    | some p2 =>
      obtain ⟨ys, ρ2⟩ := p2
      rw [el] at q
      cases q
      refine ⟨Z, O, C, ρ, R, xs, ρ1, ei, fun J H1 Z1 O1 x1 R1 w => fun D hD => ?_⟩
      obtain ⟨f1, f2, f3⟩ := R1.fresh hD
      refine ⟨fun i m H2 => m = xs.length - i ∧ i ≤ xs.length ∧ ∃ Z2 O2 ρa bs acc yr, Ext Z1 H1 O1 Z2 H2 O2 ∧ EnvR K mg Z2 H2 O2 C (wipe σ vs) ρa ∧ H2 D = some (.lst (bs.map V.ref)) ∧ AccO K mg Z2 H2 O2 C H1 D bs acc ∧ O2 D = none ∧ Z2 D = none ∧ acc.length ≤ i ∧ lcLo g t e vs (xs.drop i) ρa = some (yr, ρ2) ∧ ys = acc ++ yr, ⟨_, rfl, Nat.zero_le _, Z1, O1, wipeE ρ1 vs, [], [], ys, (Ext.refl Z1 H1 O1).free hD, (R1.wipe vs).free f1 f2 f3, upd_same, ⟨List.nodup_nil, fun b hb => (by cases hb), .nil⟩, f1, f2, Nat.zero_le _, by simpa using el, rfl⟩, ?_⟩
      rintro i m H2 ⟨rfl, hi, Z2, O2, ρa, bs, acc, yr, x2, R2, hd, ra, o2, z2, al, el2, ey⟩
      by_cases hlt : i < xs.length
      · refine .inr ⟨w.go i Z2 H2 x2.z R2.zh R2.ch hlt, _, fun H' hN => ⟨_, Nat.sub_lt_sub_left hlt (Nat.lt_succ_self i), rfl, hlt, hN⟩, fun v H3 y => ?_⟩
        obtain ⟨Z3, z, gr, hz2, rz⟩ := w.yld i Z2 H2 v H3 x2.z R2.zh R2.ch hlt y
        have ed : xs.drop i = z :: xs.drop (i + 1) := by
          rw [List.drop_eq_getElem_cons hlt]
          have : xs[i] = z := by rw [List.getElem?_eq_getElem hlt] at hz2; exact Option.some.inj hz2
          rw [this]
        rw [ed] at el2
        unfold lcLo at el2
        cases eg : g z ρa with
        | none => rw [eg] at el2; cases el2
        | some ρb =>
          rw [eg] at el2
          simp only at el2
          have R3 := R2.grow gr
          refine ⟨Z3, O2, C, ρa, R3, z, ρb, rz, eg, fun σ4 O4 x4 hoff R4 => ?_⟩
          have hwp : wipe σ4 vs = wipe σ vs := by rw [wipe_eq hoff hw, wipe_twice]
          refine ⟨hwp, ?_⟩
          have x14 : Ext Z1 H1 O1 Z3 H3 O4 := (x2.trans gr.ext).trans x4
          have x24 : Ext Z2 H2 O2 Z3 H3 O4 := gr.ext.trans x4
          cases et : t ρb with
          | exc _ => rw [et] at el2; cases el2
          | bad => rw [et] at el2; cases el2
          | ok p3 =>
            obtain ⟨b, ρc⟩ := p3
            rw [et] at el2
            refine ⟨Z3, O4, C, ρb, R4, b, ρc, et, fun H5 Z5 O5 x5 R5 => ?_⟩
            cases b with
            | false =>
              simp only at el2
              rw [if_neg (by decide)]
              obtain ⟨n1, n2, n3⟩ := (x24.trans x5).nobody hd o2 z2 f3 R5
              have R6 := R5.wipe vs
              rw [hwp] at R6
              exact ⟨Z5, O5, _, bs, acc, yr, x14.trans x5, R6, n1, ra.ext (x24.trans x5) R5, n2, n3, by omega, el2, ey⟩
            | true =>
              simp only at el2
              rw [if_pos rfl]
              cases ee : e ρc with
              | exc _ => rw [ee] at el2; cases el2
              | bad => rw [ee] at el2; cases el2
              | ok p4 =>
                obtain ⟨sv, ρd⟩ := p4
                rw [ee] at el2
                cases sv with
                | own yv =>
                  obtain ⟨⟨yr', ρf⟩, el3, e3⟩ := Option.map_eq_some_iff.mp el2
                  cases e3
                  refine ⟨Z5, O5, C, ρc, R5, .own yv, ρd, ee, fun u H6 Z6 O6 x6 R6 r6 => ?_⟩
                  obtain ⟨a, vs', rfl, k1, k2, k3, k4, k5, k6⟩ := r6
                  have x26 := (x24.trans x5).trans x6
                  have x25 := x24.trans x5
                  obtain ⟨n1, n2, n3⟩ := x26.nobody hd o2 z2 f3 R6
                  have R7 := (R6.wipe vs).free (o := .lst (bs.map V.ref ++ [V.ref a])) n2 n3 f3
                  rw [hwp] at R7
                  have hD5 : H5 D ≠ none := by rw [(x25.nobody hd o2 z2 f3 R5).1]; simp
                  have aD : a ≠ D := fun z => by rw [z] at k4; exact hD5 k4
                  have acc6 := (ra.ext x26 R6).upd (o := .lst (bs.map V.ref ++ [V.ref a]))
                  have ha1 : H1 a = none := ((x14.trans x5)).fresh k4
                  have hnb : a ∉ bs := fun hb => by
                    obtain ⟨xs', ws', h1, _⟩ := paired_at (ra.ext x25 R5).pr a hb
                    rw [k4] at h1; cases h1
                  refine ⟨bs.map V.ref, n1, by rw [List.length_map, paired_len ra.pr]; omega, Z6, O6, _, bs ++ [a], acc ++ [yv], yr', ((x14.trans x5).trans x6).free hD, R7, by rw [List.map_append]; exact upd_same, ⟨?_, ?_, ?_⟩, n2, n3, by simp; omega, el3, by rw [ey]; simp⟩
                  · exact List.nodup_append.mpr ⟨ra.nd, by simp, fun x hx y hy => by rw [List.mem_singleton.mp hy]; intro z; exact hnb (z ▸ hx)⟩
                  · intro b hb
                    rcases List.mem_append.mp hb with hb | hb
                    · exact acc6.fr b hb
                    · rw [List.mem_singleton.mp hb]; exact ⟨k1, k2, k3, ha1, aD⟩
                  · exact paired_snoc acc6.pr ⟨vs', by rw [upd_ne aD]; exact k5, k6⟩
                | _ => cases el2
      · have e1 : i = xs.length := by omega
        subst e1
        rw [List.drop_length] at el2
        cases el2
        refine .inl ⟨w.stop _ Z2 H2 x2.z R2.zh R2.ch (Nat.le_refl _), ?_⟩
        have R3 := EnvR.unwipe R1 x2.z R2
        subst ey
        rw [List.append_nil] at k
        refine k (.ref D) H2 Z2 O2 (x1.trans x2) R3 ⟨D, bs, rfl, fun b hb => ?_, List.nodup_cons.mpr ⟨fun hb => (ra.fr D hb).2.2.2.2 rfl, ra.nd⟩, hd, ra.pr⟩
        rcases List.mem_cons.mp hb with rfl | hb
        · exact ⟨o2, z2, f3, x1.fresh hD⟩
        · obtain ⟨h1, h2, h3, h4, _⟩ := ra.fr b hb
          exact ⟨h1, h2, h3, x1.fresh h4⟩
section
variable {X : Cx} {elt tg iter : Expr} {ifs : List Expr} {scope : Scope} {own : List (Str × Nat)} {pos : Pos} {it : DI} {g : DG} {t : DT} {e : DO} {ws : List Nat}
theorem pow_lo (hc : X.calm = true) (hN : X.N.Nodup) (hi : PIt X tg iter it) (ok : BlkOk X.N X.env.scope scope own)
    (hg : ∀ (s : Shared) (H : Hp) (C : Addr) (cl : List (Str × Addr)) (fp : List Addr), PGt (X.blk s H scope (compEnvC scope cl C X.env) fp) tg g ws) (ht : ∀ (s : Shared) (H : Hp) (C : Addr) (cl : List (Str × Addr)) (fp : List Addr), PTts (X.blk s H scope (compEnvC scope cl C X.env) fp) ifs t)
    (he : ∀ (s : Shared) (H : Hp) (C : Addr) (cl : List (Str × Addr)) (fp : List Addr), POw (X.blk s H scope (compEnvC scope cl C X.env) fp) elt e) (hw : ∀ i ∈ ws, i ∈ own.map (·.2)) (hs : ∀ x, foldedSetIterable iter X.env x = pure x := by intro _; rfl) :
    POw X (.ListComp elt [⟨tg, iter, ifs, 0⟩] scope pos) (dLo it g t e (own.map (·.2))) := PE.imp (pe_lc hc hN hi ok hg ht he hs) fun _ _ _ => lo_run hw
theorem st_setLo {i : Nat} {y : Str} {py spos : Pos} (hc : X.calm = true) (hN : X.N.Nodup) (hy : X.N[i]? = some y) (hyl : X.env.scope.names.lookup y = some .local)
    (hsw : swapsWith (.ListComp elt [⟨tg, iter, ifs, 0⟩] scope pos) (some (.Name y py)) spos.line X.env = pure true) (hi : PIt X tg iter it) (ok : BlkOk X.N X.env.scope scope own)
    (hg : ∀ (s : Shared) (H : Hp) (C : Addr) (cl : List (Str × Addr)) (fp : List Addr), PGt (X.blk s H scope (compEnvC scope cl C X.env) fp) tg g ws) (ht : ∀ (s : Shared) (H : Hp) (C : Addr) (cl : List (Str × Addr)) (fp : List Addr), PTts (X.blk s H scope (compEnvC scope cl C X.env) fp) ifs t)
    (he : ∀ (s : Shared) (H : Hp) (C : Addr) (cl : List (Str × Addr)) (fp : List Addr), POw (X.blk s H scope (compEnvC scope cl C X.env) fp) elt e) (hw : ∀ i ∈ ws, i ∈ own.map (·.2)) (hs : ∀ x, foldedSetIterable iter X.env x = pure x := by intro _; rfl) :
    PSt X (.Assign [.Name y py] (.ListComp elt [⟨tg, iter, ifs, 0⟩] scope pos) spos) (sSet i (dLo it g t e (own.map (·.2)))) := PS.imp (ps_setLc hc hN hy hyl hsw hi ok hg ht he hs) fun D σ H h => lo_run hw (runSet h)
end
end Ev

/-! Ev: xs[i].append(x). -/
namespace Ev
open PySem PySem.Spec PyProof.Rows L2
section
variable {K : PySem.W.Frag} {mg : MG} {Z H : Hp} {O : Lab} {i : Nat}
theorem own2_at : ∀ {k : Nat} {bs : List Addr} {xss : List (List Val)} {m : Nat} {xs : List Val}, Own2 K mg Z H O i k bs xss → xss[m]? = some xs → ∃ b ws, bs[m]? = some b ∧ O b = some (i, k + m + 1) ∧ H b = some (.lst ws) ∧ Rls K mg Z ws xs
  | _, _, _, _, _, .nil, e => by simp at e
  | _, _, _, 0, _, .cons h1 h2 h3 _, e => by simp at e; subst e; exact ⟨_, _, rfl, h1, h2, h3⟩
  | k, _, _, m + 1, xs, .cons _ _ _ t, e => by
    obtain ⟨b, ws, h1, h2, h3, h4⟩ := own2_at (m := m) (xs := xs) t (by simpa using e)
    exact ⟨b, ws, by simpa using h1, by rw [h2]; congr 2; omega, h3, h4⟩
theorem own2_keep {b : Addr} {o : HO} {q : Nat} (hb : O b = some (i, q)) : ∀ {k : Nat} {bs : List Addr} {xss : List (List Val)}, Own2 K mg Z H O i k bs xss → q < k + 1 → Own2 K mg Z (upd H b o) O i k bs xss
  | _, _, _, .nil, _ => .nil
  | k, _, _, .cons h1 h2 h3 t, hq => .cons h1 (by rw [upd_ne (fun z => by rw [z, hb] at h1; cases h1; omega)]; exact h2) h3 (own2_keep hb t (by omega))
theorem own2_set {b : Addr} {ws : List V} {ys : List Val} (r : Rls K mg Z ws ys) : ∀ {k : Nat} {bs : List Addr} {xss : List (List Val)} {m : Nat}, Own2 K mg Z H O i k bs xss → bs[m]? = some b → O b = some (i, k + m + 1) → Own2 K mg Z (upd H b (.lst ws)) O i k bs (xss.set m ys)
  | _, _, _, _, .nil, e, _ => by simp at e
  | k, _, _, 0, .cons h1 h2 h3 t, e, ho => by
    simp at e
    subst e
    exact .cons h1 upd_same r (own2_keep h1 t (by omega))
  | k, _, _, m + 1, .cons h1 h2 h3 t, e, ho => by
    refine .cons h1 ?_ h3 (own2_set r t (by simpa using e) (by rw [ho]; congr 2; omega))
    rw [upd_ne (fun z => by rw [z, ho] at h1; simp at h1)]
    exact h2
theorem own2_len : ∀ {k : Nat} {bs : List Addr} {xss : List (List Val)}, Own2 K mg Z H O i k bs xss → bs.length = xss.length
  | _, _, _, .nil => rfl
  | _, _, _, .cons _ _ _ t => by rw [List.length_cons, List.length_cons, own2_len t]
end
def apK (k : Nat) (ρ : Env) (xss : List (List Val)) (x : Val) (m : Nat) : Option (List Val) → Out (Val × Env)
  | some xs => if xs.length < sizeLine then .ok (.non, ρ.set k (.own2 (xss.set m (xs ++ [x])))) else .bad
  | none => .bad
def apJ (k : Nat) (ρ : Env) (xss : List (List Val)) (x : Val) : Option Nat → Out (Val × Env)
  | some m => apK k ρ xss x m xss[m]?
  | none => .bad
def apI (k : Nat) (ρ : Env) (n : Val) : Option Sl → Option Sl → Out (Val × Env)
  | some (.own2 xss), some (.fz x) => match n with
    | .int i => apJ k ρ xss x (ixN xss.length i)
    | _ => .bad
  | _, _ => .bad
def apH (k j : Nat) (p : Val × Env) : Out (Val × Env) := apI k p.2 p.1 p.2[k]? p.2[j]?
def apG (k j : Nat) (di : DV) (ρ : Env) : Option Sl → Out (Val × Env)
  | some (.own2 _) => (di ρ).bind (apH k j)
  | _ => .bad
def dAp2 (k : Nat) (di : DV) (j : Nat) : DV := fun ρ => apG k j di ρ ρ[k]?
theorem pv_ap2 {X : Cx} {k j : Nat} {f y : Str} {ix : Expr} {di : DV} {p p2 py apos cpos : Pos} (ho : PE X (.Name f p) (tVar k)) (hi : PV X ix di) (hy : PE X (.Name y py) (tVar j)) (hs : PlainIx ix := by intro _ _; rfl)
    (hbase : attributeBase (.Subscript (.Name f p) ix p2) "append" X.env (eval (.Subscript (.Name f p) ix p2) X.env) = eval (.Subscript (.Name f p) ix p2) X.env := by rfl)
    (hfew : ((backTo cpos (starEach [.Name y py] X.env)).all (fun x => !x.1) && (backToKw cpos (keywordEach [] X.env)).all (fun x => x.1.isSome)
      && decide (([.Name y py] : List Expr).length + ([] : List Keyword).length + (if ([] : List Keyword).isEmpty then 0 else 1) < 30)) = true := by rfl)
    (hline : (apos.endLine == cpos.line) = true := by rfl) (hse : starEach [.Name y py] X.env = (false, eval (.Name y py) X.env) :: starEach [] X.env := by rfl) (hplain : (backTo cpos (starEach [] X.env)).any (·.1) = false := by rfl) :
    PV X (.Call (.Attribute (.Subscript (.Name f p) ix p2) "append" apos) [.Name y py] [] cpos) (dAp2 k di j) :=
  PE.imp (pe_bm PySem.F.plainAttrs_list PySem.F.slot_list_append PySem.F.type_list_append mt_append (pe_ix ix_list ho hi hs) (pa_cons hy pa_nil hse) hbase hfew hline hse hplain) fun σ H Q ⟨Z, O, C, ρ, R, v0, ρ', q, kk⟩ => by
  unfold dAp2 apG at q
  split at q
  · rename_i xss0 e0
    obtain ⟨a, bs0, ea, _⟩ := R.sl k _ e0
    obtain ⟨⟨n, ρ1⟩, e1, q⟩ := Out.bind_ok q
    refine ⟨.ref a, ea, Z, O, C, ρ, R, n, ρ1, e1, fun w H1 Z1 O1 x1 R1 r1 => ?_⟩
    have q : apI k ρ1 n ρ1[k]? ρ1[j]? = .ok (v0, ρ') := q
    unfold apI at q
    split at q
    · rename_i xss x ek ej
      cases n with
      | int i =>
        cases r1
        have q : apJ k ρ1 xss x (ixN xss.length i) = .ok (v0, ρ') := q
        unfold apJ at q
        split at q
        · rename_i m em
          unfold apK at q
          split at q
          · rename_i xs exs
            split at q
            · rename_i hlt
              cases q
              obtain ⟨a', bs, ea', oa, ha, ow⟩ := R1.sl k _ ek
              rw [ea] at ea'
              cases ea'
              obtain ⟨b, ws, hb1, hb2, hb3, hb4⟩ := own2_at ow exs
              have hb2 : O1 b = some (k, m + 1) := by rw [hb2]; congr 2; omega
              obtain ⟨u, ej2, ru⟩ := R1.sl j _ ej
              have hat : L2.atI (bs.map V.ref) i = some (.ref b) := by
                unfold L2.atI
                rw [List.length_map, own2_len ow, em, Option.bind_some, List.getElem?_map, hb1]
                rfl
              refine ⟨a, _, i, .ref b, rfl, rfl, SqL.of ha, hat, .inl ⟨rfl, _, SqL.of hb3⟩, u, ej2, b, ws, u, rfl, rfl, hb3, by rw [hb4.length]; exact hlt, ?_⟩
              have hba : a ≠ b := fun z => by rw [z, hb2] at oa; cases oa
              obtain ⟨R2, x2⟩ := R1.chg (o := .lst (ws ++ [u])) (s := .own2 (xss.set m (xs ++ [x]))) hb2 ⟨a, bs, ea, oa, by rw [upd_ne hba]; exact ha, own2_set (hb4.append (.one ru)) ow hb1 (by rw [hb2]; congr 2; omega)⟩
              exact kk .non _ Z1 O1 (x1.trans x2) R2 .non
            · cases q
          · cases q
        · cases q
      | _ => cases q
    · cases q
  · cases q
@[simp] theorem u_dAp2 (k : Nat) (di : DV) (j : Nat) (ρ : Env) : dAp2 k di j ρ = apG k j di ρ ρ[k]? := by rfl
@[simp] theorem u_apG (k j : Nat) (di : DV) (ρ : Env) (xss : List (List Val)) : apG k j di ρ (some (.own2 xss)) = (di ρ).bind (apH k j) := by rfl
@[simp] theorem u_apH (k j : Nat) (n : Val) (ρ : Env) : apH k j (n, ρ) = apI k ρ n ρ[k]? ρ[j]? := by rfl
@[simp] theorem u_apI (k : Nat) (ρ : Env) (i : Int) (xss : List (List Val)) (x : Val) : apI k ρ (.int i) (some (.own2 xss)) (some (.fz x)) = apJ k ρ xss x (ixN xss.length i) := by rfl
@[simp] theorem u_apJ (k : Nat) (ρ : Env) (xss : List (List Val)) (x : Val) (m : Nat) : apJ k ρ xss x (some m) = apK k ρ xss x m xss[m]? := by rfl
@[simp] theorem u_apK (k : Nat) (ρ : Env) (xss : List (List Val)) (x : Val) (m : Nat) (xs : List Val) : apK k ρ xss x m (some xs) = if xs.length < sizeLine then .ok (.non, ρ.set k (.own2 (xss.set m (xs ++ [x])))) else .bad := by rfl
end Ev

/-! Ev: loops and comprehensions with two names. -/
namespace Ev
open PySem PySem.Spec PyProof.Rows L2
abbrev g2n (i j : Nat) : DG := gTp 2 (gC (gNm i) (gC (gNm j) gN))
theorem g2n_eq {i j : Nat} {ρ : Env} (x y : Val) (hi : i < ρ.length) (hj : j < ρ.length) : g2n i j (.tup [x, y]) ρ = some ((ρ.set i (.fz x)).set j (.fz y)) := by
  simp [hi, hj]
theorem forL_2 {α : Type} {i j : Nat} {b : DS} (e1 e2 : α → Val) (xs : List α) (I : List α → Env → Prop) {ρ : Env} (h0 : I [] ρ)
    (st : ∀ pre a post ρ, xs = pre ++ a :: post → I pre ρ → i < ρ.length ∧ j < ρ.length ∧ ∃ ρ2, (b ((ρ.set i (.fz (e1 a))).set j (.fz (e2 a))) = .nx ρ2 ∨ b ((ρ.set i (.fz (e1 a))).set j (.fz (e2 a))) = .ct ρ2) ∧ I (pre ++ [a]) ρ2) : ∃ ρ', forL (g2n i j) b (xs.map fun a => .tup [e1 a, e2 a]) ρ = .nx ρ' ∧ I xs ρ' :=
  forL_all (fun a => .tup [e1 a, e2 a]) xs I h0 fun pre a post ρ e h => by
    obtain ⟨hi, hj, ρ2, h1, h2⟩ := st pre a post ρ e h
    exact ⟨_, ρ2, g2n_eq _ _ hi hj, h1, h2⟩
theorem lcL_2 {α : Type} {i j : Nat} {t : DT} {e : DV} (e1 e2 : α → Val) (p : α → Bool) (f : α → Val) (ρ : Env) (xs : List α) (hi : i < ρ.length) (hj : j < ρ.length)
    (h : ∀ a ∈ xs, t ((ρ.set i (.fz (e1 a))).set j (.fz (e2 a))) = .ok (p a, (ρ.set i (.fz (e1 a))).set j (.fz (e2 a))) ∧ (p a = true → e ((ρ.set i (.fz (e1 a))).set j (.fz (e2 a))) = .ok (f a, (ρ.set i (.fz (e1 a))).set j (.fz (e2 a))))) (hn : i ≠ j) :
    lcL (g2n i j) t e [i, j] (xs.map fun a => .tup [e1 a, e2 a]) ((ρ.set j .no).set i .no) = some ((xs.filter p).map f, (ρ.set j .no).set i .no) := by
  have sw : ∀ (x y x' y' : Sl), ((((ρ.set j y').set i x').set i x).set j y) = (ρ.set i x).set j y := fun x y x' y' => by
    rw [set_set, List.set_comm _ _ hn, set_set, List.set_comm _ _ (Ne.symm hn)]
  have wp : ∀ (x y : Sl), wipeE ((ρ.set i x).set j y) [i, j] = (ρ.set j .no).set i .no := fun x y => by
    simp only [wipeE]
    rw [set_set, List.set_comm _ _ hn, set_set, List.set_comm _ _ (Ne.symm hn)]
  refine lcL_map (fun a => .tup [e1 a, e2 a]) p f _ xs fun a ha => ?_
  obtain ⟨h1, h2⟩ := h a ha
  refine ⟨_, _, g2n_eq _ _ (by simpa using hi) (by simpa using hj), by rw [sw]; exact h1, ?_⟩
  cases hp : p a with
  | true => rw [if_pos rfl]; exact ⟨_, h2 hp, wp _ _⟩
  | false => rw [if_neg (by simp)]; exact wp _ _
theorem dLc_2 {α : Type} {it : DI} {i j : Nat} {t : DT} {e : DV} (e1 e2 : α → Val) (p : α → Bool) (f : α → Val) {ρ : Env} {xs : List α} (hit : it ρ = .ok (xs.map fun a => .tup [e1 a, e2 a], ρ)) (hl : xs.length ≤ 1000000) (hi : i < ρ.length) (hj : j < ρ.length) (hn : i ≠ j)
    (h : ∀ a ∈ xs, t ((ρ.set i (.fz (e1 a))).set j (.fz (e2 a))) = .ok (p a, (ρ.set i (.fz (e1 a))).set j (.fz (e2 a))) ∧ (p a = true → e ((ρ.set i (.fz (e1 a))).set j (.fz (e2 a))) = .ok (f a, (ρ.set i (.fz (e1 a))).set j (.fz (e2 a))))) :
    dLc it (g2n i j) t e [i, j] ρ = .ok (.own ((xs.filter p).map f), (ρ.set j (keepFz ρ[j]?)).set i (keepFz ρ[i]?)) := by
  have hw : wipeE ρ [i, j] = (ρ.set j .no).set i .no := rfl
  rw [lc_eq hit (by rw [List.length_map]; exact Nat.le_trans hl (by decide)) (by rw [hw]; exact lcL_2 e1 e2 p f ρ xs hi hj h hn)]
  simp only [rest]
  rw [List.set_comm _ _ hn, set_set, set_set]
/-- a comprehension of new empty lists -/
theorem dLo_nm {α : Type} {it : DI} {i : Nat} {e : DO} (enc : α → Val) (f : α → List Val) {ρ : Env} {xs : List α} (hit : it ρ = .ok (xs.map enc, ρ)) (hl : xs.length ≤ 1000000) (hi : i < ρ.length)
    (h : ∀ a ∈ xs, e (ρ.set i (.fz (enc a))) = .ok (.own (f a), ρ.set i (.fz (enc a)))) :
    dLo it (gNm i) tYesD e [i] ρ = .ok (.own2 (xs.map f), ρ.set i (keepFz ρ[i]?)) := by
  have go : ∀ ys : List α, (∀ a ∈ ys, a ∈ xs) → lcLo (gNm i) tYesD e [i] (ys.map enc) (ρ.set i .no) = some (ys.map f, ρ.set i .no) := by
    intro ys
    induction ys with
    | nil => intro _; rfl
    | cons a ys ih =>
      intro hy
      rw [List.map_cons]
      unfold lcLo
      rw [y_gNm, if_pos (by simpa using hi), set_set]
      simp only [y_tYes]
      rw [h a (hy a List.mem_cons_self)]
      simp only [wipeE, set_set]
      rw [ih fun b hb => hy b (List.mem_cons_of_mem _ hb)]
      rfl
  have hl' : (xs.map enc).length ≤ sizeLine := by rw [List.length_map]; exact Nat.le_trans hl (by decide)
  unfold dLo
  rw [hit]
  simp only [if_pos hl', wipeE]
  rw [go xs fun _ h => h]
  simp only [rest, set_set]
end Ev

/-! Ev: new dicts, stores into dicts. -/
namespace Ev
open PySem PySem.Spec PyProof.Rows L2
def dDnK : DO := fun ρ => .ok (.odK [], ρ)
def dDnT : DO := fun ρ => .ok (.odT [], ρ)
section
variable {X : Cx} {pos : Pos}
theorem pow_dnK : POw X (.Dict [] [] pos) dDnK := PE.imp pe_dnewK fun σ H Q ⟨Z, O, C, ρ, R, x, ρ', q, k⟩ => by
  cases q
  intro p hp
  let gr := Grow.newH (o := .dK []) R.zh hp
  obtain ⟨f1, f2, f3⟩ := R.fresh hp
  exact k _ _ _ O gr.ext (R.grow gr) ⟨p, [], rfl, f1, f2, f3, hp, upd_same, rfl, .nil⟩
theorem pow_dnT : POw X (.Dict [] [] pos) dDnT := PE.imp pe_dnewT fun σ H Q ⟨Z, O, C, ρ, R, x, ρ', q, k⟩ => by
  cases q
  intro p hp
  let gr := Grow.newH (o := .dT []) R.zh hp
  obtain ⟨f1, f2, f3⟩ := R.fresh hp
  exact k _ _ _ O gr.ext (R.grow gr) ⟨p, [], rfl, f1, f2, f3, hp, upd_same, rfl, .nil⟩
end
/-- a thing that nobody has is changed -/
theorem EnvR.loose {K : PySem.W.Frag} {mg : MG} {Z H : Hp} {O : Lab} {C : Lk} {σ : L2.St} {ρ : Env} (R : EnvR K mg Z H O C σ ρ) {a : Addr} {o : HO} (ho : O a = none) (hz : Z a = none) (hc : C a = none) : EnvR K mg Z (upd H a o) O C σ ρ where
  len := R.len
  zh := same_updF R.zh hz
  ch := same_updF R.ch hc
  oz := fun b hb => by
    obtain ⟨k1, k2, k3⟩ := R.oz b hb
    have : b ≠ a := fun e => hb (e ▸ ho)
    exact ⟨k1, k2, by rw [upd_ne this]; exact k3⟩
  ob := R.ob
  sl := fun i s e => (R.sl i s e).keep (Same.refl Z) fun b q h => ⟨upd_ne (fun z => by rw [z, ho] at h; cases h), h⟩
/-- {k: v} -/
def kDi2 (x y : Val) (ρ : Env) : Option Key → Out (Sl × Env)
  | some k => .ok (.odK [(k, y)], ρ)
  | none => .bad
def kDi1 (x : Val) (p : Val × Env) : Out (Sl × Env) := kDi2 x p.1 p.2 (keyOf x)
def kDi (dv : DV) (p : Val × Env) : Out (Sl × Env) := (dv p.2).bind (kDi1 p.1)
def dD1 (dk dv : DV) : DO := fun ρ => (dk ρ).bind (kDi dv)
section
variable {X : Cx} {pos : Pos} {e f : Expr} {dk dv : DV}
theorem pow_d1 (hk : PV X e dk) (hv : PV X f dv) : POw X (.Dict [some e] [f] pos) (dD1 dk dv) := PE.imp (pe_disp (pps_cons hk hv pps_nil) rfl rfl (by simp) (by simp)) fun σ H Q ⟨Z, O, C, ρ, R, s, ρ', q, k⟩ => by
  obtain ⟨⟨x, ρ1⟩, e1, q⟩ := Out.bind_ok q
  obtain ⟨⟨y, ρ2⟩, e2, q⟩ := Out.bind_ok q
  unfold kDi1 at q
  simp only at q e2
  cases e3 : keyOf x with
  | none => rw [e3] at q; cases q
  | some kk =>
  rw [e3] at q
  cases q
  intro p hp
  let gr := Grow.newH (o := .dK []) R.zh hp
  obtain ⟨f1, f2, f3⟩ := R.fresh hp
  refine ⟨Z, O, C, ρ, R.grow gr, x, ρ1, e1, fun v H1 Z1 O1 x1 R1 r1 => ⟨Z1, O1, C, ρ1, R1, y, _, e2, fun w H2 Z2 O2 x2 R2 r2 => ?_⟩⟩
  have x12 := x1.trans x2
  obtain ⟨h1, o1⟩ := x12.h p (.dK []) upd_same f1
  have z1 : Z2 p = none := by
    cases ez : Z2 p with
    | none => rfl
    | some o =>
      rcases x12.zn p (by rw [ez]; simp) with h | h | h
      · exact absurd f2 h
      · rw [upd_same] at h; cases h
      · exact absurd f1 h
  refine ⟨h1, [(kk, w)], ?_, by simp, ?_⟩
  · have : v = kV kk := keyOf_rl (BorR.fz (H := Z1) r1) e3
    rw [this]; rfl
  · show Q (.ref p) (upd H2 p (.dK [(kk, w)]))
    have g2 := gr.ext.trans x12
    have gx : Ext Z H O Z2 (upd H2 p (.dK [(kk, w)])) O2 := ⟨g2.z, fun b u e4 e5 => by
      obtain ⟨e6, e7⟩ := g2.h b u e4 e5
      exact ⟨by rw [upd_ne (ne_of_none e4 hp)]; exact e6, e7⟩, fun b hb => by
      by_cases e : b = p
      · rw [e, upd_same]; simp
      · rw [upd_ne e]; exact g2.t b hb, g2.o, g2.zn⟩
    exact k _ _ _ O2 gx (R2.loose o1 z1 f3) ⟨p, [(kk, w)], rfl, o1, z1, f3, hp, upd_same, rfl, .one r2⟩
end
end Ev

/-! Ev: d[k] = v at a dict that the slot holds. -/
namespace Ev
open PySem PySem.Spec PyProof.Rows L2
/-- the slot behind the store -/
def putD (s : Sl) (k x : Val) : Option Sl := match s with
  | .odK kxs => (keyOf k).bind fun kk => if kxs.length < sizeLine then some (.odK (dput kxs kk x)) else none
  | .odT kxs => match k with
    | .tup ks => (keysOf ks).bind fun kk => if kxs.length < sizeLine then some (.odT (dput kxs kk x)) else none
    | _ => none
  | _ => none
def isD : Sl → Bool
  | .odK _ => true
  | .odT _ => true
  | _ => false
def sDp (i : Nat) (dk dv : DV) : DS := fun ρ => match dv ρ with
  | .ok (x, ρ1) => match ρ1[i]? with
    | some s0 => if isD s0 = true then match dk ρ1 with
      | .ok (k, ρ2) => match ρ2[i]? with
        | some s => match putD s k x with
          | some s' => .nx (ρ2.set i s')
          | none => .bad
        | none => .bad
      | _ => .bad
      else .bad
    | none => .bad
  | _ => .bad
theorem EnvR.dct {K : PySem.W.Frag} {mg : MG} {Z H : Hp} {O : Lab} {C : Lk} {σ : L2.St} {ρ : Env} (R : EnvR K mg Z H O C σ ρ) {i : Nat} {s0 : Sl} (e : ρ[i]? = some s0) (hd : isD s0 = true) : ∃ a, σ[i]? = some (some (.ref a)) ∧
    ∀ {u v : V} {k x : Val} {s' : Sl}, Rl K mg Z u k → Rl K mg Z v x → putD s0 k x = some s' → ∃ H', DPut H a u v H' ∧ EnvR K mg Z H' O C σ (ρ.set i s') ∧ Ext Z H O Z H' O := by
  have z := R.sl i s0 e
  cases s0 with
  | odK kxs =>
    obtain ⟨a, kvs, ea, o, m, hk, r⟩ := z
    refine ⟨a, ea, fun {u v k x s'} ru rv hp => ?_⟩
    unfold putD at hp
    simp only at hp
    obtain ⟨kk, e1, e2⟩ := Option.bind_eq_some_iff.mp hp
    split at e2
    · rename_i hl
      cases e2
      have hu := keyOf_rl (BorR.fz (H := Z) ru) e1
      subst hu
      obtain ⟨j1, j2⟩ := dr_put kk rv hk r
      have c := R.chg o (o := .dK (putK kvs kk v)) (s := .odK (dput kxs kk x)) ⟨a, _, ea, o, upd_same, j1, j2⟩
      exact ⟨_, DPut.k m (by rw [dr_len hk]; exact hl), c⟩
    · cases e2
  | odT kxs =>
    obtain ⟨a, kvs, ea, o, m, hk, r⟩ := z
    refine ⟨a, ea, fun {u v k x s'} ru rv hp => ?_⟩
    unfold putD at hp
    cases k with
    | tup ks =>
      simp only at hp
      obtain ⟨kk, e1, e2⟩ := Option.bind_eq_some_iff.mp hp
      split at e2
      · rename_i hl
        cases e2
        obtain ⟨b, vs, rfl, hb, rb⟩ := bor_tup (BorR.fz (H := H) ru)
        have hv := keysOf_rl rb e1
        subst hv
        obtain ⟨j1, j2⟩ := dr_put kk rv hk r
        have c := R.chg o (o := .dT (putK kvs kk v)) (s := .odT (dput kxs kk x)) ⟨a, _, ea, o, upd_same, j1, j2⟩
        exact ⟨_, DPut.t m (R.zh _ _ hb) (by rw [dr_len hk]; exact hl), c⟩
      · cases e2
    | _ => cases hp
  | _ => cases hd
section
variable {X : Cx}
theorem runDp {K : PySem.W.Frag} {mg : MG} {i : Nat} {dk dv : DV} {D : Ends} {σ : L2.St} {H : Hp} (h : TSt K mg (sDp i dk dv) D σ H) : sDPut (tVar i) (TV K mg dk) (TV K mg dv) D σ H := by
  obtain ⟨Z, O, C, ρ, R, h⟩ := h
  unfold sDp at h
  cases e1 : dv ρ with
  | exc _ => rw [e1] at h; exact h.elim
  | bad => rw [e1] at h; exact h.elim
  | ok p =>
    obtain ⟨x, ρ1⟩ := p
    rw [e1] at h
    simp only at h
    refine ⟨Z, O, C, ρ, R, x, ρ1, e1, fun v H1 Z1 O1 x1 R1 r1 => ?_⟩
    cases e0 : ρ1[i]? with
    | none => rw [e0] at h; exact h.elim
    | some s0 =>
      rw [e0] at h
      simp only at h
      cases hd : isD s0 with
      | false => rw [hd] at h; exact h.elim
      | true =>
      rw [hd, if_pos rfl] at h
      obtain ⟨a, ea, _⟩ := R1.dct e0 hd
      refine ⟨.ref a, ea, ?_⟩
      cases e4 : dk ρ1 with
      | exc _ => rw [e4] at h; exact h.elim
      | bad => rw [e4] at h; exact h.elim
      | ok p =>
        obtain ⟨k, ρ2⟩ := p
        rw [e4] at h
        simp only at h
        refine ⟨Z1, O1, C, ρ1, R1, k, ρ2, e4, fun u H2 Z2 O2 x2 R2 r2 => ?_⟩
        cases e5 : ρ2[i]? with
        | none => rw [e5] at h; exact h.elim
        | some s =>
          rw [e5] at h
          simp only at h
          cases e6 : putD s k x with
          | none => rw [e6] at h; exact h.elim
          | some s' =>
            rw [e6] at h
            have hd2 : isD s = true := by
              cases s with
              | odK _ => rfl
              | odT _ => rfl
              | _ => cases e6
            obtain ⟨a2, ea2, nx⟩ := R2.dct e5 hd2
            rw [ea] at ea2
            cases ea2
            obtain ⟨H4, g, R3, x3⟩ := nx r2 (r1.mono x2.z) e6
            exact ⟨a, H4, rfl, g, h σ _ Z2 O2 ((x1.trans x2).trans x3) R3⟩
theorem st_dput {k : Nat} {i : Nat} {x : Str} {e ix : Expr} {dk dv : DV} {p pos pos2 : Pos} (hr : Room k X.A) (ho : PE X (.Name x p) (tVar i)) (hi : PV X ix dk) (he : PV X e dv)
    (hs : swapsWith e (some (.Subscript (.Name x p) ix pos2)) pos.line X.env = pure false := by rfl) : PSt X (.Assign [.Subscript (.Name x p) ix pos2] e pos) (sDp i dk dv) := PS.imp (ps_dput (units_room hr) ho hi he hs) fun _ _ _ => runDp
end
end Ev

/-! Ev: dicts in the evaluator. -/
namespace Ev
open PySem PySem.Spec PyProof.Rows L2
def kDp3 (i : Nat) (ρ : Env) (s' : Sl) : Fl := .nx (ρ.set i s')
def kDp2 (i : Nat) (x k : Val) (ρ : Env) (s : Sl) : Fl := Opt.k (putD s k x) (kDp3 i ρ)
def kDp1 (i : Nat) (x : Val) (q : Val × Env) : Fl := Opt.k (q.2[i]?) (kDp2 i x q.1 q.2)
def kDpg (i : Nat) (dk : DV) (x : Val) (ρ : Env) (s0 : Sl) : Fl := if isD s0 = true then (dk ρ).fl (kDp1 i x) else .bad
def kDp (i : Nat) (dk : DV) (p : Val × Env) : Fl := Opt.k (p.2[i]?) (kDpg i dk p.1 p.2)
@[simp] theorem v_sDp (i : Nat) (dk dv : DV) (ρ : Env) : sDp i dk dv ρ = (dv ρ).fl (kDp i dk) := by
  unfold sDp Out.fl kDp
  cases dv ρ with
  | exc _ => rfl
  | bad => rfl
  | ok p =>
    obtain ⟨x, r⟩ := p
    simp only
    cases r[i]? with
    | none => rfl
    | some s0 =>
      show _ = kDpg i dk x r s0
      unfold kDpg
      simp only
      split
      · show _ = (dk r).fl (kDp1 i x)
        unfold Out.fl kDp1
        cases dk r with
        | exc _ => rfl
        | bad => rfl
        | ok q =>
          obtain ⟨k, r2⟩ := q
          simp only
          cases r2[i]? with
          | none => rfl
          | some s =>
            show _ = Opt.k (putD s k x) (kDp3 i r2)
            simp only
            cases putD s k x <;> rfl
      · rfl
@[simp] theorem v_kDp (i : Nat) (dk : DV) (x : Val) (ρ : Env) : kDp i dk (x, ρ) = Opt.k (ρ[i]?) (kDpg i dk x ρ) := by rfl
@[simp] theorem v_kDpgK (i : Nat) (dk : DV) (x : Val) (ρ : Env) (kxs : List (Key × Val)) : kDpg i dk x ρ (.odK kxs) = (dk ρ).fl (kDp1 i x) := by rfl
@[simp] theorem v_kDpgT (i : Nat) (dk : DV) (x : Val) (ρ : Env) (kxs : List (List Key × Val)) : kDpg i dk x ρ (.odT kxs) = (dk ρ).fl (kDp1 i x) := by rfl
@[simp] theorem v_kDp1 (i : Nat) (x k : Val) (ρ : Env) : kDp1 i x (k, ρ) = Opt.k (ρ[i]?) (kDp2 i x k ρ) := by rfl
@[simp] theorem v_kDp2 (i : Nat) (x k : Val) (ρ : Env) (s : Sl) : kDp2 i x k ρ s = Opt.k (putD s k x) (kDp3 i ρ) := by rfl
@[simp] theorem v_kDp3 (i : Nat) (ρ : Env) (s : Sl) : kDp3 i ρ s = .nx (ρ.set i s) := by rfl
@[simp] theorem v_dDnK (ρ : Env) : dDnK ρ = .ok (.odK [], ρ) := by rfl
@[simp] theorem v_dDnT (ρ : Env) : dDnT ρ = .ok (.odT [], ρ) := by rfl
@[simp] theorem v_dD1 (dk dv : DV) (ρ : Env) : dD1 dk dv ρ = (dk ρ).bind (kDi dv) := by rfl
@[simp] theorem v_kDi (dv : DV) (x : Val) (ρ : Env) : kDi dv (x, ρ) = (dv ρ).bind (kDi1 x) := by rfl
@[simp] theorem v_kDi1 (x y : Val) (ρ : Env) : kDi1 x (y, ρ) = kDi2 x y ρ (keyOf x) := by rfl
@[simp] theorem v_kDi2 (i : Int) (y : Val) (ρ : Env) : kDi2 (.int i) y ρ (keyOf (.int i)) = .ok (.odK [(.inl i, y)], ρ) := by rfl
/-! maps of numbers -/
def ikV {α : Type} (f : α → Val) (m : List (Int × α)) : List (Key × Val) := m.map fun p => (.inl p.1, f p.2)
def mget {α : Type} (m : List (Int × α)) (k : Int) : Option α := (m.find? fun p => decide (p.1 = k)).map (·.2)
def mput {α : Type} (m : List (Int × α)) (k : Int) (x : α) : List (Int × α) := if m.any (fun p => decide (p.1 = k)) then m.map (fun p => if p.1 = k then (p.1, x) else p) else m ++ [(k, x)]
theorem inl_eq (i j : Int) : (decide ((Sum.inl i : Key) = .inl j)) = decide (i = j) := by
  rw [decide_eq_decide]
  exact ⟨fun h => by injection h, fun h => by rw [h]⟩
theorem dget_ik {α : Type} (f : α → Val) (m : List (Int × α)) (k : Int) : dget (ikV f m) (.inl k) = (mget m k).map f := by
  unfold dget mget ikV
  induction m with
  | nil => rfl
  | cons p m ih =>
    rw [List.map_cons, List.find?_cons, List.find?_cons]
    simp only [inl_eq]
    by_cases h : p.1 = k
    · rw [decide_eq_true h]; rfl
    · rw [decide_eq_false h]; exact ih
theorem any_ik {α : Type} (f : α → Val) (m : List (Int × α)) (k : Int) : ((ikV f m).any fun p => decide (p.1 = .inl k)) = m.any fun p => decide (p.1 = k) := by
  unfold ikV
  rw [List.any_map]
  congr 1
  funext p
  exact inl_eq _ _
theorem dput_ik {α : Type} (f : α → Val) (m : List (Int × α)) (k : Int) (x : α) : dput (ikV f m) (.inl k) (f x) = ikV f (mput m k x) := by
  unfold dput mput
  rw [any_ik]
  split
  · unfold ikV
    rw [List.map_map, List.map_map]
    apply List.map_congr_left
    intro p _
    show (if (Sum.inl p.1 : Key) = .inl k then (Sum.inl p.1, f x) else (Sum.inl p.1, f p.2)) = _
    by_cases h : p.1 = k
    · subst h; simp
    · have : ¬ (Sum.inl p.1 : Key) = .inl k := fun z => h (by injection z)
      rw [if_neg this]
      simp [h]
  · unfold ikV
    rw [List.map_append]
    rfl
theorem ixD_ik {α : Type} (f : α → Val) (m : List (Int × α)) (k : Int) {x : α} (h : mget m k = some x) : ixD (.dK (ikV f m)) (.int k) = some (f x) := by
  unfold ixD dkGet
  show (match (some (dget (ikV f m) (.inl k))) with | some (some z) => some z | _ => none) = _
  rw [dget_ik, h]
  rfl
theorem in_ik {α : Type} (f : α → Val) (m : List (Int × α)) (k : Int) : inV (.int k) (.dK (ikV f m)) = some (.bl (mget m k).isSome) ∧ ninV (.int k) (.dK (ikV f m)) = some (.bl (!(mget m k).isSome)) := by
  have h : inB (.int k) (.dK (ikV f m)) = some (mget m k).isSome := by
    show (some ((ikV f m).any fun p => decide (p.1 = .inl k))) = _
    rw [any_isSome, dget_ik]
    cases mget m k <;> rfl
  unfold inV ninV
  rw [h]
  exact ⟨rfl, rfl⟩
theorem put_ik {α : Type} (f : α → Val) (m : List (Int × α)) (k : Int) (x : α) (h : m.length < 1000000) : putD (.odK (ikV f m)) (.int k) (f x) = some (.odK (ikV f (mput m k x))) := by
  unfold putD
  show (if (ikV f m).length < sizeLine then some (Sl.odK (dput (ikV f m) (.inl k) (f x))) else none) = _
  have : (ikV f m).length < sizeLine := by
    unfold ikV
    rw [List.length_map]
    exact Nat.lt_of_lt_of_le h (by decide)
  rw [if_pos this, dput_ik]
end Ev

/-! Ev: x, y = a, b with new things on the right. -/
namespace Ev
open PySem PySem.Spec PyProof.Rows L2
section
variable {K : PySem.W.Frag} {mg : MG} {Z H Z' H' : Hp} {O O' : Lab} {C : Lk} {H0 : Hp}
theorem ext_loose (x : Ext Z H O Z' H' O') {b : Addr} {o : HO} (h : H b = some o) (ho : O b = none) (hz : Z b = none) : H' b = some o ∧ O' b = none ∧ Z' b = none := by
  obtain ⟨h1, h2⟩ := x.h b o h ho
  refine ⟨h1, h2, ?_⟩
  cases ez : Z' b with
  | none => rfl
  | some u =>
    rcases x.zn b (by rw [ez]; simp) with e | e | e
    · exact absurd hz e
    · rw [h] at e; cases e
    · exact absurd ho e
theorem paired_keep {bs : List Addr} {xss : List (List Val)} (x : Ext Z H O Z' H' O') (hb : ∀ b ∈ bs, O b = none ∧ Z b = none) (h : Paired (fun b xs => ∃ ws, H b = some (.lst ws) ∧ Rls K mg Z ws xs) bs xss) :
    Paired (fun b xs => ∃ ws, H' b = some (.lst ws) ∧ Rls K mg Z' ws xs) bs xss ∧ ∀ b ∈ bs, O' b = none ∧ Z' b = none := by
  induction h with
  | nil => exact ⟨.nil, fun b h => by cases h⟩
  | @cons b xs bs xss q t ih =>
    obtain ⟨ws, q1, q2⟩ := q
    obtain ⟨z1, z2⟩ := hb b (by simp)
    obtain ⟨k1, k2, k3⟩ := ext_loose x q1 z1 z2
    obtain ⟨i1, i2⟩ := ih fun c hc => hb c (by simp [hc])
    refine ⟨.cons ⟨ws, k1, q2.mono x.z⟩ i1, fun c hc => ?_⟩
    rcases List.mem_cons.mp hc with rfl | hc
    · exact ⟨k2, k3⟩
    · exact i2 c hc
theorem OwR.ext {v : V} {s : Sl} (r : OwR K mg Z H O C H0 v s) (x : Ext Z H O Z' H' O') : OwR K mg Z' H' O' C H0 v s := by
  cases s with
  | no => exact r
  | fz y => exact Rl.mono x.z r
  | own xs =>
    obtain ⟨a, vs, rfl, h1, h2, h3, h4, h5, h6⟩ := r
    obtain ⟨k1, k2, k3⟩ := ext_loose x h5 h1 h2
    exact ⟨a, vs, rfl, k2, k3, h3, h4, k1, h6.mono x.z⟩
  | odK xs =>
    obtain ⟨a, vs, rfl, h1, h2, h3, h4, h5, h6, h7⟩ := r
    obtain ⟨k1, k2, k3⟩ := ext_loose x h5 h1 h2
    exact ⟨a, vs, rfl, k2, k3, h3, h4, k1, h6, h7.mono x.z⟩
  | odT xs =>
    obtain ⟨a, vs, rfl, h1, h2, h3, h4, h5, h6, h7⟩ := r
    obtain ⟨k1, k2, k3⟩ := ext_loose x h5 h1 h2
    exact ⟨a, vs, rfl, k2, k3, h3, h4, k1, h6, h7.mono x.z⟩
  | own2 xss =>
    obtain ⟨a, bs, rfl, h1, h2, h3, h4⟩ := r
    have ha := h1 a (by simp)
    obtain ⟨k1, k2, k3⟩ := ext_loose x h3 ha.1 ha.2.1
    obtain ⟨i1, i2⟩ := paired_keep x (fun b hb => ⟨(h1 b (by simp [hb])).1, (h1 b (by simp [hb])).2.1⟩) h4
    refine ⟨a, bs, rfl, fun b hb => ?_, h2, k1, i1⟩
    obtain ⟨_, _, q3, q4⟩ := h1 b hb
    rcases List.mem_cons.mp hb with rfl | hb
    · exact ⟨k2, k3, q3, q4⟩
    · exact ⟨(i2 b hb).1, (i2 b hb).2, q3, q4⟩
  | box c d t =>
    obtain ⟨a, e, rfl, h1, h2, h3, h4⟩ := r
    have ha := h2 a (.inl rfl)
    have he := h2 e (.inr rfl)
    obtain ⟨k1, k2, k3⟩ := ext_loose x h3 ha.1 ha.2.1
    obtain ⟨j1, j2, j3⟩ := ext_loose x h4 he.1 he.2.1
    refine ⟨a, e, rfl, h1, fun b hb => ?_, k1, j1⟩
    rcases hb with rfl | rfl
    · exact ⟨k2, k3, ha.2.2⟩
    · exact ⟨j2, j3, he.2.2⟩
  | _ => exact r
theorem OwR.lab {v : V} {s : Sl} (r : OwR K mg Z H O C H0 v s) (h : ∀ b, H0 b = none → O b = none → O' b = none) : OwR K mg Z H O' C H0 v s := by
  cases s with
  | no => exact r
  | fz y => exact r
  | own xs =>
    obtain ⟨a, vs, rfl, h1, h2, h3, h4, h5⟩ := r
    exact ⟨a, vs, rfl, h a h4 h1, h2, h3, h4, h5⟩
  | odK xs =>
    obtain ⟨a, vs, rfl, h1, h2, h3, h4, h5⟩ := r
    exact ⟨a, vs, rfl, h a h4 h1, h2, h3, h4, h5⟩
  | odT xs =>
    obtain ⟨a, vs, rfl, h1, h2, h3, h4, h5⟩ := r
    exact ⟨a, vs, rfl, h a h4 h1, h2, h3, h4, h5⟩
  | own2 xss =>
    obtain ⟨a, bs, rfl, h1, h2⟩ := r
    exact ⟨a, bs, rfl, fun b hb => let ⟨q1, q2, q3, q4⟩ := h1 b hb; ⟨h b q4 q1, q2, q3, q4⟩, h2⟩
  | box c d t =>
    obtain ⟨a, e, rfl, h1, h2, h3⟩ := r
    exact ⟨a, e, rfl, h1, fun b hb => let ⟨q1, q2, q3, q4⟩ := h2 b hb; ⟨h b q4 q1, q2, q3, q4⟩, h3⟩
  | _ => exact r
theorem paired_live {b : Addr} {bs : List Addr} {xss : List (List Val)} (h : Paired (fun b xs => ∃ ws, H b = some (.lst ws) ∧ Rls K mg Z ws xs) bs xss) : b ∈ bs → H b ≠ none := by
  induction h with
  | nil => intro hb; cases hb
  | cons q t ih =>
    intro hb
    rcases List.mem_cons.mp hb with rfl | hb
    · obtain ⟨ws, q1, _⟩ := q; rw [q1]; simp
    · exact ih hb
theorem OwR.live {v : V} {s : Sl} {b : Addr} (r : OwR K mg Z H O C H0 v s) (x : Ext Z H O Z' H' O') (hm : b ∈ things s v H') : H b ≠ none := by
  cases s with
  | own xs =>
    obtain ⟨a, vs, rfl, h1, h2, h3, h4, h5, h6⟩ := r
    have e : b = a := by simpa [things] using hm
    rw [e, h5]; simp
  | odK xs =>
    obtain ⟨a, vs, rfl, h1, h2, h3, h4, h5, h6⟩ := r
    have e : b = a := by simpa [things] using hm
    rw [e, h5]; simp
  | odT xs =>
    obtain ⟨a, vs, rfl, h1, h2, h3, h4, h5, h6⟩ := r
    have e : b = a := by simpa [things] using hm
    rw [e, h5]; simp
  | own2 xss =>
    obtain ⟨a, bs, rfl, h1, h2, h3, h4⟩ := r
    have ha := h1 a (by simp)
    obtain ⟨k1, k2, k3⟩ := ext_loose x h3 ha.1 ha.2.1
    have et : things (.own2 xss) (.ref a) H' = a :: bs := by simp only [things, k1]; rw [refs_back]
    rw [et] at hm
    rcases List.mem_cons.mp hm with rfl | hm
    · rw [h3]; simp
    · exact paired_live h4 hm
  | box c d t =>
    obtain ⟨a, e, rfl, h1, h2, h3, h4⟩ := r
    have ha := h2 a (.inl rfl)
    obtain ⟨k1, k2, k3⟩ := ext_loose x h3 ha.1 ha.2.1
    have et : things (.box c d t) (.ref a) H' = [a, e] := by simp only [things, k1]
    rw [et] at hm
    simp only [List.mem_cons, List.not_mem_nil, or_false] at hm
    rcases hm with rfl | rfl
    · rw [h3]; simp
    · rw [h4]; simp
  | _ => simp [things] at hm
end
def sPo (i j : Nat) (d1 d2 : DO) : DS := fun ρ => (d1 ρ).fl fun p => (d2 p.2).fl fun q => if i < q.2.length ∧ j < q.2.length then .nx ((q.2.set i p.1).set j q.1) else .bad
/-- both new things come to their slots -/
theorem place2 {K : PySem.W.Frag} {mg : MG} {Z H H1 Z1 Z2 H2 Z3 H3 : Hp} {O O1 O2 O3 : Lab} {C : Lk} {σ : L2.St} {ρ2 : Env} {i j : Nat} {v w : V} {s t : Sl} (x1 : Ext Z H O Z1 H1 O1) (r1 : OwR K mg Z1 H1 O1 C H v s) (x2 : Ext Z1 H1 O1 Z2 H2 O2) (r2 : OwR K mg Z2 H2 O2 C H1 w t)
    (x3 : Ext Z2 H2 O2 Z3 H3 O3) (R : EnvR K mg Z3 H3 O3 C σ ρ2) (hi : i < ρ2.length) (hj : j < ρ2.length) : ∃ O4, EnvR K mg Z3 H3 O4 C ((σ.set i (some v)).set j (some w)) ((ρ2.set i s).set j t) ∧ Ext Z H O Z3 H3 O4 := by
  have q1 := (r1.ext x2).ext x3
  have q2 := r2.ext x3
  obtain ⟨R4, n4⟩ := R.place hi q1
  have q3 : OwR K mg Z3 H3 (placeO i (things s v H3) O3) C H1 w t := q2.lab fun b hb ho => placeO_none (fun hm => by
    exact r1.live (x2.trans x3) hm hb) ho
  obtain ⟨R5, n5⟩ := R4.place (i := j) (by rw [List.length_set]; exact hj) q3
  refine ⟨_, R5, (((x1.trans x2).trans x3).place n4).place fun b hb => ?_⟩
  obtain ⟨h6, h7⟩ := n5 b hb
  exact ⟨x1.fresh h6, h7⟩
end Ev

/-! Ev: x, y = a, b with new things on the right: the statements. -/
namespace Ev
open PySem PySem.Spec PyProof.Rows L2
theorem Out.fl_nx {α : Type} {o : Out α} {f : α → Fl} {K : PySem.W.Frag} {mg : MG} {Z H : Hp} {O : Lab} {C : Lk} {D : Ends} (h : FlR K mg Z H O C D (o.fl f)) : ∃ a, o = .ok a ∧ FlR K mg Z H O C D (f a) := by
  cases o with
  | ok a => exact ⟨a, rfl, h⟩
  | exc _ => exact h.elim
  | bad => exact h.elim
section
variable {X : Cx}
theorem st_par2 {i j : Nat} {x y : Str} {a b : Expr} {d1 d2 : DO} {px py pt pos : Pos} {kt k2 pt2} (hc : X.calm = true) (hN : X.N.Nodup) (hi : X.N[i]? = some x) (hj : X.N[j]? = some y) (hij : i ≠ j)
    (hx : X.env.scope.names.lookup x = some .local) (hy : X.env.scope.names.lookup y = some .local) (h1 : POw X a d1) (h2 : POw X b d2)
    (hw : swappedStores [.Tuple [.Name x px, .Name y py] kt pt] (.Tuple [a, b] k2 pt2) X.env = pure (some [x, y])) (n2 : starEach [b] X.env = (false, eval b X.env) :: starEach [] X.env := by rfl) (n1 : starEach [a, b] X.env = (false, eval a X.env) :: starEach [b] X.env := by rfl)
    (hs : swapsWithSole [.Tuple [.Name x px, .Name y py] kt pt] (.Tuple [a, b] k2 pt2) pos.line X.env = pure false := by rfl) :
    PSt X (.Assign [.Tuple [.Name x px, .Name y py] kt pt] (.Tuple [a, b] k2 pt2) pos) (sPo i j d1 d2) := PS.imp (ps_par hc hN hi hj hij hx hy (pa_cons h1 (pa_cons h2 pa_nil n2) n1) hw hs) fun D σ H ⟨Z, O, C, ρ, R, h⟩ => by
  unfold sPo at h
  obtain ⟨⟨s, ρ1⟩, e1, h⟩ := Out.fl_nx h
  obtain ⟨⟨t, ρ2⟩, e2, h⟩ := Out.fl_nx h
  simp only at h e2
  split at h
  · rename_i hl
    refine ⟨Z, O, C, ρ, R, s, ρ1, e1, fun v H1 Z1 O1 x1 R1 r1 => ⟨Z1, O1, C, ρ1, R1, t, ρ2, e2, fun w H2 Z2 O2 x2 R2 r2 => ?_⟩⟩
    obtain ⟨O4, R4, x4⟩ := place2 x1 r1 x2 r2 (Ext.refl _ _ _) R2 hl.1 hl.2
    exact ⟨v, w, rfl, h _ H2 Z2 O4 x4 R4⟩
  · exact h.elim
theorem st_asg2 {i j : Nat} {x y : Str} {a b : Expr} {d1 d2 : DO} {px py pt pos : Pos} {kt k2 pt2} (hc : X.calm = true) (hN : X.N.Nodup) (hi : X.N[i]? = some x) (hj : X.N[j]? = some y)
    (hx : Loc X.env.scope x) (hy : Loc X.env.scope y) (h1 : POw X a d1) (h2 : POw X b d2) (fx : X.fn x = true ∨ X.env.scope.names.lookup x = some .local := by first | exact .inl rfl | exact .inr rfl) (fy : X.fn y = true ∨ X.env.scope.names.lookup y = some .local := by first | exact .inl rfl | exact .inr rfl)
    (n2 : starEach [b] X.env = (false, eval b X.env) :: starEach [] X.env := by rfl) (n1 : starEach [a, b] X.env = (false, eval a X.env) :: starEach [b] X.env := by rfl)
    (m2 : (assignEach [.Name y py] X.env).map (·.2) = assign (.Name y py) X.env :: (assignEach [] X.env).map (·.2) := by rfl) (m1 : (assignEach [.Name x px, .Name y py] X.env).map (·.2) = assign (.Name x px) X.env :: (assignEach [.Name y py] X.env).map (·.2) := by rfl)
    (hn : (assignEach [.Name x px, .Name y py] X.env).length = 2 := by rfl) (hst : (assignEach [.Name x px, .Name y py] X.env).findIdx? (·.1) = none := by rfl)
    (hs : swapsWithSole [.Tuple [.Name x px, .Name y py] kt pt] (.Tuple [a, b] k2 pt2) pos.line X.env = pure false := by rfl)
    (hw : swappedStores [.Tuple [.Name x px, .Name y py] kt pt] (.Tuple [a, b] k2 pt2) X.env = pure none := by rfl)
    (hh : (assignEach [.Tuple [.Name x px, .Name y py] kt pt] X.env).map (·.2) = [assign (.Tuple [.Name x px, .Name y py] kt pt) X.env] := by rfl) :
    PSt X (.Assign [.Tuple [.Name x px, .Name y py] kt pt] (.Tuple [a, b] k2 pt2) pos) (sPo i j d1 d2) := PS.imp (ps_asg (pe_tup (pa_cons h1 (pa_cons h2 pa_nil n2) n1)) (pg_tup hc (pgs_cons (pg_name hN hi hx fx) (pgs_cons (pg_name hN hj hy fy) pgs_nil m2) m1) hn hst) hs hw hh) fun D σ H ⟨Z, O, C, ρ, R, h⟩ => by
  unfold sPo at h
  obtain ⟨⟨s, ρ1⟩, e1, h⟩ := Out.fl_nx h
  obtain ⟨⟨t, ρ2⟩, e2, h⟩ := Out.fl_nx h
  simp only at h e2
  split at h
  · rename_i hl
    refine ⟨Z, O, C, ρ, R, s, ρ1, e1, fun v H1 Z1 O1 x1 R1 r1 => ⟨Z1, O1, C, ρ1, R1, t, ρ2, e2, fun w H2 Z2 O2 x2 R2 r2 => ⟨show 2 ≤ _ by decide, fun p hp => ?_⟩⟩⟩
    let gr := Grow.newH (o := .tup [v, w]) R2.zh hp
    obtain ⟨O4, R4, x4⟩ := place2 x1 r1 x2 r2 gr.ext (R2.grow gr) hl.1 hl.2
    exact ⟨p, [v, w], rfl, SqT.of upd_same, rfl, v, [w], rfl, w, [], rfl, rfl, h _ _ Z2 O4 x4 R4⟩
  · exact h.elim
end
/-! for the evaluator -/
def kPo2 (i j : Nat) (s : Sl) (q : Sl × Env) : Fl := if i < q.2.length ∧ j < q.2.length then .nx ((q.2.set i s).set j q.1) else .bad
def kPo (i j : Nat) (d2 : DO) (p : Sl × Env) : Fl := (d2 p.2).fl (kPo2 i j p.1)
@[simp] theorem v_sPo (i j : Nat) (d1 d2 : DO) (ρ : Env) : sPo i j d1 d2 ρ = (d1 ρ).fl (kPo i j d2) := by rfl
@[simp] theorem v_kPo (i j : Nat) (d2 : DO) (s : Sl) (ρ : Env) : kPo i j d2 (s, ρ) = (d2 ρ).fl (kPo2 i j s) := by rfl
@[simp] theorem v_kPo2 (i j : Nat) (s t : Sl) (ρ : Env) : kPo2 i j s (t, ρ) = if i < ρ.length ∧ j < ρ.length then .nx ((ρ.set i s).set j t) else .bad := by rfl
end Ev

/-! Ev: sorted(set(tuples of ints)). -/
namespace Ev
open PySem PySem.Spec PyProof.Rows L2
def encT (k : List Int) : PyData := .tuple (k.map .int)
theorem encT_lt (a b : List Int) : PySem.W.dataLt (encT a) (encT b) = decide (a < b) := by
  unfold encT
  rw [PySem.W.dataLt_tuple]
  exact PySem.W.dataLt_ints a b
theorem ord_ext {α : Type} {r : α → α → Prop} (as : ∀ a b, r a b → ¬ r b a) : ∀ {xs ys : List α}, xs.Pairwise r → ys.Pairwise r → (∀ k, k ∈ xs ↔ k ∈ ys) → xs = ys
  | [], [], _, _, _ => rfl
  | [], y :: ys, _, _, h => by have := (h y).mpr (by simp); cases this
  | x :: xs, [], _, _, h => by have := (h x).mp (by simp); cases this
  | x :: xs, y :: ys, h1, h2, h => by
    rw [List.pairwise_cons] at h1 h2
    have e : x = y := by
      rcases List.mem_cons.mp ((h x).mp (by simp)) with e | e
      · exact e
      · rcases List.mem_cons.mp ((h y).mpr (by simp)) with e2 | e2
        · exact e2.symm
        · exact absurd (h1.1 y e2) (as _ _ (h2.1 x e))
    subst e
    congr 1
    refine ord_ext as h1.2 h2.2 fun k => ⟨fun hk => ?_, fun hk => ?_⟩
    · rcases List.mem_cons.mp ((h k).mp (by simp [hk])) with e | e
      · subst e; exact absurd (h1.1 k hk) (as _ _ (h1.1 k hk))
      · exact e
    · rcases List.mem_cons.mp ((h k).mpr (by simp [hk])) with e | e
      · subst e; exact absurd (h2.1 k hk) (as _ _ (h2.1 k hk))
      · exact e
def leT (a b : List Int) : Bool := decide (¬ b < a)
theorem leT_data (a b : List Int) : PySem.W.dataLe false encT a b = leT a b := by
  rw [PySem.W.dataLe_eq]
  show (!PySem.W.dataLt (encT b) (encT a)) = _
  rw [encT_lt]
  unfold leT
  by_cases h : b < a
  · rw [decide_eq_true h, decide_eq_false (not_not_intro h)]; rfl
  · rw [decide_eq_false h, decide_eq_true h]; rfl
theorem ltT_asym (a b : List Int) (h : a < b) : ¬ b < a := List.lt_asymm h
theorem ltT_of (a b : List Int) (h : ¬ b < a) (hne : a ≠ b) : a < b := by
  rcases Decidable.em (a < b) with h2 | h2
  · exact h2
  · exact absurd (List.le_antisymm h h2) hne
theorem leT_trans (a b c : List Int) (h1 : leT a b = true) (h2 : leT b c = true) : leT a c = true := by
  unfold leT at *
  rw [decide_eq_true_eq] at *
  exact List.le_trans h1 h2
theorem leT_total (a b : List Int) : (leT a b || leT b a) = true := by
  unfold leT
  rw [Bool.or_eq_true, decide_eq_true_eq, decide_eq_true_eq]
  rcases Decidable.em (b < a) with h | h
  · exact .inr (ltT_asym _ _ h)
  · exact .inl h
def ddT : List (List Int) → List (List Int)
  | [] => []
  | x :: xs => if x ∈ xs then ddT xs else x :: ddT xs
theorem mem_ddT {k : List Int} : ∀ {xs : List (List Int)}, k ∈ ddT xs ↔ k ∈ xs
  | [] => Iff.rfl
  | x :: xs => by
    unfold ddT
    split
    · rename_i h
      rw [mem_ddT, List.mem_cons]
      exact ⟨.inr, fun z => z.elim (fun e => e ▸ h) id⟩
    · rw [List.mem_cons, List.mem_cons, mem_ddT]
theorem nodup_ddT : ∀ xs : List (List Int), (ddT xs).Nodup
  | [] => List.nodup_nil
  | x :: xs => by
    unfold ddT
    split
    · exact nodup_ddT xs
    · rename_i h
      exact List.nodup_cons.mpr ⟨fun z => h (mem_ddT.mp z), nodup_ddT xs⟩
def sdT (xs : List (List Int)) : List (List Int) := (ddT xs).mergeSort leT
theorem srtT_lt {xs : List (List Int)} (h : xs.Nodup) : (xs.mergeSort leT).Pairwise (· < ·) := by
  have h1 : (xs.mergeSort leT).Pairwise (fun a b => leT a b = true) := List.pairwise_mergeSort leT_trans leT_total xs
  have h2 : (xs.mergeSort leT).Nodup := (List.mergeSort_perm xs _).nodup_iff.mpr h
  refine (h1.and h2).imp fun {a b} ⟨h1, h2⟩ => ?_
  unfold leT at h1
  rw [decide_eq_true_eq] at h1
  exact ltT_of _ _ h1 h2
theorem mem_sdT {k : List Int} {xs : List (List Int)} : k ∈ sdT xs ↔ k ∈ xs := by
  unfold sdT
  rw [(List.mergeSort_perm _ _).mem_iff, mem_ddT]
theorem sdT_eq {ms xs : List (List Int)} (h : ms.Nodup) (m : ∀ k, k ∈ ms ↔ k ∈ xs) : ms.mergeSort leT = sdT xs :=
  ord_ext ltT_asym (srtT_lt h) (srtT_lt (nodup_ddT xs)) fun k => by
    rw [(List.mergeSort_perm _ _).mem_iff, m k]
    exact mem_sdT.symm
end Ev

/-! Ev: sorted(set(tuples of ints)): the machine. -/
namespace Ev
open PySem PySem.Spec PyProof.Rows L2
def encK (p : Addr × List Int) : PyData := encT p.2
def refK (p : Addr × List Int) : Value := .ref p.1
theorem addr_row {P : Program} {w : World} {h : Heap} {k k' : List Int} {a : Addr} (x : IsT P w h k a) (y : IsT P w h k' a) : k = k' := x.inj y
/-- values that are the rows of L, each once -/
theorem rows_back {P : Program} {w : World} {h : Heap} {L : List (Addr × List Int)} (hT : ∀ p ∈ L, IsT P w h p.2 p.1) {vs : List Value} (pm : vs.Perm (L.map refK)) (nd : (L.map (·.2)).Nodup) : ∃ L1 : List (Addr × List Int), vs = L1.map refK ∧ L1.Perm L := by
  have ch : ∀ vs : List Value, (∀ v ∈ vs, v ∈ L.map refK) → ∃ L1 : List (Addr × List Int), vs = L1.map refK ∧ ∀ p ∈ L1, p ∈ L := by
    intro vs
    induction vs with
    | nil => intro _; exact ⟨[], rfl, fun _ h => by cases h⟩
    | cons v vs ih =>
      intro hv
      obtain ⟨p, hp, e⟩ := List.mem_map.mp (hv v (by simp))
      obtain ⟨L1, e1, h1⟩ := ih fun u hu => hv u (by simp [hu])
      refine ⟨p :: L1, by rw [List.map_cons, e, e1], fun q hq => ?_⟩
      rcases List.mem_cons.mp hq with rfl | hq
      · exact hp
      · exact h1 q hq
  obtain ⟨L1, e1, h1⟩ := ch vs fun v hv => pm.mem_iff.mp hv
  refine ⟨L1, e1, ?_⟩
  have nL : L.Nodup := nodup_of_map nd
  have inj : ∀ p ∈ L, ∀ q ∈ L, refK p = refK q → p = q := fun p hp q hq e => by
    have e : p.1 = q.1 := by injection e
    have a1 := hT p hp
    have a2 := hT q hq
    rw [e] at a1
    exact Prod.ext e (addr_row a1 a2)
  have nR : (L.map refK).Nodup := by
    rw [List.nodup_iff_pairwise_ne, List.pairwise_map]
    exact nL.imp_of_mem fun {p q} hp hq hne e => hne (inj p hp q hq e)
  have n1 : L1.Nodup := by
    have : (L1.map refK).Nodup := by rw [← e1]; exact pm.nodup_iff.mpr nR
    exact nodup_of_map this
  refine (List.perm_ext_iff_of_nodup n1 nL).mpr fun p => ⟨h1 p, fun hp => ?_⟩
  have hm : refK p ∈ L1.map refK := by rw [← e1]; exact pm.mem_iff.mpr (List.mem_map.mpr ⟨p, hp, rfl⟩)
  obtain ⟨q, hq, e⟩ := List.mem_map.mp hm
  rw [← inj q (h1 q hq) p hp e]
  exact hq
theorem each_refs : ∀ L : List (Addr × List Int), PySem.W.EachIs (fun v p => v = refK p) (L.map refK) L
  | [] => .nil
  | p :: L => .cons rfl (each_refs L)
theorem each_out : ∀ {out : List Value} {L : List (Addr × List Int)}, PySem.W.EachIs (fun v p => v = refK p) out L → out = L.map refK
  | _, _, .nil => rfl
  | _, _, .cons e t => by rw [e, each_out t]; rfl
theorem each_with {R : Value → (Addr × List Int) → Prop} : ∀ (L : List (Addr × List Int)), (∀ p ∈ L, R (refK p) p) → PySem.W.EachIs R (L.map refK) L
  | [], _ => .nil
  | p :: L, h => .cons (h p (by simp)) (each_with L fun q hq => h q (by simp [hq]))
section
variable {P : Program} {w : World} {A : Around} {E : Value → Shared → Prop} {s : Shared}
theorem sorted_setD {a : Addr} {L : List (Addr × List Int)} {es : Array (Int × Value)} {ep : Nat} {t : SetTable} {Q : Value → Shared → Prop} (R : SetTR P w s.heap a L es ep t) (hh : A.handled = none)
    (hal : PySem.W.AllAlike (L.map encK)) (hk : PySem.W.Sortable (L.map encK)) (hu : A.units + 8 < cLine) (hdp : ∀ p ∈ L, (encK p).depth ≤ 4) (hr : ∀ p ∈ L, ∃ as, Reads s.heap (refK p) (encK p) as)
    (hQ : ∀ s' p (out : Array Value) (c : Nat) (L' : List (Addr × List Int)), (∀ b o, s.heap.get? b = some o → s'.heap.get? b = some o) → s'.gens = s.gens → s'.os = s.os → s.heap.objs.size ≤ p →
      s'.heap.get? p = some (seqObj "list" out c) → out.toList = L'.map refK → (∃ L1 : List (Addr × List Int), L1.Perm L ∧ L' = L1.mergeSort (PySem.W.dataLe false encK)) → Q (.ref p) s') :
    wpAny (model P w) A (call (.builtin "sorted") [.ref a]) Q E s := by
  obtain ⟨o, ho, hex, hd⟩ := R.ob
  have hsz := R.size
  have hfew := R.few
  refine Calls.call_function_entry kind_sorted plain_sorted entry_sorted (args_sorted1 _) ?_
  unfold Builtin.«sorted»
  refine wpAny_bind (m := checkCount "sorted" 1 1 _) (wpAny_pure ?_)
  refine wpAny_bind (collect_set (A := A.in1) hh ⟨o, ho, hex.1, hd⟩ R.fits (by unfold scanBound; omega) R.tab.ris R.led fun s1 vs k1 hz g1 o1 pm => ?_)
  have hes : es.toList.map (·.2) = L.map refK := by
    rw [R.rows]
    unfold rowsOf
    rw [List.map_map]
    rfl
  rw [hes] at pm
  obtain ⟨L1, rfl, p1⟩ := rows_back R.tup pm R.nd
  have l1 : L1.length < 64 := by rw [p1.length_eq]; exact hfew
  refine wpAny_bind (wpAny_newList ?_ (by rw [sizeLine_eq, List.length_map]; omega))
  have hoL : (s1.heap.push (seqObj "list" (L1.map refK).toArray 0)).get? s1.heap.objs.size = some (seqObj "list" (L1.map refK).toArray 0) := Heap.get?_push_size _ rfl
  have m1 : (L1.map encK).Perm (L.map encK) := p1.map _
  refine wpAny_bind (wpAny_holding (PySem.W.list_sort_data (R := fun v p => v = refK p) (enc := encK) (bs := L1) (s := { s1 with heap := s1.heap.push (seqObj "list" (L1.map refK).toArray 0) }) hoL (each_refs L1) (each_with L1 fun p hp => ?_) (fun d hd d' hd' => hal d (m1.mem_iff.mp hd) d' (m1.mem_iff.mp hd')) ?_ (by rw [sizeLine_eq]; omega) (fun p hp => ?_) fun out hl ho => ?_))
  · obtain ⟨as, ra⟩ := hr p (p1.mem_iff.mp hp)
    have rb := PyProof.Rows.Reads.keeps k1 ra
    refine ⟨as, PyProof.Rows.Reads.keeps (fun b u e => Heap.get?_push_of_some _ e) rb, fun hm => ?_⟩
    obtain ⟨u, e⟩ := PyProof.On.reads_mem_get rb _ hm
    exact absurd (Heap.lt_size e) (Nat.lt_irrefl _)
  · rcases hk with h | h
    · exact .inl fun d hd => h d (m1.mem_iff.mp hd)
    · exact .inr fun d hd => h d (m1.mem_iff.mp hd)
  · have h1 := hdp p (p1.mem_iff.mp hp)
    have h2 : A.in1.units = A.units + 1 := rfl
    omega
  · obtain ⟨c, hc⟩ := sortedHeap_at (vs := L1.map refK) (out := out.toArray) hoL
    refine wpAny_pure ⟨_, rfl, hQ _ s1.heap.objs.size out.toArray c _ (fun b u e => ?_) g1 o1 hz hc (by simpa using each_out ho) ⟨L1, p1, rfl⟩⟩
    have q := k1 b u e
    have hlt := Heap.lt_size q
    show (sortedHeap (s1.heap.push (seqObj "list" (L1.map refK).toArray 0)) s1.heap.objs.size (L1.map refK) out.toArray).get? b = some u
    rw [sortedHeap_old (Nat.ne_of_lt hlt) (by rw [size_push']; exact Nat.lt_succ_of_lt hlt)]
    exact Heap.get?_push_of_some _ q
end
end Ev

/-! Ev: sorted(set(tuples of ints)): the rule. -/
namespace Ev
open PySem PySem.Spec PyProof.Rows L2
def rowV (k : List Int) : Val := .tup (k.map .int)
theorem row_py (k : List Int) : (rowV k).py = encT k := by
  unfold rowV encT
  show PyData.tuple _ = _
  congr 1
  induction k with
  | nil => rfl
  | cons n k ih => rw [List.map_cons, List.map_cons, ← ih]; rfl
theorem row_plain (k : List Int) : (encT k).plain = true := by
  show PyData.plainAll (k.map .int) = true
  induction k with
  | nil => rfl
  | cons n k ih => simpa [PyData.plainAll, PyData.plain] using ih
theorem row_depth (k : List Int) : (encT k).depth ≤ 4 := by
  have h : PyData.depthAll (k.map .int) ≤ 1 := by
    induction k with
    | nil => simp [PyData.depthAll]
    | cons n k ih => simp [PyData.depthAll, PyData.depth]; omega
  unfold encT
  simp only [PyData.depth]
  omega
theorem row_rl {K : PySem.W.Frag} {mg : MG} {Z H : Hp} {a : Addr} {k : List Int} (zh : Same Z H) (r : Rl K mg Z (.ref a) (rowV k)) : SqT K H a (k.map V.int) := by
  unfold rowV at r
  cases r with
  | tup m r =>
    rw [rls_ints_eq r] at m
    exact SqT.of (zh _ _ m)
def rSTD (K : PySem.W.Frag) (mg : MG) (P : Program) (w : World) : List V → Hp → VK → Prop := fun vs H Q => ∃ (Z : Hp) (a : Addr) (L : List (Addr × List Int)), Same Z H ∧ vs = [V.ref a] ∧ H a = some (SetTO P w a L) ∧ (∀ p ∈ L, Rl K mg Z (.ref p.1) (rowV p.2)) ∧ PySem.W.AllAlike (L.map encK) ∧ PySem.W.Sortable (L.map encK) ∧
  ∀ (L1 L' : List (Addr × List Int)) (p : Addr), L1.Perm L → (L.map (·.2)).Nodup → L' = L1.mergeSort (PySem.W.dataLe false encK) → H p = none → Q (.ref p) (upd H p (.lst (L'.map fun q => V.ref q.1)))
theorem cr_sortedTD {X : Cx} {k : Nat} (hc : X.calm = true) (hr : Room k X.A) : CallR X (.builtin "sorted") (rSTD X.K X.mg X.prog X.w) := by
  intro pins s σ H vs us Q I r h
  obtain ⟨Z, a, L, zh, rfl, ha, hk, hal, hso, q⟩ := h
  have R0 : SetT0 X.prog X.w s.heap a L := (I.hok a _ ha).1
  obtain ⟨es, ep, t, R⟩ := R0.full fun p hp => I.isT (row_rl zh (hk p hp))
  rw [Vals.ref1 r]
  have hu := in_room hr (n := 64) (by omega)
  refine sorted_setD R (I.ok.hd hc) hal hso (by omega) (fun p _ => row_depth p.2) (fun p hp => ?_) fun s' p out c L' k g o hp hg hout hL => ?_
  · have h1 := reads_of I zh (.fz (hk p hp)) (by rw [row_py]; exact row_plain _) (u := refK p) rfl
    rw [row_py] at h1
    exact h1
  · obtain ⟨L1, pm, rfl⟩ := hL
    have hfew : (L1.mergeSort (PySem.W.dataLe false encK)).length < 64 := by rw [List.length_mergeSort, pm.length_eq]; exact R.few
    have hlen : ((L1.mergeSort (PySem.W.dataLe false encK)).map fun q => V.ref q.1).length ≤ sizeLine := by rw [List.length_map, sizeLine_eq]; omega
    have hn : H p = none := I.hok.fresh hp
    have hv : Vals ((L1.mergeSort (PySem.W.dataLe false encK)).map fun q => V.ref q.1) out.toList := by rw [hout]; exact vals_of_refs _
    have J : Inv X pins σ (upd H p (.lst ((L1.mergeSort (PySem.W.dataLe false encK)).map fun q => V.ref q.1))) { s with heap := s'.heap, gens := s'.gens, drawn := s'.drawn, toks := s'.toks } :=
      I.call (ch := []) (Un.laid k hp hn) (I.hok.laid k hp ⟨hlen, out.toList, c, hv, hg⟩) (by rw [g]; exact I.bare) (fun _ z => nomatch z)
    have e : s' = { s with heap := s'.heap, gens := s'.gens, drawn := s'.drawn, toks := s'.toks } := by
      cases s'
      cases s
      cases o
      rfl
    rw [e]
    exact ⟨.ref p, _, J, rfl, q L1 _ p pm R.nd rfl hn⟩
def tupsL : List Val → Option (List (List Int))
  | [] => some []
  | .tup ys :: r => (intsOf ys).bind fun k => (tupsL r).map fun ks => k :: ks
  | _ => none
def tupsOf : Val → Option (List (List Int))
  | .lst xs => tupsL xs
  | _ => none
def okT (ks : List (List Int)) : Bool := alikeOk (ks.map encT) && (ks.map encT).all isTupD && decide (ks.length < 64)
def sdTV (x : Val) : Option (List Val) := (tupsOf x).bind fun ks => if okT ks = true then some ((sdT ks).map rowV) else none
theorem tups_rl {K : PySem.W.Frag} {mg : MG} {Z : Hp} : ∀ {vs : List V} {xs : List Val} {ks : List (List Int)}, Rls K mg Z vs xs → tupsL xs = some ks → ∃ pk : List (Addr × List Int), vs = pk.map (fun p => V.ref p.1) ∧ pk.map (·.2) = ks ∧ ∀ p ∈ pk, Rl K mg Z (.ref p.1) (rowV p.2)
  | _, _, _, .nil, e => by cases e; exact ⟨[], rfl, rfl, fun _ h => by cases h⟩
  | _, _, ks, .cons (x := x) (xs := xs) r t, e => by
    cases x with
    | tup ys =>
      obtain ⟨k, e1, e⟩ := Option.bind_eq_some_iff.mp (show (intsOf ys).bind _ = some ks from e)
      obtain ⟨ks', e2, e⟩ := Option.map_eq_some_iff.mp e
      subst e
      obtain ⟨pk, h1, h2, h3⟩ := tups_rl t e2
      cases intsOf_eq e1
      cases r with
      | tup m r =>
        refine ⟨(_, k) :: pk, by rw [h1]; rfl, by rw [List.map_cons, h2], fun p hp => ?_⟩
        rcases List.mem_cons.mp hp with rfl | hp
        · exact .tup m r
        · exact h3 p hp
    | _ => cases e
theorem rows_rl {K : PySem.W.Frag} {mg : MG} {Z : Hp} : ∀ {L : List (Addr × List Int)}, (∀ p ∈ L, Rl K mg Z (.ref p.1) (rowV p.2)) → Rls K mg Z (L.map fun p => V.ref p.1) ((L.map (·.2)).map rowV)
  | [], _ => .nil
  | p :: L, h => .cons (h p (by simp)) (rows_rl fun q hq => h q (by simp [hq]))
end Ev

/-! Ev: sorted(set(tuples of ints)) as a new list. -/
namespace Ev
open PySem PySem.Spec PyProof.Rows L2
theorem okT_sub {ks ls : List (List Int)} (h : okT ks = true) (m : ∀ k ∈ ls, k ∈ ks) : PySem.W.AllAlike (ls.map encT) ∧ PySem.W.Sortable (ls.map encT) := by
  unfold okT at h
  rw [Bool.and_eq_true, Bool.and_eq_true] at h
  obtain ⟨⟨h1, h2⟩, _⟩ := h
  have sub : ∀ d ∈ ls.map encT, d ∈ ks.map encT := fun d hd => by
    obtain ⟨k, hk, rfl⟩ := List.mem_map.mp hd
    exact List.mem_map.mpr ⟨k, m k hk, rfl⟩
  refine ⟨fun d hd d' hd' => alikeOk_out h1 d (sub d hd) d' (sub d' hd'), .inl fun d hd => ?_⟩
  have := List.all_eq_true.mp h2 d (sub d hd)
  cases d with
  | tuple xs =>
    cases xs with
    | nil => cases this
    | cons x r => exact ⟨x, r, rfl⟩
  | _ => cases this
theorem sorted_rows {L L1 : List (Addr × List Int)} {ks : List (List Int)} (pm : L1.Perm L) (nd : (L.map (·.2)).Nodup) (m : ∀ k, k ∈ L.map (·.2) ↔ k ∈ ks) : (L1.mergeSort (PySem.W.dataLe false encK)).map (·.2) = sdT ks := by
  have h1 : (L1.map (·.2)).Nodup := (pm.map (·.2)).nodup_iff.mpr nd
  have h2 : ∀ k, k ∈ L1.map (·.2) ↔ k ∈ ks := fun k => ((pm.map (·.2)).mem_iff).trans (m k)
  rw [← sdT_eq h1 h2]
  rw [List.map_mergeSort (s := leT)]
  intro a _ b _
  show PySem.W.dataLe false encK a b = leT a.2 b.2
  rw [← leT_data]
  rfl
section
variable {X : Cx} {e : Expr} {d : DA} {p p2 q pos : Pos} {k : Nat}
theorem pow_sortedSetT (hc : X.calm = true) (hr : Room k X.A) (hg : Gl X "sorted") (hm : X.mg "sorted" = none) (hg2 : Gl X "set") (hm2 : X.mg "set" = none) (ha : PAs X [e] d)
    (na : starEach [e] X.env = (false, eval e X.env) :: starEach [] X.env := by rfl)
    (na2 : starEach [.Call (.Name "set" p2) [e] [] q] X.env = (false, eval (.Call (.Name "set" p2) [e] [] q) X.env) :: starEach [] X.env := by rfl) : POw X (.Call (.Name "sorted" p) [.Call (.Name "set" p2) [e] [] q] [] pos) (dNo (go1 sdTV) d) :=
  PE.imp (pe_callB (cr_sortedTD hc hr) hg hm (by decide +kernel) (pa_cons (pe_callTy (cr_setOfT hc (by have := in_room hr (n := 64) (by omega); omega)) hg2 hm2 (by decide +kernel) ha (by decide) (by decide) na (by rfl)) pa_nil na2) (by decide) (by decide) na2 (by rfl)) fun σ H Q h => by
    obtain ⟨Z, O, C, ρ, R, x, ρ', e0, kk⟩ := h
    obtain ⟨⟨hs, ρ1⟩, e1, e0⟩ := Out.bind_ok e0
    obtain ⟨xs, e2, e0⟩ := Option.bind_eq_some_iff.mp (Out.of_ok e0)
    obtain ⟨ys, e3, e0⟩ := Option.map_eq_some_iff.mp e0
    cases e0
    refine ⟨Z, O, C, ρ, R, hs, ρ1, e1, fun vs H1 Z1 O1 x1 R1 r1 => ?_⟩
    have bs := derefs_bor R1 r1 e2
    have zh := R1.zh
    match xs, bs, e3 with
    | [y], .cons b .nil, e3 =>
      obtain ⟨ks, e4, e5⟩ := Option.bind_eq_some_iff.mp (show (tupsOf _).bind _ = some ys from e3)
      split at e5
      · rename_i hok
        cases e5
        cases y with
        | lst l =>
          obtain ⟨a, ws, rfl, hl, rl⟩ := bor_lst zh b
          obtain ⟨pk, rfl, hk2, hk3⟩ := tups_rl rl e4
          have hlen : pk.length < 64 := by
            have h6 := hok
            unfold okT at h6
            rw [Bool.and_eq_true, decide_eq_true_eq, ← hk2, List.length_map] at h6
            exact h6.2
          refine ⟨a, pk, rfl, SqL.of hl, fun p hp => row_rl zh (hk3 p hp), hlen, fun a2 L ha2 hL1 hL2 => ?_⟩
          let gr := Grow.newH (o := SetTO X.prog X.w a2 L) R1.zh ha2
          have hsub : ∀ k ∈ L.map (·.2), k ∈ ks := fun k hk => by
            obtain ⟨p, hp, rfl⟩ := List.mem_map.mp hk
            rw [← hk2]
            exact List.mem_map.mpr ⟨p, hL1 p hp, rfl⟩
          obtain ⟨al, so⟩ := okT_sub hok hsub
          rw [List.map_map] at al so
          refine ⟨Z1, a2, L, gr.zh, rfl, upd_same, fun p hp => hk3 p (hL1 p hp), al, so, fun L1 L' p pm nd eL hp => ?_⟩
          have hrow := sorted_rows (ks := ks) pm nd fun k => ⟨hsub k, fun hk => by
            rw [← hk2] at hk
            obtain ⟨p, hp, rfl⟩ := List.mem_map.mp hk
            exact hL2 p hp⟩
          subst eL
          have hrl : Rls X.K X.mg Z1 ((L1.mergeSort (PySem.W.dataLe false encK)).map fun q => V.ref q.1) ((sdT ks).map rowV) := by
            rw [← hrow]
            exact rows_rl fun p hp => hk3 p (hL1 p (pm.mem_iff.mp ((List.mergeSort_perm _ _).mem_iff.mp hp)))
          exact own_new (x1.trans gr.ext) (R1.grow gr) kk p _ hp hrl
        | _ => cases e4
      · cases e5
end
end Ev

/-! Ev: rows of three numbers. -/
namespace Ev
open PySem PySem.Spec PyProof.Rows L2
abbrev Tr := Int × Int × Int
def trV (t : Tr) : Val := .tup [.int t.1, .int t.2.1, .int t.2.2]
def trL (t : Tr) : List Int := [t.1, t.2.1, t.2.2]
theorem tups_tr : ∀ ts : List Tr, tupsL (ts.map trV) = some (ts.map trL)
  | [] => rfl
  | t :: ts => by
    rw [List.map_cons, List.map_cons]
    show (intsOf [.int t.1, .int t.2.1, .int t.2.2]).bind (fun k => (tupsL (ts.map trV)).map fun ks => k :: ks) = _
    rw [tups_tr ts]
    rfl
theorem ok_tr {ts : List Tr} (h : ts.length < 64) : okT (ts.map trL) = true := by
  unfold okT
  rw [Bool.and_eq_true, Bool.and_eq_true, decide_eq_true_eq, List.length_map]
  refine ⟨⟨?_, ?_⟩, h⟩
  · refine List.all_eq_true.mpr fun d hd => List.all_eq_true.mpr fun d' hd' => ?_
    rw [List.map_map] at hd hd'
    obtain ⟨a, _, rfl⟩ := List.mem_map.mp hd
    obtain ⟨b, _, rfl⟩ := List.mem_map.mp hd'
    rfl
  · refine List.all_eq_true.mpr fun d hd => ?_
    rw [List.map_map] at hd
    obtain ⟨a, _, rfl⟩ := List.mem_map.mp hd
    rfl
/-- sorted(set(..)) of rows of three: some rows of three, the same ones -/
theorem sd_tr {ts : List Tr} (h : ts.length < 64) : ∃ us : List Tr, sdTV (.lst (ts.map trV)) = some (us.map trV) ∧ us.length ≤ ts.length ∧ ∀ u, u ∈ us ↔ u ∈ ts := by
  have e : sdTV (.lst (ts.map trV)) = some ((sdT (ts.map trL)).map rowV) := by
    show (tupsL (ts.map trV)).bind _ = _
    rw [tups_tr]
    show (if okT (ts.map trL) = true then _ else _) = _
    rw [if_pos (ok_tr h)]
  have inj : ∀ a b : Tr, trL a = trL b → a = b := fun a b h => by
    obtain ⟨a1, a2, a3⟩ := a
    obtain ⟨b1, b2, b3⟩ := b
    unfold trL at h
    simp at h
    rw [h.1, h.2.1, h.2.2]
  have back : ∀ ks : List (List Int), (∀ k ∈ ks, ∃ t ∈ ts, k = trL t) → ∃ us : List Tr, ks = us.map trL ∧ ∀ u ∈ us, u ∈ ts := by
    intro ks
    induction ks with
    | nil => intro _; exact ⟨[], rfl, fun _ h => by cases h⟩
    | cons k ks ih =>
      intro hk
      obtain ⟨t, ht, rfl⟩ := hk k (by simp)
      obtain ⟨us, rfl, h2⟩ := ih fun k hk2 => hk k (by simp [hk2])
      refine ⟨t :: us, rfl, fun u hu => ?_⟩
      rcases List.mem_cons.mp hu with rfl | hu
      · exact ht
      · exact h2 u hu
  obtain ⟨us, h1, h2⟩ := back (sdT (ts.map trL)) fun k hk => by
    obtain ⟨t, ht, e⟩ := List.mem_map.mp (mem_sdT.mp hk)
    exact ⟨t, ht, e.symm⟩
  have ddle : ∀ xs : List (List Int), (ddT xs).length ≤ xs.length := by
    intro xs
    induction xs with
    | nil => exact Nat.le_refl _
    | cons x xs ih =>
      unfold ddT
      split
      · exact Nat.le_succ_of_le ih
      · exact Nat.succ_le_succ ih
  have hl : us.length ≤ ts.length := by
    have h3 := congrArg List.length h1
    unfold sdT at h3
    rw [List.length_mergeSort, List.length_map] at h3
    have h4 := ddle (ts.map trL)
    rw [List.length_map] at h4
    omega
  refine ⟨us, ?_, hl, fun u => ⟨h2 u, fun hu => ?_⟩⟩
  · rw [e, h1, List.map_map]
    rfl
  · have h5 : trL u ∈ sdT (ts.map trL) := mem_sdT.mpr (List.mem_map.mpr ⟨u, hu, rfl⟩)
    rw [h1] at h5
    obtain ⟨v, hv, e2⟩ := List.mem_map.mp h5
    rw [← inj v u e2]
    exact hv
end Ev

/-! Ev: comprehensions with three names that stand last in the environment. -/
namespace Ev
open PySem PySem.Spec PyProof.Rows L2
abbrev g3n (i j k : Nat) : DG := gTp 3 (gC (gNm i) (gC (gNm j) (gC (gNm k) gN)))
theorem g3n_eq {i j k : Nat} {ρ : Env} (x y z : Val) (hi : i < ρ.length) (hj : j < ρ.length) (hk : k < ρ.length) : g3n i j k (.tup [x, y, z]) ρ = some (((ρ.set i (.fz x)).set j (.fz y)).set k (.fz z)) := by
  simp [hi, hj, hk]
/-- over rows of three; the three slots are wiped behind each turn -/
theorem dLc_3 {it : DI} {i j k : Nat} {t : DT} {e : DV} (p : Tr → Bool) (f : Tr → Val) {ρ ρ0 : Env} {xs : List Tr} (hit : it ρ = .ok (xs.map trV, ρ)) (hl : xs.length ≤ 1000000) (hi : i < ρ.length) (hj : j < ρ.length) (hk : k < ρ.length)
    (hw0 : wipeE ρ [i, j, k] = ρ0) (hl0 : ρ0.length = ρ.length) (hw : ∀ x y z : Sl, wipeE (((ρ0.set i x).set j y).set k z) [i, j, k] = ρ0)
    (h : ∀ a ∈ xs, t (((ρ0.set i (.fz (.int a.1))).set j (.fz (.int a.2.1))).set k (.fz (.int a.2.2))) = .ok (p a, ((ρ0.set i (.fz (.int a.1))).set j (.fz (.int a.2.1))).set k (.fz (.int a.2.2))) ∧ (p a = true → e (((ρ0.set i (.fz (.int a.1))).set j (.fz (.int a.2.1))).set k (.fz (.int a.2.2))) = .ok (f a, ((ρ0.set i (.fz (.int a.1))).set j (.fz (.int a.2.1))).set k (.fz (.int a.2.2))))) :
    dLc it (g3n i j k) t e [i, j, k] ρ = .ok (.own ((xs.filter p).map f), rest ρ [i, j, k] ρ0) := by
  refine lc_eq hit (by rw [List.length_map]; exact Nat.le_trans hl (by decide)) ?_
  rw [hw0]
  refine lcL_map trV p f ρ0 xs fun a ha => ?_
  obtain ⟨h1, h2⟩ := h a ha
  refine ⟨_, _, g3n_eq _ _ _ (by rw [hl0]; exact hi) (by rw [hl0]; exact hj) (by rw [hl0]; exact hk), h1, ?_⟩
  cases hp : p a with
  | true => rw [if_pos rfl]; exact ⟨_, h2 hp, hw _ _ _⟩
  | false => rw [if_neg (by simp)]; exact hw _ _ _
end Ev

/-! Ev: dict comprehensions with keys numbers or texts. -/
namespace Ev
open PySem PySem.Spec PyProof.Rows L2
def dcL (g : DG) (t : DT) (ek ev : DV) (vs : List Nat) : List Val → List (Key × Val) → Env → Option (List (Key × Val) × Env)
  | [], acc, ρ => some (acc, ρ)
  | x :: xs, acc, ρ => match g x ρ with
    | some ρ1 => match t ρ1 with
      | .ok (true, ρ2) => match ek ρ2 with
        | .ok (k, ρ3) => match keyOf k with
          | some kk => match ev ρ3 with
            | .ok (y, ρ4) => if acc.length < sizeLine then dcL g t ek ev vs xs (dput acc kk y) (wipeE ρ4 vs) else none
            | _ => none
          | none => none
        | _ => none
      | .ok (false, ρ2) => dcL g t ek ev vs xs acc (wipeE ρ2 vs)
      | _ => none
    | none => none
def dDc (it : DI) (g : DG) (t : DT) (ek ev : DV) (vs : List Nat) : DO := fun ρ => match it ρ with
  | .ok (xs, ρ1) => if xs.length ≤ sizeLine then match dcL g t ek ev vs xs [] (wipeE ρ1 vs) with
    | some (ys, ρ2) => .ok (.odK ys, rest ρ1 vs ρ2)
    | none => .bad
    else .bad
  | _ => .bad
theorem dc_run {K : PySem.W.Frag} {mg : MG} {it : DI} {g : DG} {t : DT} {e e2 : DV} {vs ws : List Nat} (hw : ∀ i ∈ ws, i ∈ vs) {σ : L2.St} {H : Hp} {Q : VK} (h : TOw K mg (dDc it g t e e2 vs) σ H Q) :
    tDc (TIt K mg it) (TGt K mg g ws) (TTt K mg t) (TV K mg e) (TV K mg e2) vs σ H Q := by
  obtain ⟨Z, O, C, ρ, R, s, ρ', q, k⟩ := h
  unfold dDc at q
  cases ei : it ρ with
  | exc _ => rw [ei] at q; cases q
  | bad => rw [ei] at q; cases q
  | ok p =>
    obtain ⟨xs, ρ1⟩ := p
    rw [ei] at q
    simp only at q
    split at q
    case isFalse => cases q
    rename_i hz
    cases el : dcL g t e e2 vs xs [] (wipeE ρ1 vs) with
    | none => rw [el] at q; cases q
    | some p2 =>
      obtain ⟨ys, ρ2⟩ := p2
      rw [el] at q
      cases q
      refine ⟨Z, O, C, ρ, R, xs, ρ1, ei, fun J H1 Z1 O1 x1 R1 w => fun D hD => ?_⟩
      obtain ⟨f1, f2, f3⟩ := R1.fresh hD
      refine ⟨fun i m H2 => m = xs.length - i ∧ i ≤ xs.length ∧ ∃ Z2 O2 ρa, ∃ (ac : List (Key × V)) (acc : List (Key × Val)), Ext Z1 H1 O1 Z2 H2 O2 ∧ EnvR K mg Z2 H2 O2 C (wipe σ vs) ρa ∧ H2 D = some (.dK ac) ∧ (ac.map (·.1) = acc.map (·.1) ∧ Rls K mg Z2 (ac.map (·.2)) (acc.map (·.2))) ∧ O2 D = none ∧ Z2 D = none ∧ dcL g t e e2 vs (xs.drop i) acc ρa = some (ys, ρ2), ⟨_, rfl, Nat.zero_le _, Z1, O1, wipeE ρ1 vs, [], [], (Ext.refl Z1 H1 O1).free hD, (R1.wipe vs).free f1 f2 f3, upd_same, ⟨rfl, .nil⟩, f1, f2, by simpa using el⟩, ?_⟩
      rintro i m H2 ⟨rfl, hi, Z2, O2, ρa, ac, acc, x2, R2, hd, ra, o2, z2, el2⟩
      by_cases hlt : i < xs.length
      · refine .inr ⟨w.go i Z2 H2 x2.z R2.zh R2.ch hlt, _, fun H' hN => ⟨_, Nat.sub_lt_sub_left hlt (Nat.lt_succ_self i), rfl, hlt, hN⟩, fun v H3 y => ?_⟩
        obtain ⟨Z3, z, gr, hz2, rz⟩ := w.yld i Z2 H2 v H3 x2.z R2.zh R2.ch hlt y
        have ed : xs.drop i = z :: xs.drop (i + 1) := by
          rw [List.drop_eq_getElem_cons hlt]
          have : xs[i] = z := by rw [List.getElem?_eq_getElem hlt] at hz2; exact Option.some.inj hz2
          rw [this]
        rw [ed] at el2
        unfold dcL at el2
        cases eg : g z ρa with
        | none => rw [eg] at el2; cases el2
        | some ρb =>
          rw [eg] at el2
          simp only at el2
          have R3 := R2.grow gr
          refine ⟨Z3, O2, C, ρa, R3, z, ρb, rz, eg, fun σ4 O4 x4 hoff R4 => ?_⟩
          have hwp : wipe σ4 vs = wipe σ vs := by rw [wipe_eq hoff hw, wipe_twice]
          refine ⟨hwp, ?_⟩
          have x14 : Ext Z1 H1 O1 Z3 H3 O4 := (x2.trans gr.ext).trans x4
          have x24 : Ext Z2 H2 O2 Z3 H3 O4 := gr.ext.trans x4
          cases et : t ρb with
          | exc _ => rw [et] at el2; cases el2
          | bad => rw [et] at el2; cases el2
          | ok p3 =>
            obtain ⟨b, ρc⟩ := p3
            rw [et] at el2
            refine ⟨Z3, O4, C, ρb, R4, b, ρc, et, fun H5 Z5 O5 x5 R5 => ?_⟩
            cases b with
            | false =>
              simp only at el2
              rw [if_neg (by decide)]
              obtain ⟨n1, n2, n3⟩ := (x24.trans x5).nobody hd o2 z2 f3 R5
              have R6 := R5.wipe vs
              rw [hwp] at R6
              exact ⟨Z5, O5, _, ac, acc, x14.trans x5, R6, n1, ⟨ra.1, ra.2.mono (x24.z.trans x5.z)⟩, n2, n3, el2⟩
            | true =>
              simp only at el2
              rw [if_pos rfl]
              cases ee : e ρc with
              | exc _ => rw [ee] at el2; cases el2
              | bad => rw [ee] at el2; cases el2
              | ok p4 =>
                obtain ⟨yv, ρd⟩ := p4
                rw [ee] at el2
                simp only at el2
                cases ek : keyOf yv with
                | none => rw [ek] at el2; cases el2
                | some kk =>
                rw [ek] at el2
                simp only at el2
                cases ev : e2 ρd with
                | exc _ => rw [ev] at el2; cases el2
                | bad => rw [ev] at el2; cases el2
                | ok p5 =>
                obtain ⟨zv, ρe⟩ := p5
                rw [ev] at el2
                simp only at el2
                split at el2
                case isFalse => cases el2
                rename_i hlen
                refine ⟨Z5, O5, C, ρc, R5, yv, ρd, ee, fun u H6 Z6 O6 x6 R6 r6 => ⟨Z6, O6, C, ρd, R6, zv, ρe, ev, fun u2 H7 Z7 O7 x7 R7 r7 => ?_⟩⟩
                obtain ⟨n1, n2, n3⟩ := (((x24.trans x5).trans x6).trans x7).nobody hd o2 z2 f3 R7
                have R8 := (R7.wipe vs).free (o := .dK (putK ac kk u2)) n2 n3 f3
                rw [hwp] at R8
                obtain ⟨j1, j2⟩ := dr_put kk r7 ra.1 (ra.2.mono (((x24.z.trans x5.z).trans x6.z).trans x7.z))
                exact ⟨ac, kk, keyOf_rl (BorR.fz (H := Z6) r6) ek, n1, by rw [dr_len ra.1]; exact hlen, Z7, O7, _, putK ac kk u2, dput acc kk zv, (((x14.trans x5).trans x6).trans x7).free hD, R8, upd_same, ⟨j1, j2⟩, n2, n3, el2⟩
      · have e1 : i = xs.length := by omega
        subst e1
        rw [List.drop_length] at el2
        cases el2
        refine .inl ⟨w.stop _ Z2 H2 x2.z R2.zh R2.ch (Nat.le_refl _), ?_⟩
        have R3 := EnvR.unwipe R1 x2.z R2
        exact k (.ref D) H2 Z2 O2 (x1.trans x2) R3 ⟨D, ac, rfl, o2, z2, f3, x1.fresh hD, hd, ra.1, ra.2⟩

section
variable {X : Cx} {kx vx tg iter : Expr} {ifs : List Expr} {scope : Scope} {own : List (Str × Nat)} {pos : Pos} {it : DI} {g : DG} {t : DT} {ek ev : DV} {ws : List Nat}
theorem pow_dc (hc : X.calm = true) (hN : X.N.Nodup) (hi : PIt X tg iter it) (ok : BlkOk X.N X.env.scope scope own)
    (hg : ∀ (s : Shared) (H : Hp) (C : Addr) (cl : List (Str × Addr)) (fp : List Addr), PGt (X.blk s H scope (compEnvC scope cl C X.env) fp) tg g ws) (ht : ∀ (s : Shared) (H : Hp) (C : Addr) (cl : List (Str × Addr)) (fp : List Addr), PTts (X.blk s H scope (compEnvC scope cl C X.env) fp) ifs t)
    (hk : ∀ (s : Shared) (H : Hp) (C : Addr) (cl : List (Str × Addr)) (fp : List Addr), PV (X.blk s H scope (compEnvC scope cl C X.env) fp) kx ek) (hv : ∀ (s : Shared) (H : Hp) (C : Addr) (cl : List (Str × Addr)) (fp : List Addr), PV (X.blk s H scope (compEnvC scope cl C X.env) fp) vx ev)
    (hw : ∀ i ∈ ws, i ∈ own.map (·.2)) (hs : ∀ x, foldedSetIterable iter X.env x = pure x := by intro _; rfl) :
    POw X (.DictComp kx vx [⟨tg, iter, ifs, 0⟩] scope pos) (dDc it g t ek ev (own.map (·.2))) := PE.imp (pe_dc hc hN hi ok hg ht hk hv hs) fun _ _ _ => dc_run hw
end
end Ev

/-! Ev: x, y, z = a, b, c with new things on the right. -/
namespace Ev
open PySem PySem.Spec PyProof.Rows L2
theorem place3 {K : PySem.W.Frag} {mg : MG} {Z H H1 Z1 Z2 H2 Z3 H3 : Hp} {O O1 O2 O3 : Lab} {C : Lk} {σ : L2.St} {ρ3 : Env} {i j l : Nat} {v w u : V} {s t r : Sl} (x1 : Ext Z H O Z1 H1 O1) (r1 : OwR K mg Z1 H1 O1 C H v s) (x2 : Ext Z1 H1 O1 Z2 H2 O2) (r2 : OwR K mg Z2 H2 O2 C H1 w t)
    (x3 : Ext Z2 H2 O2 Z3 H3 O3) (r3 : OwR K mg Z3 H3 O3 C H2 u r) (R : EnvR K mg Z3 H3 O3 C σ ρ3) (hi : i < ρ3.length) (hj : j < ρ3.length) (hl : l < ρ3.length) : ∃ O4, EnvR K mg Z3 H3 O4 C (((σ.set i (some v)).set j (some w)).set l (some u)) (((ρ3.set i s).set j t).set l r) ∧ Ext Z H O Z3 H3 O4 := by
  have q1 := (r1.ext x2).ext x3
  have q2 := r2.ext x3
  obtain ⟨R4, n4⟩ := R.place hi q1
  have q3 : OwR K mg Z3 H3 (placeO i (things s v H3) O3) C H1 w t := q2.lab fun b hb ho => placeO_none (fun hm => r1.live (x2.trans x3) hm hb) ho
  obtain ⟨R5, n5⟩ := R4.place (i := j) (by rw [List.length_set]; exact hj) q3
  have q4 : OwR K mg Z3 H3 (placeO j (things t w H3) (placeO i (things s v H3) O3)) C H2 u r := r3.lab fun b hb ho => placeO_none (fun hm => r2.live x3 hm hb) (placeO_none (fun hm => r1.live (x2.trans x3) hm (x2.fresh hb)) ho)
  obtain ⟨R6, n6⟩ := R5.place (i := l) (by rw [List.length_set, List.length_set]; exact hl) q4
  refine ⟨_, R6, ((((x1.trans x2).trans x3).place n4).place fun b hb => ?_).place fun b hb => ?_⟩
  · obtain ⟨h6, h7⟩ := n5 b hb
    exact ⟨x1.fresh h6, h7⟩
  · obtain ⟨h6, h7⟩ := n6 b hb
    exact ⟨(x1.trans x2).fresh h6, h7⟩
def sPo3 (i j l : Nat) (d1 d2 d3 : DO) : DS := fun ρ => (d1 ρ).fl fun p => (d2 p.2).fl fun q => (d3 q.2).fl fun r => if i < r.2.length ∧ j < r.2.length ∧ l < r.2.length then .nx (((r.2.set i p.1).set j q.1).set l r.1) else .bad
section
variable {X : Cx}
theorem st_par3 {i j l : Nat} {x y z : Str} {a b c : Expr} {d1 d2 d3 : DO} {px py pz pt pos : Pos} {kt k2 pt2} (hc : X.calm = true) (hN : X.N.Nodup) (hi : X.N[i]? = some x) (hj : X.N[j]? = some y) (hl : X.N[l]? = some z) (hij : i ≠ j) (hil : i ≠ l) (hjl : j ≠ l)
    (hx : X.env.scope.names.lookup x = some .local) (hy : X.env.scope.names.lookup y = some .local) (hz : X.env.scope.names.lookup z = some .local) (h1 : POw X a d1) (h2 : POw X b d2) (h3 : POw X c d3)
    (hw : swappedStores [.Tuple [.Name x px, .Name y py, .Name z pz] kt pt] (.Tuple [a, b, c] k2 pt2) X.env = pure (some [x, y, z])) (n3 : starEach [c] X.env = (false, eval c X.env) :: starEach [] X.env := by rfl) (n2 : starEach [b, c] X.env = (false, eval b X.env) :: starEach [c] X.env := by rfl) (n1 : starEach [a, b, c] X.env = (false, eval a X.env) :: starEach [b, c] X.env := by rfl)
    (hs : swapsWithSole [.Tuple [.Name x px, .Name y py, .Name z pz] kt pt] (.Tuple [a, b, c] k2 pt2) pos.line X.env = pure false := by rfl) :
    PSt X (.Assign [.Tuple [.Name x px, .Name y py, .Name z pz] kt pt] (.Tuple [a, b, c] k2 pt2) pos) (sPo3 i j l d1 d2 d3) := PS.imp (ps_par3 hc hN hi hj hl hij hil hjl hx hy hz (pa_cons h1 (pa_cons h2 (pa_cons h3 pa_nil n3) n2) n1) hw hs) fun D σ H ⟨Z, O, C, ρ, R, h⟩ => by
  unfold sPo3 at h
  obtain ⟨⟨s, ρ1⟩, e1, h⟩ := Out.fl_nx h
  obtain ⟨⟨t, ρ2⟩, e2, h⟩ := Out.fl_nx h
  obtain ⟨⟨r, ρ3⟩, e3, h⟩ := Out.fl_nx h
  simp only at h e2 e3
  split at h
  · rename_i hl
    refine ⟨Z, O, C, ρ, R, s, ρ1, e1, fun v H1 Z1 O1 x1 R1 r1 => ⟨Z1, O1, C, ρ1, R1, t, ρ2, e2, fun w H2 Z2 O2 x2 R2 r2 => ⟨Z2, O2, C, ρ2, R2, r, ρ3, e3, fun u H3 Z3 O3 x3 R3 r3 => ?_⟩⟩⟩
    obtain ⟨O4, R4, x4⟩ := place3 x1 r1 x2 r2 x3 r3 R3 hl.1 hl.2.1 hl.2.2
    exact ⟨v, w, u, rfl, h _ H3 Z3 O4 x4 R4⟩
  · exact h.elim
end
end Ev

/-! Ev: more words for the evaluator. -/
namespace Ev
open PySem PySem.Spec PyProof.Rows L2
def kPt3 (i j l : Nat) (s t : Sl) (r : Sl × Env) : Fl := if i < r.2.length ∧ j < r.2.length ∧ l < r.2.length then .nx (((r.2.set i s).set j t).set l r.1) else .bad
def kPt2 (i j l : Nat) (d3 : DO) (s : Sl) (q : Sl × Env) : Fl := (d3 q.2).fl (kPt3 i j l s q.1)
def kPt1 (i j l : Nat) (d2 d3 : DO) (p : Sl × Env) : Fl := (d2 p.2).fl (kPt2 i j l d3 p.1)
@[simp] theorem v_sPo3 (i j l : Nat) (d1 d2 d3 : DO) (ρ : Env) : sPo3 i j l d1 d2 d3 ρ = (d1 ρ).fl (kPt1 i j l d2 d3) := by rfl
@[simp] theorem v_kPt1 (i j l : Nat) (d2 d3 : DO) (s : Sl) (ρ : Env) : kPt1 i j l d2 d3 (s, ρ) = (d2 ρ).fl (kPt2 i j l d3 s) := by rfl
@[simp] theorem v_kPt2 (i j l : Nat) (d3 : DO) (s t : Sl) (ρ : Env) : kPt2 i j l d3 s (t, ρ) = (d3 ρ).fl (kPt3 i j l s t) := by rfl
@[simp] theorem v_kPt3 (i j l : Nat) (s t r : Sl) (ρ : Env) : kPt3 i j l s t (r, ρ) = if i < ρ.length ∧ j < ρ.length ∧ l < ρ.length then .nx (((ρ.set i s).set j t).set l r) else .bad := by rfl
end Ev

/-! Ev: while, by an invariant that falls. -/
namespace Ev
open PySem PySem.Spec PyProof.Rows L2
theorem while_go {c : DT} {b : DS} (I : Nat → Env → Prop) (Q : Env → Prop) (F : Sl → Env → Prop)
    (h : ∀ n ρ, I n ρ → (c ρ = .ok (false, ρ) ∧ Q ρ) ∨ (c ρ = .ok (true, ρ) ∧ ((∃ ρ', b ρ = .nx ρ' ∧ ∃ k, k < n ∧ I k ρ') ∨ ∃ s ρ', b ρ = .rt s ρ' ∧ F s ρ')))
    {n : Nat} {ρ : Env} (h0 : I n ρ) : (∃ ρ', sWhile c b ρ = .nx ρ' ∧ Q ρ') ∨ ∃ s ρ', sWhile c b ρ = .rt s ρ' ∧ F s ρ' := by
  have go : ∀ (m n : Nat) (ρ : Env), n ≤ m → I n ρ → ∃ f, f ≠ Fl.bad ∧ whileN c b (m + 1) ρ = f ∧ ((∃ ρ', f = .nx ρ' ∧ Q ρ') ∨ ∃ s ρ', f = .rt s ρ' ∧ F s ρ') := by
    intro m
    induction m with
    | zero =>
      intro n ρ hn hi
      rcases h n ρ hi with ⟨h1, h2⟩ | ⟨h1, ⟨ρ', h2, k, h3, _⟩ | ⟨s, ρ', h2, h3⟩⟩
      · exact ⟨.nx ρ, by simp, by unfold whileN; rw [h1], .inl ⟨ρ, rfl, h2⟩⟩
      · omega
      · exact ⟨.rt s ρ', by simp, by unfold whileN; rw [h1]; simp only; rw [h2], .inr ⟨s, ρ', rfl, h3⟩⟩
    | succ m ih =>
      intro n ρ hn hi
      rcases h n ρ hi with ⟨h1, h2⟩ | ⟨h1, ⟨ρ', h2, k, h3, h4⟩ | ⟨s, ρ', h2, h3⟩⟩
      · exact ⟨.nx ρ, by simp, by unfold whileN; rw [h1], .inl ⟨ρ, rfl, h2⟩⟩
      · obtain ⟨f, f1, f2, f3⟩ := ih k ρ' (by omega) h4
        exact ⟨f, f1, by unfold whileN; rw [h1]; simp only; rw [h2]; exact f2, f3⟩
      · exact ⟨.rt s ρ', by simp, by unfold whileN; rw [h1]; simp only; rw [h2], .inr ⟨s, ρ', rfl, h3⟩⟩
  obtain ⟨f, f1, f2, f3⟩ := go n n ρ (Nat.le_refl _) h0
  have e := sWhile_eq f2 f1
  rcases f3 with ⟨ρ', h1, h2⟩ | ⟨s, ρ', h1, h2⟩
  · exact .inl ⟨ρ', by rw [e, h1], h2⟩
  · exact .inr ⟨s, ρ', by rw [e, h1], h2⟩
end Ev

/-! Ev: sorted(a tuple). -/
namespace Ev
open PySem PySem.Spec PySem.Calls PySem.W PyProof.Rows
/-- the items of a tuple, laid into a new list -/
theorem collect_tupX {prog : Program} {w : World} {A : Around} {E : Value → Shared → Prop} {s : Shared} {Q : List Value → Shared → Prop} (t : Addr) {o : Obj} {xs : Array Value} {n : Nat} (ho : s.heap.get? t = some o) (hc : o.cls = .type "tuple") (hd : o.data = .seq xs n) (hsz : xs.size ≤ sizeLine)
    (q : ∀ h' : Heap, (∀ b u, s.heap.get? b = some u → h'.get? b = some u) → s.heap.objs.size ≤ h'.objs.size → Q xs.toList { s with heap := h' }) : wpAny (model prog w) A (collect (.ref t)) Q E s := by
  have e1 : (s.heap.push { cls := .type "list", data := .seq ([] : List Value).toArray }).get? s.heap.objs.size = some { cls := .type "list", data := .seq #[] 0 } := Heap.get?_push_size _ rfl
  have e2 := Heap.get?_update_self (Obj.mapSeq (· ++ xs)) e1 rfl
  generalize hH : (s.heap.push { cls := .type "list", data := .seq ([] : List Value).toArray }).update s.heap.objs.size (Obj.mapSeq (· ++ xs)) = hN at e2
  have fin : wpAny (model prog w) A (do let o ← load s.heap.objs.size; match o.data with | Data.seq xs _ => pure xs.toList | _ => unsupported "internal:collect") Q E { s with heap := hN } := by
    refine wpAny_bind (wpAny_load e2 (wpAny_pure ?_))
    have z : ((#[] : Array Value) ++ xs).toList = xs.toList := by simp
    show Q ((#[] : Array Value) ++ xs).toList _
    rw [z]
    refine q _ (fun b u hb => ?_) ?_
    · rw [← hH]
      exact (Heap.get?_update_other _ _ (Nat.ne_of_gt (Heap.lt_size hb))).trans (Heap.get?_push_of_some _ hb)
    · rw [← hH, Heap.size_update, size_push']
      exact Nat.le_succ _
  unfold collect
  refine wpAny_bind (wpAny_runValue (codeAny_builtin F.entry_proto_collect ?_))
  rw [Around.under_plainId F.plain_proto_collect _]
  refine wpAny_bind (m := newList []) (wpAny_newObj_type (wpAny_pure ⟨plainId_quiet F.plain_list_iadd _, codeAny_builtin F.entry_list_iadd ?_⟩))
  rw [Around.under_plainId F.plain_list_iadd _]
  refine wpAny_mono (wpAny_extend_seq (hsz := hsz) (A := A) (R := fun r s' => r = .ok (.ret (.ref s.heap.objs.size)) ∧ s' = { s with heap := hN })
    (s := { s with heap := s.heap.push { cls := .type "list", data := .seq ([] : List Value).toArray } }) _ t _ 0 (.inr rfl) e1 (Heap.get?_push_of_some _ ho) hc hd ⟨rfl, by rw [← hH]⟩) (fun f s' h => ?_) (fun e s' h => absurd h.1 (by simp))
  cases f with
  | done f =>
    obtain ⟨e, rfl⟩ := h
    cases e
    exact fin
  | again c' => exact ⟨h.1, codeAny_mono h.2 fun r s2 hr => by obtain ⟨rfl, rfl⟩ := hr; exact fin⟩
section
variable {prog : Program} {w : World} {A : Around} {E : Value → Shared → Prop} {s : Shared} {β : Type} {vs : List Value} {bs : List β} {enc : β → PyData} {R : Value → β → Prop}
theorem sorted_tupD {l : Addr} {Q : Value → Shared → Prop} (hl : IsTup s.heap l vs.toArray) (e : EachIs R vs bs) (er : EachIs (fun v b => ∃ as, Reads s.heap v (enc b) as) vs bs)
    (hal : AllAlike (bs.map enc)) (hk : Sortable (bs.map enc)) (hL : bs.length ≤ sizeLine) (hu : ∀ b, b ∈ bs → A.units + 2 + (enc b).depth < cLine)
    (h : ∀ (h' : Heap) (out : List Value), (∀ b o, s.heap.get? b = some o → h'.get? b = some o) → s.heap.objs.size ≤ h'.objs.size → out.length = bs.length → EachIs R out (bs.mergeSort (dataLe false enc)) → Q (.ref h'.objs.size) { s with heap := sortedHeap (h'.push (seqObj "list" vs.toArray 0)) h'.objs.size vs out.toArray }) :
    wpAny (model prog w) A (call (.builtin "sorted") [.ref l]) Q E s := by
  obtain ⟨o, ho, hc, n, hd⟩ := hl
  have hv : vs.length ≤ sizeLine := by rw [e.length]; exact hL
  refine call_function_entry_kw kind_sorted plain_sorted entry_sorted (args_sorted1 _) ?_
  unfold Builtin.«sorted»
  refine wpAny_bind (m := checkCount "sorted" 1 1 _) (wpAny_pure (wpAny_bind (collect_tupX l ho hc hd (by simpa using hv) fun h' k kz => ?_)))
  refine wpAny_bind (wpAny_newList ?_ hv)
  have hat : (h'.push (seqObj "list" vs.toArray 0)).get? h'.objs.size = some (seqObj "list" vs.toArray 0) := Heap.get?_push_size _ rfl
  have old : ∀ {b : Addr} {o : Obj}, s.heap.get? b = some o → (sortingHeap (h'.push (seqObj "list" vs.toArray 0)) h'.objs.size vs).get? b = some o := fun {b o} eb =>
    sortingHeap_old (Nat.ne_of_lt (Heap.lt_size (k _ _ eb))) (Heap.get?_push_of_some _ (k _ _ eb))
  have er' : EachIs (fun v b => ∃ as, Reads (sortingHeap (h'.push (seqObj "list" vs.toArray 0)) h'.objs.size vs) v (enc b) as) vs bs := er.mono fun _ _ ⟨as, r⟩ => ⟨as, PyProof.Rows.Reads.keeps (fun _ _ => old) r⟩
  refine wpAny_bind (wpAny_holding (wpAny_call_entry_kw slot_list_sort ⟨_, hat, rfl⟩ entry_list_sort ?_ (args_list_sort _)))
  show wpAny (model prog w) A.in1.in1 (Builtin.«list.sort» ⟨[.ref h'.objs.size], []⟩) _ _ { s with heap := h'.push (seqObj "list" vs.toArray 0) }
  have S := SortsAt.data (prog := prog) (w := w) (A := A.in1.in1) (s := { s with heap := sortingHeap (h'.push (seqObj "list" vs.toArray 0)) h'.objs.size vs }) (each_map (R := fun v d => ∃ as, Reads (sortingHeap (h'.push (seqObj "list" vs.toArray 0)) h'.objs.size vs) v d as) enc er') hal hk (bound_map hu)
  refine wpAny_mono (list_sort_vals (P := fun f s' => f = .done (.ret .none) ∧ Q (.ref h'.objs.size) s') (s := { s with heap := h'.push (seqObj "list" vs.toArray 0) }) hat S hv ⟨rfl, h h' _ k kz (by rw [sortVals_length false rfl]; exact e.length) (sortVals_data false e er' hal)⟩) (fun f s' hf => ?_) fun _ _ e => e
  obtain ⟨rfl, hq⟩ := hf
  exact ⟨_, rfl, wpAny_pure ⟨_, rfl, hq⟩⟩
end
end Ev
namespace Ev
open PySem PySem.Spec PyProof.Rows L2
section
variable {X : Cx}
theorem sorted_coreT {k : Nat} (hr : Room k X.A) {pins : List (Addr × Obj)} {σ : L2.St} {Z H : Hp} {s : Shared} {a : Addr} {vs : List V} {xs : List Val} {Q : VK} (I : Inv X pins σ H s) (zh : Same Z H) (hl : SqT X.K H a vs) (r : Rls X.K X.mg Z vs xs) (hok : sortOk xs = true) (q : QO X.K X.mg Z H (sortedL xs) Q) :
    wpAny (model X.prog X.w) X.A (call (.builtin "sorted") [.ref a]) (EP X pins σ Q) X.xe s := by
  simp only [sortOk, Bool.and_eq_true, decide_eq_true_eq] at hok
  obtain ⟨⟨⟨h1, h2⟩, h3⟩, h4⟩ := hok
  have hp : ∀ x ∈ xs, x.py.plain = true ∧ x.py.depth ≤ 64 := fun x hx => by
    have := List.all_eq_true.mp h1 x hx
    simpa using this
  obtain ⟨its, rv, pl, hz⟩ := I.tuple hl
  have e := each_rls r rv
  refine sorted_tupD (enc := Val.py) (R := fun u x => ∃ v, RelV v u ∧ Rl X.K X.mg Z v x) (bs := xs) pl e (each_reads I zh e fun x hx => (hp x hx).1) (alikeOk_out h2) (sortable_out h3) h4 (fun b hb => ?_) fun h' out k kz ho eo => ?_
  · have := (hp b hb).2
    have := hr.un
    omega
  · obtain ⟨ws, rw', vo⟩ := each_back eo
    have hlen : ws.length ≤ sizeLine := by rw [rw'.length, List.length_mergeSort]; exact h4
    have hat : (h'.push (seqObj "list" its.toArray 0)).get? h'.objs.size = some (seqObj "list" its.toArray 0) := Heap.get?_push_size _ rfl
    obtain ⟨ep, he'⟩ := PyProof.Rows.sortedHeap_at (vs := its) (out := out.toArray) hat
    refine ⟨.ref _, upd H h'.objs.size (.lst ws), I.laid (t' := s.toks) (fun b u hb => ?_) kz ⟨hlen, out, ep, vo, he'⟩, rfl, q _ ws (I.hok.fresh kz) rw'⟩
    have hlt := Heap.lt_size (k _ _ hb)
    rw [PyProof.Rows.sortedHeap_old (Nat.ne_of_lt hlt) (by rw [PyProof.Rows.size_push']; exact Nat.lt_succ_of_lt hlt), Heap.get?_push_of_some _ (k _ _ hb)]
def sortTV : Val → Option (List Val)
  | .tup xs => if sortOk xs then some (sortedL xs) else none
  | x => sortV x
theorem c_sortedT {k : Nat} (hr : Room k X.A) : CallR X (.builtin "sorted") (rNo X.K X.mg (go1 sortTV)) := by
  intro pins s σ H vs us Q I r h
  obtain ⟨Z, v, x, z, rfl, zh, b, e, q⟩ := rNo1 h
  by_cases ht : ∃ xs, x = .tup xs
  · obtain ⟨xs, rfl⟩ := ht
    obtain ⟨a, ws, rfl, h1, r1⟩ := bor_tup b
    unfold sortTV at e
    simp only at e
    split at e
    · rename_i hok
      cases e
      rw [Vals.ref1 r]
      exact sorted_coreT hr I zh (SqT.of (zh _ _ h1)) r1 hok q
    · cases e
  · have e' : sortV x = some z := by
      cases x with
      | tup xs => exact absurd ⟨xs, rfl⟩ ht
      | _ => exact e
    exact c_sorted hr pins s σ H _ us Q I r ⟨Z, [x], z, zh, .cons b .nil, e', q⟩
theorem sortT_prs (xs : List (Int × Int)) (h : xs.length ≤ sizeLine) : sortTV (.tup (xs.map prV)) = some ((srt prV xs).map prV) := by
  unfold sortTV
  simp only [sortOk_prs xs h, if_true, sortedL_map]
theorem sortT_ints (xs : List Int) (h : xs.length ≤ sizeLine) : sortTV (.tup (xs.map .int)) = some ((srt Val.int xs).map .int) := by
  unfold sortTV
  simp only [sortOk_ints xs h, if_true, sortedL_map]
end
end Ev

/-! Ev: defs with one keyword-only number that has a default. -/
namespace Ev
open PySem PySem.Spec PyProof.Rows L2
/-- such a def at the module's name x; kn the keyword, n0 its default -/
structure CalK (P : Program) (w : World) (K : PySem.W.Frag) (mg : MG) (base : Heap) (CX : CXT) (x : Str) (e : FnE) (n : Nat) (kn : Str) (n0 : Int) : Prop where
  ex : ∃ f fd ps, FnOk P w K mg base CX e.lv f fd ps (spF K mg e) ∧ mg x = some (.ref f) ∧ PySem.W.keepIn K (.ref f) = true ∧ (∃ d, Vals [V.int n0] d ∧ Binds K fd ps d) ∧ KBn K fd ps n [kn] (fun us ws => us ++ ws) (fun vs zs => vs ++ zs)
abbrev CalKX (X : Cx) (CX : CXT) (x : Str) (e : FnE) (n : Nat) (kn : Str) (n0 : Int) : Prop := CalK X.prog X.w X.K X.mg X.base CX x e n kn n0
theorem vals_app {vs zs : List V} {us ws : List Value} (h : Vals vs us) (h2 : Vals zs ws) : Vals (vs ++ zs) (us ++ ws) := by
  induction h with
  | nil => exact h2
  | cons r _ ih => exact .cons r ih
theorem kbn_of {K : PySem.W.Frag} {x0 qual kn : Str} {params : Arguments} {sts : List Stmt} {scope : Scope} {kws : List (Str × V)} {f : Addr} {fd : FuncData} {ps : List Str} {n : Nat} (F : FunD K x0 qual params sts scope [] kws f fd)
    (h : ∀ (kV doc pm : Value) (an : Option Addr) (cdv ct : Value) (us ws : List Value), us.length = n → ws.length = 1 → bindArgs (PySem.W.fnOf x0 qual params sts scope .none kV doc pm an cdv ct) ⟨us, [kn].zip ws⟩ = pure (ps.zip (us ++ ws))) :
    KBn K fd ps n [kn] (fun us ws => us ++ ws) (fun vs zs => vs ++ zs) := by
  obtain ⟨oc, od, dV, kV, doc, pm, an, cdv, ct, osl, rfl, lk, hcd, hD, hK⟩ := F.ex
  rcases hD with ⟨_, rfl⟩ | ⟨e, _⟩
  · exact ⟨fun s us ws X l1 l2 => .of_eq (h kV doc pm an cdv ct us ws l1 l2), fun r1 r2 => vals_app r1 r2⟩
  · exact absurd rfl e
/-- arguments and one more -/
def aMore (d1 d2 : DA) : DA := fun ρ => (d1 ρ).bind fun p => (d2 p.2).bind fun q => .ok (p.1 ++ q.1, q.2)
def aLit (n0 : Int) : DA := fun ρ => .ok ([.val (.int n0)], ρ)
theorem hdrs_app {K : PySem.W.Frag} {mg : MG} {Z : Hp} {σ : L2.St} {vs zs : List V} {hs gs : List Hd} (h : HdRs K mg Z σ vs hs) (h2 : HdRs K mg Z σ zs gs) : HdRs K mg Z σ (vs ++ zs) (hs ++ gs) := by
  induction h with
  | nil => exact h2
  | cons r _ ih => exact .cons r ih
section
variable {X : Cx} {CX : CXT} {e : FnE}
/-- behind the arguments -/
theorem call_tail {σ : L2.St} {Q : VK} {Z H Z1 H1 : Hp} {O O1 : Lab} {C : Lk} {ρ1 : Env} {hs : List Hd} {vs : List V} {s : Sl} {ρ' : Env} (hrf : e.rf = none)
    (q : (match takes ρ1 hs with | some q => if q.1.length = e.np then (e.sem (q.1.map .fz)).bind fun r => if notNo r.1 = true then .ok (r.1, q.2) else .bad else .bad | none => .bad) = Out.ok (s, ρ'))
    (kk : ∀ v H' Z' O', Ext Z H O Z' H' O' → EnvR X.K X.mg Z' H' O' C σ ρ' → OwR X.K X.mg Z' H' O' C H v s → Q v H') (x1 : Ext Z H O Z1 H1 O1) (R1 : EnvR X.K X.mg Z1 H1 O1 C σ ρ1) (r1 : HdRs X.K X.mg Z1 σ vs hs) : spF X.K X.mg e vs H1 Q E0 := by
  cases e2 : takes ρ1 hs with
  | none => simp only [e2] at q; cases q
  | some t =>
    obtain ⟨xs, ρ2⟩ := t
    simp only [e2] at q
    split at q
    · rename_i hlen
      obtain ⟨⟨r, s'⟩, e3, q⟩ := Out.bind_ok q
      split at q
      rotate_left
      · cases q
      rename_i hno
      cases q
      obtain ⟨Z2, O2, x2, R2, r2⟩ := takes_ok R1 r1 e2
      refine ⟨by rw [r2.length]; exact hlen, Z2, fun _ => none, xs.map .fz, ⟨?_, R2.zh, fun b o h => (by cases h), fun b h => absurd rfl h, fun b i q h => (by cases h), fun j s h => Rls.slots r2 j s h⟩, r, s', e3, fun v H3 Z3 O3 x3 R3 => ?_⟩
      · rw [List.length_map, List.length_map, r2.length]
      · have same : Same H1 H3 := fun b o h => (x3.h b o h rfl).1
        obtain ⟨O4, k1, x4, R4⟩ := R2.back x3 R3.zh none (fun b k q => ⟨fun h => (by cases h), fun ⟨_, h, _⟩ => (by cases h)⟩) (fun _ _ _ _ _ h => (by cases h)) .no .no (parL vs) (fun _ _ h => (by cases h)) (fun _ _ h => (by cases h))
        have hn : vs.length = e.np := by rw [r2.length]; exact hlen
        have hO : ∀ b q, O3 b = some (e.np, q) → O4 b = none ∧ C b = none ∧ H1 b = none := fun b q hb => by
          have hH : H1 b = none := by
            rcases x3.o b e.np q hb with h | ⟨_, h⟩
            · exact h
            · cases h
          refine ⟨?_, R2.ch.free hH, hH⟩
          cases e5 : O4 b with
          | none => rfl
          | some p =>
            obtain ⟨j, q'⟩ := p
            rcases k1 b j q' e5 with ⟨_, _, h, _⟩ | ⟨q'', h⟩
            · cases h
            · exact absurd hH (R2.oz b (by rw [h]; simp)).2.2
        have h5 := result_own (O2 := O4) (C := C) (H0 := H1) R3 (outEnv_last _ _ _ _) hno hn hO
        have xx := (x1.trans x2).trans x4
        exact kk v H3 Z3 O4 xx R4 (OwR.older h5 x1)
    · cases q
theorem PK.imp {kws : List Keyword} {t t' : TA} (h : PK X kws t) (i : ∀ σ H Q, t' σ H Q → t σ H Q) : PK X kws t' := ⟨fun pos pins s σ H Q I q => h.run pos pins s σ H Q I (i σ H Q q)⟩
theorem pk_one {ve : Expr} {dv : DH} {nm : Option Str} {kpos : Pos} (hv : PH X ve dv) : PK X [⟨nm, ve, kpos⟩] (TAs X.K X.mg (aCons dv aNil)) :=
  PK.imp (pk_cons hv pk_nil) fun σ H Q ⟨Z, O, C, ρ, R, hs, ρ', q, k⟩ => by
    obtain ⟨⟨h1, ρ1⟩, e1, q⟩ := Out.bind_ok q
    obtain ⟨⟨h2, ρ2⟩, e2, q⟩ := Out.bind_ok q
    cases q
    cases e2
    exact ⟨Z, O, C, ρ, R, h1, ρ1, e1, fun v H1 Z1 O1 x1 R1 r1 => k [v] H1 Z1 O1 x1 R1 (.cons r1 .nil)⟩
theorem takes_len : ∀ {hs : List Hd} {ρ ρ' : Env} {xs : List Val}, takes ρ hs = some (xs, ρ') → xs.length = hs.length
  | [], _, _, _, e => by cases e; rfl
  | h :: hs, ρ, ρ', xs, e => by
    obtain ⟨⟨x, ρ1⟩, e1, e⟩ := Option.bind_eq_some_iff.mp e
    obtain ⟨⟨ys, ρ2⟩, e2, e⟩ := Option.map_eq_some_iff.mp e
    cases e
    rw [List.length_cons, List.length_cons, takes_len e2]
theorem hdrs_len {K : PySem.W.Frag} {mg : MG} {Z : Hp} {σ : L2.St} {vs : List V} {hs : List Hd} (h : HdRs K mg Z σ vs hs) : vs.length = hs.length := by
  induction h with
  | nil => rfl
  | cons _ _ ih => rw [List.length_cons, List.length_cons, ih]
/-- f(..): the default -/
theorem pow_callKd {k : Nat} {x kn : Str} {n : Nat} {n0 : Int} {a : Expr} {es : List Expr} {d : DA} {p pos : Pos} (F : CalKX X CX x e n kn n0) (hrf : e.rf = none) (hr : Room k X.A) (hk : e.lv ≤ k) (hx : Passes CX X E0) (hg : Gl X x) (ha : PAs X (a :: es) d)
    (hdb : (x == ("__debug__" : Str)) = false := by decide) (he : starEach (a :: es) X.env = (false, eval a X.env) :: starEach es X.env := by rfl) (hpl : (backTo pos (starEach es X.env)).any (·.1) = false := by rfl) :
    POw X (.Call (.Name x p) (a :: es) [] pos) (callD0 e (aMore d (aLit n0))) := by
  obtain ⟨f, fd, ps, G, hm, hkp, ⟨dd, hd, hb⟩, _⟩ := F.ex
  refine PE.imp (pe_call G (hr.mono hk) hg hm hkp hb hd hx ha hdb he hpl) fun σ H Q ⟨Z, O, C, ρ, R, s, ρ', q, kk⟩ => ?_
  obtain ⟨⟨hs0, ρ1⟩, e0, q⟩ := Out.bind_ok q
  obtain ⟨⟨hs, ρ2⟩, e1, e0⟩ := Out.bind_ok e0
  cases e0
  exact ⟨Z, O, C, ρ, R, hs, _, e1, fun vs H1 Z1 O1 x1 R1 r1 => call_tail hrf q kk x1 R1 (hdrs_app r1 (.cons (.int n0) .nil))⟩
/-- f(.., kn = v) -/
theorem pow_callKw {k : Nat} {x kn : Str} {n : Nat} {n0 : Int} {a ve : Expr} {es : List Expr} {d : DA} {dv : DH} {p pos kpos : Pos} (F : CalKX X CX x e n kn n0) (hrf : e.rf = none) (hnp : e.np = n + 1) (hr : Room k X.A) (hk : e.lv ≤ k) (hx : Passes CX X E0) (hg : Gl X x) (ha : PAs X (a :: es) d) (hv : PH X ve dv)
    (hall : (backToKw pos (keywordEach [⟨some kn, ve, kpos⟩] X.env)).all (·.1.isSome) = true := by rfl) (hks : (backToKw pos (keywordEach [⟨some kn, ve, kpos⟩] X.env)).filterMap (·.1) = [kn] := by rfl)
    (hdb : (x == ("__debug__" : Str)) = false := by decide) (he : starEach (a :: es) X.env = (false, eval a X.env) :: starEach es X.env := by rfl)
    (hpl : ((backTo pos (starEach (a :: es) X.env)).any (·.1) || (backToKw pos (keywordEach [⟨some kn, ve, kpos⟩] X.env)).any (·.1.isNone)) = false := by rfl) :
    POw X (.Call (.Name x p) (a :: es) [⟨some kn, ve, kpos⟩] pos) (callD0 e (aMore d (aCons dv aNil))) := by
  obtain ⟨f, fd, ps, G, hm, hkp, _, hb⟩ := F.ex
  refine PE.imp (pe_callN G (hr.mono hk) hg hm hkp hb hx ha (pk_one hv) hall hks hdb he hpl) fun σ H Q ⟨Z, O, C, ρ, R, s, ρ', q, kk⟩ => ?_
  obtain ⟨⟨hs0, ρ1⟩, e0, q⟩ := Out.bind_ok q
  obtain ⟨⟨hs, ρ2⟩, e1, e0⟩ := Out.bind_ok e0
  obtain ⟨⟨gs, ρ3⟩, e2, e0⟩ := Out.bind_ok e0
  cases e0
  refine ⟨Z, O, C, ρ, R, hs, ρ2, e1, fun vs H1 Z1 O1 x1 R1 r1 => ⟨Z1, O1, C, ρ2, R1, gs, _, e2, fun zs H2 Z2 O2 x2 R2 r2 => ?_⟩⟩
  have l2 : gs.length = 1 := by
    obtain ⟨⟨g1, ρ4⟩, e3, e4⟩ := Out.bind_ok e2
    obtain ⟨⟨g2, ρ5⟩, e5, e4⟩ := Out.bind_ok e4
    cases e5
    cases e4
    rfl
  have l1 : hs.length = n := by
    simp only at q
    cases e3 : takes ρ3 (hs ++ gs) with
    | none => simp only [e3] at q; cases q
    | some t =>
      simp only [e3] at q
      split at q
      · rename_i hl
        rw [takes_len e3, List.length_append] at hl
        omega
      · cases q
  exact ⟨by rw [hdrs_len r1]; exact l1, by rw [hdrs_len r2]; exact l2, call_tail hrf q kk (x1.trans x2) R2 (hdrs_app (r1.mono x2.z) r2)⟩
end
theorem fn_okK {P : Program} {w : World} {K : PySem.W.Frag} {mg : MG} {base : Heap} {x x0 qual kn : Str} {params : Arguments} {sts : List Stmt} {scope : Scope} {f : Addr} {fd : FuncData} {N ps : List Str} {k np n m : Nat} {n0 : Int} {rf : Option Nat} {D : DS}
    (F : FunD K x0 qual params sts scope [] [(kn, V.int n0)] f fd) (S : FnScope N ps scope) (hnp : ps.length = np) (hn : N.length = n) (hm : mg x = some (.ref f)) (hmp : m + 1 = ps.length)
    (hb : ∀ (kV doc pm : Value) (an : Option Addr) (cdv ct : Value) (us ws : List Value), us.length = m → ws.length = 1 → bindArgs (PySem.W.fnOf x0 qual params sts scope .none kV doc pm an cdv ct) ⟨us, [kn].zip ws⟩ = pure (ps.zip (us ++ ws)))
    (hd : ∀ (D : Addr) (doc pm : Value) (an : Option Addr) (cdv ct : Value) (us ks : List Value), us.length = m → ks.length = 1 → KwChain D ([kn].zip ks) (bindArgs (PySem.W.fnOf x0 qual params sts scope .none (.ref D) doc pm an cdv ct) ⟨us, []⟩) (ps.zip (us ++ ks)))
    (body : ∀ (cdv : Value) (A : Around) (outer : List PySem.Env) (s : Shared) (H : Hp) (E : XK), Room k (A.deeper (envOfC qual scope s.heap.objs.size f cdv)) →
      PSSt (cxOf CX0 P w K mg base N qual scope f cdv A outer s H E).nox sts D) : CalK P w K mg base CX0 x (fnE (k + 1) np n rf D) m kn n0 := by
  refine ⟨f, fd, ps, ?_, hm, F.kp, F.binds0 m (by simp) (by simp; omega) hd, kbn_of F hb⟩
  exact F.ok S (fun vs H Q E h => by rw [h.1, hnp]; rfl) fun cdv A outer s H vs Q E hr h => ⟨_, PSs.nox (body cdv A outer s H E hr), body_run hnp hn h⟩
@[simp] theorem v_aMore (d1 d2 : DA) (ρ : Env) : aMore d1 d2 ρ = (d1 ρ).bind fun p => (d2 p.2).bind fun q => .ok (p.1 ++ q.1, q.2) := by rfl
@[simp] theorem v_aLit (n0 : Int) (ρ : Env) : aLit n0 ρ = .ok ([.val (.int n0)], ρ) := by rfl
end Ev

/-! Ev: targets that store into lists. -/
namespace Ev
open PySem PySem.Spec PyProof.Rows L2
def TGh (K : PySem.W.Frag) (mg : MG) (g : DG) (ws : List Nat) : TG := fun v σ H Q => ∃ Z O C ρ, EnvR K mg Z H O C σ ρ ∧ ∃ x ρ', Rl K mg Z v x ∧ g x ρ = some ρ' ∧
  ∀ σ' H' Z' O', Ext Z H O Z' H' O' → off ws σ σ' → EnvR K mg Z' H' O' C σ' ρ' → Q σ' H'
def TGhs (K : PySem.W.Frag) (mg : MG) (g : DGs) (ws : List Nat) : TGs := fun vs σ H Q => ∃ Z O C ρ, EnvR K mg Z H O C σ ρ ∧ ∃ xs ρ', Rls K mg Z vs xs ∧ g xs ρ = some ρ' ∧
  ∀ σ' H' Z' O', Ext Z H O Z' H' O' → off ws σ σ' → EnvR K mg Z' H' O' C σ' ρ' → Q σ' H'
abbrev PGh (X : Cx) (tg : Expr) (g : DG) (ws : List Nat) : Prop := PG X tg (TGh X.K X.mg g ws)
abbrev PGhs (X : Cx) (tgs : List Expr) (g : DGs) (ws : List Nat) : Prop := PGs X tgs (TGhs X.K X.mg g ws)
/-- xs[i] as a target -/
def Out.opt {α β : Type} (o : Out α) (f : α → Option β) : Option β := match o with
  | .ok a => f a
  | _ => none
@[simp] theorem opt_ok {α β : Type} (a : α) (f : α → Option β) : Out.opt (.ok a) f = f a := rfl
def gPut (i : Nat) (di : DV) : DG := fun x ρ => ((ρ[i]?).bind lstOf).bind fun _ => (di ρ).opt fun p => (p.2[i]?).bind fun s => ((lstOf s).bind fun ys => putV ys p.1 x).bind fun ys' => some (p.2.set i (setL s ys'))
@[simp] theorem v_gPut (i : Nat) (di : DV) (x : Val) (ρ : Env) : gPut i di x ρ = ((ρ[i]?).bind lstOf).bind fun _ => (di ρ).opt fun p => (p.2[i]?).bind fun s => ((lstOf s).bind fun ys => putV ys p.1 x).bind fun ys' => some (p.2.set i (setL s ys')) := rfl
section
variable {X : Cx}
theorem gh_of {tg : Expr} {g : DG} {ws : List Nat} (h : PGt X tg g ws) : PGh X tg g ws := PG.imp h fun v σ H Q ⟨Z, O, C, ρ, R, x, ρ', r, e, k⟩ => ⟨Z, O, C, ρ, R, x, ρ', r, e, fun σ' O' x1 f1 R1 => k σ' H Z O' x1 f1 R1⟩
theorem gh_nil : PGhs X [] gN [] := PGs.imp gt_nil fun v σ H Q ⟨Z, O, C, ρ, R, x, ρ', r, e, k⟩ => ⟨Z, O, C, ρ, R, x, ρ', r, e, fun σ' O' x1 f1 R1 => k σ' H Z O' x1 f1 R1⟩
theorem gh_cons {e : Expr} {es : List Expr} {g : DG} {gs : DGs} {ws ws' : List Nat} (h1 : PGh X e g ws) (h2 : PGhs X es gs ws')
    (hs : (assignEach (e :: es) X.env).map (·.2) = assign e X.env :: (assignEach es X.env).map (·.2) := by rfl) : PGhs X (e :: es) (gC g gs) (ws ++ ws') := PGs.imp (pgs_cons h1 h2 hs) fun vs σ H Q ⟨Z, O, C, ρ, R, xs, ρ', r, e, k⟩ => by
  cases r with
  | nil => cases e
  | cons r rr =>
    obtain ⟨ρ1, e1, e⟩ := Option.bind_eq_some_iff.mp e
    exact ⟨_, _, rfl, Z, O, C, ρ, R, _, ρ1, r, e1, fun σ1 H1 Z1 O1 x1 f1 R1 => ⟨Z1, O1, C, ρ1, R1, _, ρ', rr.mono x1.z, e, fun σ2 H2 Z2 O2 x2 f2 R2 => k σ2 H2 Z2 O2 (x1.trans x2) (f1.trans f2) R2⟩⟩
theorem gh_tup {es : List Expr} {k : Nat} {gs : DGs} {n : Nat} {ws : List Nat} {pos : Pos} (hc : X.calm = true) (h : PGhs X es gs ws)
    (hn : (assignEach es X.env).length = n := by rfl) (hst : (assignEach es X.env).findIdx? (·.1) = none := by rfl) : PGh X (.Tuple es k pos) (gTp n gs) ws := PG.imp (PG.or (pg_tup hc h hn hst) (pg_lst hc h hn hst)) fun v σ H Q ⟨Z, O, C, ρ, R, x, ρ', r, e, k⟩ => by
  obtain ⟨xs, e1, e2⟩ := Option.bind_eq_some_iff.mp e
  clear e
  split at e2
  · rename_i hl
    cases r with
    | tup m r => cases e1; exact .inl ⟨_, _, rfl, SqT.of (R.zh _ _ m), by rw [r.length]; exact hl, Z, O, C, ρ, R, _, ρ', r, e2, k⟩
    | ktup m r => cases e1; exact .inl ⟨_, _, rfl, seqT_mono R.zh m, by rw [r.length]; exact hl, Z, O, C, ρ, R, _, ρ', r, e2, k⟩
    | lst m r => cases e1; exact .inr ⟨_, _, rfl, SqL.of (R.zh _ _ m), by rw [r.length]; exact hl, Z, O, C, ρ, R, _, ρ', r, e2, k⟩
    | _ => cases e1
  · cases e2
theorem gh_put {i : Nat} {x : Str} {ix : Expr} {di : DV} {p pos2 : Pos} (ho : PE X (.Name x p) (tVar i)) (hi : PV X ix di)
    (ha : ∀ v, assign (.Subscript (.Name x p) ix pos2) X.env v = (do
      let ov ← holding [v] (eval (.Name x p) X.env)
      let iv ← holding [v, ov] (eval ix X.env)
      standAt pos2
      holding [v, ov, iv] (setItem ov iv v)
      release [v, ov, iv] []) := by intro _; rfl) : PGh X (.Subscript (.Name x p) ix pos2) (gPut i di) [] := PG.imp (pg_sub ho hi set_list ha) fun v σ H Q ⟨Z, O, C, ρ, R, y, ρ', r, e, kk⟩ => by
  unfold gPut at e
  obtain ⟨ys0, e0, e⟩ := Option.bind_eq_some_iff.mp e
  obtain ⟨s0, e2, e3⟩ := Option.bind_eq_some_iff.mp e0
  obtain ⟨a, ws, ea, m, r1, _⟩ := R.lst e2 e3
  refine ⟨.ref a, ea, ?_⟩
  cases e4 : di ρ with
  | exc _ => rw [e4] at e; cases e
  | bad => rw [e4] at e; cases e
  | ok p =>
    obtain ⟨k, ρ2⟩ := p
    rw [e4, opt_ok] at e
    simp only at e
    refine ⟨Z, O, C, ρ, R, k, ρ2, e4, fun u H2 Z2 O2 x2 R2 r2 => ?_⟩
    obtain ⟨s, e5, e⟩ := Option.bind_eq_some_iff.mp e
    obtain ⟨ys', e6, e⟩ := Option.bind_eq_some_iff.mp e
    cases e
    obtain ⟨ys, e7, e8⟩ := Option.bind_eq_some_iff.mp e6
    obtain ⟨a2, ws2, ea2, m2, rr, nx⟩ := R2.lst e5 e7
    rw [ea] at ea2
    cases ea2
    unfold putV at e8
    cases k with
    | int k =>
      obtain ⟨j, e9, e10⟩ := Option.map_eq_some_iff.mp e8
      cases r2
      refine ⟨a, ws2, k, j, rfl, rfl, m2, by rw [rr.length]; exact e9, ?_⟩
      obtain ⟨R3, x3⟩ := nx (ws2.set j v) ys' (by rw [← e10]; exact Rls.set (r.mono x2.z) j rr)
      exact kk σ _ Z2 O2 (x2.trans x3) (off.refl σ) R3
    | _ => cases e8
theorem st_asgh {tg e : Expr} {d : DV} {g : DG} {ws : List Nat} {pos : Pos} (he : PV X e d) (hg : PGh X tg g ws) (hs : swapsWithSole [tg] e pos.line X.env = pure false := by rfl) (hw : swappedStores [tg] e X.env = pure none := by rfl)
    (h1 : (assignEach [tg] X.env).map (·.2) = [assign tg X.env] := by rfl) : PSt X (.Assign [tg] e pos) (sAsg d g) := PS.imp (ps_asg he hg hs hw h1) fun D σ H ⟨Z, O, C, ρ, R, h⟩ => by
  unfold sAsg at h
  cases e : d ρ with
  | ok p =>
    obtain ⟨x, ρ'⟩ := p
    rw [e] at h
    simp only at h
    cases e2 : g x ρ' with
    | none => rw [e2] at h; exact h.elim
    | some ρ2 =>
      rw [e2] at h
      exact ⟨Z, O, C, ρ, R, x, ρ', e, fun v H' Z' O' ex R' r => ⟨Z', O', C, ρ', R', x, ρ2, r, e2, fun σ' H2 Z2 O2 x2 _ R2 => h σ' H2 Z2 O2 (ex.trans x2) R2⟩⟩
  | exc _ => rw [e] at h; exact h.elim
  | bad => rw [e] at h; exact h.elim
end
end Ev

/-! Ev: [x] * n as a new list. -/
namespace Ev
open PySem PySem.Spec PyProof.Rows L2
def r2o (K : PySem.W.Frag) (mg : MG) (g : Val → Val → Option (List Val)) : R2 := fun v w H Q => ∃ Z x y ys, Same Z H ∧ BorR K mg Z H v x ∧ BorR K mg Z H w y ∧ g x y = some ys ∧ QO K mg Z H ys Q
def d2o (g : Val → Val → Option (List Val)) (da db : DH) : DO := fun ρ => (da ρ).bind fun p => (db p.2).bind fun q =>
  Out.of ((deref q.2 p.1).bind fun x => (deref q.2 q.1).bind fun y => (g x y).map fun ys => (.own ys, q.2))
theorem run2o {K : PySem.W.Frag} {mg : MG} {da db : DH} {g : Val → Val → Option (List Val)} {σ : L2.St} {H : Hp} {Q : VK} (h : TOw K mg (d2o g da db) σ H Q) : TH K mg da σ H fun v H1 => TH K mg db σ H1 fun w H2 => r2o K mg g v w H2 Q := by
  obtain ⟨Z, O, C, ρ, R, x, ρ', q, k⟩ := h
  obtain ⟨⟨h1, ρ1⟩, e1, q⟩ := Out.bind_ok q
  obtain ⟨⟨h2, ρ2⟩, e2, q⟩ := Out.bind_ok q
  obtain ⟨y1, f1, q⟩ := Option.bind_eq_some_iff.mp (Out.of_ok q)
  obtain ⟨y2, f2, q⟩ := Option.bind_eq_some_iff.mp q
  obtain ⟨ys, f3, q⟩ := Option.map_eq_some_iff.mp q
  cases q
  exact ⟨Z, O, C, ρ, R, h1, ρ1, e1, fun v H1 Z1 O1 ex1 R1 r1 => ⟨Z1, O1, C, ρ1, R1, h2, _, e2, fun w H2 Z2 O2 ex2 R2 r2 => ⟨Z2, y1, y2, ys, R2.zh, deref_bor R2 (r1.mono ex2.z) f1, deref_bor R2 r2 f2, f3, own_new (ex1.trans ex2) R2 k⟩⟩⟩
def repV : Val → Val → Option (List Val)
  | .lst xs, .int k => if -(2 ^ 63) ≤ k ∧ k < 2 ^ 63 ∧ xs.length * k.toNat ≤ sizeLine then some (List.replicate k.toNat xs).flatten else none
  | _, _ => none
section
variable {X : Cx} {a b : Expr} {da db : DH} {pos : Pos} {g : Val → Val → Option (List Val)}
theorem pow_op2 {op : Operator} (ho : OpR X (binaryOp op) (r2o X.K X.mg g)) (ha : PH X a da) (hb : PH X b db) : POw X (.BinOp a op b pos) (d2o g da db) := PE.imp (pe_op ho ha hb) fun _ _ _ => run2o
theorem o_repO : OpR X (binaryOp .Mult) (r2o X.K X.mg repV) := OpR.imp op_rep fun v w H Q ⟨Z, x, y, z, zh, b1, b2, e, q⟩ => by
  unfold repV at e
  split at e
  · split at e
    · rename_i hk
      cases e
      obtain ⟨a, vs, rfl, h1, r1⟩ := bor_lst zh b1
      cases bor_int b2
      exact ⟨a, _, vs, rfl, rfl, h1, hk.1, hk.2.1, by rw [r1.length]; exact hk.2.2, fun p hp => q p _ hp (r1.rep _)⟩
    · cases e
  · cases e
end
theorem rep_one (x : Val) (n : Int) (h0 : 0 ≤ n) (h1 : n ≤ 1000000) : repV (.lst [x]) (.int n) = some (List.replicate n.toNat x) := by
  have hk : -(2 ^ 63) ≤ n ∧ n < 2 ^ 63 ∧ ([x] : List Val).length * n.toNat ≤ sizeLine := ⟨by omega, by omega, by simp only [List.length_cons, List.length_nil]; exact Nat.le_trans (show (0 + 1) * n.toNat ≤ 1000000 by omega) (by decide)⟩
  have e : ∀ k : Nat, (List.replicate k [x]).flatten = List.replicate k x := fun k => by
    induction k with
    | zero => rfl
    | succ k ih => rw [List.replicate_succ, List.flatten_cons, ih]; rfl
  unfold repV
  simp only [if_pos hk, e]
/-! in the evaluator -/
def k2o2 (g : Val → Val → Option (List Val)) (p : Hd) (q : Hd × Env) : Out (Sl × Env) := Out.of ((deref q.2 p).bind fun x => (deref q.2 q.1).bind fun y => (g x y).map fun ys => (.own ys, q.2))
def k2o (g : Val → Val → Option (List Val)) (db : DH) (p : Hd × Env) : Out (Sl × Env) := (db p.2).bind (k2o2 g p.1)
@[simp] theorem v_d2o (g : Val → Val → Option (List Val)) (da db : DH) (ρ : Env) : d2o g da db ρ = (da ρ).bind (k2o g db) := by rfl
@[simp] theorem v_k2o (g : Val → Val → Option (List Val)) (db : DH) (h : Hd) (ρ : Env) : k2o g db (h, ρ) = (db ρ).bind (k2o2 g h) := by rfl
def wO (o : Option (List Val)) (ρ : Env) : Out (Sl × Env) := Out.of (o.map fun ys => (.own ys, ρ))
@[simp] theorem v_k2o2 (g : Val → Val → Option (List Val)) (x y : Val) (ρ : Env) : k2o2 g (.val x) (.val y, ρ) = wO (g x y) ρ := by rfl
@[simp] theorem v_wO (ys : List Val) (ρ : Env) : wO (some ys) ρ = .ok (.own ys, ρ) := by rfl
end Ev

namespace Hd
open PySem PySem.Spec PyProof.Rows L2
def top (i : Nat) : Stmt := PySem.Challenge.pw_whocame_k49_rings_of_bounds_judged.main.body.getD i (.Pass ⟨0, 0, 0, 0⟩)
def d1 : He.DefD := ⟨("is_count", none), "is_count", "is_count", defArgs (top 1), defBody (top 1), defScope (top 1), [], []⟩
def d4 : He.DefD := ⟨("order_gain", none), "order_gain", "order_gain", defArgs (top 4), defBody (top 4), defScope (top 4), [], []⟩
def d6 : He.DefD := ⟨("is_bound_ring", none), "is_bound_ring", "is_bound_ring", defArgs (top 6), defBody (top 6), defScope (top 6), [], [("give", .int 0)]⟩
def d8 : He.DefD := ⟨("_law_box", none), "_law_box", "_law_box", defArgs (top 8), defBody (top 8), defScope (top 8), [], []⟩
def d9 : He.DefD := ⟨("_law_load", none), "_law_load", "_law_load", defArgs (top 9), defBody (top 9), defScope (top 9), [], []⟩
def d10 : He.DefD := ⟨("_law_draw", none), "_law_draw", "_law_draw", defArgs (top 10), defBody (top 10), defScope (top 10), [], []⟩
def d11 : He.DefD := ⟨("_law_same", none), "_law_same", "_law_same", defArgs (top 11), defBody (top 11), defScope (top 11), [], []⟩
def d12 : He.DefD := ⟨("_law_bent", none), "_law_bent", "_law_bent", defArgs (top 12), defBody (top 12), defScope (top 12), [], []⟩
def d13 : He.DefD := ⟨("_law_precedence", none), "_law_precedence", "_law_precedence", defArgs (top 13), defBody (top 13), defScope (top 13), [], []⟩
def d14 : He.DefD := ⟨("_law_stays", none), "_law_stays", "_law_stays", defArgs (top 14), defBody (top 14), defScope (top 14), [], []⟩
def d15 : He.DefD := ⟨("_law_clock", none), "_law_clock", "_law_clock", defArgs (top 15), defBody (top 15), defScope (top 15), [], []⟩
def d16 : He.DefD := ⟨("_law_gain", none), "_law_gain", "_law_gain", defArgs (top 16), defBody (top 16), defScope (top 16), [], []⟩
def d17 : He.DefD := ⟨("_law_steps", none), "_law_steps", "_law_steps", defArgs (top 17), defBody (top 17), defScope (top 17), [], []⟩
def d18 : He.DefD := ⟨("_law_due", none), "_law_due", "_law_due", defArgs (top 18), defBody (top 18), defScope (top 18), [], []⟩
def d19 : He.DefD := ⟨("_law_ring", none), "_law_ring", "_law_ring", defArgs (top 19), defBody (top 19), defScope (top 19), [], []⟩
def d20 : He.DefD := ⟨("_law_fine", none), "_law_fine", "_law_fine", defArgs (top 20), defBody (top 20), defScope (top 20), [], []⟩
def d21 : He.DefD := ⟨("law", none), "law", "law", defArgs (top 21), defBody (top 21), defScope (top 21), [], []⟩
def fn : List He.DefD := [d1, d4, d6, d8, d9, d10, d11, d12, d13, d14, d15, d16, d17, d18, d19, d20, d21]
def fa : List He.Fa := [.glo "is_count", .glo "order_gain", .glo "is_bound_ring", .glo "_law_box", .glo "_law_load", .glo "_law_draw", .glo "_law_same", .glo "_law_bent", .glo "_law_precedence", .glo "_law_stays", .glo "_law_clock", .glo "_law_gain", .glo "_law_steps", .glo "_law_due", .glo "_law_ring", .glo "_law_fine", .glo "law", .free "all", .free "bool", .free "int", .free "isinstance", .free "len", .free "list", .free "max", .free "min", .free "range", .free "set", .free "sorted", .free "str", .free "sum", .free "tuple", .int "MAX_HOUR" 1000000]
abbrev R : PySem.W.OpenRow := PySem.W.OpenLaw.row PySem.Challenge.rw_whocame_k49_rings_of_bounds_judged
abbrev hk : PySem.W.Hook := He.hookD 4 fa fn
def ob (s : PySem.W.SharedT) : He.AlD := He.obsDG 4 fa fn (HandSHeadRun.getT s)
theorem ob_eq (s : PySem.W.SharedT) : ob s = hk.obs s.abs := He.obsDG_eq (HandSHeadRun.getT_eq s)
theorem run (w : World) : HandSHeadRun.RunEq R (PySem.W.view R.prog [21]) hk ob 4000 ["is_count", "MAX_HOUR", "order_gain", "is_bound_ring", "_law_box", "_law_load", "_law_draw", "_law_same", "_law_bent", "_law_precedence", "_law_stays", "_law_clock", "_law_gain", "_law_steps", "_law_due", "_law_ring", "_law_fine"] w := by
  intro os
  kernel_rfl
end Hd

namespace B49
open PySem PySem.Spec PyProof.Rows L2 Ev
noncomputable section
section
variable {P : Program} {w : World} {K : PySem.W.Frag} {mg : MG} {base : Heap}
theorem sc_is_count : FnScope ["value", "least", "most"] ["value", "least", "most"] (defScope (Hd.top 1)) := ⟨rfl, rfl, rfl, by decide +kernel, rfl, by decide +kernel, by decide +kernel⟩
def D_is_count  : DS := (sRet (dOV (vAnd (dIsi "int" (dVar 0)) (vAnd (vNot (dHV (dIsi "bool" (dVar 0)))) (dChain leV leV (dVar 1) (dVar 0) (dVar 2))))))
def E_is_count : FnE := fnE 1 3 3 none D_is_count
theorem s_is_count (a0 a1 a2 : Sl) : E_is_count.sem [a0, a1, a2] = flRes 3 none (D_is_count [a0, a1, a2]) :=
  (fnE_sem 1 3 3 none D_is_count [a0, a1, a2]).trans (congrArg (fun l => flRes 3 none (D_is_count l)) (by rfl : ([a0, a1, a2] : List Sl) ++ List.replicate (3 - 3) .no = [a0, a1, a2]))
theorem np_is_count : E_is_count.np = 3 := rfl
theorem ok_is_count {f : Addr} {fd : FuncData} (F : FunD K "is_count" "is_count" (defArgs (Hd.top 1)) (defBody (Hd.top 1)) (defScope (Hd.top 1)) [] [] f fd) (hm : mg "is_count" = some (.ref f)) (g_isinstance : mg "isinstance" = none) (g_int : mg "int" = none) (g_bool : mg "bool" = none) : Cal P w K mg base CX0 "is_count" E_is_count :=
  fn_okD (N := ["value", "least", "most"]) (ps := ["value", "least", "most"]) (k := 0) F sc_is_count rfl rfl hm (fun _ _ _ _ _ _ us hl => match us, hl with | [_, _, _], _ => rfl) fun cdv A outer s H E hr => (by
    have nd := (sc_is_count).nd
    exact (pst_one (st_ret (pow_of (pv_and (pv_isi (ph_var (i := 0)) (by rfl) g_isinstance (by rfl) g_int (by decide +kernel) (by simp)) (pv_and (pv_not (ph_of (pv_isi (ph_var (i := 0)) (by rfl) g_isinstance (by rfl) g_bool (by decide +kernel) (by simp)))) (pv_one (pv_chain (o_le hr) (o_le hr) (ph_var (i := 1)) (ph_var (i := 0)) (ph_var (i := 2))))))))))
theorem sc_order_gain : FnScope ["links", "a", "b", "i", "j"] ["links", "a", "b"] (defScope (Hd.top 4)) := ⟨rfl, rfl, rfl, by decide +kernel, rfl, by decide +kernel, by decide +kernel⟩
def D_order_gain  : DS := (sSeq (sIf (tBl (d2 eqV (dVar 1) (dHV (dNeg (dC (.int 1)))))) (sRet (dOV (dC (.int 0)))) sSkip)
  (sSeq (sIf (tBl (d2 eqV (dVar 2) (dHV (dNeg (dC (.int 1)))))) (sRet (dOV (dNeg (dC (.int 1000000))))) sSkip)
  (sSeq (sPar 3 4 (aCons (dHV (d2 divV (dVar 1) (dHV (dC (.int 2))))) (aCons (dHV (d2 divV (dVar 2) (dHV (dC (.int 2))))) aNil)))
  (sSeq (sIf (tBl (d2 eqV (dVar 3) (dVar 4))) (sRet (dOV (dIf (tBl (d2 ltV (dVar 1) (dVar 2))) (dC (.int 0)) (dC .non)))) sSkip)
  (sSeq (sIf (tBl (d2 eqV (dHV (d2 bandV (dVar 1) (dHV (dC (.int 1))))) (dHV (dC (.int 1))))) (sRet (dOV (dIf (tAndD (tBl (d2 eqV (dHV (d2 bandV (dVar 2) (dHV (dC (.int 1))))) (dHV (dC (.int 0))))) (tBl (d2 inV (dHV (dTup (aCons (dVar 3) (aCons (dVar 4) aNil)))) (dVar 0)))) (dC (.int 1)) (dC .non)))) sSkip)
  (sRet (dOV (dIf (tAndD (tBl (d2 eqV (dHV (d2 bandV (dVar 2) (dHV (dC (.int 1))))) (dHV (dC (.int 1))))) (tAndD (tBl (d2 ninV (dHV (dTup (aCons (dVar 3) (aCons (dVar 4) aNil)))) (dVar 0))) (tBl (d2 ninV (dHV (dTup (aCons (dVar 4) (aCons (dVar 3) aNil)))) (dVar 0))))) (dC (.int 0)) (dC .non)))))))))
def E_order_gain : FnE := fnE 1 3 5 none D_order_gain
theorem s_order_gain (a0 a1 a2 : Sl) : E_order_gain.sem [a0, a1, a2] = flRes 3 none (D_order_gain [a0, a1, a2, .no, .no]) :=
  (fnE_sem 1 3 5 none D_order_gain [a0, a1, a2]).trans (congrArg (fun l => flRes 3 none (D_order_gain l)) (by rfl : ([a0, a1, a2] : List Sl) ++ List.replicate (5 - 3) .no = [a0, a1, a2, .no, .no]))
theorem np_order_gain : E_order_gain.np = 3 := rfl
theorem ok_order_gain {f : Addr} {fd : FuncData} (F : FunD K "order_gain" "order_gain" (defArgs (Hd.top 4)) (defBody (Hd.top 4)) (defScope (Hd.top 4)) [] [] f fd) (hm : mg "order_gain" = some (.ref f)) (g_MAX_HOUR : ∃ t, mg "MAX_HOUR" = some (.int 1000000 t)) : Cal P w K mg base CX0 "order_gain" E_order_gain :=
  fn_okD (N := ["links", "a", "b", "i", "j"]) (ps := ["links", "a", "b"]) (k := 0) F sc_order_gain rfl rfl hm (fun _ _ _ _ _ _ us hl => match us, hl with | [_, _, _], _ => rfl) fun cdv A outer s H E hr => (by
    have nd := (sc_order_gain).nd
    exact (pst_cons (st_if (pt_cmp' (o_eq hr) (ph_var (i := 1)) (ph_of (pv_neg pv_int))) (pst_one (st_ret (pow_of pv_int))) pst_nil)
    (pst_cons (st_if (pt_cmp' (o_eq hr) (ph_var (i := 2)) (ph_of (pv_neg pv_int))) (pst_one (st_ret (pow_of (pv_neg (pv_gint (by rfl) g_MAX_HOUR))))) pst_nil)
    (pst_cons (st_par (i := 3) (j := 4) rfl nd rfl rfl (by decide) rfl rfl (as_cons (ph_of (pv_op o_div (ph_var (i := 1)) (ph_of pv_int))) (as_cons (ph_of (pv_op o_div (ph_var (i := 2)) (ph_of pv_int))) as_nil)) rfl)
    (pst_cons (st_if (pt_cmp' (o_eq hr) (ph_var (i := 3)) (ph_var (i := 4))) (pst_one (st_ret (pow_of (pv_if (pt_cmp' (o_lt hr) (ph_var (i := 1)) (ph_var (i := 2))) pv_int pv_non)))) pst_nil)
    (pst_cons (st_if (pt_cmp' (o_eq hr) (ph_of (pv_op o_band (ph_var (i := 1)) (ph_of pv_int))) (ph_of pv_int)) (pst_one (st_ret (pow_of (pv_if (pt_w (pw_and' (pt_cmp' (o_eq hr) (ph_of (pv_op o_band (ph_var (i := 2)) (ph_of pv_int))) (ph_of pv_int)) (pw_and1' (pt_cmp' (o_in hr) (ph_of (pv_tup (as_cons (ph_var (i := 3)) (as_cons (ph_var (i := 4)) as_nil)))) (ph_var (i := 0)))))) pv_int pv_non)))) pst_nil)
    (pst_one (st_ret (pow_of (pv_if (pt_w (pw_and' (pt_cmp' (o_eq hr) (ph_of (pv_op o_band (ph_var (i := 2)) (ph_of pv_int))) (ph_of pv_int)) (pw_and' (pt_cmp' (o_nin hr) (ph_of (pv_tup (as_cons (ph_var (i := 3)) (as_cons (ph_var (i := 4)) as_nil)))) (ph_var (i := 0))) (pw_and1' (pt_cmp' (o_nin hr) (ph_of (pv_tup (as_cons (ph_var (i := 4)) (as_cons (ph_var (i := 3)) as_nil)))) (ph_var (i := 0))))))) pv_int pv_non))))))))))
theorem sc_is_bound_ring : FnScope ["clock", "value", "give", "n", "links", "total", "k", "a", "b", "gains", "own", "c", "d", "g"] ["clock", "value", "give"] (defScope (Hd.top 6)) := ⟨rfl, rfl, rfl, by decide +kernel, rfl, by decide +kernel, by decide +kernel⟩
def C1_is_bound_ring  : DO := (dLc (dIt (d2 ixV (dVar 0) (dHV (dC (.int 1))))) (gTp 3 (gC (gNm 11) (gC (gNm 12) (gC (gNm 13) gN)))) (tBl (d2 eqV (dHV (dTup (aCons (dVar 11) (aCons (dVar 12) aNil)))) (dHV (dTup (aCons (dVar 7) (aCons (dVar 8) aNil)))))) (d2 subV (dVar 13) (dVar 2)) [11, 12, 13])
def L1_is_bound_ring (e_order_gain : FnE) : DS := (sSeq (sAsg (dTup (aCons (dHV (d2 ixV (dVar 1) (dHV (d2 subV (dVar 6) (dHV (dC (.int 1))))))) (aCons (dHV (d2 ixV (dVar 1) (dVar 6))) aNil))) (gTp 2 (gC (gNm 7) (gC (gNm 8) gN))))
  (sSeq (sSet 9 C1_is_bound_ring)
  (sSeq (sSet 10 (callD0 e_order_gain (aCons (dVar 4) (aCons (dVar 7) (aCons (dVar 8) aNil)))))
  (sSeq (sIf (tBl (dNotN (dVH (dVar 10)))) (sDrop (dOV (dU appV 9 (aCons (dVar 10) aNil)))) sSkip)
  (sSeq (sIf (tNotD (tOf (dVar 9))) (sRet (dOV (dC (.bl false)))) sSkip)
  (sAug 5 auAdd (dN (g1 maxLV) (aCons (dVar 9) aNil))))))))
def F1_is_bound_ring (e_order_gain : FnE) : DS := (sFor (dRg (dR1 (dN (g1 lenV) (aCons (dVar 1) aNil)))) (gNm 6) (L1_is_bound_ring e_order_gain))
def C2_is_bound_ring (e_is_count : FnE) : DO := (dLc (dIt (dVH (dVar 1))) (gNm 7) tYesD (dVO (callD0 e_is_count (aCons (dVar 7) (aCons (dHV (dNeg (dC (.int 1)))) (aCons (dHV (d2 subV (dHV (d2 mulV (dHV (dC (.int 2))) (dVar 3))) (dHV (dC (.int 1))))) aNil))))) [7])
def D_is_bound_ring (e_order_gain : FnE) (e_is_count : FnE) : DS := (sSeq (sAsg (d2 ixV (dVar 0) (dHV (dC (.int 0)))) (gTp 2 (gC (gNm 3) (gC (gNm 4) gN))))
  (sSeq (sIf (tOrD (tNotD (tOf (dHV (dIsi "tuple" (dVar 1))))) (tOrD (tBl (d2 ltV (dHV (dN (g1 lenV) (aCons (dVar 1) aNil))) (dHV (dC (.int 2))))) (tNotD (tOf (dHV (dN (g1 allV) (aCons (dHV (dVO (C2_is_bound_ring e_is_count))) aNil))))))) (sRet (dOV (dC (.bl false)))) sSkip)
  (sSeq (sIf (tBl (d2 neV (dHV (dN (g1 lsV) (aCons (dVar 1) aNil))) (dHV (dN (g1 lenV) (aCons (dVar 1) aNil))))) (sRet (dOV (dC (.bl false)))) sSkip)
  (sSeq (sSet 5 (dOV (dC (.int 0))))
  (sSeq (F1_is_bound_ring e_order_gain)
  (sRet (dOV (d2 gtV (dVar 5) (dHV (dC (.int 0)))))))))))
def E_is_bound_ring : FnE := fnE 2 3 14 none (D_is_bound_ring E_order_gain E_is_count)
theorem s_is_bound_ring (a0 a1 a2 : Sl) : E_is_bound_ring.sem [a0, a1, a2] = flRes 3 none ((D_is_bound_ring E_order_gain E_is_count) [a0, a1, a2, .no, .no, .no, .no, .no, .no, .no, .no, .no, .no, .no]) :=
  (fnE_sem 2 3 14 none (D_is_bound_ring E_order_gain E_is_count) [a0, a1, a2]).trans (congrArg (fun l => flRes 3 none ((D_is_bound_ring E_order_gain E_is_count) l)) (by rfl : ([a0, a1, a2] : List Sl) ++ List.replicate (14 - 3) .no = [a0, a1, a2, .no, .no, .no, .no, .no, .no, .no, .no, .no, .no, .no]))
theorem np_is_bound_ring : E_is_bound_ring.np = 3 := rfl
theorem ok_is_bound_ring {f : Addr} {fd : FuncData} (F : FunD K "is_bound_ring" "is_bound_ring" (defArgs (Hd.top 6)) (defBody (Hd.top 6)) (defScope (Hd.top 6)) [] [("give", V.int 0)] f fd) (hm : mg "is_bound_ring" = some (.ref f)) (g_max : mg "max" = none) (g_range : mg "range" = none) (g_len : mg "len" = none) (g_set : mg "set" = none) (g_isinstance : mg "isinstance" = none) (g_tuple : mg "tuple" = none) (g_all : mg "all" = none) (C_order_gain : Cal P w K mg base CX0 "order_gain" E_order_gain) (C_is_count : Cal P w K mg base CX0 "is_count" E_is_count) : CalK P w K mg base CX0 "is_bound_ring" E_is_bound_ring 2 "give" 0 :=
  fn_okK (N := ["clock", "value", "give", "n", "links", "total", "k", "a", "b", "gains", "own", "c", "d", "g"]) (ps := ["clock", "value", "give"]) (k := 1) F sc_is_bound_ring rfl rfl hm rfl (fun _ _ _ _ _ _ us ws hl h1 => match us, ws, hl, h1 with | [_, _], [_], _, _ => rfl) (fun _ _ _ _ _ _ us ks hl h1 => match us, ks, hl, h1 with | [_, _], [_], _, _ => ⟨_, _, _, _, _, _, rfl, rfl, rfl⟩) fun cdv A outer s H E hr => (by
    have nd := (sc_is_bound_ring).nd
    exact (pst_cons (st_asg (pv_ix i_ix (ph_var (i := 0)) (ph_of pv_int)) (gt_tup rfl (gt_cons (gt_name (i := 3) nd rfl (by first | exact Or.inl rfl | exact Or.inr rfl)) (gt_cons (gt_name (i := 4) nd rfl (by first | exact Or.inl rfl | exact Or.inr rfl)) gt_nil))))
    (pst_cons (st_if (pt_w (pw_or' (pt_not' (pt_of (ph_of (pv_isi (ph_var (i := 1)) (by rfl) g_isinstance (by rfl) g_tuple (by decide +kernel) (by simp))))) (pw_or' (pt_cmp' (o_lt hr) (ph_of (pv_callB c_len (by rfl) g_len (by decide +kernel) (as_cons (ph_var (i := 1)) as_nil))) (ph_of pv_int)) (pw_or1' (pt_not' (pt_of (ph_of (pv_callB (c_all rfl) (by rfl) g_all (by decide +kernel) (as_cons (ph_of (pv_own (pow_lc rfl nd (it_val (pv_of (ph_var (i := 1)))) (blkOk_by (own := [("a", 7)]) (by first | decide +kernel | rfl)) (fun _ _ _ _ _ => (gt_name (i := 7) nd rfl (by first | exact Or.inl rfl | exact Or.inr rfl))) (fun _ _ _ _ _ => ts_nil) (fun _ _ _ _ _ => (pv_own (pow_call0 C_is_count rfl hr (by decide) pass0 (by rfl) (as_cons (ph_var (i := 7)) (as_cons (ph_of (pv_neg pv_int)) (as_cons (ph_of (pv_op o_sub (ph_of (pv_op o_mul (ph_of pv_int) (ph_var (i := 3)))) (ph_of pv_int))) as_nil)))))) (by decide)))) as_nil))))))))) (pst_one (st_ret (pow_of pv_bl))) pst_nil)
    (pst_cons (st_if (pt_cmp' (o_ne hr) (ph_of (pv_lenSet rfl (by rfl) g_len (by rfl) g_set (as_cons (ph_var (i := 1)) as_nil))) (ph_of (pv_callB c_len (by rfl) g_len (by decide +kernel) (as_cons (ph_var (i := 1)) as_nil)))) (pst_one (st_ret (pow_of pv_bl))) pst_nil)
    (pst_cons (st_set (i := 5) nd rfl (by first | exact Or.inl rfl | exact Or.inr rfl) (pow_of pv_int))
    (pst_cons (st_for PassesOwn.never rfl (it_r1 (by rfl) g_range (pv_callB c_len (by rfl) g_len (by decide +kernel) (as_cons (ph_var (i := 1)) as_nil))) (gt_name (i := 6) nd rfl (by first | exact Or.inl rfl | exact Or.inr rfl)) (pst_cons (st_asg (pv_tup (as_cons (ph_of (pv_ix i_ix (ph_var (i := 1)) (ph_of (pv_op o_sub (ph_var (i := 6)) (ph_of pv_int))))) (as_cons (ph_of (pv_ix i_ix (ph_var (i := 1)) (ph_var (i := 6)))) as_nil))) (gt_tup rfl (gt_cons (gt_name (i := 7) nd rfl (by first | exact Or.inl rfl | exact Or.inr rfl)) (gt_cons (gt_name (i := 8) nd rfl (by first | exact Or.inl rfl | exact Or.inr rfl)) gt_nil))))
    (pst_cons (st_setLc (i := 9) rfl nd rfl rfl (sw_true rfl rfl rfl (by decide +kernel)) (it_val (pv_ix i_ix (ph_var (i := 0)) (ph_of pv_int))) (blkOk_by (own := [("c", 11), ("d", 12), ("g", 13)]) (by first | decide +kernel | rfl)) (fun _ _ _ _ _ => (gt_tup rfl (gt_cons (gt_name (i := 11) nd rfl (by first | exact Or.inl rfl | exact Or.inr rfl)) (gt_cons (gt_name (i := 12) nd rfl (by first | exact Or.inl rfl | exact Or.inr rfl)) (gt_cons (gt_name (i := 13) nd rfl (by first | exact Or.inl rfl | exact Or.inr rfl)) gt_nil))))) (fun _ _ _ _ _ => (ts_one (pt_cmp' (o_eq hr) (ph_of (pv_tup (as_cons (ph_var (i := 11)) (as_cons (ph_var (i := 12)) as_nil)))) (ph_of (pv_tup (as_cons (ph_var (i := 7)) (as_cons (ph_var (i := 8)) as_nil))))))) (fun _ _ _ _ _ => (pv_op o_sub (ph_var (i := 13)) (ph_var (i := 2)))) (by decide))
    (pst_cons (st_set (i := 10) nd rfl (by first | exact Or.inl rfl | exact Or.inr rfl) (pow_call0 C_order_gain rfl hr (by decide) pass0 (by rfl) (as_cons (ph_var (i := 4)) (as_cons (ph_var (i := 7)) (as_cons (ph_var (i := 8)) as_nil)))))
    (pst_cons (st_if (pt_notN (pv_of (ph_var (i := 10)))) (pst_one (st_expr (pow_of (pv_bmU PySem.F.slot_list_append PySem.F.type_list_append m_append (pv 9) (as_cons (ph_var (i := 10)) as_nil))))) pst_nil)
    (pst_cons (st_if (pt_not' (pt_of (ph_var (i := 9)))) (pst_one (st_ret (pow_of pv_bl))) pst_nil)
    (pst_one (st_aug (i := 5) (g := auAdd) nd rfl (by first | exact Or.inl rfl | exact Or.inr rfl) (pv_callB (c_maxL rfl) (by rfl) g_max (by decide +kernel) (as_cons (ph_var (i := 9)) as_nil)) ip_add))))))))
    (pst_one (st_ret (pow_of (pv_cmp (o_gt hr) (ph_var (i := 5)) (ph_of pv_int)))))))))))
theorem sc__law_box : FnScope ["script"] ["script"] (defScope (Hd.top 8)) := ⟨rfl, rfl, rfl, by decide +kernel, rfl, by decide +kernel, by decide +kernel⟩
def D__law_box  : DS := (sRet (dBn (dNo (go1 itemsV) (aCons (dHV (dSl (dVar 0) pNone (pSome (dC (.int 63))))) aNil)) (dC (.int 0)) (d2 addV (dHV (dC (.int 4711))) (dHV (dN (g1 lenV) (aCons (dVar 0) aNil))))))
def E__law_box : FnE := fnE 1 1 1 none D__law_box
theorem s__law_box (a0 : Sl) : E__law_box.sem [a0] = flRes 1 none (D__law_box [a0]) :=
  (fnE_sem 1 1 1 none D__law_box [a0]).trans (congrArg (fun l => flRes 1 none (D__law_box l)) (by rfl : ([a0] : List Sl) ++ List.replicate (1 - 1) .no = [a0]))
theorem np__law_box : E__law_box.np = 1 := rfl
theorem ok__law_box {f : Addr} {fd : FuncData} (F : FunD K "_law_box" "_law_box" (defArgs (Hd.top 8)) (defBody (Hd.top 8)) (defScope (Hd.top 8)) [] [] f fd) (hm : mg "_law_box" = some (.ref f)) (g_list : mg "list" = none) (g_len : mg "len" = none) : Cal P w K mg base CX0 "_law_box" E__law_box :=
  fn_okD (N := ["script"]) (ps := ["script"]) (k := 0) F sc__law_box rfl rfl hm (fun _ _ _ _ _ _ us hl => match us, hl with | [_], _ => rfl) fun cdv A outer s H E hr => (by
    have nd := (sc__law_box).nd
    exact (pst_one (st_ret (pow_bx (pow_callTy c_list (by rfl) g_list (by decide +kernel) (as_cons (ph_of (pv_slice (ph_var (i := 0)) pp_none (pp_some pv_int))) as_nil)) pv_int (pv_op o_add (ph_of pv_int) (ph_of (pv_callB c_len (by rfl) g_len (by decide +kernel) (as_cons (ph_var (i := 0)) as_nil))))))))
theorem sc__law_load : FnScope ["box", "cells", "cell", "size", "first", "second"] ["box"] (defScope (Hd.top 9)) := ⟨rfl, rfl, rfl, by decide +kernel, rfl, by decide +kernel, by decide +kernel⟩
abbrev E__law_load : FnE := loadE
theorem ok__law_load {f : Addr} {fd : FuncData} (F : FunD K "_law_load" "_law_load" (defArgs (Hd.top 9)) (defBody (Hd.top 9)) (defScope (Hd.top 9)) [] [] f fd) (hm : mg "_law_load" = some (.ref f)) (g_len : mg "len" = none) (g_int : mg "int" = none) : Cal P w K mg base CX0 "_law_load" E__law_load :=
  load_ok (N := ["box", "cells", "cell", "size", "first", "second"]) F sc__law_load rfl hm (fun _ _ _ _ _ _ us hl => match us, hl with | [_], _ => rfl) fun cdv A outer s H E hr => (by
    have nd := (sc__law_load).nd
    exact (pss_cons (ps_set (i := 1) nd rfl (Or.inl rfl) (pe_ix ix_list (pv 0) pe_int (fun _ _ => rfl)))
(pss_cons (ps_if (pt_cmpR op_gt (pe_callB call_len_seq (by rfl) g_len PySem.boot_len (pa_cons (pv 1) pa_nil)) pe_int (nomark _))
   (pss_cons (ps_set (i := 2) nd rfl (Or.inl rfl) (pe_callTy call_int1 (by rfl) g_int (by decide +kernel) (pa_cons (pe_bm PySem.F.plainAttrs_list PySem.F.slot_list_pop PySem.F.type_list_pop mt_popAt (pv 1) (pa_cons pe_int pa_nil)) pa_nil)))
   (pss_cons (ps_set (i := 3) nd rfl (Or.inl rfl) (pe_ifExp (pt_cmpR op_ge (pv 2) pe_int (nomark _)) (pe_op op_mul pe_int (pv 2)) (pe_op op_sub (pe_op op_mul (pe_un un_neg pe_int) (pv 2)) pe_int)))
   (pss_cons (ps_if (pt_cmpR op_ge (pv 3) pe_int (nomark _)) (pss_one (ps_ret (pv 3))) pss_nil)
   (pss_one (ps_asg (pe_op op_mod (pe_callTy call_int1 (by rfl) g_int (by decide +kernel) (pa_cons (pe_op op_add (pe_op op_add (pe_op op_mul (pe_ix ix_list (pv 0) pe_int (fun _ _ => rfl)) pe_int) (pe_op op_mul (pv 3) pe_int)) pe_int) pa_nil)) pe_int) (pg_sub (pv 0) pe_int set_list)))))) pss_nil)
(pss_cons (ps_set (i := 4) nd rfl (Or.inl rfl) (pe_op op_mod (pe_callTy call_int1 (by rfl) g_int (by decide +kernel) (pa_cons (pe_op op_add (pe_op op_mul (pe_ix ix_list (pv 0) pe_int (fun _ _ => rfl)) pe_int) pe_int) pa_nil)) pe_int))
(pss_cons (ps_set (i := 5) nd rfl (Or.inl rfl) (pe_op op_mod (pe_callTy call_int1 (by rfl) g_int (by decide +kernel) (pa_cons (pe_op op_add (pe_op op_mul (pv 4) pe_int) pe_int) pa_nil)) pe_int))
(pss_cons (ps_asg (pe_op op_mod (pe_callTy call_int1 (by rfl) g_int (by decide +kernel) (pa_cons (pe_op op_add (pe_op op_mul (pv 5) pe_int) pe_int) pa_nil)) pe_int) (pg_sub (pv 0) pe_int set_list))
(pss_one (ps_ret (pe_op op_add (pe_op op_add (pe_op op_mul (pv 4) pe_int) (pe_op op_mul (pv 5) pe_int)) (pe_ix ix_list (pv 0) pe_int (fun _ _ => rfl)))))))))
))
theorem sc__law_draw : FnScope ["box", "many", "digit"] ["box", "many"] (defScope (Hd.top 10)) := ⟨rfl, rfl, rfl, by decide +kernel, rfl, by decide +kernel, by decide +kernel⟩
def D__law_draw (e__law_load : FnE) : DS := (sSeq (sIf (tBl (d2 ltV (dHV (dBx 0 1)) (dVar 1))) (sBx 0 1 (dVO (callD1 e__law_load 0 (aCons (dVar 0) aNil)))) sSkip)
  (sSeq (sSet 2 (dOV (d2 modV (dHV (dN (g1 intV) (aCons (dHV (dBx 0 1)) aNil))) (dVar 1))))
  (sSeq (sBx 0 1 (d2 divV (dHV (dBx 0 1)) (dVar 1)))
  (sRet (dOV (dVH (dVar 2)))))))
def E__law_draw : FnE := fnE 2 2 3 (some 0) (D__law_draw E__law_load)
theorem s__law_draw (a0 a1 : Sl) : E__law_draw.sem [a0, a1] = flRes 2 (some 0) ((D__law_draw E__law_load) [a0, a1, .no]) :=
  (fnE_sem 2 2 3 (some 0) (D__law_draw E__law_load) [a0, a1]).trans (congrArg (fun l => flRes 2 (some 0) ((D__law_draw E__law_load) l)) (by rfl : ([a0, a1] : List Sl) ++ List.replicate (3 - 2) .no = [a0, a1, .no]))
theorem np__law_draw : E__law_draw.np = 2 := rfl
theorem ok__law_draw {f : Addr} {fd : FuncData} (F : FunD K "_law_draw" "_law_draw" (defArgs (Hd.top 10)) (defBody (Hd.top 10)) (defScope (Hd.top 10)) [] [] f fd) (hm : mg "_law_draw" = some (.ref f)) (g_int : mg "int" = none) (C__law_load : Cal P w K mg base CX0 "_law_load" E__law_load) : Cal P w K mg base CX0 "_law_draw" E__law_draw :=
  fn_okD (N := ["box", "many", "digit"]) (ps := ["box", "many"]) (k := 1) F sc__law_draw rfl rfl hm (fun _ _ _ _ _ _ us hl => match us, hl with | [_, _], _ => rfl) fun cdv A outer s H E hr => (by
    have nd := (sc__law_draw).nd
    exact (pst_cons (st_if (pt_cmp' (o_lt hr) (ph_of (pv_bx (pv 0))) (ph_var (i := 1))) (pst_one (st_bx (pv 0) (pv_own (pow_call1 (kr := 0) C__law_load rfl (by decide) hr (by decide) pass0 (by rfl) (as_cons (ph_var (i := 0)) as_nil))))) pst_nil)
    (pst_cons (st_set (i := 2) nd rfl (by first | exact Or.inl rfl | exact Or.inr rfl) (pow_of (pv_op o_mod (ph_of (pv_callTy c_int (by rfl) g_int (by decide +kernel) (as_cons (ph_of (pv_bx (pv 0))) as_nil))) (ph_var (i := 1)))))
    (pst_cons (st_bx (pv 0) (pv_op o_div (ph_of (pv_bx (pv 0))) (ph_var (i := 1))))
    (pst_one (st_ret (pow_of (pv_of (ph_var (i := 2))))))))))
theorem sc__law_same : FnScope ["a", "b", "k"] ["a", "b"] (defScope (Hd.top 11)) := ⟨rfl, rfl, rfl, by decide +kernel, rfl, by decide +kernel, by decide +kernel⟩
def D__law_same (e__law_same : FnE) : DS := (sSeq (sIf (tOrD (tAndD (tOf (dHV (dIsi "tuple" (dVar 0)))) (tOf (dHV (dIsi "tuple" (dVar 1))))) (tAndD (tOf (dHV (dIsi "list" (dVar 0)))) (tOf (dHV (dIsi "list" (dVar 1)))))) (sRet (dOV (vAnd (d2 eqV (dHV (dN (g1 lenV) (aCons (dVar 0) aNil))) (dHV (dN (g1 lenV) (aCons (dVar 1) aNil)))) (dN (g1 allV) (aCons (dHV (dVO (dLc (dRg (dR1 (dN (g1 lenV) (aCons (dVar 0) aNil)))) (gNm 2) tYesD (dVO (callD0 e__law_same (aCons (dHV (d2 ixV (dVar 0) (dVar 2))) (aCons (dHV (d2 ixV (dVar 1) (dVar 2))) aNil)))) [2]))) aNil))))) sSkip)
  (sSeq (sIf (tOrD (tOf (dHV (dIsi "bool" (dVar 0)))) (tOf (dHV (dIsi "bool" (dVar 1))))) (sRet (dOV (vAnd (dIsi "bool" (dVar 0)) (vAnd (dIsi "bool" (dVar 1)) (d2 eqV (dVar 0) (dVar 1)))))) sSkip)
  (sSeq (sIf (tOrD (tAndD (tOf (dHV (dIsi "int" (dVar 0)))) (tOf (dHV (dIsi "int" (dVar 1))))) (tAndD (tOf (dHV (dIsi "str" (dVar 0)))) (tOf (dHV (dIsi "str" (dVar 1)))))) (sRet (dOV (d2 eqV (dVar 0) (dVar 1)))) sSkip)
  (sRet (dOV (vAnd (dIsN (dVH (dVar 0))) (dIsN (dVH (dVar 1)))))))))
def E__law_same : Nat → FnE
  | 0 => ⟨0, 2, none, fun _ => .bad⟩
  | m + 1 => fnE (0 + m + 1) 2 3 none (D__law_same (E__law_same m))
theorem lv__law_same : ∀ m, (E__law_same m).lv = 0 + m ∧ (E__law_same m).rf = none ∧ (E__law_same m).np = 2
  | 0 => ⟨rfl, rfl, rfl⟩
  | m + 1 => ⟨by show 0 + m + 1 = _; omega, rfl, rfl⟩
theorem s__law_same (m : Nat) (a0 a1 : Sl) : (E__law_same (m + 1)).sem [a0, a1] = flRes 2 none (D__law_same (E__law_same m) [a0, a1, .no]) :=
  (fnE_sem (0 + m + 1) 2 3 none (D__law_same (E__law_same m)) [a0, a1]).trans (congrArg (fun l => flRes 2 none (D__law_same (E__law_same m) l)) (by rfl : ([a0, a1] : List Sl) ++ List.replicate (3 - 2) .no = [a0, a1, .no]))
theorem ok__law_same {f : Addr} {fd : FuncData} (F : FunD K "_law_same" "_law_same" (defArgs (Hd.top 11)) (defBody (Hd.top 11)) (defScope (Hd.top 11)) [] [] f fd) (hm : mg "_law_same" = some (.ref f)) (g_isinstance : mg "isinstance" = none) (g_int : mg "int" = none) (g_str : mg "str" = none) (g_bool : mg "bool" = none) (g_tuple : mg "tuple" = none) (g_list : mg "list" = none) (g_len : mg "len" = none) (g_all : mg "all" = none) (g_range : mg "range" = none) : ∀ m, Cal P w K mg base CX0 "_law_same" (E__law_same m)
  | 0 => cal_bad (ps := ["a", "b"]) F rfl hm (fun _ _ _ _ _ _ us hl => match us, hl with | [_, _], _ => rfl)
  | m + 1 => fn_okD (N := ["a", "b", "k"]) (ps := ["a", "b"]) (k := 0 + m) F sc__law_same rfl rfl hm (fun _ _ _ _ _ _ us hl => match us, hl with | [_, _], _ => rfl) fun cdv A outer s H E hr => (by
      have nd := (sc__law_same).nd
      have C__law_same := ok__law_same F hm g_isinstance g_int g_str g_bool g_tuple g_list g_len g_all g_range m
      have hrf := (lv__law_same m).2.1
      have hlv : (E__law_same m).lv ≤ 0 + m := by rw [(lv__law_same m).1]; exact Nat.le_refl _
      exact (pst_cons (st_if (pt_w (pw_or' (pt_w (pw_and' (pt_of (ph_of (pv_isi (ph_var (i := 0)) (by rfl) g_isinstance (by rfl) g_tuple (by decide +kernel) (by simp)))) (pw_and1' (pt_of (ph_of (pv_isi (ph_var (i := 1)) (by rfl) g_isinstance (by rfl) g_tuple (by decide +kernel) (by simp))))))) (pw_or1' (pt_w (pw_and' (pt_of (ph_of (pv_isi (ph_var (i := 0)) (by rfl) g_isinstance (by rfl) g_list (by decide +kernel) (by simp)))) (pw_and1' (pt_of (ph_of (pv_isi (ph_var (i := 1)) (by rfl) g_isinstance (by rfl) g_list (by decide +kernel) (by simp)))))))))) (pst_one (st_ret (pow_of (pv_and (pv_cmp (o_eq hr) (ph_of (pv_callB c_len (by rfl) g_len (by decide +kernel) (as_cons (ph_var (i := 0)) as_nil))) (ph_of (pv_callB c_len (by rfl) g_len (by decide +kernel) (as_cons (ph_var (i := 1)) as_nil)))) (pv_one (pv_callB (c_all rfl) (by rfl) g_all (by decide +kernel) (as_cons (ph_of (pv_own (pow_lc rfl nd (it_r1 (by rfl) g_range (pv_callB c_len (by rfl) g_len (by decide +kernel) (as_cons (ph_var (i := 0)) as_nil))) (blkOk_by (own := [("k", 2)]) (by first | decide +kernel | rfl)) (fun _ _ _ _ _ => (gt_name (i := 2) nd rfl (by first | exact Or.inl rfl | exact Or.inr rfl))) (fun _ _ _ _ _ => ts_nil) (fun _ _ _ _ _ => (pv_own (pow_call0 C__law_same hrf hr hlv pass0 (by rfl) (as_cons (ph_of (pv_ix i_ix (ph_var (i := 0)) (ph_var (i := 2)))) (as_cons (ph_of (pv_ix i_ix (ph_var (i := 1)) (ph_var (i := 2)))) as_nil))))) (by decide)))) as_nil))))))) pst_nil)
    (pst_cons (st_if (pt_w (pw_or' (pt_of (ph_of (pv_isi (ph_var (i := 0)) (by rfl) g_isinstance (by rfl) g_bool (by decide +kernel) (by simp)))) (pw_or1' (pt_of (ph_of (pv_isi (ph_var (i := 1)) (by rfl) g_isinstance (by rfl) g_bool (by decide +kernel) (by simp))))))) (pst_one (st_ret (pow_of (pv_and (pv_isi (ph_var (i := 0)) (by rfl) g_isinstance (by rfl) g_bool (by decide +kernel) (by simp)) (pv_and (pv_isi (ph_var (i := 1)) (by rfl) g_isinstance (by rfl) g_bool (by decide +kernel) (by simp)) (pv_one (pv_cmp (o_eq hr) (ph_var (i := 0)) (ph_var (i := 1))))))))) pst_nil)
    (pst_cons (st_if (pt_w (pw_or' (pt_w (pw_and' (pt_of (ph_of (pv_isi (ph_var (i := 0)) (by rfl) g_isinstance (by rfl) g_int (by decide +kernel) (by simp)))) (pw_and1' (pt_of (ph_of (pv_isi (ph_var (i := 1)) (by rfl) g_isinstance (by rfl) g_int (by decide +kernel) (by simp))))))) (pw_or1' (pt_w (pw_and' (pt_of (ph_of (pv_isi (ph_var (i := 0)) (by rfl) g_isinstance (by rfl) g_str (by decide +kernel) (by simp)))) (pw_and1' (pt_of (ph_of (pv_isi (ph_var (i := 1)) (by rfl) g_isinstance (by rfl) g_str (by decide +kernel) (by simp)))))))))) (pst_one (st_ret (pow_of (pv_cmp (o_eq hr) (ph_var (i := 0)) (ph_var (i := 1)))))) pst_nil)
    (pst_one (st_ret (pow_of (pv_and (pv_isN (pv_of (ph_var (i := 0)))) (pv_one (pv_isN (pv_of (ph_var (i := 1)))))))))))))
theorem sc__law_bent : FnScope ["box", "value", "at", "pick"] ["box", "value"] (defScope (Hd.top 12)) := ⟨rfl, rfl, rfl, by decide +kernel, rfl, by decide +kernel, by decide +kernel⟩
def D__law_bent (e__law_draw : FnE) (e__law_bent : FnE) : DS := (sSeq (sIf (tAndD (tOf (dHV (dIsi "tuple" (dVar 1)))) (tAndD (tBl (d2 gtV (dHV (dN (g1 lenV) (aCons (dVar 1) aNil))) (dHV (dC (.int 0))))) (tBl (d2 gtV (dHV (dVO (callD1 e__law_draw 0 (aCons (dVar 0) (aCons (dHV (dC (.int 5))) aNil))))) (dHV (dC (.int 0))))))) (sSeq (sSet 2 (callD1 e__law_draw 0 (aCons (dVar 0) (aCons (dHV (dN (g1 lenV) (aCons (dVar 1) aNil))) aNil))))
  (sRet (dOV (d2 addV (dHV (d2 addV (dHV (dSl (dVar 1) pNone (pSome (dVH (dVar 2))))) (dHV (dTup (aCons (dHV (dVO (callD1 e__law_bent 0 (aCons (dVar 0) (aCons (dHV (d2 ixV (dVar 1) (dVar 2))) aNil))))) aNil))))) (dHV (dSl (dVar 1) (pSome (d2 addV (dVar 2) (dHV (dC (.int 1))))) pNone)))))) sSkip)
  (sSeq (sSet 3 (callD1 e__law_draw 0 (aCons (dVar 0) (aCons (dHV (dC (.int 8))) aNil))))
  (sSeq (sIf (tOf (dHV (dIsi "tuple" (dVar 1)))) (sRet (dOV (d2 ixV (dHV (dVO (dLst (aCons (dHV (d2 addV (dVar 1) (dHV (dSl (dVar 1) pNone (pSome (dC (.int 1))))))) (aCons (dHV (dSl (dVar 1) (pSome (dC (.int 1))) pNone)) (aCons (dHV (dBk (dVar 1) pNone pNone)) (aCons (dHV (d2 addV (dVar 1) (dHV (dTup (aCons (dHV (dC (.int 0))) aNil))))) (aCons (dHV (d2 addV (dHV (dSl (dVar 1) pNone (pSome (dC (.int 1))))) (dVar 1))) (aCons (dHV (dSl (dVar 1) pNone (pSome (dNeg (dC (.int 1)))))) (aCons (dHV (dC .non)) (aCons (dHV (dSl (dVar 1) pNone (pSome (dC (.int 1))))) aNil))))))))))) (dVar 3)))) sSkip)
  (sSeq (sIf (tAndD (tOf (dHV (dIsi "int" (dVar 1)))) (tNotD (tOf (dHV (dIsi "bool" (dVar 1)))))) (sRet (dOV (d2 ixV (dHV (dVO (dLst (aCons (dHV (d2 addV (dVar 1) (dHV (dC (.int 1))))) (aCons (dHV (d2 subV (dVar 1) (dHV (dC (.int 1))))) (aCons (dHV (dNeg (dVH (dVar 1)))) (aCons (dHV (d2 eqV (dVar 1) (dHV (dC (.int 1))))) (aCons (dHV (dC .non)) (aCons (dHV (dN (g1 strV) (aCons (dVar 1) aNil))) (aCons (dHV (dTup (aCons (dVar 1) aNil))) (aCons (dHV (d2 addV (dVar 1) (dHV (dC (.int 1001))))) aNil))))))))))) (dVar 3)))) sSkip)
  (sSeq (sIf (tOf (dHV (dIsi "str" (dVar 1)))) (sRet (dOV (d2 ixV (dHV (dVO (dLst (aCons (dHV (d2 addV (dVar 1) (dHV (dC (.str "a"))))) (aCons (dHV (dSl (dVar 1) (pSome (dC (.int 1))) pNone)) (aCons (dHV (dC (.str "any"))) (aCons (dHV dBad) (aCons (dHV (dC (.int 0))) (aCons (dHV (dC (.str ""))) (aCons (dHV (d2 addV (dVar 1) (dHV (dC (.str "z0z0z0z0"))))) (aCons (dHV (dTup (aCons (dVar 1) aNil))) aNil))))))))))) (dVar 3)))) sSkip)
  (sRet (dOV (d2 ixV (dHV (dVO (dLst (aCons (dHV (dC (.int 0))) (aCons (dHV (dC (.int 1))) (aCons (dHV (dC .non)) (aCons (dHV (dC (.bl true))) (aCons (dHV (dC (.bl false))) (aCons (dHV (dC (.str "a"))) (aCons (dHV (dTup aNil)) (aCons (dHV (dNeg (dC (.int 1)))) aNil))))))))))) (dVar 3)))))))))
def E__law_bent : Nat → FnE
  | 0 => ⟨2, 2, (some 0), fun _ => .bad⟩
  | m + 1 => fnE (2 + m + 1) 2 4 (some 0) (D__law_bent E__law_draw (E__law_bent m))
theorem lv__law_bent : ∀ m, (E__law_bent m).lv = 2 + m ∧ (E__law_bent m).rf = (some 0) ∧ (E__law_bent m).np = 2
  | 0 => ⟨rfl, rfl, rfl⟩
  | m + 1 => ⟨by show 2 + m + 1 = _; omega, rfl, rfl⟩
theorem s__law_bent (m : Nat) (a0 a1 : Sl) : (E__law_bent (m + 1)).sem [a0, a1] = flRes 2 (some 0) (D__law_bent E__law_draw (E__law_bent m) [a0, a1, .no, .no]) :=
  (fnE_sem (2 + m + 1) 2 4 (some 0) (D__law_bent E__law_draw (E__law_bent m)) [a0, a1]).trans (congrArg (fun l => flRes 2 (some 0) (D__law_bent E__law_draw (E__law_bent m) l)) (by rfl : ([a0, a1] : List Sl) ++ List.replicate (4 - 2) .no = [a0, a1, .no, .no]))
theorem ok__law_bent {f : Addr} {fd : FuncData} (F : FunD K "_law_bent" "_law_bent" (defArgs (Hd.top 12)) (defBody (Hd.top 12)) (defScope (Hd.top 12)) [] [] f fd) (hm : mg "_law_bent" = some (.ref f)) (g_isinstance : mg "isinstance" = none) (g_str : mg "str" = none) (g_int : mg "int" = none) (g_bool : mg "bool" = none) (g_tuple : mg "tuple" = none) (g_len : mg "len" = none) (C__law_draw : Cal P w K mg base CX0 "_law_draw" E__law_draw) : ∀ m, Cal P w K mg base CX0 "_law_bent" (E__law_bent m)
  | 0 => cal_bad (ps := ["box", "value"]) F rfl hm (fun _ _ _ _ _ _ us hl => match us, hl with | [_, _], _ => rfl)
  | m + 1 => fn_okD (N := ["box", "value", "at", "pick"]) (ps := ["box", "value"]) (k := 2 + m) F sc__law_bent rfl rfl hm (fun _ _ _ _ _ _ us hl => match us, hl with | [_, _], _ => rfl) fun cdv A outer s H E hr => (by
      have nd := (sc__law_bent).nd
      have C__law_bent := ok__law_bent F hm g_isinstance g_str g_int g_bool g_tuple g_len C__law_draw m
      have hrf := (lv__law_bent m).2.1
      have hlv : (E__law_bent m).lv ≤ 2 + m := by rw [(lv__law_bent m).1]; exact Nat.le_refl _
      have hkr : 0 < (E__law_bent m).np := by rw [(lv__law_bent m).2.2]; decide
      exact (pst_cons (st_if (pt_w (pw_and' (pt_of (ph_of (pv_isi (ph_var (i := 1)) (by rfl) g_isinstance (by rfl) g_tuple (by decide +kernel) (by simp)))) (pw_and' (pt_cmp' (o_gt hr) (ph_of (pv_callB c_len (by rfl) g_len (by decide +kernel) (as_cons (ph_var (i := 1)) as_nil))) (ph_of pv_int)) (pw_and1' (pt_cmp' (o_gt hr) (ph_of (pv_own (pow_call1 (kr := 0) C__law_draw rfl (by decide) hr (Nat.le_trans (by decide) (Nat.le_add_right _ _)) pass0 (by rfl) (as_cons (ph_var (i := 0)) (as_cons (ph_of pv_int) as_nil))))) (ph_of pv_int)))))) (pst_cons (st_set (i := 2) nd rfl (by first | exact Or.inl rfl | exact Or.inr rfl) (pow_call1 (kr := 0) C__law_draw rfl (by decide) hr (Nat.le_trans (by decide) (Nat.le_add_right _ _)) pass0 (by rfl) (as_cons (ph_var (i := 0)) (as_cons (ph_of (pv_callB c_len (by rfl) g_len (by decide +kernel) (as_cons (ph_var (i := 1)) as_nil))) as_nil))))
    (pst_one (st_ret (pow_of (pv_op o_add (ph_of (pv_op o_add (ph_of (pv_slice (ph_var (i := 1)) pp_none (pp_some (pv_of (ph_var (i := 2)))))) (ph_of (pv_tup (as_cons (ph_of (pv_own (pow_call1 (kr := 0) C__law_bent hrf hkr hr hlv pass0 (by rfl) (as_cons (ph_var (i := 0)) (as_cons (ph_of (pv_ix i_ix (ph_var (i := 1)) (ph_var (i := 2)))) as_nil))))) as_nil))))) (ph_of (pv_slice (ph_var (i := 1)) (pp_some (pv_op o_add (ph_var (i := 2)) (ph_of pv_int))) pp_none))))))) pst_nil)
    (pst_cons (st_set (i := 3) nd rfl (by first | exact Or.inl rfl | exact Or.inr rfl) (pow_call1 (kr := 0) C__law_draw rfl (by decide) hr (Nat.le_trans (by decide) (Nat.le_add_right _ _)) pass0 (by rfl) (as_cons (ph_var (i := 0)) (as_cons (ph_of pv_int) as_nil))))
    (pst_cons (st_if (pt_of (ph_of (pv_isi (ph_var (i := 1)) (by rfl) g_isinstance (by rfl) g_tuple (by decide +kernel) (by simp)))) (pst_one (st_ret (pow_of (pv_ix i_ix (ph_of (pv_own (pow_lst (as_cons (ph_of (pv_op o_add (ph_var (i := 1)) (ph_of (pv_slice (ph_var (i := 1)) pp_none (pp_some pv_int))))) (as_cons (ph_of (pv_slice (ph_var (i := 1)) (pp_some pv_int) pp_none)) (as_cons (ph_of (pv_back (ph_var (i := 1)) pp_none pp_none)) (as_cons (ph_of (pv_op o_add (ph_var (i := 1)) (ph_of (pv_tup (as_cons (ph_of pv_int) as_nil))))) (as_cons (ph_of (pv_op o_add (ph_of (pv_slice (ph_var (i := 1)) pp_none (pp_some pv_int))) (ph_var (i := 1)))) (as_cons (ph_of (pv_slice (ph_var (i := 1)) pp_none (pp_some (pv_neg pv_int)))) (as_cons (ph_of pv_non) (as_cons (ph_of (pv_slice (ph_var (i := 1)) pp_none (pp_some pv_int))) as_nil))))))))))) (ph_var (i := 3)))))) pst_nil)
    (pst_cons (st_if (pt_w (pw_and' (pt_of (ph_of (pv_isi (ph_var (i := 1)) (by rfl) g_isinstance (by rfl) g_int (by decide +kernel) (by simp)))) (pw_and1' (pt_not' (pt_of (ph_of (pv_isi (ph_var (i := 1)) (by rfl) g_isinstance (by rfl) g_bool (by decide +kernel) (by simp)))))))) (pst_one (st_ret (pow_of (pv_ix i_ix (ph_of (pv_own (pow_lst (as_cons (ph_of (pv_op o_add (ph_var (i := 1)) (ph_of pv_int))) (as_cons (ph_of (pv_op o_sub (ph_var (i := 1)) (ph_of pv_int))) (as_cons (ph_of (pv_neg (pv_of (ph_var (i := 1))))) (as_cons (ph_of (pv_cmp (o_eq hr) (ph_var (i := 1)) (ph_of pv_int))) (as_cons (ph_of pv_non) (as_cons (ph_of (pv_callTy c_str (by rfl) g_str (by decide +kernel) (as_cons (ph_var (i := 1)) as_nil))) (as_cons (ph_of (pv_tup (as_cons (ph_var (i := 1)) as_nil))) (as_cons (ph_of (pv_op o_add (ph_var (i := 1)) (ph_of pv_int))) as_nil))))))))))) (ph_var (i := 3)))))) pst_nil)
    (pst_cons (st_if (pt_of (ph_of (pv_isi (ph_var (i := 1)) (by rfl) g_isinstance (by rfl) g_str (by decide +kernel) (by simp)))) (pst_one (st_ret (pow_of (pv_ix i_ix (ph_of (pv_own (pow_lst (as_cons (ph_of (pv_op o_add (ph_var (i := 1)) (ph_of pv_str))) (as_cons (ph_of (pv_slice (ph_var (i := 1)) (pp_some pv_int) pp_none)) (as_cons (ph_of pv_str) (as_cons (ph_of pv_bad) (as_cons (ph_of pv_int) (as_cons (ph_of pv_str) (as_cons (ph_of (pv_op o_add (ph_var (i := 1)) (ph_of pv_str))) (as_cons (ph_of (pv_tup (as_cons (ph_var (i := 1)) as_nil))) as_nil))))))))))) (ph_var (i := 3)))))) pst_nil)
    (pst_one (st_ret (pow_of (pv_ix i_ix (ph_of (pv_own (pow_lst (as_cons (ph_of pv_int) (as_cons (ph_of pv_int) (as_cons (ph_of pv_non) (as_cons (ph_of pv_bl) (as_cons (ph_of pv_bl) (as_cons (ph_of pv_str) (as_cons (ph_of (pv_tup as_nil)) (as_cons (ph_of (pv_neg pv_int)) as_nil))))))))))) (ph_var (i := 3))))))))))))
theorem sc__law_precedence : FnScope ["stays", "n", "links", "a", "b"] ["stays"] (defScope (Hd.top 13)) := ⟨rfl, rfl, rfl, by decide +kernel, rfl, by decide +kernel, by decide +kernel⟩
def C1__law_precedence  : DO := (dLc (dRg (dR1 (dVH (dVar 1)))) (gNm 4) (tBl (d2 ltV (dHV (d2 ixV (dHV (d2 ixV (dVar 0) (dVar 3))) (dHV (dC (.int 1))))) (dHV (d2 ixV (dHV (d2 ixV (dVar 0) (dVar 4))) (dHV (dC (.int 0))))))) (dTup (aCons (dVar 3) (aCons (dVar 4) aNil))) [4])
def L1__law_precedence  : DS := (sSet 2 (dOV (d2 addV (dVar 2) (dHV (dVO C1__law_precedence)))))
def F1__law_precedence  : DS := (sFor (dRg (dR1 (dVH (dVar 1)))) (gNm 3) L1__law_precedence)
def D__law_precedence  : DS := (sSeq (sSet 1 (dOV (dN (g1 lenV) (aCons (dVar 0) aNil))))
  (sSeq (sSet 2 (dLst aNil))
  (sSeq F1__law_precedence
  (sRet (dOV (dTup (aCons (dVar 1) (aCons (dHV (dN (g1 tupV) (aCons (dVar 2) aNil))) aNil))))))))
def E__law_precedence : FnE := fnE 1 1 5 none D__law_precedence
theorem s__law_precedence (a0 : Sl) : E__law_precedence.sem [a0] = flRes 1 none (D__law_precedence [a0, .no, .no, .no, .no]) :=
  (fnE_sem 1 1 5 none D__law_precedence [a0]).trans (congrArg (fun l => flRes 1 none (D__law_precedence l)) (by rfl : ([a0] : List Sl) ++ List.replicate (5 - 1) .no = [a0, .no, .no, .no, .no]))
theorem np__law_precedence : E__law_precedence.np = 1 := rfl
theorem ok__law_precedence {f : Addr} {fd : FuncData} (F : FunD K "_law_precedence" "_law_precedence" (defArgs (Hd.top 13)) (defBody (Hd.top 13)) (defScope (Hd.top 13)) [] [] f fd) (hm : mg "_law_precedence" = some (.ref f)) (g_tuple : mg "tuple" = none) (g_range : mg "range" = none) (g_len : mg "len" = none) : Cal P w K mg base CX0 "_law_precedence" E__law_precedence :=
  fn_okD (N := ["stays", "n", "links", "a", "b"]) (ps := ["stays"]) (k := 0) F sc__law_precedence rfl rfl hm (fun _ _ _ _ _ _ us hl => match us, hl with | [_], _ => rfl) fun cdv A outer s H E hr => (by
    have nd := (sc__law_precedence).nd
    exact (pst_cons (st_set (i := 1) nd rfl (by first | exact Or.inl rfl | exact Or.inr rfl) (pow_of (pv_callB c_len (by rfl) g_len (by decide +kernel) (as_cons (ph_var (i := 0)) as_nil))))
    (pst_cons (st_set (i := 2) nd rfl (by first | exact Or.inl rfl | exact Or.inr rfl) (pow_lst as_nil))
    (pst_cons (st_for PassesOwn.never rfl (it_r1 (by rfl) g_range (pv_of (ph_var (i := 1)))) (gt_name (i := 3) nd rfl (by first | exact Or.inl rfl | exact Or.inr rfl)) (pst_one (st_set (i := 2) nd rfl (by first | exact Or.inl rfl | exact Or.inr rfl) (pow_of (pv_op o_add (ph_var (i := 2)) (ph_of (pv_own (pow_lc rfl nd (it_r1 (by rfl) g_range (pv_of (ph_var (i := 1)))) (blkOk_by (own := [("b", 4)]) (by first | decide +kernel | rfl)) (fun _ _ _ _ _ => (gt_name (i := 4) nd rfl (by first | exact Or.inl rfl | exact Or.inr rfl))) (fun _ _ _ _ _ => (ts_one (pt_cmp' (o_lt hr) (ph_of (pv_ix i_ix (ph_of (pv_ix i_ix (ph_var (i := 0)) (ph_var (i := 3)))) (ph_of pv_int))) (ph_of (pv_ix i_ix (ph_of (pv_ix i_ix (ph_var (i := 0)) (ph_var (i := 4)))) (ph_of pv_int)))))) (fun _ _ _ _ _ => (pv_tup (as_cons (ph_var (i := 3)) (as_cons (ph_var (i := 4)) as_nil)))) (by decide)))))))))
    (pst_one (st_ret (pow_of (pv_tup (as_cons (ph_var (i := 1)) (as_cons (ph_of (pv_callTy c_tuple (by rfl) g_tuple (by decide +kernel) (as_cons (ph_var (i := 2)) as_nil))) as_nil))))))))))
theorem sc__law_stays : FnScope ["box", "n", "wide", "top", "firsts", "i", "first"] ["box", "n", "wide", "top"] (defScope (Hd.top 14)) := ⟨rfl, rfl, rfl, by decide +kernel, rfl, by decide +kernel, by decide +kernel⟩
def C1__law_stays (e__law_draw : FnE) : DO := (dLc (dIt (dVH (dVar 4))) (gNm 6) tYesD (dTup (aCons (dVar 6) (aCons (dHV (d2 addV (dVar 6) (dHV (dVO (callD1 e__law_draw 0 (aCons (dVar 0) (aCons (dVar 3) aNil))))))) aNil))) [6])
def C2__law_stays (e__law_draw : FnE) : DO := (dLc (dRg (dR1 (dVH (dVar 1)))) (gNm 5) tYesD (dVO (callD1 e__law_draw 0 (aCons (dVar 0) (aCons (dVar 2) aNil)))) [5])
def D__law_stays (e__law_draw : FnE) : DS := (sSeq (sSet 4 (C2__law_stays e__law_draw))
  (sRet (dOV (dN (g1 tupV) (aCons (dHV (dVO (C1__law_stays e__law_draw))) aNil)))))
def E__law_stays : FnE := fnE 3 4 7 (some 0) (D__law_stays E__law_draw)
theorem s__law_stays (a0 a1 a2 a3 : Sl) : E__law_stays.sem [a0, a1, a2, a3] = flRes 4 (some 0) ((D__law_stays E__law_draw) [a0, a1, a2, a3, .no, .no, .no]) :=
  (fnE_sem 3 4 7 (some 0) (D__law_stays E__law_draw) [a0, a1, a2, a3]).trans (congrArg (fun l => flRes 4 (some 0) ((D__law_stays E__law_draw) l)) (by rfl : ([a0, a1, a2, a3] : List Sl) ++ List.replicate (7 - 4) .no = [a0, a1, a2, a3, .no, .no, .no]))
theorem np__law_stays : E__law_stays.np = 4 := rfl
theorem ok__law_stays {f : Addr} {fd : FuncData} (F : FunD K "_law_stays" "_law_stays" (defArgs (Hd.top 14)) (defBody (Hd.top 14)) (defScope (Hd.top 14)) [] [] f fd) (hm : mg "_law_stays" = some (.ref f)) (g_tuple : mg "tuple" = none) (g_range : mg "range" = none) (C__law_draw : Cal P w K mg base CX0 "_law_draw" E__law_draw) : Cal P w K mg base CX0 "_law_stays" E__law_stays :=
  fn_okD (N := ["box", "n", "wide", "top", "firsts", "i", "first"]) (ps := ["box", "n", "wide", "top"]) (k := 2) F sc__law_stays rfl rfl hm (fun _ _ _ _ _ _ us hl => match us, hl with | [_, _, _, _], _ => rfl) fun cdv A outer s H E hr => (by
    have nd := (sc__law_stays).nd
    exact (pst_cons (st_setLc (i := 4) rfl nd rfl rfl (sw_true rfl rfl rfl (by decide +kernel)) (it_r1 (by rfl) g_range (pv_of (ph_var (i := 1)))) (blkOk_by (own := [("i", 5)]) (by first | decide +kernel | rfl)) (fun _ _ _ _ _ => (gt_name (i := 5) nd rfl (by first | exact Or.inl rfl | exact Or.inr rfl))) (fun _ _ _ _ _ => ts_nil) (fun _ _ _ _ _ => (pv_own (pow_call1 (kr := 0) C__law_draw rfl (by decide) hr (by decide) pass0 (by rfl) (as_cons (ph_var (i := 0)) (as_cons (ph_var (i := 2)) as_nil))))) (by decide))
    (pst_one (st_ret (pow_of (pv_callTy c_tuple (by rfl) g_tuple (by decide +kernel) (as_cons (ph_of (pv_own (pow_lc rfl nd (it_val (pv_of (ph_var (i := 4)))) (blkOk_by (own := [("first", 6)]) (by first | decide +kernel | rfl)) (fun _ _ _ _ _ => (gt_name (i := 6) nd rfl (by first | exact Or.inl rfl | exact Or.inr rfl))) (fun _ _ _ _ _ => ts_nil) (fun _ _ _ _ _ => (pv_tup (as_cons (ph_var (i := 6)) (as_cons (ph_of (pv_op o_add (ph_var (i := 6)) (ph_of (pv_own (pow_call1 (kr := 0) C__law_draw rfl (by decide) hr (by decide) pass0 (by rfl) (as_cons (ph_var (i := 0)) (as_cons (ph_var (i := 3)) as_nil))))))) as_nil)))) (by decide)))) as_nil)))))))
theorem sc__law_clock : FnScope ["box", "most", "count", "n", "stays", "bounds", "points", "hours", "first", "last", "loose", "k", "a", "b", "g"] ["box", "most", "count"] (defScope (Hd.top 15)) := ⟨rfl, rfl, rfl, by decide +kernel, rfl, by decide +kernel, by decide +kernel⟩
def L1__law_clock (e__law_draw : FnE) : DS := (sSeq (sSet 12 (callD1 e__law_draw 0 (aCons (dVar 0) (aCons (dHV (dN (g1 lenV) (aCons (dVar 6) aNil))) aNil))))
  (sSeq (sSet 13 (callD1 e__law_draw 0 (aCons (dVar 0) (aCons (dHV (dN (g1 lenV) (aCons (dVar 6) aNil))) aNil))))
  (sIf (tBl (d2 neV (dVar 12) (dVar 13))) (sSeq (sSet 14 (dOV (d2 addV (dHV (d2 subV (dHV (d2 subV (dHV (d2 ixV (dVar 7) (dVar 13))) (dHV (d2 ixV (dVar 7) (dVar 12))))) (dHV (dVO (callD1 e__law_draw 0 (aCons (dVar 0) (aCons (dHV (dC (.int 4))) aNil))))))) (dHV (d2 mulV (dVar 10) (dHV (dN (g1 intV) (aCons (dHV (d2 eqV (dHV (dVO (callD1 e__law_draw 0 (aCons (dVar 0) (aCons (dHV (dC (.int 6))) aNil))))) (dHV (dC (.int 0))))) aNil))))))))
  (sDrop (dOV (dU appV 5 (aCons (dHV (dTup (aCons (dHV (d2 ixV (dVar 6) (dVar 12))) (aCons (dHV (d2 ixV (dVar 6) (dVar 13))) (aCons (dVar 14) aNil))))) aNil))))) sSkip)))
def F1__law_clock (e__law_draw : FnE) : DS := (sFor (dRg (dR1 (dVO (callD1 e__law_draw 0 (aCons (dVar 0) (aCons (dHV (d2 addV (dVar 2) (dHV (dC (.int 1))))) aNil)))))) (gNm 11) (L1__law_clock e__law_draw))
def L2__law_clock  : DS := (sSet 7 (dOV (d2 addV (dVar 7) (dHV (dVO (dLst (aCons (dVar 8) (aCons (dVar 9) aNil))))))))
def F2__law_clock  : DS := (sForV 4 (gTp 2 (gC (gNm 8) (gC (gNm 9) gN))) L2__law_clock)
def D__law_clock (e__law_precedence : FnE) (e__law_draw : FnE) (e__law_stays : FnE) : DS := (sSeq (sSet 3 (callD1 e__law_draw 0 (aCons (dVar 0) (aCons (dHV (d2 addV (dVar 1) (dHV (dC (.int 1))))) aNil))))
  (sSeq (sSet 4 (callD1 e__law_stays 0 (aCons (dVar 0) (aCons (dVar 3) (aCons (dHV (dC (.int 12))) (aCons (dHV (dC (.int 6))) aNil))))))
  (sSeq (sPo 5 6 (dLst aNil) (dOV (d2 addV (dHV (dVO (dLst (aCons (dHV (dNeg (dC (.int 1)))) aNil)))) (dHV (dVO (dLR (dR1 (d2 mulV (dHV (dC (.int 2))) (dVar 3)))))))))
  (sSeq (sSet 7 (dLst (aCons (dHV (dC (.int 0))) aNil)))
  (sSeq F2__law_clock
  (sSeq (sSet 10 (callD1 e__law_draw 0 (aCons (dVar 0) (aCons (dHV (dC (.int 3))) aNil))))
  (sSeq (F1__law_clock e__law_draw)
  (sRet (dOV (dTup (aCons (dHV (dTup (aCons (dHV (dVO (callD0 e__law_precedence (aCons (dVar 4) aNil)))) (aCons (dHV (dN (g1 tupV) (aCons (dHV (dVO (dNo (go1 sdTV) (aCons (dVar 5) aNil)))) aNil))) aNil)))) (aCons (dVar 4) aNil))))))))))))
def E__law_clock : FnE := fnE 4 3 15 (some 0) (D__law_clock E__law_precedence E__law_draw E__law_stays)
theorem s__law_clock (a0 a1 a2 : Sl) : E__law_clock.sem [a0, a1, a2] = flRes 3 (some 0) ((D__law_clock E__law_precedence E__law_draw E__law_stays) [a0, a1, a2, .no, .no, .no, .no, .no, .no, .no, .no, .no, .no, .no, .no]) :=
  (fnE_sem 4 3 15 (some 0) (D__law_clock E__law_precedence E__law_draw E__law_stays) [a0, a1, a2]).trans (congrArg (fun l => flRes 3 (some 0) ((D__law_clock E__law_precedence E__law_draw E__law_stays) l)) (by rfl : ([a0, a1, a2] : List Sl) ++ List.replicate (15 - 3) .no = [a0, a1, a2, .no, .no, .no, .no, .no, .no, .no, .no, .no, .no, .no, .no]))
theorem np__law_clock : E__law_clock.np = 3 := rfl
theorem ok__law_clock {f : Addr} {fd : FuncData} (F : FunD K "_law_clock" "_law_clock" (defArgs (Hd.top 15)) (defBody (Hd.top 15)) (defScope (Hd.top 15)) [] [] f fd) (hm : mg "_law_clock" = some (.ref f)) (g_tuple : mg "tuple" = none) (g_sorted : mg "sorted" = none) (g_set : mg "set" = none) (g_int : mg "int" = none) (g_len : mg "len" = none) (g_range : mg "range" = none) (g_list : mg "list" = none) (C__law_precedence : Cal P w K mg base CX0 "_law_precedence" E__law_precedence) (C__law_draw : Cal P w K mg base CX0 "_law_draw" E__law_draw) (C__law_stays : Cal P w K mg base CX0 "_law_stays" E__law_stays) : Cal P w K mg base CX0 "_law_clock" E__law_clock :=
  fn_okD (N := ["box", "most", "count", "n", "stays", "bounds", "points", "hours", "first", "last", "loose", "k", "a", "b", "g"]) (ps := ["box", "most", "count"]) (k := 3) F sc__law_clock rfl rfl hm (fun _ _ _ _ _ _ us hl => match us, hl with | [_, _, _], _ => rfl) fun cdv A outer s H E hr => (by
    have nd := (sc__law_clock).nd
    exact (pst_cons (st_set (i := 3) nd rfl (by first | exact Or.inl rfl | exact Or.inr rfl) (pow_call1 (kr := 0) C__law_draw rfl (by decide) hr (by decide) pass0 (by rfl) (as_cons (ph_var (i := 0)) (as_cons (ph_of (pv_op o_add (ph_var (i := 1)) (ph_of pv_int))) as_nil))))
    (pst_cons (st_set (i := 4) nd rfl (by first | exact Or.inl rfl | exact Or.inr rfl) (pow_call1 (kr := 0) C__law_stays rfl (by decide) hr (by decide) pass0 (by rfl) (as_cons (ph_var (i := 0)) (as_cons (ph_var (i := 3)) (as_cons (ph_of pv_int) (as_cons (ph_of pv_int) as_nil))))))
    (pst_cons (st_par2 (i := 5) (j := 6) rfl nd rfl rfl (by decide) rfl rfl (pow_lst as_nil) (pow_of (pv_op o_add (ph_of (pv_own (pow_lst (as_cons (ph_of (pv_neg pv_int)) as_nil)))) (ph_of (pv_own (pow_listRg rfl (by rfl) g_list (pr_1 (by rfl) g_range (pv_op o_mul (ph_of pv_int) (ph_var (i := 3))))))))) rfl)
    (pst_cons (st_set (i := 7) nd rfl (by first | exact Or.inl rfl | exact Or.inr rfl) (pow_lst (as_cons (ph_of pv_int) as_nil)))
    (pst_cons (st_forV PassesOwn.never rfl (ph_var (i := 4)) (pv 4) (gt_tup rfl (gt_cons (gt_name (i := 8) nd rfl (by first | exact Or.inl rfl | exact Or.inr rfl)) (gt_cons (gt_name (i := 9) nd rfl (by first | exact Or.inl rfl | exact Or.inr rfl)) gt_nil))) (pst_one (st_set (i := 7) nd rfl (by first | exact Or.inl rfl | exact Or.inr rfl) (pow_of (pv_op o_add (ph_var (i := 7)) (ph_of (pv_own (pow_lst (as_cons (ph_var (i := 8)) (as_cons (ph_var (i := 9)) as_nil))))))))))
    (pst_cons (st_set (i := 10) nd rfl (by first | exact Or.inl rfl | exact Or.inr rfl) (pow_call1 (kr := 0) C__law_draw rfl (by decide) hr (by decide) pass0 (by rfl) (as_cons (ph_var (i := 0)) (as_cons (ph_of pv_int) as_nil))))
    (pst_cons (st_for PassesOwn.never rfl (it_r1 (by rfl) g_range (pv_own (pow_call1 (kr := 0) C__law_draw rfl (by decide) hr (by decide) pass0 (by rfl) (as_cons (ph_var (i := 0)) (as_cons (ph_of (pv_op o_add (ph_var (i := 2)) (ph_of pv_int))) as_nil))))) (gt_name (i := 11) nd rfl (by first | exact Or.inl rfl | exact Or.inr rfl)) (pst_cons (st_set (i := 12) nd rfl (by first | exact Or.inl rfl | exact Or.inr rfl) (pow_call1 (kr := 0) C__law_draw rfl (by decide) hr (by decide) pass0 (by rfl) (as_cons (ph_var (i := 0)) (as_cons (ph_of (pv_callB c_len (by rfl) g_len (by decide +kernel) (as_cons (ph_var (i := 6)) as_nil))) as_nil))))
    (pst_cons (st_set (i := 13) nd rfl (by first | exact Or.inl rfl | exact Or.inr rfl) (pow_call1 (kr := 0) C__law_draw rfl (by decide) hr (by decide) pass0 (by rfl) (as_cons (ph_var (i := 0)) (as_cons (ph_of (pv_callB c_len (by rfl) g_len (by decide +kernel) (as_cons (ph_var (i := 6)) as_nil))) as_nil))))
    (pst_one (st_if (pt_cmp' (o_ne hr) (ph_var (i := 12)) (ph_var (i := 13))) (pst_cons (st_set (i := 14) nd rfl (by first | exact Or.inl rfl | exact Or.inr rfl) (pow_of (pv_op o_add (ph_of (pv_op o_sub (ph_of (pv_op o_sub (ph_of (pv_ix i_ix (ph_var (i := 7)) (ph_var (i := 13)))) (ph_of (pv_ix i_ix (ph_var (i := 7)) (ph_var (i := 12)))))) (ph_of (pv_own (pow_call1 (kr := 0) C__law_draw rfl (by decide) hr (by decide) pass0 (by rfl) (as_cons (ph_var (i := 0)) (as_cons (ph_of pv_int) as_nil))))))) (ph_of (pv_op o_mul (ph_var (i := 10)) (ph_of (pv_callTy c_int (by rfl) g_int (by decide +kernel) (as_cons (ph_of (pv_cmp (o_eq hr) (ph_of (pv_own (pow_call1 (kr := 0) C__law_draw rfl (by decide) hr (by decide) pass0 (by rfl) (as_cons (ph_var (i := 0)) (as_cons (ph_of pv_int) as_nil))))) (ph_of pv_int))) as_nil))))))))
    (pst_one (st_expr (pow_of (pv_bmU PySem.F.slot_list_append PySem.F.type_list_append m_append (pv 5) (as_cons (ph_of (pv_tup (as_cons (ph_of (pv_ix i_ix (ph_var (i := 6)) (ph_var (i := 12)))) (as_cons (ph_of (pv_ix i_ix (ph_var (i := 6)) (ph_var (i := 13)))) (as_cons (ph_var (i := 14)) as_nil))))) as_nil)))))) pst_nil)))))
    (pst_one (st_ret (pow_of (pv_tup (as_cons (ph_of (pv_tup (as_cons (ph_of (pv_own (pow_call0 C__law_precedence rfl hr (by decide) pass0 (by rfl) (as_cons (ph_var (i := 4)) as_nil)))) (as_cons (ph_of (pv_callTy c_tuple (by rfl) g_tuple (by decide +kernel) (as_cons (ph_of (pv_own (pow_sortedSetT rfl hr (by rfl) g_sorted (by rfl) g_set (as_cons (ph_var (i := 5)) as_nil)))) as_nil))) as_nil)))) (as_cons (ph_var (i := 4)) as_nil))))))))))))))
theorem sc__law_gain : FnScope ["clock", "give", "a", "b", "links", "rows", "i", "j", "c", "d", "g"] ["clock", "give", "a", "b"] (defScope (Hd.top 16)) := ⟨rfl, rfl, rfl, by decide +kernel, rfl, by decide +kernel, by decide +kernel⟩
def C1__law_gain  : DO := (dLc (dIt (d2 ixV (dVar 0) (dHV (dC (.int 1))))) (gTp 3 (gC (gNm 8) (gC (gNm 9) (gC (gNm 10) gN)))) (tAndD (tBl (d2 eqV (dVar 8) (dVar 2))) (tBl (d2 eqV (dVar 9) (dVar 3)))) (d2 subV (dVar 10) (dVar 1)) [8, 9, 10])
def D__law_gain  : DS := (sSeq (sPo 4 5 (dOV (d2 ixV (dHV (d2 ixV (dVar 0) (dHV (dC (.int 0))))) (dHV (dC (.int 1))))) C1__law_gain)
  (sSeq (sPar 6 7 (aCons (dHV (d2 divV (dVar 2) (dHV (dC (.int 2))))) (aCons (dHV (d2 divV (dVar 3) (dHV (dC (.int 2))))) aNil)))
  (sSeq (sIf (tBl (d2 eqV (dVar 2) (dHV (dNeg (dC (.int 1)))))) (sDrop (dOV (dU appV 5 (aCons (dHV (dC (.int 0))) aNil)))) (sIf (tBl (d2 eqV (dVar 3) (dHV (dNeg (dC (.int 1)))))) (sDrop (dOV (dU appV 5 (aCons (dHV (dNeg (dC (.int 1000000)))) aNil)))) (sIf (tBl (d2 eqV (dVar 6) (dVar 7))) (sIf (tBl (d2 ltV (dVar 2) (dVar 3))) (sDrop (dOV (dU appV 5 (aCons (dHV (dC (.int 0))) aNil)))) sSkip) (sIf (tAndD (tBl (d2 eqV (dVar 2) (dHV (d2 addV (dHV (d2 mulV (dHV (dC (.int 2))) (dVar 6))) (dHV (dC (.int 1))))))) (tBl (d2 eqV (dVar 3) (dHV (d2 mulV (dHV (dC (.int 2))) (dVar 7)))))) (sIf (tBl (d2 inV (dHV (dTup (aCons (dVar 6) (aCons (dVar 7) aNil)))) (dVar 4))) (sDrop (dOV (dU appV 5 (aCons (dHV (dC (.int 1))) aNil)))) sSkip) (sIf (tAndD (tBl (d2 eqV (dVar 2) (dHV (d2 mulV (dHV (dC (.int 2))) (dVar 6))))) (tAndD (tBl (d2 eqV (dVar 3) (dHV (d2 addV (dHV (d2 mulV (dHV (dC (.int 2))) (dVar 7))) (dHV (dC (.int 1))))))) (tAndD (tBl (d2 ninV (dHV (dTup (aCons (dVar 6) (aCons (dVar 7) aNil)))) (dVar 4))) (tBl (d2 ninV (dHV (dTup (aCons (dVar 7) (aCons (dVar 6) aNil)))) (dVar 4)))))) (sDrop (dOV (dU appV 5 (aCons (dHV (dC (.int 0))) aNil)))) sSkip)))))
  (sRet (dOV (dIf (tBl (d2 neV (dVar 5) (dHV (dVO (dLst aNil))))) (dN (g1 maxLV) (aCons (dVar 5) aNil)) (dC .non)))))))
def E__law_gain : FnE := fnE 1 4 11 none D__law_gain
theorem s__law_gain (a0 a1 a2 a3 : Sl) : E__law_gain.sem [a0, a1, a2, a3] = flRes 4 none (D__law_gain [a0, a1, a2, a3, .no, .no, .no, .no, .no, .no, .no]) :=
  (fnE_sem 1 4 11 none D__law_gain [a0, a1, a2, a3]).trans (congrArg (fun l => flRes 4 none (D__law_gain l)) (by rfl : ([a0, a1, a2, a3] : List Sl) ++ List.replicate (11 - 4) .no = [a0, a1, a2, a3, .no, .no, .no, .no, .no, .no, .no]))
theorem np__law_gain : E__law_gain.np = 4 := rfl
theorem ok__law_gain {f : Addr} {fd : FuncData} (F : FunD K "_law_gain" "_law_gain" (defArgs (Hd.top 16)) (defBody (Hd.top 16)) (defScope (Hd.top 16)) [] [] f fd) (hm : mg "_law_gain" = some (.ref f)) (g_max : mg "max" = none) : Cal P w K mg base CX0 "_law_gain" E__law_gain :=
  fn_okD (N := ["clock", "give", "a", "b", "links", "rows", "i", "j", "c", "d", "g"]) (ps := ["clock", "give", "a", "b"]) (k := 0) F sc__law_gain rfl rfl hm (fun _ _ _ _ _ _ us hl => match us, hl with | [_, _, _, _], _ => rfl) fun cdv A outer s H E hr => (by
    have nd := (sc__law_gain).nd
    exact (pst_cons (st_par2 (i := 4) (j := 5) rfl nd rfl rfl (by decide) rfl rfl (pow_of (pv_ix i_ix (ph_of (pv_ix i_ix (ph_var (i := 0)) (ph_of pv_int))) (ph_of pv_int))) (pow_lc rfl nd (it_val (pv_ix i_ix (ph_var (i := 0)) (ph_of pv_int))) (blkOk_by (own := [("c", 8), ("d", 9), ("g", 10)]) (by first | decide +kernel | rfl)) (fun _ _ _ _ _ => (gt_tup rfl (gt_cons (gt_name (i := 8) nd rfl (by first | exact Or.inl rfl | exact Or.inr rfl)) (gt_cons (gt_name (i := 9) nd rfl (by first | exact Or.inl rfl | exact Or.inr rfl)) (gt_cons (gt_name (i := 10) nd rfl (by first | exact Or.inl rfl | exact Or.inr rfl)) gt_nil))))) (fun _ _ _ _ _ => (ts_one (pt_w (pw_and' (pt_cmp' (o_eq hr) (ph_var (i := 8)) (ph_var (i := 2))) (pw_and1' (pt_cmp' (o_eq hr) (ph_var (i := 9)) (ph_var (i := 3)))))))) (fun _ _ _ _ _ => (pv_op o_sub (ph_var (i := 10)) (ph_var (i := 1)))) (by decide)) rfl)
    (pst_cons (st_par (i := 6) (j := 7) rfl nd rfl rfl (by decide) rfl rfl (as_cons (ph_of (pv_op o_div (ph_var (i := 2)) (ph_of pv_int))) (as_cons (ph_of (pv_op o_div (ph_var (i := 3)) (ph_of pv_int))) as_nil)) rfl)
    (pst_cons (st_if (pt_cmp' (o_eq hr) (ph_var (i := 2)) (ph_of (pv_neg pv_int))) (pst_one (st_expr (pow_of (pv_bmU PySem.F.slot_list_append PySem.F.type_list_append m_append (pv 5) (as_cons (ph_of pv_int) as_nil))))) (pst_one (st_if (pt_cmp' (o_eq hr) (ph_var (i := 3)) (ph_of (pv_neg pv_int))) (pst_one (st_expr (pow_of (pv_bmU PySem.F.slot_list_append PySem.F.type_list_append m_append (pv 5) (as_cons (ph_of (pv_neg pv_int)) as_nil))))) (pst_one (st_if (pt_cmp' (o_eq hr) (ph_var (i := 6)) (ph_var (i := 7))) (pst_one (st_if (pt_cmp' (o_lt hr) (ph_var (i := 2)) (ph_var (i := 3))) (pst_one (st_expr (pow_of (pv_bmU PySem.F.slot_list_append PySem.F.type_list_append m_append (pv 5) (as_cons (ph_of pv_int) as_nil))))) pst_nil)) (pst_one (st_if (pt_w (pw_and' (pt_cmp' (o_eq hr) (ph_var (i := 2)) (ph_of (pv_op o_add (ph_of (pv_op o_mul (ph_of pv_int) (ph_var (i := 6)))) (ph_of pv_int)))) (pw_and1' (pt_cmp' (o_eq hr) (ph_var (i := 3)) (ph_of (pv_op o_mul (ph_of pv_int) (ph_var (i := 7)))))))) (pst_one (st_if (pt_cmp' (o_in hr) (ph_of (pv_tup (as_cons (ph_var (i := 6)) (as_cons (ph_var (i := 7)) as_nil)))) (ph_var (i := 4))) (pst_one (st_expr (pow_of (pv_bmU PySem.F.slot_list_append PySem.F.type_list_append m_append (pv 5) (as_cons (ph_of pv_int) as_nil))))) pst_nil)) (pst_one (st_if (pt_w (pw_and' (pt_cmp' (o_eq hr) (ph_var (i := 2)) (ph_of (pv_op o_mul (ph_of pv_int) (ph_var (i := 6))))) (pw_and' (pt_cmp' (o_eq hr) (ph_var (i := 3)) (ph_of (pv_op o_add (ph_of (pv_op o_mul (ph_of pv_int) (ph_var (i := 7)))) (ph_of pv_int)))) (pw_and' (pt_cmp' (o_nin hr) (ph_of (pv_tup (as_cons (ph_var (i := 6)) (as_cons (ph_var (i := 7)) as_nil)))) (ph_var (i := 4))) (pw_and1' (pt_cmp' (o_nin hr) (ph_of (pv_tup (as_cons (ph_var (i := 7)) (as_cons (ph_var (i := 6)) as_nil)))) (ph_var (i := 4)))))))) (pst_one (st_expr (pow_of (pv_bmU PySem.F.slot_list_append PySem.F.type_list_append m_append (pv 5) (as_cons (ph_of pv_int) as_nil))))) pst_nil)))))))))
    (pst_one (st_ret (pow_of (pv_if (pt_cmp' (o_ne hr) (ph_var (i := 5)) (ph_of (pv_own (pow_lst as_nil)))) (pv_callB (c_maxL rfl) (by rfl) g_max (by decide +kernel) (as_cons (ph_var (i := 5)) as_nil)) pv_non))))))))
theorem sc__law_steps : FnScope ["clock", "give", "points", "found", "a", "b", "gain"] ["clock", "give"] (defScope (Hd.top 17)) := ⟨rfl, rfl, rfl, by decide +kernel, rfl, by decide +kernel, by decide +kernel⟩
def L2__law_steps (e__law_gain : FnE) : DS := (sSeq (sSet 6 (dOV (dIf (tBl (d2 neV (dVar 4) (dVar 5))) (dVO (callD0 e__law_gain (aCons (dVar 0) (aCons (dVar 1) (aCons (dVar 4) (aCons (dVar 5) aNil)))))) (dC .non))))
  (sIf (tBl (dNotN (dVH (dVar 6)))) (sDrop (dOV (dU appV 3 (aCons (dHV (dTup (aCons (dVar 4) (aCons (dVar 5) (aCons (dVar 6) aNil))))) aNil)))) sSkip))
def F2__law_steps (e__law_gain : FnE) : DS := (sForV 2 (gNm 5) (L2__law_steps e__law_gain))
def L1__law_steps (e__law_gain : FnE) : DS := (F2__law_steps e__law_gain)
def F1__law_steps (e__law_gain : FnE) : DS := (sFor (dIt (dVH (dVar 2))) (gNm 4) (L1__law_steps e__law_gain))
def D__law_steps (e__law_gain : FnE) : DS := (sSeq (sSet 2 (dLR (dR2 (dNeg (dC (.int 1))) (d2 mulV (dHV (dC (.int 2))) (dHV (d2 ixV (dHV (d2 ixV (dVar 0) (dHV (dC (.int 0))))) (dHV (dC (.int 0)))))))))
  (sSeq (sSet 3 (dLst aNil))
  (sSeq (F1__law_steps e__law_gain)
  (sRet (dOV (dVH (dVar 3)))))))
def E__law_steps : FnE := fnE 2 2 7 none (D__law_steps E__law_gain)
theorem s__law_steps (a0 a1 : Sl) : E__law_steps.sem [a0, a1] = flRes 2 none ((D__law_steps E__law_gain) [a0, a1, .no, .no, .no, .no, .no]) :=
  (fnE_sem 2 2 7 none (D__law_steps E__law_gain) [a0, a1]).trans (congrArg (fun l => flRes 2 none ((D__law_steps E__law_gain) l)) (by rfl : ([a0, a1] : List Sl) ++ List.replicate (7 - 2) .no = [a0, a1, .no, .no, .no, .no, .no]))
theorem np__law_steps : E__law_steps.np = 2 := rfl
theorem ok__law_steps {f : Addr} {fd : FuncData} (F : FunD K "_law_steps" "_law_steps" (defArgs (Hd.top 17)) (defBody (Hd.top 17)) (defScope (Hd.top 17)) [] [] f fd) (hm : mg "_law_steps" = some (.ref f)) (g_list : mg "list" = none) (g_range : mg "range" = none) (C__law_gain : Cal P w K mg base CX0 "_law_gain" E__law_gain) : Cal P w K mg base CX0 "_law_steps" E__law_steps :=
  fn_okD (N := ["clock", "give", "points", "found", "a", "b", "gain"]) (ps := ["clock", "give"]) (k := 1) F sc__law_steps rfl rfl hm (fun _ _ _ _ _ _ us hl => match us, hl with | [_, _], _ => rfl) fun cdv A outer s H E hr => (by
    have nd := (sc__law_steps).nd
    exact (pst_cons (st_set (i := 2) nd rfl (by first | exact Or.inl rfl | exact Or.inr rfl) (pow_listRg rfl (by rfl) g_list (pr_2 (by rfl) g_range (pv_neg pv_int) (pv_op o_mul (ph_of pv_int) (ph_of (pv_ix i_ix (ph_of (pv_ix i_ix (ph_var (i := 0)) (ph_of pv_int))) (ph_of pv_int)))))))
    (pst_cons (st_set (i := 3) nd rfl (by first | exact Or.inl rfl | exact Or.inr rfl) (pow_lst as_nil))
    (pst_cons (st_for PassesOwn.never rfl (it_val (pv_of (ph_var (i := 2)))) (gt_name (i := 4) nd rfl (by first | exact Or.inl rfl | exact Or.inr rfl)) (pst_one (st_forV PassesOwn.never rfl (ph_var (i := 2)) (pv 2) (gt_name (i := 5) nd rfl (by first | exact Or.inl rfl | exact Or.inr rfl)) (pst_cons (st_set (i := 6) nd rfl (by first | exact Or.inl rfl | exact Or.inr rfl) (pow_of (pv_if (pt_cmp' (o_ne hr) (ph_var (i := 4)) (ph_var (i := 5))) (pv_own (pow_call0 C__law_gain rfl hr (by decide) pass0 (by rfl) (as_cons (ph_var (i := 0)) (as_cons (ph_var (i := 1)) (as_cons (ph_var (i := 4)) (as_cons (ph_var (i := 5)) as_nil)))))) pv_non)))
    (pst_one (st_if (pt_notN (pv_of (ph_var (i := 6)))) (pst_one (st_expr (pow_of (pv_bmU PySem.F.slot_list_append PySem.F.type_list_append m_append (pv 3) (as_cons (ph_of (pv_tup (as_cons (ph_var (i := 4)) (as_cons (ph_var (i := 5)) (as_cons (ph_var (i := 6)) as_nil))))) as_nil))))) pst_nil))))))
    (pst_one (st_ret (pow_of (pv_of (ph_var (i := 3))))))))))
theorem sc__law_due : FnScope ["clock", "give", "value", "n", "gains", "k", "a"] ["clock", "give", "value"] (defScope (Hd.top 18)) := ⟨rfl, rfl, rfl, by decide +kernel, rfl, by decide +kernel, by decide +kernel⟩
def C1__law_due (e__law_gain : FnE) : DO := (dLc (dRg (dR1 (dN (g1 lenV) (aCons (dVar 2) aNil)))) (gNm 5) tYesD (dVO (callD0 e__law_gain (aCons (dVar 0) (aCons (dVar 1) (aCons (dHV (d2 ixV (dVar 2) (dHV (d2 subV (dVar 5) (dHV (dC (.int 1))))))) (aCons (dHV (d2 ixV (dVar 2) (dVar 5))) aNil)))))) [5])
def C2__law_due  : DO := (dLc (dIt (dVH (dVar 2))) (gNm 6) tYesD (vAnd (dIsi "int" (dVar 6)) (vAnd (vNot (dHV (dIsi "bool" (dVar 6)))) (dChain leV ltV (dHV (dNeg (dC (.int 1)))) (dVar 6) (dHV (d2 mulV (dHV (dC (.int 2))) (dVar 3)))))) [6])
def D__law_due (e__law_gain : FnE) : DS := (sSeq (sSet 3 (dOV (d2 ixV (dHV (d2 ixV (dVar 0) (dHV (dC (.int 0))))) (dHV (dC (.int 0))))))
  (sSeq (sIf (tOrD (tNotD (tOf (dHV (dIsi "tuple" (dVar 2))))) (tBl (d2 ltV (dHV (dN (g1 lenV) (aCons (dVar 2) aNil))) (dHV (dC (.int 2)))))) (sRet (dOV (dC (.bl false)))) sSkip)
  (sSeq (sIf (tNotD (tOf (dHV (dN (g1 allV) (aCons (dHV (dVO C2__law_due)) aNil))))) (sRet (dOV (dC (.bl false)))) sSkip)
  (sSeq (sIf (tBl (d2 neV (dHV (dN (g1 lsV) (aCons (dVar 2) aNil))) (dHV (dN (g1 lenV) (aCons (dVar 2) aNil))))) (sRet (dOV (dC (.bl false)))) sSkip)
  (sSeq (sSet 4 (C1__law_due e__law_gain))
  (sRet (dOV (vAnd (d2 ninV (dHV (dC .non)) (dVar 4)) (d2 gtV (dHV (dN (g1 sumV) (aCons (dVar 4) aNil))) (dHV (dC (.int 0))))))))))))
def E__law_due : FnE := fnE 2 3 7 none (D__law_due E__law_gain)
theorem s__law_due (a0 a1 a2 : Sl) : E__law_due.sem [a0, a1, a2] = flRes 3 none ((D__law_due E__law_gain) [a0, a1, a2, .no, .no, .no, .no]) :=
  (fnE_sem 2 3 7 none (D__law_due E__law_gain) [a0, a1, a2]).trans (congrArg (fun l => flRes 3 none ((D__law_due E__law_gain) l)) (by rfl : ([a0, a1, a2] : List Sl) ++ List.replicate (7 - 3) .no = [a0, a1, a2, .no, .no, .no, .no]))
theorem np__law_due : E__law_due.np = 3 := rfl
theorem ok__law_due {f : Addr} {fd : FuncData} (F : FunD K "_law_due" "_law_due" (defArgs (Hd.top 18)) (defBody (Hd.top 18)) (defScope (Hd.top 18)) [] [] f fd) (hm : mg "_law_due" = some (.ref f)) (g_sum : mg "sum" = none) (g_range : mg "range" = none) (g_len : mg "len" = none) (g_set : mg "set" = none) (g_all : mg "all" = none) (g_isinstance : mg "isinstance" = none) (g_int : mg "int" = none) (g_bool : mg "bool" = none) (g_tuple : mg "tuple" = none) (C__law_gain : Cal P w K mg base CX0 "_law_gain" E__law_gain) : Cal P w K mg base CX0 "_law_due" E__law_due :=
  fn_okD (N := ["clock", "give", "value", "n", "gains", "k", "a"]) (ps := ["clock", "give", "value"]) (k := 1) F sc__law_due rfl rfl hm (fun _ _ _ _ _ _ us hl => match us, hl with | [_, _, _], _ => rfl) fun cdv A outer s H E hr => (by
    have nd := (sc__law_due).nd
    exact (pst_cons (st_set (i := 3) nd rfl (by first | exact Or.inl rfl | exact Or.inr rfl) (pow_of (pv_ix i_ix (ph_of (pv_ix i_ix (ph_var (i := 0)) (ph_of pv_int))) (ph_of pv_int))))
    (pst_cons (st_if (pt_w (pw_or' (pt_not' (pt_of (ph_of (pv_isi (ph_var (i := 2)) (by rfl) g_isinstance (by rfl) g_tuple (by decide +kernel) (by simp))))) (pw_or1' (pt_cmp' (o_lt hr) (ph_of (pv_callB c_len (by rfl) g_len (by decide +kernel) (as_cons (ph_var (i := 2)) as_nil))) (ph_of pv_int))))) (pst_one (st_ret (pow_of pv_bl))) pst_nil)
    (pst_cons (st_if (pt_not' (pt_of (ph_of (pv_callB (c_all rfl) (by rfl) g_all (by decide +kernel) (as_cons (ph_of (pv_own (pow_lc rfl nd (it_val (pv_of (ph_var (i := 2)))) (blkOk_by (own := [("a", 6)]) (by first | decide +kernel | rfl)) (fun _ _ _ _ _ => (gt_name (i := 6) nd rfl (by first | exact Or.inl rfl | exact Or.inr rfl))) (fun _ _ _ _ _ => ts_nil) (fun _ _ _ _ _ => (pv_and (pv_isi (ph_var (i := 6)) (by rfl) g_isinstance (by rfl) g_int (by decide +kernel) (by simp)) (pv_and (pv_not (ph_of (pv_isi (ph_var (i := 6)) (by rfl) g_isinstance (by rfl) g_bool (by decide +kernel) (by simp)))) (pv_one (pv_chain (o_le hr) (o_lt hr) (ph_of (pv_neg pv_int)) (ph_var (i := 6)) (ph_of (pv_op o_mul (ph_of pv_int) (ph_var (i := 3))))))))) (by decide)))) as_nil))))) (pst_one (st_ret (pow_of pv_bl))) pst_nil)
    (pst_cons (st_if (pt_cmp' (o_ne hr) (ph_of (pv_lenSet rfl (by rfl) g_len (by rfl) g_set (as_cons (ph_var (i := 2)) as_nil))) (ph_of (pv_callB c_len (by rfl) g_len (by decide +kernel) (as_cons (ph_var (i := 2)) as_nil)))) (pst_one (st_ret (pow_of pv_bl))) pst_nil)
    (pst_cons (st_setLc (i := 4) rfl nd rfl rfl (sw_true rfl rfl rfl (by decide +kernel)) (it_r1 (by rfl) g_range (pv_callB c_len (by rfl) g_len (by decide +kernel) (as_cons (ph_var (i := 2)) as_nil))) (blkOk_by (own := [("k", 5)]) (by first | decide +kernel | rfl)) (fun _ _ _ _ _ => (gt_name (i := 5) nd rfl (by first | exact Or.inl rfl | exact Or.inr rfl))) (fun _ _ _ _ _ => ts_nil) (fun _ _ _ _ _ => (pv_own (pow_call0 C__law_gain rfl hr (by decide) pass0 (by rfl) (as_cons (ph_var (i := 0)) (as_cons (ph_var (i := 1)) (as_cons (ph_of (pv_ix i_ix (ph_var (i := 2)) (ph_of (pv_op o_sub (ph_var (i := 5)) (ph_of pv_int))))) (as_cons (ph_of (pv_ix i_ix (ph_var (i := 2)) (ph_var (i := 5)))) as_nil))))))) (by decide))
    (pst_one (st_ret (pow_of (pv_and (pv_cmp (o_nin hr) (ph_of pv_non) (ph_var (i := 4))) (pv_one (pv_cmp (o_gt hr) (ph_of (pv_callB (c_sum rfl) (by rfl) g_sum (by decide +kernel) (as_cons (ph_var (i := 4)) as_nil))) (ph_of pv_int)))))))))))))
theorem sc__law_ring : FnScope ["clock", "give", "n", "steps", "sums", "by", "last", "turn", "a", "b", "gain", "ring"] ["clock", "give"] (defScope (Hd.top 19)) := ⟨rfl, rfl, rfl, by decide +kernel, rfl, by decide +kernel, by decide +kernel⟩
def L1__law_ring  : DS := (sDrop (dOV (dU appV 11 (aCons (dHV (d2 ixV (dVar 5) (dHV (d2 ixV (dVar 11) (dHV (dNeg (dC (.int 1)))))))) aNil))))
def F1__law_ring  : DS := (sWhile (tAndD (tBl (d2 neV (dHV (d2 ixV (dVar 5) (dHV (d2 ixV (dVar 11) (dHV (dNeg (dC (.int 1)))))))) (dVar 6))) (tBl (d2 ltV (dHV (dN (g1 lenV) (aCons (dVar 11) aNil))) (dHV (dC (.int 60)))))) L1__law_ring)
def L2__law_ring  : DS := (sSet 6 (dOV (d2 ixV (dVar 5) (dVar 6))))
def F2__law_ring  : DS := (sFor (dRg (dR1 (d2 addV (dHV (d2 mulV (dHV (dC (.int 2))) (dVar 2))) (dHV (dC (.int 1)))))) (gNm 7) L2__law_ring)
def L4__law_ring  : DS := (sIf (tBl (d2 gtV (dHV (d2 addV (dHV (d2 ixV (dVar 4) (dVar 8))) (dVar 10))) (dHV (d2 ixV (dVar 4) (dVar 9))))) (sAsg (dTup (aCons (dHV (d2 addV (dHV (d2 ixV (dVar 4) (dVar 8))) (dVar 10))) (aCons (dVar 8) (aCons (dVar 9) aNil)))) (gTp 3 (gC (gPut 4 (dVH (dVar 9))) (gC (gPut 5 (dVH (dVar 9))) (gC (gNm 6) gN))))) sSkip)
def F4__law_ring  : DS := (sForV 3 (gTp 3 (gC (gNm 8) (gC (gNm 9) (gC (gNm 10) gN)))) L4__law_ring)
def L3__law_ring  : DS := (sSeq (sSet 6 (dOV (dC .non)))
  F4__law_ring)
def F3__law_ring  : DS := (sFor (dRg (dR1 (d2 addV (dHV (d2 mulV (dHV (dC (.int 2))) (dVar 2))) (dHV (dC (.int 2)))))) (gNm 7) L3__law_ring)
def D__law_ring (e__law_steps : FnE) : DS := (sSeq (sPar 2 3 (aCons (dHV (d2 ixV (dHV (d2 ixV (dVar 0) (dHV (dC (.int 0))))) (dHV (dC (.int 0))))) (aCons (dHV (dVO (callD0 e__law_steps (aCons (dVar 0) (aCons (dVar 1) aNil))))) aNil)))
  (sSeq (sPo 4 5 (d2o repV (dHV (dVO (dLst (aCons (dHV (dC (.int 0))) aNil)))) (dHV (d2 addV (dHV (d2 mulV (dHV (dC (.int 2))) (dVar 2))) (dHV (dC (.int 1)))))) (d2o repV (dHV (dVO (dLst (aCons (dHV (dC .non)) aNil)))) (dHV (d2 addV (dHV (d2 mulV (dHV (dC (.int 2))) (dVar 2))) (dHV (dC (.int 1)))))))
  (sSeq (sSet 6 (dOV (dC .non)))
  (sSeq F3__law_ring
  (sSeq (sIf (tBl (dIsN (dVH (dVar 6)))) (sRet (dOV (dC .non))) sSkip)
  (sSeq F2__law_ring
  (sSeq (sSet 11 (dLst (aCons (dVar 6) aNil)))
  (sSeq F1__law_ring
  (sRet (dOV (dN (g1 tupV) (aCons (dHV (dBk (dVar 11) pNone pNone)) aNil))))))))))))
def E__law_ring : FnE := fnE 3 2 12 none (D__law_ring E__law_steps)
theorem s__law_ring (a0 a1 : Sl) : E__law_ring.sem [a0, a1] = flRes 2 none ((D__law_ring E__law_steps) [a0, a1, .no, .no, .no, .no, .no, .no, .no, .no, .no, .no]) :=
  (fnE_sem 3 2 12 none (D__law_ring E__law_steps) [a0, a1]).trans (congrArg (fun l => flRes 2 none ((D__law_ring E__law_steps) l)) (by rfl : ([a0, a1] : List Sl) ++ List.replicate (12 - 2) .no = [a0, a1, .no, .no, .no, .no, .no, .no, .no, .no, .no, .no]))
theorem np__law_ring : E__law_ring.np = 2 := rfl
theorem ok__law_ring {f : Addr} {fd : FuncData} (F : FunD K "_law_ring" "_law_ring" (defArgs (Hd.top 19)) (defBody (Hd.top 19)) (defScope (Hd.top 19)) [] [] f fd) (hm : mg "_law_ring" = some (.ref f)) (g_tuple : mg "tuple" = none) (g_len : mg "len" = none) (g_range : mg "range" = none) (C__law_steps : Cal P w K mg base CX0 "_law_steps" E__law_steps) : Cal P w K mg base CX0 "_law_ring" E__law_ring :=
  fn_okD (N := ["clock", "give", "n", "steps", "sums", "by", "last", "turn", "a", "b", "gain", "ring"]) (ps := ["clock", "give"]) (k := 2) F sc__law_ring rfl rfl hm (fun _ _ _ _ _ _ us hl => match us, hl with | [_, _], _ => rfl) fun cdv A outer s H E hr => (by
    have nd := (sc__law_ring).nd
    exact (pst_cons (st_par (i := 2) (j := 3) rfl nd rfl rfl (by decide) rfl rfl (as_cons (ph_of (pv_ix i_ix (ph_of (pv_ix i_ix (ph_var (i := 0)) (ph_of pv_int))) (ph_of pv_int))) (as_cons (ph_of (pv_own (pow_call0 C__law_steps rfl hr (by decide) pass0 (by rfl) (as_cons (ph_var (i := 0)) (as_cons (ph_var (i := 1)) as_nil))))) as_nil)) rfl)
    (pst_cons (st_par2 (i := 4) (j := 5) rfl nd rfl rfl (by decide) rfl rfl (pow_op2 o_repO (ph_of (pv_own (pow_lst (as_cons (ph_of pv_int) as_nil)))) (ph_of (pv_op o_add (ph_of (pv_op o_mul (ph_of pv_int) (ph_var (i := 2)))) (ph_of pv_int)))) (pow_op2 o_repO (ph_of (pv_own (pow_lst (as_cons (ph_of pv_non) as_nil)))) (ph_of (pv_op o_add (ph_of (pv_op o_mul (ph_of pv_int) (ph_var (i := 2)))) (ph_of pv_int)))) rfl)
    (pst_cons (st_set (i := 6) nd rfl (by first | exact Or.inl rfl | exact Or.inr rfl) (pow_of pv_non))
    (pst_cons (st_for PassesOwn.never rfl (it_r1 (by rfl) g_range (pv_op o_add (ph_of (pv_op o_mul (ph_of pv_int) (ph_var (i := 2)))) (ph_of pv_int))) (gt_name (i := 7) nd rfl (by first | exact Or.inl rfl | exact Or.inr rfl)) (pst_cons (st_set (i := 6) nd rfl (by first | exact Or.inl rfl | exact Or.inr rfl) (pow_of pv_non))
    (pst_one (st_forV PassesOwn.never rfl (ph_var (i := 3)) (pv 3) (gt_tup rfl (gt_cons (gt_name (i := 8) nd rfl (by first | exact Or.inl rfl | exact Or.inr rfl)) (gt_cons (gt_name (i := 9) nd rfl (by first | exact Or.inl rfl | exact Or.inr rfl)) (gt_cons (gt_name (i := 10) nd rfl (by first | exact Or.inl rfl | exact Or.inr rfl)) gt_nil)))) (pst_one (st_if (pt_cmp' (o_gt hr) (ph_of (pv_op o_add (ph_of (pv_ix i_ix (ph_var (i := 4)) (ph_var (i := 8)))) (ph_var (i := 10)))) (ph_of (pv_ix i_ix (ph_var (i := 4)) (ph_var (i := 9))))) (pst_one (st_asgh (pv_tup (as_cons (ph_of (pv_op o_add (ph_of (pv_ix i_ix (ph_var (i := 4)) (ph_var (i := 8)))) (ph_var (i := 10)))) (as_cons (ph_var (i := 8)) (as_cons (ph_var (i := 9)) as_nil)))) (gh_tup rfl (gh_cons (gh_put (i := 4) (pv 4) (pv_of (ph_var (i := 9)))) (gh_cons (gh_put (i := 5) (pv 5) (pv_of (ph_var (i := 9)))) (gh_cons (gh_of (gt_name (i := 6) nd rfl (by first | exact Or.inl rfl | exact Or.inr rfl))) gh_nil)))))) pst_nil))))))
    (pst_cons (st_if (pt_isN (pv_of (ph_var (i := 6)))) (pst_one (st_ret (pow_of pv_non))) pst_nil)
    (pst_cons (st_for PassesOwn.never rfl (it_r1 (by rfl) g_range (pv_op o_add (ph_of (pv_op o_mul (ph_of pv_int) (ph_var (i := 2)))) (ph_of pv_int))) (gt_name (i := 7) nd rfl (by first | exact Or.inl rfl | exact Or.inr rfl)) (pst_one (st_set (i := 6) nd rfl (by first | exact Or.inl rfl | exact Or.inr rfl) (pow_of (pv_ix i_ix (ph_var (i := 5)) (ph_var (i := 6)))))))
    (pst_cons (st_set (i := 11) nd rfl (by first | exact Or.inl rfl | exact Or.inr rfl) (pow_lst (as_cons (ph_var (i := 6)) as_nil)))
    (pst_cons (st_while PassesOwn.never (pt_w (pw_and' (pt_cmp' (o_ne hr) (ph_of (pv_ix i_ix (ph_var (i := 5)) (ph_of (pv_ix i_ix (ph_var (i := 11)) (ph_of (pv_neg pv_int)))))) (ph_var (i := 6))) (pw_and1' (pt_cmp' (o_lt hr) (ph_of (pv_callB c_len (by rfl) g_len (by decide +kernel) (as_cons (ph_var (i := 11)) as_nil))) (ph_of pv_int))))) (pst_one (st_expr (pow_of (pv_bmU PySem.F.slot_list_append PySem.F.type_list_append m_append (pv 11) (as_cons (ph_of (pv_ix i_ix (ph_var (i := 5)) (ph_of (pv_ix i_ix (ph_var (i := 11)) (ph_of (pv_neg pv_int)))))) as_nil))))))
    (pst_one (st_ret (pow_of (pv_callTy c_tuple (by rfl) g_tuple (by decide +kernel) (as_cons (ph_of (pv_back (ph_var (i := 11)) pp_none pp_none)) as_nil))))))))))))))
theorem sc__law_fine : FnScope ["box", "clock", "points", "give", "ring", "values", "k", "turn", "left", "row", "value"] ["box", "clock"] (defScope (Hd.top 20)) := ⟨rfl, rfl, rfl, by decide +kernel, rfl, by decide +kernel, by decide +kernel⟩
def L2__law_fine (e__law_same : FnE) (e_is_bound_ring : FnE) (e__law_due : FnE) : DS := (sSeq (sIf (tNotD (tOf (dHV (dVO (callD0 e__law_same (aCons (dHV (dVO (callD0 e_is_bound_ring (aMore (aCons (dVar 1) (aCons (dVar 10) aNil)) (aCons (dVar 3) aNil))))) (aCons (dHV (dVO (callD0 e__law_due (aCons (dVar 1) (aCons (dVar 3) (aCons (dVar 10) aNil)))))) aNil))))))) (sRet (dOV (dC (.bl false)))) sSkip)
  (sIf (tAndD (tBl (d2 eqV (dVar 3) (dHV (dC (.int 0))))) (tNotD (tOf (dHV (dVO (callD0 e__law_same (aCons (dHV (dVO (callD0 e_is_bound_ring (aMore (aCons (dVar 1) (aCons (dVar 10) aNil)) (aLit 0))))) (aCons (dHV (dVO (callD0 e__law_due (aCons (dVar 1) (aCons (dHV (dC (.int 0))) (aCons (dVar 10) aNil)))))) aNil)))))))) (sRet (dOV (dC (.bl false)))) sSkip))
def F2__law_fine (e__law_same : FnE) (e_is_bound_ring : FnE) (e__law_due : FnE) : DS := (sForV 5 (gNm 10) (L2__law_fine e__law_same e_is_bound_ring e__law_due))
def C1__law_fine (e__law_draw : FnE) : DO := (dLc (dRg (dR1 (d2 addV (dHV (dC (.int 1))) (dHV (dVO (callD1 e__law_draw 0 (aCons (dVar 0) (aCons (dHV (dN (g2 min2V) (aCons (dHV (dC (.int 4))) (aCons (dHV (dN (g1 lenV) (aCons (dVar 2) aNil))) aNil)))) aNil)))))))) (gNm 6) tYesD (dU popV 8 (aCons (dHV (dVO (callD1 e__law_draw 0 (aCons (dVar 0) (aCons (dHV (dN (g1 lenV) (aCons (dVar 8) aNil))) aNil))))) aNil)) [6])
def L3__law_fine (e__law_draw : FnE) (e__law_bent : FnE) : DS := (sSeq (sSet 8 (dNo (go1 itemsV) (aCons (dVar 2) aNil)))
  (sSeq (sSet 9 (dOV (dN (g1 tupV) (aCons (dHV (dVO (C1__law_fine e__law_draw))) aNil))))
  (sSet 5 (dOV (d2 addV (dVar 5) (dHV (dVO (dLst (aCons (dVar 9) (aCons (dHV (dVO (callD1 e__law_bent 0 (aCons (dVar 0) (aCons (dVar 9) aNil))))) aNil))))))))))
def F3__law_fine (e__law_draw : FnE) (e__law_bent : FnE) : DS := (sFor (dRg (dR1 (dC (.int 8)))) (gNm 7) (L3__law_fine e__law_draw e__law_bent))
def C2__law_fine (e__law_bent : FnE) : DO := (dLc (dRg (dR1 (dC (.int 6)))) (gNm 7) tYesD (dVO (callD1 e__law_bent 0 (aCons (dVar 0) (aCons (dVar 4) aNil)))) [7])
def L1__law_fine (e__law_ring : FnE) (e__law_due : FnE) (e__law_draw : FnE) (e__law_bent : FnE) (e__law_same : FnE) (e_is_bound_ring : FnE) : DS := (sSeq (sSet 4 (callD0 e__law_ring (aCons (dVar 1) (aCons (dVar 3) aNil))))
  (sSeq (sSet 5 (dLst (aCons (dHV (dC .non)) (aCons (dHV (dTup aNil)) (aCons (dHV (dTup (aCons (dHV (dNeg (dC (.int 1)))) aNil))) (aCons (dHV (dTup (aCons (dHV (dNeg (dC (.int 1)))) (aCons (dHV (dNeg (dC (.int 1)))) aNil)))) (aCons (dHV (dN (g1 tupV) (aCons (dVar 2) aNil))) aNil)))))))
  (sSeq (sIf (tBl (dNotN (dVH (dVar 4)))) (sSeq (sIf (tNotD (tOf (dHV (dVO (callD0 e__law_due (aCons (dVar 1) (aCons (dVar 3) (aCons (dVar 4) aNil)))))))) (sRet (dOV (dC (.bl false)))) sSkip)
  (sSeq (sSet 6 (callD1 e__law_draw 0 (aCons (dVar 0) (aCons (dHV (dN (g1 lenV) (aCons (dVar 4) aNil))) aNil))))
  (sSet 5 (dOV (d2 addV (dHV (d2 addV (dVar 5) (dHV (dVO (dLst (aCons (dVar 4) (aCons (dHV (d2 addV (dHV (dSl (dVar 4) (pSome (dVH (dVar 6))) pNone)) (dHV (dSl (dVar 4) pNone (pSome (dVH (dVar 6))))))) (aCons (dHV (dBk (dVar 4) pNone pNone)) aNil)))))))) (dHV (dVO (C2__law_fine e__law_bent)))))))) sSkip)
  (sSeq (F3__law_fine e__law_draw e__law_bent)
  (F2__law_fine e__law_same e_is_bound_ring e__law_due)))))
def F1__law_fine (e__law_draw : FnE) (e__law_ring : FnE) (e__law_due : FnE) (e__law_bent : FnE) (e__law_same : FnE) (e_is_bound_ring : FnE) : DS := (sFor (dIt (dTup (aCons (dHV (dC (.int 0))) (aCons (dHV (dC (.int 1))) (aCons (dHV (dVO (callD1 e__law_draw 0 (aCons (dVar 0) (aCons (dHV (dC (.int 7))) aNil))))) aNil))))) (gNm 3) (L1__law_fine e__law_ring e__law_due e__law_draw e__law_bent e__law_same e_is_bound_ring))
def D__law_fine (e__law_same : FnE) (e__law_due : FnE) (e_is_bound_ring : FnE) (e__law_bent : FnE) (e__law_draw : FnE) (e__law_ring : FnE) : DS := (sSeq (sSet 2 (dLR (dR2 (dNeg (dC (.int 1))) (d2 mulV (dHV (dC (.int 2))) (dHV (d2 ixV (dHV (d2 ixV (dVar 1) (dHV (dC (.int 0))))) (dHV (dC (.int 0)))))))))
  (sSeq (F1__law_fine e__law_draw e__law_ring e__law_due e__law_bent e__law_same e_is_bound_ring)
  (sRet (dOV (dC (.bl true))))))
def E__law_fine : FnE := fnE 12 2 11 (some 0) (D__law_fine (E__law_same 8) E__law_due E_is_bound_ring (E__law_bent 8) E__law_draw E__law_ring)
theorem s__law_fine (a0 a1 : Sl) : E__law_fine.sem [a0, a1] = flRes 2 (some 0) ((D__law_fine (E__law_same 8) E__law_due E_is_bound_ring (E__law_bent 8) E__law_draw E__law_ring) [a0, a1, .no, .no, .no, .no, .no, .no, .no, .no, .no]) :=
  (fnE_sem 12 2 11 (some 0) (D__law_fine (E__law_same 8) E__law_due E_is_bound_ring (E__law_bent 8) E__law_draw E__law_ring) [a0, a1]).trans (congrArg (fun l => flRes 2 (some 0) ((D__law_fine (E__law_same 8) E__law_due E_is_bound_ring (E__law_bent 8) E__law_draw E__law_ring) l)) (by rfl : ([a0, a1] : List Sl) ++ List.replicate (11 - 2) .no = [a0, a1, .no, .no, .no, .no, .no, .no, .no, .no, .no]))
theorem np__law_fine : E__law_fine.np = 2 := rfl
theorem ok__law_fine {f : Addr} {fd : FuncData} (F : FunD K "_law_fine" "_law_fine" (defArgs (Hd.top 20)) (defBody (Hd.top 20)) (defScope (Hd.top 20)) [] [] f fd) (hm : mg "_law_fine" = some (.ref f)) (g_tuple : mg "tuple" = none) (g_range : mg "range" = none) (g_min : mg "min" = none) (g_len : mg "len" = none) (g_list : mg "list" = none) (C__law_same : Cal P w K mg base CX0 "_law_same" (E__law_same 8)) (C__law_due : Cal P w K mg base CX0 "_law_due" E__law_due) (C_is_bound_ring : CalK P w K mg base CX0 "is_bound_ring" E_is_bound_ring 2 "give" 0) (C__law_bent : Cal P w K mg base CX0 "_law_bent" (E__law_bent 8)) (C__law_draw : Cal P w K mg base CX0 "_law_draw" E__law_draw) (C__law_ring : Cal P w K mg base CX0 "_law_ring" E__law_ring) : Cal P w K mg base CX0 "_law_fine" E__law_fine :=
  fn_okD (N := ["box", "clock", "points", "give", "ring", "values", "k", "turn", "left", "row", "value"]) (ps := ["box", "clock"]) (k := 11) F sc__law_fine rfl rfl hm (fun _ _ _ _ _ _ us hl => match us, hl with | [_, _], _ => rfl) fun cdv A outer s H E hr => (by
    have nd := (sc__law_fine).nd
    exact (pst_cons (st_set (i := 2) nd rfl (by first | exact Or.inl rfl | exact Or.inr rfl) (pow_listRg rfl (by rfl) g_list (pr_2 (by rfl) g_range (pv_neg pv_int) (pv_op o_mul (ph_of pv_int) (ph_of (pv_ix i_ix (ph_of (pv_ix i_ix (ph_var (i := 1)) (ph_of pv_int))) (ph_of pv_int)))))))
    (pst_cons (st_for PassesOwn.never rfl (it_val (pv_tup (as_cons (ph_of pv_int) (as_cons (ph_of pv_int) (as_cons (ph_of (pv_own (pow_call1 (kr := 0) C__law_draw rfl (by decide) hr (by decide) pass0 (by rfl) (as_cons (ph_var (i := 0)) (as_cons (ph_of pv_int) as_nil))))) as_nil))))) (gt_name (i := 3) nd rfl (by first | exact Or.inl rfl | exact Or.inr rfl)) (pst_cons (st_set (i := 4) nd rfl (by first | exact Or.inl rfl | exact Or.inr rfl) (pow_call0 C__law_ring rfl hr (by decide) pass0 (by rfl) (as_cons (ph_var (i := 1)) (as_cons (ph_var (i := 3)) as_nil))))
    (pst_cons (st_set (i := 5) nd rfl (by first | exact Or.inl rfl | exact Or.inr rfl) (pow_lst (as_cons (ph_of pv_non) (as_cons (ph_of (pv_tup as_nil)) (as_cons (ph_of (pv_tup (as_cons (ph_of (pv_neg pv_int)) as_nil))) (as_cons (ph_of (pv_tup (as_cons (ph_of (pv_neg pv_int)) (as_cons (ph_of (pv_neg pv_int)) as_nil)))) (as_cons (ph_of (pv_callTy c_tuple (by rfl) g_tuple (by decide +kernel) (as_cons (ph_var (i := 2)) as_nil))) as_nil)))))))
    (pst_cons (st_if (pt_notN (pv_of (ph_var (i := 4)))) (pst_cons (st_if (pt_not' (pt_of (ph_of (pv_own (pow_call0 C__law_due rfl hr (by decide) pass0 (by rfl) (as_cons (ph_var (i := 1)) (as_cons (ph_var (i := 3)) (as_cons (ph_var (i := 4)) as_nil)))))))) (pst_one (st_ret (pow_of pv_bl))) pst_nil)
    (pst_cons (st_set (i := 6) nd rfl (by first | exact Or.inl rfl | exact Or.inr rfl) (pow_call1 (kr := 0) C__law_draw rfl (by decide) hr (by decide) pass0 (by rfl) (as_cons (ph_var (i := 0)) (as_cons (ph_of (pv_callB c_len (by rfl) g_len (by decide +kernel) (as_cons (ph_var (i := 4)) as_nil))) as_nil))))
    (pst_one (st_set (i := 5) nd rfl (by first | exact Or.inl rfl | exact Or.inr rfl) (pow_of (pv_op o_add (ph_of (pv_op o_add (ph_var (i := 5)) (ph_of (pv_own (pow_lst (as_cons (ph_var (i := 4)) (as_cons (ph_of (pv_op o_add (ph_of (pv_slice (ph_var (i := 4)) (pp_some (pv_of (ph_var (i := 6)))) pp_none)) (ph_of (pv_slice (ph_var (i := 4)) pp_none (pp_some (pv_of (ph_var (i := 6)))))))) (as_cons (ph_of (pv_back (ph_var (i := 4)) pp_none pp_none)) as_nil)))))))) (ph_of (pv_own (pow_lc rfl nd (it_r1 (by rfl) g_range pv_int) (blkOk_by (own := [("turn", 7)]) (by first | decide +kernel | rfl)) (fun _ _ _ _ _ => (gt_name (i := 7) nd rfl (by first | exact Or.inl rfl | exact Or.inr rfl))) (fun _ _ _ _ _ => ts_nil) (fun _ _ _ _ _ => (pv_own (pow_call1 (kr := 0) C__law_bent rfl (by decide) hr (by decide) pass0 (by rfl) (as_cons (ph_var (i := 0)) (as_cons (ph_var (i := 4)) as_nil))))) (by decide)))))))))) pst_nil)
    (pst_cons (st_for PassesOwn.never rfl (it_r1 (by rfl) g_range pv_int) (gt_name (i := 7) nd rfl (by first | exact Or.inl rfl | exact Or.inr rfl)) (pst_cons (st_set (i := 8) nd rfl (by first | exact Or.inl rfl | exact Or.inr rfl) (pow_callTy c_list (by rfl) g_list (by decide +kernel) (as_cons (ph_var (i := 2)) as_nil)))
    (pst_cons (st_set (i := 9) nd rfl (by first | exact Or.inl rfl | exact Or.inr rfl) (pow_of (pv_callTy c_tuple (by rfl) g_tuple (by decide +kernel) (as_cons (ph_of (pv_own (pow_lc rfl nd (it_r1 (by rfl) g_range (pv_op o_add (ph_of pv_int) (ph_of (pv_own (pow_call1 (kr := 0) C__law_draw rfl (by decide) hr (by decide) pass0 (by rfl) (as_cons (ph_var (i := 0)) (as_cons (ph_of (pv_callB (c_min2 rfl) (by rfl) g_min (by decide +kernel) (as_cons (ph_of pv_int) (as_cons (ph_of (pv_callB c_len (by rfl) g_len (by decide +kernel) (as_cons (ph_var (i := 2)) as_nil))) as_nil)))) as_nil))))))) (blkOk_by (own := [("k", 6)]) (by first | decide +kernel | rfl)) (fun _ _ _ _ _ => (gt_name (i := 6) nd rfl (by first | exact Or.inl rfl | exact Or.inr rfl))) (fun _ _ _ _ _ => ts_nil) (fun _ _ _ _ _ => (pv_bmU PySem.F.slot_list_pop PySem.F.type_list_pop m_pop (pv 8) (as_cons (ph_of (pv_own (pow_call1 (kr := 0) C__law_draw rfl (by decide) hr (by decide) pass0 (by rfl) (as_cons (ph_var (i := 0)) (as_cons (ph_of (pv_callB c_len (by rfl) g_len (by decide +kernel) (as_cons (ph_var (i := 8)) as_nil))) as_nil))))) as_nil))) (by decide)))) as_nil))))
    (pst_one (st_set (i := 5) nd rfl (by first | exact Or.inl rfl | exact Or.inr rfl) (pow_of (pv_op o_add (ph_var (i := 5)) (ph_of (pv_own (pow_lst (as_cons (ph_var (i := 9)) (as_cons (ph_of (pv_own (pow_call1 (kr := 0) C__law_bent rfl (by decide) hr (by decide) pass0 (by rfl) (as_cons (ph_var (i := 0)) (as_cons (ph_var (i := 9)) as_nil))))) as_nil))))))))))))
    (pst_one (st_forV PassesOwn.never rfl (ph_var (i := 5)) (pv 5) (gt_name (i := 10) nd rfl (by first | exact Or.inl rfl | exact Or.inr rfl)) (pst_cons (st_if (pt_not' (pt_of (ph_of (pv_own (pow_call0 C__law_same rfl hr (by decide) pass0 (by rfl) (as_cons (ph_of (pv_own (pow_callKw C_is_bound_ring rfl rfl hr (by decide) pass0 (by rfl) (as_cons (ph_var (i := 1)) (as_cons (ph_var (i := 10)) as_nil)) (ph_var (i := 3))))) (as_cons (ph_of (pv_own (pow_call0 C__law_due rfl hr (by decide) pass0 (by rfl) (as_cons (ph_var (i := 1)) (as_cons (ph_var (i := 3)) (as_cons (ph_var (i := 10)) as_nil)))))) as_nil))))))) (pst_one (st_ret (pow_of pv_bl))) pst_nil)
    (pst_one (st_if (pt_w (pw_and' (pt_cmp' (o_eq hr) (ph_var (i := 3)) (ph_of pv_int)) (pw_and1' (pt_not' (pt_of (ph_of (pv_own (pow_call0 C__law_same rfl hr (by decide) pass0 (by rfl) (as_cons (ph_of (pv_own (pow_callKd C_is_bound_ring rfl hr (by decide) pass0 (by rfl) (as_cons (ph_var (i := 1)) (as_cons (ph_var (i := 10)) as_nil))))) (as_cons (ph_of (pv_own (pow_call0 C__law_due rfl hr (by decide) pass0 (by rfl) (as_cons (ph_var (i := 1)) (as_cons (ph_of pv_int) (as_cons (ph_var (i := 10)) as_nil)))))) as_nil)))))))))) (pst_one (st_ret (pow_of pv_bl))) pst_nil))))))))))
    (pst_one (st_ret (pow_of pv_bl))))))
theorem sc_law : FnScope ["script", "box", "turn", "clock", "stays", "small"] ["script"] (defScope (Hd.top 21)) := ⟨rfl, rfl, rfl, by decide +kernel, rfl, by decide +kernel, by decide +kernel⟩
def L1_law (e__law_clock : FnE) (e__law_fine : FnE) : DS := (sSeq (sAsg (dVO (callD1 e__law_clock 0 (aCons (dVar 1) (aCons (dHV (dC (.int 5))) (aCons (dHV (dC (.int 10))) aNil))))) (gTp 2 (gC (gNm 3) (gC (gNm 4) gN))))
  (sIf (tNotD (tOf (dHV (dVO (callD1 e__law_fine 0 (aCons (dVar 1) (aCons (dVar 3) aNil))))))) (sRet (dOV (dC (.bl false)))) sSkip))
def F1_law (e__law_clock : FnE) (e__law_fine : FnE) : DS := (sFor (dRg (dR1 (dC (.int 3)))) (gNm 2) (L1_law e__law_clock e__law_fine))
def D_law (e_is_bound_ring : FnE) (e__law_fine : FnE) (e__law_clock : FnE) (e__law_box : FnE) : DS := (sSeq (sSet 1 (callD0 e__law_box (aCons (dVar 0) aNil)))
  (sSeq (F1_law e__law_clock e__law_fine)
  (sSeq (sSet 5 (dOV (dTup (aCons (dHV (dTup (aCons (dHV (dC (.int 2))) (aCons (dHV (dTup (aCons (dHV (dTup (aCons (dHV (dC (.int 0))) (aCons (dHV (dC (.int 1))) aNil)))) aNil))) aNil)))) (aCons (dHV (dTup (aCons (dHV (dTup (aCons (dHV (dNeg (dC (.int 1)))) (aCons (dHV (dC (.int 1))) (aCons (dHV (dC (.int 5))) aNil))))) (aCons (dHV (dTup (aCons (dHV (dC (.int 2))) (aCons (dHV (dNeg (dC (.int 1)))) (aCons (dHV (dNeg (dC (.int 5)))) aNil))))) aNil)))) aNil)))))
  (sSeq (sIf (tOrD (tBl (d2 isntBV (dHV (dVO (callD0 e_is_bound_ring (aMore (aCons (dVar 5) (aCons (dHV (dTup (aCons (dHV (dNeg (dC (.int 1)))) (aCons (dHV (dC (.int 1))) (aCons (dHV (dC (.int 2))) aNil))))) aNil)) (aLit 0))))) (dHV (dC (.bl true))))) (tBl (d2 isntBV (dHV (dVO (callD0 e_is_bound_ring (aMore (aCons (dVar 5) (aCons (dHV (dTup (aCons (dHV (dC (.int 1))) (aCons (dHV (dC (.int 2))) (aCons (dHV (dNeg (dC (.int 1)))) aNil))))) aNil)) (aCons (dHV (dC (.int 1))) aNil))))) (dHV (dC (.bl false)))))) (sRet (dOV (dC (.bl false)))) sSkip)
  (sRet (dOV (d2 isBV (dHV (dVO (callD0 e_is_bound_ring (aMore (aCons (dHV (dTup (aCons (dHV (dTup (aCons (dHV (dC (.int 2))) (aCons (dHV (dTup (aCons (dHV (dTup (aCons (dHV (dC (.int 0))) (aCons (dHV (dC (.int 1))) aNil)))) aNil))) aNil)))) (aCons (dHV (dTup (aCons (dHV (dTup (aCons (dHV (dNeg (dC (.int 1)))) (aCons (dHV (dC (.int 1))) (aCons (dHV (dC (.int 5))) aNil))))) (aCons (dHV (dTup (aCons (dHV (dC (.int 2))) (aCons (dHV (dNeg (dC (.int 1)))) (aCons (dHV (dNeg (dC (.int 3)))) aNil))))) aNil)))) aNil)))) (aCons (dHV (dTup (aCons (dHV (dC (.int 2))) (aCons (dHV (dNeg (dC (.int 1)))) (aCons (dHV (dC (.int 1))) aNil))))) aNil)) (aCons (dHV (dC (.int 1))) aNil))))) (dHV (dC (.bl true))))))))))
def E_law : FnE := fnE 13 1 6 none (D_law E_is_bound_ring E__law_fine E__law_clock E__law_box)
theorem s_law (a0 : Sl) : E_law.sem [a0] = flRes 1 none ((D_law E_is_bound_ring E__law_fine E__law_clock E__law_box) [a0, .no, .no, .no, .no, .no]) :=
  (fnE_sem 13 1 6 none (D_law E_is_bound_ring E__law_fine E__law_clock E__law_box) [a0]).trans (congrArg (fun l => flRes 1 none ((D_law E_is_bound_ring E__law_fine E__law_clock E__law_box) l)) (by rfl : ([a0] : List Sl) ++ List.replicate (6 - 1) .no = [a0, .no, .no, .no, .no, .no]))
theorem np_law : E_law.np = 1 := rfl
theorem fo_law {f : Addr} {fd : FuncData} (F : FunD K "law" "law" (defArgs (Hd.top 21)) (defBody (Hd.top 21)) (defScope (Hd.top 21)) [] [] f fd) (g_range : mg "range" = none) (C_is_bound_ring : CalK P w K mg base CX0 "is_bound_ring" E_is_bound_ring 2 "give" 0) (C__law_fine : Cal P w K mg base CX0 "_law_fine" E__law_fine) (C__law_clock : Cal P w K mg base CX0 "_law_clock" E__law_clock) (C__law_box : Cal P w K mg base CX0 "_law_box" E__law_box) : FnOk P w K mg base CX0 13 f fd ["script"] (spF K mg E_law) :=
  fn_okW (N := ["script", "box", "turn", "clock", "stays", "small"]) (ps := ["script"]) (k := 12) F sc_law rfl rfl fun cdv A outer s H E hr => (by
    have nd := (sc_law).nd
    exact (pst_cons (st_set (i := 1) nd rfl (by first | exact Or.inl rfl | exact Or.inr rfl) (pow_call0 C__law_box rfl hr (by decide) pass0 (by rfl) (as_cons (ph_var (i := 0)) as_nil)))
    (pst_cons (st_for PassesOwn.never rfl (it_r1 (by rfl) g_range pv_int) (gt_name (i := 2) nd rfl (by first | exact Or.inl rfl | exact Or.inr rfl)) (pst_cons (st_asg (pv_own (pow_call1 (kr := 0) C__law_clock rfl (by decide) hr (by decide) pass0 (by rfl) (as_cons (ph_var (i := 1)) (as_cons (ph_of pv_int) (as_cons (ph_of pv_int) as_nil))))) (gt_tup rfl (gt_cons (gt_name (i := 3) nd rfl (by first | exact Or.inl rfl | exact Or.inr rfl)) (gt_cons (gt_name (i := 4) nd rfl (by first | exact Or.inl rfl | exact Or.inr rfl)) gt_nil))))
    (pst_one (st_if (pt_not' (pt_of (ph_of (pv_own (pow_call1 (kr := 0) C__law_fine rfl (by decide) hr (by decide) pass0 (by rfl) (as_cons (ph_var (i := 1)) (as_cons (ph_var (i := 3)) as_nil))))))) (pst_one (st_ret (pow_of pv_bl))) pst_nil))))
    (pst_cons (st_set (i := 5) nd rfl (by first | exact Or.inl rfl | exact Or.inr rfl) (pow_of (pv_tup (as_cons (ph_of (pv_tup (as_cons (ph_of pv_int) (as_cons (ph_of (pv_tup (as_cons (ph_of (pv_tup (as_cons (ph_of pv_int) (as_cons (ph_of pv_int) as_nil)))) as_nil))) as_nil)))) (as_cons (ph_of (pv_tup (as_cons (ph_of (pv_tup (as_cons (ph_of (pv_neg pv_int)) (as_cons (ph_of pv_int) (as_cons (ph_of pv_int) as_nil))))) (as_cons (ph_of (pv_tup (as_cons (ph_of pv_int) (as_cons (ph_of (pv_neg pv_int)) (as_cons (ph_of (pv_neg pv_int)) as_nil))))) as_nil)))) as_nil)))))
    (pst_cons (st_if (pt_w (pw_or' (pt_cmp' (o_isntB) (ph_of (pv_own (pow_callKd C_is_bound_ring rfl hr (by decide) pass0 (by rfl) (as_cons (ph_var (i := 5)) (as_cons (ph_of (pv_tup (as_cons (ph_of (pv_neg pv_int)) (as_cons (ph_of pv_int) (as_cons (ph_of pv_int) as_nil))))) as_nil))))) (ph_of pv_bl)) (pw_or1' (pt_cmp' (o_isntB) (ph_of (pv_own (pow_callKw C_is_bound_ring rfl rfl hr (by decide) pass0 (by rfl) (as_cons (ph_var (i := 5)) (as_cons (ph_of (pv_tup (as_cons (ph_of pv_int) (as_cons (ph_of pv_int) (as_cons (ph_of (pv_neg pv_int)) as_nil))))) as_nil)) (ph_of pv_int)))) (ph_of pv_bl))))) (pst_one (st_ret (pow_of pv_bl))) pst_nil)
    (pst_one (st_ret (pow_of (pv_cmp (o_isB) (ph_of (pv_own (pow_callKw C_is_bound_ring rfl rfl hr (by decide) pass0 (by rfl) (as_cons (ph_of (pv_tup (as_cons (ph_of (pv_tup (as_cons (ph_of pv_int) (as_cons (ph_of (pv_tup (as_cons (ph_of (pv_tup (as_cons (ph_of pv_int) (as_cons (ph_of pv_int) as_nil)))) as_nil))) as_nil)))) (as_cons (ph_of (pv_tup (as_cons (ph_of (pv_tup (as_cons (ph_of (pv_neg pv_int)) (as_cons (ph_of pv_int) (as_cons (ph_of pv_int) as_nil))))) (as_cons (ph_of (pv_tup (as_cons (ph_of pv_int) (as_cons (ph_of (pv_neg pv_int)) (as_cons (ph_of (pv_neg pv_int)) as_nil))))) as_nil)))) as_nil)))) (as_cons (ph_of (pv_tup (as_cons (ph_of pv_int) (as_cons (ph_of (pv_neg pv_int)) (as_cons (ph_of pv_int) as_nil))))) as_nil)) (ph_of pv_int)))) (ph_of pv_bl))))))))))
end

end
end B49

namespace C49
open PySem Ev B49

theorem ok_size {n : Nat} (h : n ≤ 1000000) : n ≤ sizeLine := Nat.le_trans h (Nat.le_trans (by decide) sizeLine_big)
/-! ### the box -/
structure Bx where
  c : List Int
  d : Int
  s : Int
/-- a draw: the digit, the box behind it -/
def drB (b : Bx) (m : Int) : Bx := if b.d < m then ⟨(loadF b.c b.s).2.1, (loadF b.c b.s).1 / m, (loadF b.c b.s).2.2⟩ else ⟨b.c, b.d / m, b.s⟩
def drD (b : Bx) (m : Int) : Int := if b.d < m then (loadF b.c b.s).1 % m else b.d % m
theorem drD_ge (b : Bx) {m : Int} (h : 0 < m) : 0 ≤ drD b m := by
  unfold drD
  split <;> exact Int.emod_nonneg _ (by omega)
theorem drD_lt (b : Bx) {m : Int} (h : 0 < m) : drD b m < m := by
  unfold drD
  split <;> exact Int.emod_lt_of_pos _ h
def BoxOk (e : FnE) : Prop := e.np = 1 ∧ ∀ ns : List Int, ns.length ≤ 63 → ∃ b : Bx, e.sem [.fz (.scr ns)] = .ok (.box b.c b.d b.s, .no)
theorem box_ok : BoxOk E__law_box := by
  refine ⟨rfl, fun ns h => ⟨⟨ns, 0, 4711 + ns.length⟩, ?_⟩⟩
  have h1 : cutL ns none (some 63) = ns := by
    unfold cutL
    have e1 : HT.sIx ns.length 0 none = 0 := rfl
    have e2 : HT.sIx ns.length ns.length (some 63) = ns.length := by
      unfold HT.sIx
      simp
      omega
    rw [e1, e2]
    simp
  rw [s__law_box]
  simp -implicitDefEqProofs [D__law_box, h1]
def DrawOk (e : FnE) : Prop := e.np = 2 ∧ ∀ (b : Bx) (m : Int), 0 < m → m < 2 ^ 200 → e.sem [.pbox b.c b.d b.s, .fz (.int m)] = .ok (.fz (.int (drD b m)), .pbox (drB b m).c (drB b m).d (drB b m).s)
theorem draw_core (el : FnE) (hl : el = loadE) (b : Bx) (m : Int) (h0 : 0 < m) (h1 : m < 2 ^ 200) : flRes 2 (some 0) (D__law_draw el [.pbox b.c b.d b.s, .fz (.int m), .no]) = .ok (.fz (.int (drD b m)), .pbox (drB b m).c (drB b m).d (drB b m).s) := by
  subst hl
  have h2 : ∀ i : Int, divV (.int i) (.int m) = some (.int (i / m)) := fun i => div_of h0 h1
  have h3 : ∀ i : Int, modV (.int i) (.int m) = some (.int (i % m)) := fun i => mod_of h0
  unfold drD drB
  by_cases hc : b.d < m
  · simp -implicitDefEqProofs [D__law_draw, hc, h2, h3]
  · simp -implicitDefEqProofs [D__law_draw, hc, h2, h3]
theorem draw_ok : DrawOk E__law_draw := ⟨rfl, fun b m h0 h1 => by
  rw [s__law_draw]
  exact draw_core _ rfl b m h0 h1⟩
/-- what a draw gives, the digit and the box by names -/
theorem DrawOk.ex {e : FnE} (h : DrawOk e) (b : Bx) {m : Int} (h0 : 0 < m) (h1 : m < 2 ^ 200) : ∃ (d : Int) (b' : Bx), 0 ≤ d ∧ d < m ∧ e.sem [.pbox b.c b.d b.s, .fz (.int m)] = .ok (.fz (.int d), .pbox b'.c b'.d b'.s) :=
  ⟨_, _, drD_ge b h0, drD_lt b h0, h.2 b m h0 h1⟩

/-! ### the same value twice -/
mutual
def wd : Val → Bool
  | .tup xs => decide (xs.length ≤ 1000000) && wds xs
  | .lst xs => decide (xs.length ≤ 1000000) && wds xs
  | _ => true
def wds : List Val → Bool
  | [] => true
  | x :: xs => wd x && wds xs
end
theorem wds_all {xs : List Val} : wds xs = true ↔ ∀ x ∈ xs, wd x = true := by
  induction xs with
  | nil => simp [wds]
  | cons x xs ih => simp [wds, ih]
def SameOk (e : FnE) (n : Nat) : Prop := ∀ x : Val, gd x = true → dp x < n → wd x = true → e.sem [.fz x, .fz x] = .ok (.fz (.bl true), .no)
theorem same_lc (e : FnE) (np : e.np = 2) (xs : List Val) (v : Val) (hl : xs.length ≤ 1000000) (hv : lenV v = some (.int xs.length)) (hi : ∀ k : Int, ixV v (.int k) = L2.atI xs k) (h : ∀ x ∈ xs, e.sem [.fz x, .fz x] = .ok (.fz (.bl true), .no)) :
    dN (g1 allV) (aCons (dHV (dVO (dLc (dRg (dR1 (dN (g1 lenV) (aCons (dVar 0) aNil)))) (gNm 2) tYesD (dVO (callD0 e (aCons (dHV (d2 ixV (dVar 0) (dVar 2))) (aCons (dHV (d2 ixV (dVar 1) (dVar 2))) aNil)))) [2]))) aNil) [.fz v, .fz v, .no] = .ok (.bl true, [.fz v, .fz v, .no]) := by
  have k1 := lcL_map1 (g := gNm 2) (t := tYesD) (e := dVO (callD0 e (aCons (dHV (d2 ixV (dVar 0) (dVar 2))) (aCons (dHV (d2 ixV (dVar 1) (dVar 2))) aNil)))) (vs := [2]) Val.int (fun _ => .bl true) [.fz v, .fz v, .no] (rangeI 0 xs.length) fun k hk => by
    have hk := mem_rangeI.mp hk
    have hk2 : k.toNat < xs.length := by omega
    have e1 : ixV v (.int k) = some xs[k.toNat] := by rw [hi, atI_int hk.1 hk.2]; simp [hk2]
    have e2 := h xs[k.toNat] (List.getElem_mem hk2)
    generalize xs[k.toNat] = x at *
    refine ⟨[.fz v, .fz v, .fz (.int k)], [.fz v, .fz v, .fz (.int k)], [.fz v, .fz v, .fz (.int k)], by simp [gNm], rfl, ?_, by simp [wipeE]⟩
    simp [fo_ok, th_nx, th_rt, th_bk, th_ct, op_s, ob_ok, oo_s, de_v, de_s, ds_n, ds_c, ts_n, ts_c, tv_v, tv_s, fl_rt, fl_nx, x_dHV, x_dVar, x_dC, x_dVH, x_dIt, x_dRg, x_tYesD, x_dU, x_sPut, x_d2, x_aNil, x_aCons, x_dN, x_pNone, x_pSome, x_dSl, x_dTup, x_dOV, x_dVO, x_dLst, x_tOf, x_tBl, x_dChain, x_tAndD, x_tOrD, x_tNotD, x_vAnd, x_vOr, x_vNot, x_dIf, x_dNeg, x_dIsN, x_dNotN, x_dNo, x_dR1, x_dR2, x_dLR, x_dIsi, x_sSkip, x_sBreak, x_sCont, x_sSeq, x_sIf, x_sDrop, x_sRet, x_asg, x_sSet, x_gNm, x_gN, x_gC, x_gTp, x_sAsg, x_sPar, x_g1, x_g2, x_go1, x_callD0, x_callD1, parOf, putV, lstOf, setL, frOf, Sl.view, add_int, sub_int, int_int, ixl, ixt, len_lst, len_tup, lt_int, gt_int, le_int, ge_int, eq_int, ne_int, at0, at1, at2, at3, notNo, isNone, tupOf, x_dBk, isi_non_int, isi_non_bool, isi_non_str, isi_non_tuple, isi_non_list, isi_bl_int, isi_bl_bool, isi_bl_str, isi_bl_tuple, isi_bl_list, isi_int_int, isi_int_bool, isi_int_str, isi_int_tuple, isi_int_list, isi_str_int, isi_str_bool, isi_str_str, isi_str_tuple, isi_str_list, isi_tup_int, isi_tup_bool, isi_tup_str, isi_tup_tuple, isi_tup_list, isi_lst_int, isi_lst_bool, isi_lst_str, isi_lst_tuple, isi_lst_list, eq_bl, ne_bl, truth, parIn, parBack, e1, e2, np]
  have k2 := lc_eq (it := dRg (dR1 (dN (g1 lenV) (aCons (dVar 0) aNil)))) (xs := (rangeI 0 xs.length).map .int) (ρ := [.fz v, .fz v, .no]) (ρ1 := [.fz v, .fz v, .no]) (rg1 (by simp [fo_ok, th_nx, th_rt, th_bk, th_ct, op_s, ob_ok, oo_s, de_v, de_s, ds_n, ds_c, ts_n, ts_c, tv_v, tv_s, fl_rt, fl_nx, x_dHV, x_dVar, x_dC, x_dVH, x_dIt, x_dRg, x_tYesD, x_dU, x_sPut, x_d2, x_aNil, x_aCons, x_dN, x_pNone, x_pSome, x_dSl, x_dTup, x_dOV, x_dVO, x_dLst, x_tOf, x_tBl, x_dChain, x_tAndD, x_tOrD, x_tNotD, x_vAnd, x_vOr, x_vNot, x_dIf, x_dNeg, x_dIsN, x_dNotN, x_dNo, x_dR1, x_dR2, x_dLR, x_dIsi, x_sSkip, x_sBreak, x_sCont, x_sSeq, x_sIf, x_sDrop, x_sRet, x_asg, x_sSet, x_gNm, x_gN, x_gC, x_gTp, x_sAsg, x_sPar, x_g1, x_g2, x_go1, x_callD0, x_callD1, parOf, putV, lstOf, setL, frOf, Sl.view, add_int, sub_int, int_int, ixl, ixt, len_lst, len_tup, lt_int, gt_int, le_int, ge_int, eq_int, ne_int, at0, at1, at2, at3, notNo, isNone, tupOf, x_dBk, isi_non_int, isi_non_bool, isi_non_str, isi_non_tuple, isi_non_list, isi_bl_int, isi_bl_bool, isi_bl_str, isi_bl_tuple, isi_bl_list, isi_int_int, isi_int_bool, isi_int_str, isi_int_tuple, isi_int_list, isi_str_int, isi_str_bool, isi_str_str, isi_str_tuple, isi_str_list, isi_tup_int, isi_tup_bool, isi_tup_str, isi_tup_tuple, isi_tup_list, isi_lst_int, isi_lst_bool, isi_lst_str, isi_lst_tuple, isi_lst_list, eq_bl, ne_bl, truth, parIn, parBack, hv]) (by omega)) (ok_size (by rw [List.length_map, length_rangeI]; omega)) (by rw [show wipeE [Sl.fz v, .fz v, .no] [2] = [.fz v, .fz v, .no] from rfl]; exact k1)
  rw [show rest [Sl.fz v, .fz v, .no] [2] [.fz v, .fz v, .no] = [.fz v, .fz v, .no] from rfl] at k2
  have k3 := all_map (fun _ : Int => true) (rangeI 0 xs.length)
  have k4 : (rangeI 0 xs.length).all (fun _ => true) = true := List.all_eq_true.mpr fun _ _ => rfl
  rw [k4] at k3
  generalize dLc (dRg (dR1 (dN (g1 lenV) (aCons (dVar 0) aNil)))) (gNm 2) tYesD (dVO (callD0 e (aCons (dHV (d2 ixV (dVar 0) (dVar 2))) (aCons (dHV (d2 ixV (dVar 1) (dVar 2))) aNil)))) [2] = X at *
  generalize (rangeI 0 xs.length).map (fun _ => Val.bl true) = ys at *
  simp [fo_ok, th_nx, th_rt, th_bk, th_ct, op_s, ob_ok, oo_s, de_v, de_s, ds_n, ds_c, ts_n, ts_c, tv_v, tv_s, fl_rt, fl_nx, x_dHV, x_dVar, x_dC, x_dVH, x_dIt, x_dRg, x_tYesD, x_dU, x_sPut, x_d2, x_aNil, x_aCons, x_dN, x_pNone, x_pSome, x_dSl, x_dTup, x_dOV, x_dVO, x_dLst, x_tOf, x_tBl, x_dChain, x_tAndD, x_tOrD, x_tNotD, x_vAnd, x_vOr, x_vNot, x_dIf, x_dNeg, x_dIsN, x_dNotN, x_dNo, x_dR1, x_dR2, x_dLR, x_dIsi, x_sSkip, x_sBreak, x_sCont, x_sSeq, x_sIf, x_sDrop, x_sRet, x_asg, x_sSet, x_gNm, x_gN, x_gC, x_gTp, x_sAsg, x_sPar, x_g1, x_g2, x_go1, x_callD0, x_callD1, parOf, putV, lstOf, setL, frOf, Sl.view, add_int, sub_int, int_int, ixl, ixt, len_lst, len_tup, lt_int, gt_int, le_int, ge_int, eq_int, ne_int, at0, at1, at2, at3, notNo, isNone, tupOf, x_dBk, isi_non_int, isi_non_bool, isi_non_str, isi_non_tuple, isi_non_list, isi_bl_int, isi_bl_bool, isi_bl_str, isi_bl_tuple, isi_bl_list, isi_int_int, isi_int_bool, isi_int_str, isi_int_tuple, isi_int_list, isi_str_int, isi_str_bool, isi_str_str, isi_str_tuple, isi_str_list, isi_tup_int, isi_tup_bool, isi_tup_str, isi_tup_tuple, isi_tup_list, isi_lst_int, isi_lst_bool, isi_lst_str, isi_lst_tuple, isi_lst_list, eq_bl, ne_bl, truth, parIn, parBack, k2, k3]
theorem same_fin (X : DV) (v : Val) (n : Int) (b1 b2 : Bool) (h1 : isiV "tuple" v = some (.bl b1)) (h2 : isiV "list" v = some (.bl b2)) (hb : b1 = true ∨ b2 = true) (hv : lenV v = some (.int n)) (hX : X [.fz v, .fz v, .no] = .ok (.bl true, [.fz v, .fz v, .no])) :
    (sIf (tOrD (tAndD (tOf (dHV (dIsi "tuple" (dVar 0)))) (tOf (dHV (dIsi "tuple" (dVar 1))))) (tAndD (tOf (dHV (dIsi "list" (dVar 0)))) (tOf (dHV (dIsi "list" (dVar 1)))))) (sRet (dOV (vAnd (d2 eqV (dHV (dN (g1 lenV) (aCons (dVar 0) aNil))) (dHV (dN (g1 lenV) (aCons (dVar 1) aNil)))) X))) sSkip) [.fz v, .fz v, .no] = .rt (.fz (.bl true)) [.fz v, .fz v, .no] := by
  cases b1 with
  | true => simp [fo_ok, th_nx, th_rt, th_bk, th_ct, op_s, ob_ok, oo_s, de_v, de_s, ds_n, ds_c, ts_n, ts_c, tv_v, tv_s, fl_rt, fl_nx, x_dHV, x_dVar, x_dC, x_dVH, x_dIt, x_dRg, x_tYesD, x_dU, x_sPut, x_d2, x_aNil, x_aCons, x_dN, x_pNone, x_pSome, x_dSl, x_dTup, x_dOV, x_dVO, x_dLst, x_tOf, x_tBl, x_dChain, x_tAndD, x_tOrD, x_tNotD, x_vAnd, x_vOr, x_vNot, x_dIf, x_dNeg, x_dIsN, x_dNotN, x_dNo, x_dR1, x_dR2, x_dLR, x_dIsi, x_sSkip, x_sBreak, x_sCont, x_sSeq, x_sIf, x_sDrop, x_sRet, x_asg, x_sSet, x_gNm, x_gN, x_gC, x_gTp, x_sAsg, x_sPar, x_g1, x_g2, x_go1, x_callD0, x_callD1, parOf, putV, lstOf, setL, frOf, Sl.view, add_int, sub_int, int_int, ixl, ixt, len_lst, len_tup, lt_int, gt_int, le_int, ge_int, eq_int, ne_int, at0, at1, at2, at3, notNo, isNone, tupOf, x_dBk, isi_non_int, isi_non_bool, isi_non_str, isi_non_tuple, isi_non_list, isi_bl_int, isi_bl_bool, isi_bl_str, isi_bl_tuple, isi_bl_list, isi_int_int, isi_int_bool, isi_int_str, isi_int_tuple, isi_int_list, isi_str_int, isi_str_bool, isi_str_str, isi_str_tuple, isi_str_list, isi_tup_int, isi_tup_bool, isi_tup_str, isi_tup_tuple, isi_tup_list, isi_lst_int, isi_lst_bool, isi_lst_str, isi_lst_tuple, isi_lst_list, eq_bl, ne_bl, truth, parIn, parBack, h1, truth, hv, hX]
  | false =>
    rcases hb with h | h
    · cases h
    · subst h
      simp [fo_ok, th_nx, th_rt, th_bk, th_ct, op_s, ob_ok, oo_s, de_v, de_s, ds_n, ds_c, ts_n, ts_c, tv_v, tv_s, fl_rt, fl_nx, x_dHV, x_dVar, x_dC, x_dVH, x_dIt, x_dRg, x_tYesD, x_dU, x_sPut, x_d2, x_aNil, x_aCons, x_dN, x_pNone, x_pSome, x_dSl, x_dTup, x_dOV, x_dVO, x_dLst, x_tOf, x_tBl, x_dChain, x_tAndD, x_tOrD, x_tNotD, x_vAnd, x_vOr, x_vNot, x_dIf, x_dNeg, x_dIsN, x_dNotN, x_dNo, x_dR1, x_dR2, x_dLR, x_dIsi, x_sSkip, x_sBreak, x_sCont, x_sSeq, x_sIf, x_sDrop, x_sRet, x_asg, x_sSet, x_gNm, x_gN, x_gC, x_gTp, x_sAsg, x_sPar, x_g1, x_g2, x_go1, x_callD0, x_callD1, parOf, putV, lstOf, setL, frOf, Sl.view, add_int, sub_int, int_int, ixl, ixt, len_lst, len_tup, lt_int, gt_int, le_int, ge_int, eq_int, ne_int, at0, at1, at2, at3, notNo, isNone, tupOf, x_dBk, isi_non_int, isi_non_bool, isi_non_str, isi_non_tuple, isi_non_list, isi_bl_int, isi_bl_bool, isi_bl_str, isi_bl_tuple, isi_bl_list, isi_int_int, isi_int_bool, isi_int_str, isi_int_tuple, isi_int_list, isi_str_int, isi_str_bool, isi_str_str, isi_str_tuple, isi_str_list, isi_tup_int, isi_tup_bool, isi_tup_str, isi_tup_tuple, isi_tup_list, isi_lst_int, isi_lst_bool, isi_lst_str, isi_lst_tuple, isi_lst_list, eq_bl, ne_bl, truth, parIn, parBack, h1, h2, truth, hv, hX]
theorem same_core (e : FnE) (np : e.np = 2) (n : Nat) (he : SameOk e n) (x : Val) (g : gd x = true) (hd : dp x < n + 1) (hw : wd x = true) : flRes 2 none (D__law_same e [.fz x, .fz x, .no]) = .ok (.fz (.bl true), .no) := by
  have deep : ∀ xs : List Val, PyData.depthAll (pys xs) < n → ∀ y ∈ xs, dp y < n := by
    intro xs
    induction xs with
    | nil => intro _ y hy; cases hy
    | cons z zs ih =>
      intro h y hy
      simp only [pys, PyData.depthAll] at h
      rcases List.mem_cons.mp hy with e | hy
      · rw [e]; unfold dp; omega
      · exact ih (by omega) y hy
  have fin : ∀ ρ', D__law_same e [.fz x, .fz x, .no] = .rt (.fz (.bl true)) ρ' → 2 ≤ ρ'.length → flRes 2 none (D__law_same e [.fz x, .fz x, .no]) = .ok (.fz (.bl true), .no) := fun ρ' h h2 => by
    rw [h, fl_rt]
    have h5 : ¬ ρ'.length < 2 := by omega
    simp [parOf, h5, notNo]
  cases x with
  | tup xs =>
    have g' : gds xs = true := g
    have hdd : PyData.depthAll (pys xs) < n := by
      have h : PyData.depthAll (pys xs) + 1 < n + 1 := by simpa [dp, Val.py, PyData.depth] using hd
      omega
    have gw : xs.length ≤ 1000000 ∧ wds xs = true := by simpa [wd] using hw
    have hx : ∀ y ∈ xs, e.sem [.fz y, .fz y] = .ok (.fz (.bl true), .no) := fun y hy => he y (gds_all.mp g' y hy) (deep xs hdd y hy) (wds_all.mp gw.2 y hy)
    refine fin [.fz (.tup xs), .fz (.tup xs), .no] ?_ (by simp)
    unfold D__law_same
    exact seq_rt (same_fin _ _ xs.length true false (by simp [isiV, tyName]; decide +kernel) (by simp [isiV, tyName]; decide +kernel) (.inl rfl) rfl (same_lc e np xs _ gw.1 rfl (fun _ => rfl) hx))
  | lst xs =>
    have g' : gds xs = true := g
    have hdd : PyData.depthAll (pys xs) < n := by
      have h : PyData.depthAll (pys xs) + 1 < n + 1 := by simpa [dp, Val.py, PyData.depth] using hd
      omega
    have gw : xs.length ≤ 1000000 ∧ wds xs = true := by simpa [wd] using hw
    have hx : ∀ y ∈ xs, e.sem [.fz y, .fz y] = .ok (.fz (.bl true), .no) := fun y hy => he y (gds_all.mp g' y hy) (deep xs hdd y hy) (wds_all.mp gw.2 y hy)
    refine fin [.fz (.lst xs), .fz (.lst xs), .no] ?_ (by simp)
    unfold D__law_same
    exact seq_rt (same_fin _ _ xs.length false true (by simp [isiV, tyName]; decide +kernel) (by simp [isiV, tyName]; decide +kernel) (.inr rfl) rfl (same_lc e np xs _ gw.1 rfl (fun _ => rfl) hx))
  | int i =>
    have i1 : isiV "tuple" (.int i) = some (.bl false) := by simp [isiV, tyName]; decide +kernel
    have i2 : isiV "list" (.int i) = some (.bl false) := by simp [isiV, tyName]; decide +kernel
    have i3 : isiV "bool" (.int i) = some (.bl false) := by simp [isiV, tyName]; decide +kernel
    have i4 : isiV "int" (.int i) = some (.bl true) := by simp [isiV, tyName]; decide +kernel
    refine fin [.fz (.int i), .fz (.int i), .no] ?_ (by simp)
    unfold D__law_same
    rw [seq_nx (ρ' := [.fz (.int i), .fz (.int i), .no]) (by rw [if_f (ρ' := [.fz (.int i), .fz (.int i), .no]) (by simp [fo_ok, th_nx, th_rt, th_bk, th_ct, op_s, ob_ok, oo_s, de_v, de_s, ds_n, ds_c, ts_n, ts_c, tv_v, tv_s, fl_rt, fl_nx, x_dHV, x_dVar, x_dC, x_dVH, x_dIt, x_dRg, x_tYesD, x_dU, x_sPut, x_d2, x_aNil, x_aCons, x_dN, x_pNone, x_pSome, x_dSl, x_dTup, x_dOV, x_dVO, x_dLst, x_tOf, x_tBl, x_dChain, x_tAndD, x_tOrD, x_tNotD, x_vAnd, x_vOr, x_vNot, x_dIf, x_dNeg, x_dIsN, x_dNotN, x_dNo, x_dR1, x_dR2, x_dLR, x_dIsi, x_sSkip, x_sBreak, x_sCont, x_sSeq, x_sIf, x_sDrop, x_sRet, x_asg, x_sSet, x_gNm, x_gN, x_gC, x_gTp, x_sAsg, x_sPar, x_g1, x_g2, x_go1, x_callD0, x_callD1, parOf, putV, lstOf, setL, frOf, Sl.view, add_int, sub_int, int_int, ixl, ixt, len_lst, len_tup, lt_int, gt_int, le_int, ge_int, eq_int, ne_int, at0, at1, at2, at3, notNo, isNone, tupOf, x_dBk, isi_non_int, isi_non_bool, isi_non_str, isi_non_tuple, isi_non_list, isi_bl_int, isi_bl_bool, isi_bl_str, isi_bl_tuple, isi_bl_list, isi_int_int, isi_int_bool, isi_int_str, isi_int_tuple, isi_int_list, isi_str_int, isi_str_bool, isi_str_str, isi_str_tuple, isi_str_list, isi_tup_int, isi_tup_bool, isi_tup_str, isi_tup_tuple, isi_tup_list, isi_lst_int, isi_lst_bool, isi_lst_str, isi_lst_tuple, isi_lst_list, eq_bl, ne_bl, truth, parIn, parBack, i1, i2, truth])]; rfl)]
    rw [seq_nx (ρ' := [.fz (.int i), .fz (.int i), .no]) (by rw [if_f (ρ' := [.fz (.int i), .fz (.int i), .no]) (by simp [fo_ok, th_nx, th_rt, th_bk, th_ct, op_s, ob_ok, oo_s, de_v, de_s, ds_n, ds_c, ts_n, ts_c, tv_v, tv_s, fl_rt, fl_nx, x_dHV, x_dVar, x_dC, x_dVH, x_dIt, x_dRg, x_tYesD, x_dU, x_sPut, x_d2, x_aNil, x_aCons, x_dN, x_pNone, x_pSome, x_dSl, x_dTup, x_dOV, x_dVO, x_dLst, x_tOf, x_tBl, x_dChain, x_tAndD, x_tOrD, x_tNotD, x_vAnd, x_vOr, x_vNot, x_dIf, x_dNeg, x_dIsN, x_dNotN, x_dNo, x_dR1, x_dR2, x_dLR, x_dIsi, x_sSkip, x_sBreak, x_sCont, x_sSeq, x_sIf, x_sDrop, x_sRet, x_asg, x_sSet, x_gNm, x_gN, x_gC, x_gTp, x_sAsg, x_sPar, x_g1, x_g2, x_go1, x_callD0, x_callD1, parOf, putV, lstOf, setL, frOf, Sl.view, add_int, sub_int, int_int, ixl, ixt, len_lst, len_tup, lt_int, gt_int, le_int, ge_int, eq_int, ne_int, at0, at1, at2, at3, notNo, isNone, tupOf, x_dBk, isi_non_int, isi_non_bool, isi_non_str, isi_non_tuple, isi_non_list, isi_bl_int, isi_bl_bool, isi_bl_str, isi_bl_tuple, isi_bl_list, isi_int_int, isi_int_bool, isi_int_str, isi_int_tuple, isi_int_list, isi_str_int, isi_str_bool, isi_str_str, isi_str_tuple, isi_str_list, isi_tup_int, isi_tup_bool, isi_tup_str, isi_tup_tuple, isi_tup_list, isi_lst_int, isi_lst_bool, isi_lst_str, isi_lst_tuple, isi_lst_list, eq_bl, ne_bl, truth, parIn, parBack, i3, truth])]; rfl)]
    exact seq_rt (by rw [if_t (ρ' := [.fz (.int i), .fz (.int i), .no]) (by simp [fo_ok, th_nx, th_rt, th_bk, th_ct, op_s, ob_ok, oo_s, de_v, de_s, ds_n, ds_c, ts_n, ts_c, tv_v, tv_s, fl_rt, fl_nx, x_dHV, x_dVar, x_dC, x_dVH, x_dIt, x_dRg, x_tYesD, x_dU, x_sPut, x_d2, x_aNil, x_aCons, x_dN, x_pNone, x_pSome, x_dSl, x_dTup, x_dOV, x_dVO, x_dLst, x_tOf, x_tBl, x_dChain, x_tAndD, x_tOrD, x_tNotD, x_vAnd, x_vOr, x_vNot, x_dIf, x_dNeg, x_dIsN, x_dNotN, x_dNo, x_dR1, x_dR2, x_dLR, x_dIsi, x_sSkip, x_sBreak, x_sCont, x_sSeq, x_sIf, x_sDrop, x_sRet, x_asg, x_sSet, x_gNm, x_gN, x_gC, x_gTp, x_sAsg, x_sPar, x_g1, x_g2, x_go1, x_callD0, x_callD1, parOf, putV, lstOf, setL, frOf, Sl.view, add_int, sub_int, int_int, ixl, ixt, len_lst, len_tup, lt_int, gt_int, le_int, ge_int, eq_int, ne_int, at0, at1, at2, at3, notNo, isNone, tupOf, x_dBk, isi_non_int, isi_non_bool, isi_non_str, isi_non_tuple, isi_non_list, isi_bl_int, isi_bl_bool, isi_bl_str, isi_bl_tuple, isi_bl_list, isi_int_int, isi_int_bool, isi_int_str, isi_int_tuple, isi_int_list, isi_str_int, isi_str_bool, isi_str_str, isi_str_tuple, isi_str_list, isi_tup_int, isi_tup_bool, isi_tup_str, isi_tup_tuple, isi_tup_list, isi_lst_int, isi_lst_bool, isi_lst_str, isi_lst_tuple, isi_lst_list, eq_bl, ne_bl, truth, parIn, parBack, i4, truth])]; simp [fo_ok, th_nx, th_rt, th_bk, th_ct, op_s, ob_ok, oo_s, de_v, de_s, ds_n, ds_c, ts_n, ts_c, tv_v, tv_s, fl_rt, fl_nx, x_dHV, x_dVar, x_dC, x_dVH, x_dIt, x_dRg, x_tYesD, x_dU, x_sPut, x_d2, x_aNil, x_aCons, x_dN, x_pNone, x_pSome, x_dSl, x_dTup, x_dOV, x_dVO, x_dLst, x_tOf, x_tBl, x_dChain, x_tAndD, x_tOrD, x_tNotD, x_vAnd, x_vOr, x_vNot, x_dIf, x_dNeg, x_dIsN, x_dNotN, x_dNo, x_dR1, x_dR2, x_dLR, x_dIsi, x_sSkip, x_sBreak, x_sCont, x_sSeq, x_sIf, x_sDrop, x_sRet, x_asg, x_sSet, x_gNm, x_gN, x_gC, x_gTp, x_sAsg, x_sPar, x_g1, x_g2, x_go1, x_callD0, x_callD1, parOf, putV, lstOf, setL, frOf, Sl.view, add_int, sub_int, int_int, ixl, ixt, len_lst, len_tup, lt_int, gt_int, le_int, ge_int, eq_int, ne_int, at0, at1, at2, at3, notNo, isNone, tupOf, x_dBk, isi_non_int, isi_non_bool, isi_non_str, isi_non_tuple, isi_non_list, isi_bl_int, isi_bl_bool, isi_bl_str, isi_bl_tuple, isi_bl_list, isi_int_int, isi_int_bool, isi_int_str, isi_int_tuple, isi_int_list, isi_str_int, isi_str_bool, isi_str_str, isi_str_tuple, isi_str_list, isi_tup_int, isi_tup_bool, isi_tup_str, isi_tup_tuple, isi_tup_list, isi_lst_int, isi_lst_bool, isi_lst_str, isi_lst_tuple, isi_lst_list, eq_bl, ne_bl, truth, parIn, parBack])
  | str s =>
    have i1 : isiV "tuple" (.str s) = some (.bl false) := by simp [isiV, tyName]; decide +kernel
    have i2 : isiV "list" (.str s) = some (.bl false) := by simp [isiV, tyName]; decide +kernel
    have i3 : isiV "bool" (.str s) = some (.bl false) := by simp [isiV, tyName]; decide +kernel
    have i4 : isiV "int" (.str s) = some (.bl false) := by simp [isiV, tyName]; decide +kernel
    have i5 : isiV "str" (.str s) = some (.bl true) := by simp [isiV, tyName]; decide +kernel
    have i6 : eqV (.str s) (.str s) = some (.bl true) := by
      unfold eqV
      rw [eqB_b (b := true) rfl rfl (.inl (by rw [dp_str]; omega)) (by simp)]
      rfl
    refine fin [.fz (.str s), .fz (.str s), .no] ?_ (by simp)
    unfold D__law_same
    rw [seq_nx (ρ' := [.fz (.str s), .fz (.str s), .no]) (by rw [if_f (ρ' := [.fz (.str s), .fz (.str s), .no]) (by simp [fo_ok, th_nx, th_rt, th_bk, th_ct, op_s, ob_ok, oo_s, de_v, de_s, ds_n, ds_c, ts_n, ts_c, tv_v, tv_s, fl_rt, fl_nx, x_dHV, x_dVar, x_dC, x_dVH, x_dIt, x_dRg, x_tYesD, x_dU, x_sPut, x_d2, x_aNil, x_aCons, x_dN, x_pNone, x_pSome, x_dSl, x_dTup, x_dOV, x_dVO, x_dLst, x_tOf, x_tBl, x_dChain, x_tAndD, x_tOrD, x_tNotD, x_vAnd, x_vOr, x_vNot, x_dIf, x_dNeg, x_dIsN, x_dNotN, x_dNo, x_dR1, x_dR2, x_dLR, x_dIsi, x_sSkip, x_sBreak, x_sCont, x_sSeq, x_sIf, x_sDrop, x_sRet, x_asg, x_sSet, x_gNm, x_gN, x_gC, x_gTp, x_sAsg, x_sPar, x_g1, x_g2, x_go1, x_callD0, x_callD1, parOf, putV, lstOf, setL, frOf, Sl.view, add_int, sub_int, int_int, ixl, ixt, len_lst, len_tup, lt_int, gt_int, le_int, ge_int, eq_int, ne_int, at0, at1, at2, at3, notNo, isNone, tupOf, x_dBk, isi_non_int, isi_non_bool, isi_non_str, isi_non_tuple, isi_non_list, isi_bl_int, isi_bl_bool, isi_bl_str, isi_bl_tuple, isi_bl_list, isi_int_int, isi_int_bool, isi_int_str, isi_int_tuple, isi_int_list, isi_str_int, isi_str_bool, isi_str_str, isi_str_tuple, isi_str_list, isi_tup_int, isi_tup_bool, isi_tup_str, isi_tup_tuple, isi_tup_list, isi_lst_int, isi_lst_bool, isi_lst_str, isi_lst_tuple, isi_lst_list, eq_bl, ne_bl, truth, parIn, parBack, i1, i2, truth])]; rfl)]
    rw [seq_nx (ρ' := [.fz (.str s), .fz (.str s), .no]) (by rw [if_f (ρ' := [.fz (.str s), .fz (.str s), .no]) (by simp [fo_ok, th_nx, th_rt, th_bk, th_ct, op_s, ob_ok, oo_s, de_v, de_s, ds_n, ds_c, ts_n, ts_c, tv_v, tv_s, fl_rt, fl_nx, x_dHV, x_dVar, x_dC, x_dVH, x_dIt, x_dRg, x_tYesD, x_dU, x_sPut, x_d2, x_aNil, x_aCons, x_dN, x_pNone, x_pSome, x_dSl, x_dTup, x_dOV, x_dVO, x_dLst, x_tOf, x_tBl, x_dChain, x_tAndD, x_tOrD, x_tNotD, x_vAnd, x_vOr, x_vNot, x_dIf, x_dNeg, x_dIsN, x_dNotN, x_dNo, x_dR1, x_dR2, x_dLR, x_dIsi, x_sSkip, x_sBreak, x_sCont, x_sSeq, x_sIf, x_sDrop, x_sRet, x_asg, x_sSet, x_gNm, x_gN, x_gC, x_gTp, x_sAsg, x_sPar, x_g1, x_g2, x_go1, x_callD0, x_callD1, parOf, putV, lstOf, setL, frOf, Sl.view, add_int, sub_int, int_int, ixl, ixt, len_lst, len_tup, lt_int, gt_int, le_int, ge_int, eq_int, ne_int, at0, at1, at2, at3, notNo, isNone, tupOf, x_dBk, isi_non_int, isi_non_bool, isi_non_str, isi_non_tuple, isi_non_list, isi_bl_int, isi_bl_bool, isi_bl_str, isi_bl_tuple, isi_bl_list, isi_int_int, isi_int_bool, isi_int_str, isi_int_tuple, isi_int_list, isi_str_int, isi_str_bool, isi_str_str, isi_str_tuple, isi_str_list, isi_tup_int, isi_tup_bool, isi_tup_str, isi_tup_tuple, isi_tup_list, isi_lst_int, isi_lst_bool, isi_lst_str, isi_lst_tuple, isi_lst_list, eq_bl, ne_bl, truth, parIn, parBack, i3, truth])]; rfl)]
    exact seq_rt (by rw [if_t (ρ' := [.fz (.str s), .fz (.str s), .no]) (by simp [fo_ok, th_nx, th_rt, th_bk, th_ct, op_s, ob_ok, oo_s, de_v, de_s, ds_n, ds_c, ts_n, ts_c, tv_v, tv_s, fl_rt, fl_nx, x_dHV, x_dVar, x_dC, x_dVH, x_dIt, x_dRg, x_tYesD, x_dU, x_sPut, x_d2, x_aNil, x_aCons, x_dN, x_pNone, x_pSome, x_dSl, x_dTup, x_dOV, x_dVO, x_dLst, x_tOf, x_tBl, x_dChain, x_tAndD, x_tOrD, x_tNotD, x_vAnd, x_vOr, x_vNot, x_dIf, x_dNeg, x_dIsN, x_dNotN, x_dNo, x_dR1, x_dR2, x_dLR, x_dIsi, x_sSkip, x_sBreak, x_sCont, x_sSeq, x_sIf, x_sDrop, x_sRet, x_asg, x_sSet, x_gNm, x_gN, x_gC, x_gTp, x_sAsg, x_sPar, x_g1, x_g2, x_go1, x_callD0, x_callD1, parOf, putV, lstOf, setL, frOf, Sl.view, add_int, sub_int, int_int, ixl, ixt, len_lst, len_tup, lt_int, gt_int, le_int, ge_int, eq_int, ne_int, at0, at1, at2, at3, notNo, isNone, tupOf, x_dBk, isi_non_int, isi_non_bool, isi_non_str, isi_non_tuple, isi_non_list, isi_bl_int, isi_bl_bool, isi_bl_str, isi_bl_tuple, isi_bl_list, isi_int_int, isi_int_bool, isi_int_str, isi_int_tuple, isi_int_list, isi_str_int, isi_str_bool, isi_str_str, isi_str_tuple, isi_str_list, isi_tup_int, isi_tup_bool, isi_tup_str, isi_tup_tuple, isi_tup_list, isi_lst_int, isi_lst_bool, isi_lst_str, isi_lst_tuple, isi_lst_list, eq_bl, ne_bl, truth, parIn, parBack, i4, i5, truth])]; simp [fo_ok, th_nx, th_rt, th_bk, th_ct, op_s, ob_ok, oo_s, de_v, de_s, ds_n, ds_c, ts_n, ts_c, tv_v, tv_s, fl_rt, fl_nx, x_dHV, x_dVar, x_dC, x_dVH, x_dIt, x_dRg, x_tYesD, x_dU, x_sPut, x_d2, x_aNil, x_aCons, x_dN, x_pNone, x_pSome, x_dSl, x_dTup, x_dOV, x_dVO, x_dLst, x_tOf, x_tBl, x_dChain, x_tAndD, x_tOrD, x_tNotD, x_vAnd, x_vOr, x_vNot, x_dIf, x_dNeg, x_dIsN, x_dNotN, x_dNo, x_dR1, x_dR2, x_dLR, x_dIsi, x_sSkip, x_sBreak, x_sCont, x_sSeq, x_sIf, x_sDrop, x_sRet, x_asg, x_sSet, x_gNm, x_gN, x_gC, x_gTp, x_sAsg, x_sPar, x_g1, x_g2, x_go1, x_callD0, x_callD1, parOf, putV, lstOf, setL, frOf, Sl.view, add_int, sub_int, int_int, ixl, ixt, len_lst, len_tup, lt_int, gt_int, le_int, ge_int, eq_int, ne_int, at0, at1, at2, at3, notNo, isNone, tupOf, x_dBk, isi_non_int, isi_non_bool, isi_non_str, isi_non_tuple, isi_non_list, isi_bl_int, isi_bl_bool, isi_bl_str, isi_bl_tuple, isi_bl_list, isi_int_int, isi_int_bool, isi_int_str, isi_int_tuple, isi_int_list, isi_str_int, isi_str_bool, isi_str_str, isi_str_tuple, isi_str_list, isi_tup_int, isi_tup_bool, isi_tup_str, isi_tup_tuple, isi_tup_list, isi_lst_int, isi_lst_bool, isi_lst_str, isi_lst_tuple, isi_lst_list, eq_bl, ne_bl, truth, parIn, parBack, i6])
  | non =>
    have i1 : isiV "tuple" .non = some (.bl false) := by simp [isiV, tyName]; decide +kernel
    have i2 : isiV "list" .non = some (.bl false) := by simp [isiV, tyName]; decide +kernel
    have i3 : isiV "bool" .non = some (.bl false) := by simp [isiV, tyName]; decide +kernel
    have i4 : isiV "int" .non = some (.bl false) := by simp [isiV, tyName]; decide +kernel
    have i5 : isiV "str" .non = some (.bl false) := by simp [isiV, tyName]; decide +kernel
    refine fin [.fz .non, .fz .non, .no] ?_ (by simp)
    unfold D__law_same
    rw [seq_nx (ρ' := [.fz .non, .fz .non, .no]) (by rw [if_f (ρ' := [.fz .non, .fz .non, .no]) (by simp [fo_ok, th_nx, th_rt, th_bk, th_ct, op_s, ob_ok, oo_s, de_v, de_s, ds_n, ds_c, ts_n, ts_c, tv_v, tv_s, fl_rt, fl_nx, x_dHV, x_dVar, x_dC, x_dVH, x_dIt, x_dRg, x_tYesD, x_dU, x_sPut, x_d2, x_aNil, x_aCons, x_dN, x_pNone, x_pSome, x_dSl, x_dTup, x_dOV, x_dVO, x_dLst, x_tOf, x_tBl, x_dChain, x_tAndD, x_tOrD, x_tNotD, x_vAnd, x_vOr, x_vNot, x_dIf, x_dNeg, x_dIsN, x_dNotN, x_dNo, x_dR1, x_dR2, x_dLR, x_dIsi, x_sSkip, x_sBreak, x_sCont, x_sSeq, x_sIf, x_sDrop, x_sRet, x_asg, x_sSet, x_gNm, x_gN, x_gC, x_gTp, x_sAsg, x_sPar, x_g1, x_g2, x_go1, x_callD0, x_callD1, parOf, putV, lstOf, setL, frOf, Sl.view, add_int, sub_int, int_int, ixl, ixt, len_lst, len_tup, lt_int, gt_int, le_int, ge_int, eq_int, ne_int, at0, at1, at2, at3, notNo, isNone, tupOf, x_dBk, isi_non_int, isi_non_bool, isi_non_str, isi_non_tuple, isi_non_list, isi_bl_int, isi_bl_bool, isi_bl_str, isi_bl_tuple, isi_bl_list, isi_int_int, isi_int_bool, isi_int_str, isi_int_tuple, isi_int_list, isi_str_int, isi_str_bool, isi_str_str, isi_str_tuple, isi_str_list, isi_tup_int, isi_tup_bool, isi_tup_str, isi_tup_tuple, isi_tup_list, isi_lst_int, isi_lst_bool, isi_lst_str, isi_lst_tuple, isi_lst_list, eq_bl, ne_bl, truth, parIn, parBack, i1, i2, truth])]; rfl)]
    rw [seq_nx (ρ' := [.fz .non, .fz .non, .no]) (by rw [if_f (ρ' := [.fz .non, .fz .non, .no]) (by simp [fo_ok, th_nx, th_rt, th_bk, th_ct, op_s, ob_ok, oo_s, de_v, de_s, ds_n, ds_c, ts_n, ts_c, tv_v, tv_s, fl_rt, fl_nx, x_dHV, x_dVar, x_dC, x_dVH, x_dIt, x_dRg, x_tYesD, x_dU, x_sPut, x_d2, x_aNil, x_aCons, x_dN, x_pNone, x_pSome, x_dSl, x_dTup, x_dOV, x_dVO, x_dLst, x_tOf, x_tBl, x_dChain, x_tAndD, x_tOrD, x_tNotD, x_vAnd, x_vOr, x_vNot, x_dIf, x_dNeg, x_dIsN, x_dNotN, x_dNo, x_dR1, x_dR2, x_dLR, x_dIsi, x_sSkip, x_sBreak, x_sCont, x_sSeq, x_sIf, x_sDrop, x_sRet, x_asg, x_sSet, x_gNm, x_gN, x_gC, x_gTp, x_sAsg, x_sPar, x_g1, x_g2, x_go1, x_callD0, x_callD1, parOf, putV, lstOf, setL, frOf, Sl.view, add_int, sub_int, int_int, ixl, ixt, len_lst, len_tup, lt_int, gt_int, le_int, ge_int, eq_int, ne_int, at0, at1, at2, at3, notNo, isNone, tupOf, x_dBk, isi_non_int, isi_non_bool, isi_non_str, isi_non_tuple, isi_non_list, isi_bl_int, isi_bl_bool, isi_bl_str, isi_bl_tuple, isi_bl_list, isi_int_int, isi_int_bool, isi_int_str, isi_int_tuple, isi_int_list, isi_str_int, isi_str_bool, isi_str_str, isi_str_tuple, isi_str_list, isi_tup_int, isi_tup_bool, isi_tup_str, isi_tup_tuple, isi_tup_list, isi_lst_int, isi_lst_bool, isi_lst_str, isi_lst_tuple, isi_lst_list, eq_bl, ne_bl, truth, parIn, parBack, i3, truth])]; rfl)]
    rw [seq_nx (ρ' := [.fz .non, .fz .non, .no]) (by rw [if_f (ρ' := [.fz .non, .fz .non, .no]) (by simp [fo_ok, th_nx, th_rt, th_bk, th_ct, op_s, ob_ok, oo_s, de_v, de_s, ds_n, ds_c, ts_n, ts_c, tv_v, tv_s, fl_rt, fl_nx, x_dHV, x_dVar, x_dC, x_dVH, x_dIt, x_dRg, x_tYesD, x_dU, x_sPut, x_d2, x_aNil, x_aCons, x_dN, x_pNone, x_pSome, x_dSl, x_dTup, x_dOV, x_dVO, x_dLst, x_tOf, x_tBl, x_dChain, x_tAndD, x_tOrD, x_tNotD, x_vAnd, x_vOr, x_vNot, x_dIf, x_dNeg, x_dIsN, x_dNotN, x_dNo, x_dR1, x_dR2, x_dLR, x_dIsi, x_sSkip, x_sBreak, x_sCont, x_sSeq, x_sIf, x_sDrop, x_sRet, x_asg, x_sSet, x_gNm, x_gN, x_gC, x_gTp, x_sAsg, x_sPar, x_g1, x_g2, x_go1, x_callD0, x_callD1, parOf, putV, lstOf, setL, frOf, Sl.view, add_int, sub_int, int_int, ixl, ixt, len_lst, len_tup, lt_int, gt_int, le_int, ge_int, eq_int, ne_int, at0, at1, at2, at3, notNo, isNone, tupOf, x_dBk, isi_non_int, isi_non_bool, isi_non_str, isi_non_tuple, isi_non_list, isi_bl_int, isi_bl_bool, isi_bl_str, isi_bl_tuple, isi_bl_list, isi_int_int, isi_int_bool, isi_int_str, isi_int_tuple, isi_int_list, isi_str_int, isi_str_bool, isi_str_str, isi_str_tuple, isi_str_list, isi_tup_int, isi_tup_bool, isi_tup_str, isi_tup_tuple, isi_tup_list, isi_lst_int, isi_lst_bool, isi_lst_str, isi_lst_tuple, isi_lst_list, eq_bl, ne_bl, truth, parIn, parBack, i4, i5, truth])]; rfl)]
    simp [fo_ok, th_nx, th_rt, th_bk, th_ct, op_s, ob_ok, oo_s, de_v, de_s, ds_n, ds_c, ts_n, ts_c, tv_v, tv_s, fl_rt, fl_nx, x_dHV, x_dVar, x_dC, x_dVH, x_dIt, x_dRg, x_tYesD, x_dU, x_sPut, x_d2, x_aNil, x_aCons, x_dN, x_pNone, x_pSome, x_dSl, x_dTup, x_dOV, x_dVO, x_dLst, x_tOf, x_tBl, x_dChain, x_tAndD, x_tOrD, x_tNotD, x_vAnd, x_vOr, x_vNot, x_dIf, x_dNeg, x_dIsN, x_dNotN, x_dNo, x_dR1, x_dR2, x_dLR, x_dIsi, x_sSkip, x_sBreak, x_sCont, x_sSeq, x_sIf, x_sDrop, x_sRet, x_asg, x_sSet, x_gNm, x_gN, x_gC, x_gTp, x_sAsg, x_sPar, x_g1, x_g2, x_go1, x_callD0, x_callD1, parOf, putV, lstOf, setL, frOf, Sl.view, add_int, sub_int, int_int, ixl, ixt, len_lst, len_tup, lt_int, gt_int, le_int, ge_int, eq_int, ne_int, at0, at1, at2, at3, notNo, isNone, tupOf, x_dBk, isi_non_int, isi_non_bool, isi_non_str, isi_non_tuple, isi_non_list, isi_bl_int, isi_bl_bool, isi_bl_str, isi_bl_tuple, isi_bl_list, isi_int_int, isi_int_bool, isi_int_str, isi_int_tuple, isi_int_list, isi_str_int, isi_str_bool, isi_str_str, isi_str_tuple, isi_str_list, isi_tup_int, isi_tup_bool, isi_tup_str, isi_tup_tuple, isi_tup_list, isi_lst_int, isi_lst_bool, isi_lst_str, isi_lst_tuple, isi_lst_list, eq_bl, ne_bl, truth, parIn, parBack, truth]
  | _ => simp [gd] at g
theorem same_ok : ∀ n : Nat, SameOk (E__law_same n) n
  | 0 => fun x _ h _ => absurd h (Nat.not_lt_zero _)
  | n + 1 => fun x g h w => by
    rw [s__law_same]
    exact same_core (E__law_same n) (lv__law_same n).2.2 n (same_ok n) x g h w

/-! ### a value bent -/
mutual
def iv (L : Nat) : Val → Bool
  | .tup xs => decide (xs.length ≤ L) && ivs L xs
  | .int i => decide (i.natAbs ≤ 1000000000000)
  | _ => false
def ivs (L : Nat) : List Val → Bool
  | [] => true
  | x :: xs => iv L x && ivs L xs
end
theorem ivs_all {L : Nat} {xs : List Val} : ivs L xs = true ↔ ∀ x ∈ xs, iv L x = true := by
  induction xs with
  | nil => simp [ivs]
  | cons x xs ih => simp [ivs, ih]
mutual
theorem iv_nice {L : Nat} : ∀ {x : Val}, iv L x = true → nice L x = true
  | .tup xs, g => by
    simp only [iv, nice, Bool.and_eq_true] at g ⊢
    exact ⟨g.1, ivs_nice g.2⟩
  | .int _, _ => rfl
theorem ivs_nice {L : Nat} : ∀ {xs : List Val}, ivs L xs = true → nices L xs = true
  | [], _ => rfl
  | x :: xs, g => by
    simp only [ivs, nices, Bool.and_eq_true] at g ⊢
    exact ⟨iv_nice g.1, ivs_nice g.2⟩
end
theorem cutL_mem {α : Type} {xs : List α} {lo hi : Option Int} {x : α} (h : x ∈ cutL xs lo hi) : x ∈ xs := List.mem_of_mem_drop (List.mem_of_mem_take h)
theorem cutL_len {α : Type} (xs : List α) (lo hi : Option Int) : (cutL xs lo hi).length ≤ xs.length := by
  unfold cutL
  rw [List.length_take, List.length_drop]
  omega
theorem backL_mem {α : Type} {xs : List α} {lo hi : Option Int} {x : α} (h : x ∈ backL xs lo hi) : x ∈ xs := by
  unfold backL at h
  obtain ⟨m, _, e⟩ := List.mem_filterMap.mp h
  exact List.mem_of_getElem? e
theorem nice_tup {L : Nat} {ys : List Val} (h : ∀ y ∈ ys, nice L y = true) (hl : ys.length ≤ L) : nice L (.tup ys) = true := by
  simp only [nice, Bool.and_eq_true, decide_eq_true_eq]
  exact ⟨hl, nices_all.mpr h⟩
theorem dp_lt {z : Val} {xs : List Val} (h : z ∈ xs) : dp z < dp (.tup xs) := by
  have e : dp (.tup xs) = PyData.depthAll (pys xs) + 1 := by simp [dp, Val.py, PyData.depth]
  rw [e]
  have : ∀ ys : List Val, z ∈ ys → dp z ≤ PyData.depthAll (pys ys) := by
    intro ys
    induction ys with
    | nil => intro h; cases h
    | cons y ys ih =>
      intro h
      simp only [pys, PyData.depthAll]
      rcases List.mem_cons.mp h with rfl | h
      · unfold dp; omega
      · have := ih h; omega
  have := this xs h
  omega
theorem at_mem {rows : List Val} {p : Int} (h0 : 0 ≤ p) (h1 : p < rows.length) : ∃ y ∈ rows, L2.atI rows p = some y := by
  have : p.toNat < rows.length := by omega
  exact ⟨rows[p.toNat], List.getElem_mem this, by rw [atI_int h0 h1]; simp [this]⟩
def BentOk (e : FnE) (m : Nat) : Prop := ∀ (L : Nat) (b : Bx) (x : Val), 2 ≤ L → L ≤ 900 → iv L x = true → dp x < m → ∃ (b' : Bx) (y : Val), e.sem [.pbox b.c b.d b.s, .fz x] = .ok (.fz y, .pbox b'.c b'.d b'.s) ∧ nice (L + 2) y = true
def rowsI (n : Int) : List Val := [.int (n + 1), .int (n - 1), .int (-n), .bl (decide (n = 1)), .non, .str (Str.ofString (toString n)), .tup [.int n], .int (n + 1001)]
theorem str_int (n : Int) (h : n.natAbs ≤ 1000000000000) : strV (.int n) = some (.str (Str.ofString (toString n))) := by
  have h1 : n.natAbs.log2 < 1920 := by
    have : n.natAbs.log2 ≤ (2 ^ 40 : Nat).log2 := by
      by_cases h0 : n.natAbs = 0
      · rw [h0]; simp
      · exact (Nat.le_log2 (by decide)).mpr (Nat.le_trans (Nat.log2_self_le h0) (by omega))
    have e : (2 ^ 40 : Nat).log2 = 40 := by decide
    omega
  unfold strV
  simp [h1]
theorem bent_int (ed eb : FnE) (hd : DrawOk ed) (L : Nat) (b : Bx) (n : Int) (h : n.natAbs ≤ 1000000000000) (hL : 2 ≤ L) : ∃ (b' : Bx) (y : Val), flRes 2 (some 0) (D__law_bent ed eb [.pbox b.c b.d b.s, .fz (.int n), .no, .no]) = .ok (.fz y, .pbox b'.c b'.d b'.s) ∧ nice (L + 2) y = true := by
  obtain ⟨p, b1, p0, p1, e1⟩ := hd.ex b (m := 8) (by decide) (by decide)
  obtain ⟨y, hm, hy⟩ := at_mem (rows := rowsI n) p0 p1
  have n1 := hd.1
  have hs := str_int n h
  refine ⟨b1, y, ?_, ?_⟩
  · unfold rowsI at hy
    generalize Str.ofString (toString n) = st at *
    unfold D__law_bent
    simp -implicitDefEqProofs [n1, e1, hs, hy]
  · simp only [rowsI, List.mem_cons, List.not_mem_nil, or_false] at hm
    rcases hm with rfl | rfl | rfl | rfl | rfl | rfl | rfl | rfl <;> simp [nice, nices]
def rowsT (xs : List Val) : List Val := [.tup (xs ++ cutL xs none (some 1)), .tup (cutL xs (some 1) none), .tup (backL xs none none), .tup (xs ++ [.int 0]), .tup (cutL xs none (some 1) ++ xs), .tup (cutL xs none (some (-1))), .non, .tup (cutL xs none (some 1))]
theorem cut1_len {α : Type} (xs : List α) : (cutL xs none (some 1)).length ≤ 1 := by
  unfold cutL
  rw [List.length_take, List.length_drop]
  have : HT.sIx xs.length xs.length (some 1) ≤ 1 := by unfold HT.sIx; simp; omega
  omega
theorem rowsT_nice {L : Nat} {xs : List Val} (hL : 2 ≤ L) (h : iv L (.tup xs) = true) : ∀ y ∈ rowsT xs, nice (L + 2) y = true := by
  simp only [iv, Bool.and_eq_true, decide_eq_true_eq] at h
  have hn : ∀ y ∈ xs, nice (L + 2) y = true := fun y hy => nice_mono (by omega) (iv_nice (ivs_all.mp h.2 y hy))
  have c1 := cutL_len xs none (some 1)
  have c2 := cutL_len xs (some 1) none
  have c3 := backL_len xs none none
  have c4 := cutL_len xs none (some (-1))
  have c5 := cut1_len xs
  intro y hy
  simp only [rowsT, List.mem_cons, List.not_mem_nil, or_false] at hy
  rcases hy with rfl | rfl | rfl | rfl | rfl | rfl | rfl | rfl
  · exact nice_tup (fun y hy => (List.mem_append.mp hy).elim (hn y) fun h => hn y (cutL_mem h)) (by rw [List.length_append]; omega)
  · exact nice_tup (fun y hy => hn y (cutL_mem hy)) (by omega)
  · exact nice_tup (fun y hy => hn y (backL_mem hy)) (by omega)
  · exact nice_tup (fun y hy => (List.mem_append.mp hy).elim (hn y) fun h => by rw [List.mem_singleton.mp h]; rfl) (by rw [List.length_append]; simp; omega)
  · exact nice_tup (fun y hy => (List.mem_append.mp hy).elim (fun h => hn y (cutL_mem h)) (hn y)) (by rw [List.length_append]; omega)
  · exact nice_tup (fun y hy => hn y (cutL_mem hy)) (by omega)
  · rfl
  · exact nice_tup (fun y hy => hn y (cutL_mem hy)) (by omega)
theorem bent_flat (e__law_draw e__law_bent : FnE) (hd : DrawOk e__law_draw) (b : Bx) (xs : List Val) (hl : xs.length ≤ 1000) (ρ : Ev.Env) (hρ : ρ = [.pbox b.c b.d b.s, .fz (.tup xs), .no, .no]) : ∃ (b' : Bx) (y : Val) (s3 : Sl), (sSeq (sSet 3 (callD1 e__law_draw 0 (aCons (dVar 0) (aCons (dHV (dC (.int 8))) aNil))))
  (sSeq (sIf (tOf (dHV (dIsi "tuple" (dVar 1)))) (sRet (dOV (d2 ixV (dHV (dVO (dLst (aCons (dHV (d2 addV (dVar 1) (dHV (dSl (dVar 1) pNone (pSome (dC (.int 1))))))) (aCons (dHV (dSl (dVar 1) (pSome (dC (.int 1))) pNone)) (aCons (dHV (dBk (dVar 1) pNone pNone)) (aCons (dHV (d2 addV (dVar 1) (dHV (dTup (aCons (dHV (dC (.int 0))) aNil))))) (aCons (dHV (d2 addV (dHV (dSl (dVar 1) pNone (pSome (dC (.int 1))))) (dVar 1))) (aCons (dHV (dSl (dVar 1) pNone (pSome (dNeg (dC (.int 1)))))) (aCons (dHV (dC .non)) (aCons (dHV (dSl (dVar 1) pNone (pSome (dC (.int 1))))) aNil))))))))))) (dVar 3)))) sSkip)
  (sSeq (sIf (tAndD (tOf (dHV (dIsi "int" (dVar 1)))) (tNotD (tOf (dHV (dIsi "bool" (dVar 1)))))) (sRet (dOV (d2 ixV (dHV (dVO (dLst (aCons (dHV (d2 addV (dVar 1) (dHV (dC (.int 1))))) (aCons (dHV (d2 subV (dVar 1) (dHV (dC (.int 1))))) (aCons (dHV (dNeg (dVH (dVar 1)))) (aCons (dHV (d2 eqV (dVar 1) (dHV (dC (.int 1))))) (aCons (dHV (dC .non)) (aCons (dHV (dN (g1 strV) (aCons (dVar 1) aNil))) (aCons (dHV (dTup (aCons (dVar 1) aNil))) (aCons (dHV (d2 addV (dVar 1) (dHV (dC (.int 1001))))) aNil))))))))))) (dVar 3)))) sSkip)
  (sSeq (sIf (tOf (dHV (dIsi "str" (dVar 1)))) (sRet (dOV (d2 ixV (dHV (dVO (dLst (aCons (dHV (d2 addV (dVar 1) (dHV (dC (.str "a"))))) (aCons (dHV (dSl (dVar 1) (pSome (dC (.int 1))) pNone)) (aCons (dHV (dC (.str "any"))) (aCons (dHV dBad) (aCons (dHV (dC (.int 0))) (aCons (dHV (dC (.str ""))) (aCons (dHV (d2 addV (dVar 1) (dHV (dC (.str "z0z0z0z0"))))) (aCons (dHV (dTup (aCons (dVar 1) aNil))) aNil))))))))))) (dVar 3)))) sSkip)
  (sRet (dOV (d2 ixV (dHV (dVO (dLst (aCons (dHV (dC (.int 0))) (aCons (dHV (dC (.int 1))) (aCons (dHV (dC .non)) (aCons (dHV (dC (.bl true))) (aCons (dHV (dC (.bl false))) (aCons (dHV (dC (.str "a"))) (aCons (dHV (dTup aNil)) (aCons (dHV (dNeg (dC (.int 1)))) aNil))))))))))) (dVar 3)))))))) ρ = .rt (.fz y) [.pbox b'.c b'.d b'.s, .fz (.tup xs), .no, s3] ∧ y ∈ rowsT xs := by
  subst hρ
  obtain ⟨p, b1, p0, p1, e1⟩ := hd.ex b (m := 8) (by decide) (by decide)
  obtain ⟨y, hm, hy⟩ := at_mem (rows := rowsT xs) p0 p1
  have n1 := hd.1
  have c1 := cutL_len xs none (some 1)
  have a1 : xs.length + (cutL xs none (some 1)).length ≤ 1000000 := by omega
  have a2 : xs.length + 1 ≤ 1000000 := by omega
  have a3 : (cutL xs none (some 1)).length + xs.length ≤ 1000000 := by omega
  refine ⟨b1, y, .fz (.int p), ?_, hm⟩
  unfold rowsT at hy
  simp -implicitDefEqProofs [n1, e1, hy, a1, a2, a3]
theorem cut_at {α : Type} (xs : List α) (d : Int) (h0 : 0 ≤ d) (h : d < xs.length) : (cutL xs none (some d)).length = d.toNat ∧ (cutL xs (some (d + 1)) none).length = xs.length - (d.toNat + 1) := by
  have h1 : HT.sIx xs.length xs.length (some d) = d.toNat := by
    unfold HT.sIx
    have : ¬ (d < 0) := by omega
    simp [this]
    omega
  have h2 : HT.sIx xs.length 0 (some (d + 1)) = d.toNat + 1 := by
    unfold HT.sIx
    have : ¬ (d + 1 < 0) := by omega
    simp [this]
    omega
  have h3 : HT.sIx xs.length 0 none = 0 := rfl
  have h4 : HT.sIx xs.length xs.length none = xs.length := rfl
  unfold cutL
  rw [h1, h2, h3, h4]
  simp
  omega
theorem bent_core (e__law_draw e__law_bent : FnE) (hd : DrawOk e__law_draw) (nb : e__law_bent.np = 2) (m : Nat) (hb : BentOk e__law_bent m) (L : Nat) (b : Bx) (x : Val) (hL : 2 ≤ L) (hL2 : L ≤ 900) (hi : iv L x = true) (hdp : dp x < m + 1) :
    ∃ (b' : Bx) (y : Val), flRes 2 (some 0) (D__law_bent e__law_draw e__law_bent [.pbox b.c b.d b.s, .fz x, .no, .no]) = .ok (.fz y, .pbox b'.c b'.d b'.s) ∧ nice (L + 2) y = true := by
  have n1 := hd.1
  cases x with
  | int n =>
    simp only [iv, decide_eq_true_eq] at hi
    exact bent_int e__law_draw e__law_bent hd L b n hi hL
  | tup xs =>
    have hi0 := hi
    simp only [iv, Bool.and_eq_true, decide_eq_true_eq] at hi
    have flat : ∀ b1 : Bx, D__law_bent e__law_draw e__law_bent [.pbox b.c b.d b.s, .fz (.tup xs), .no, .no] = (sSeq (sSet 3 (callD1 e__law_draw 0 (aCons (dVar 0) (aCons (dHV (dC (.int 8))) aNil))))
  (sSeq (sIf (tOf (dHV (dIsi "tuple" (dVar 1)))) (sRet (dOV (d2 ixV (dHV (dVO (dLst (aCons (dHV (d2 addV (dVar 1) (dHV (dSl (dVar 1) pNone (pSome (dC (.int 1))))))) (aCons (dHV (dSl (dVar 1) (pSome (dC (.int 1))) pNone)) (aCons (dHV (dBk (dVar 1) pNone pNone)) (aCons (dHV (d2 addV (dVar 1) (dHV (dTup (aCons (dHV (dC (.int 0))) aNil))))) (aCons (dHV (d2 addV (dHV (dSl (dVar 1) pNone (pSome (dC (.int 1))))) (dVar 1))) (aCons (dHV (dSl (dVar 1) pNone (pSome (dNeg (dC (.int 1)))))) (aCons (dHV (dC .non)) (aCons (dHV (dSl (dVar 1) pNone (pSome (dC (.int 1))))) aNil))))))))))) (dVar 3)))) sSkip)
  (sSeq (sIf (tAndD (tOf (dHV (dIsi "int" (dVar 1)))) (tNotD (tOf (dHV (dIsi "bool" (dVar 1)))))) (sRet (dOV (d2 ixV (dHV (dVO (dLst (aCons (dHV (d2 addV (dVar 1) (dHV (dC (.int 1))))) (aCons (dHV (d2 subV (dVar 1) (dHV (dC (.int 1))))) (aCons (dHV (dNeg (dVH (dVar 1)))) (aCons (dHV (d2 eqV (dVar 1) (dHV (dC (.int 1))))) (aCons (dHV (dC .non)) (aCons (dHV (dN (g1 strV) (aCons (dVar 1) aNil))) (aCons (dHV (dTup (aCons (dVar 1) aNil))) (aCons (dHV (d2 addV (dVar 1) (dHV (dC (.int 1001))))) aNil))))))))))) (dVar 3)))) sSkip)
  (sSeq (sIf (tOf (dHV (dIsi "str" (dVar 1)))) (sRet (dOV (d2 ixV (dHV (dVO (dLst (aCons (dHV (d2 addV (dVar 1) (dHV (dC (.str "a"))))) (aCons (dHV (dSl (dVar 1) (pSome (dC (.int 1))) pNone)) (aCons (dHV (dC (.str "any"))) (aCons (dHV dBad) (aCons (dHV (dC (.int 0))) (aCons (dHV (dC (.str ""))) (aCons (dHV (d2 addV (dVar 1) (dHV (dC (.str "z0z0z0z0"))))) (aCons (dHV (dTup (aCons (dVar 1) aNil))) aNil))))))))))) (dVar 3)))) sSkip)
  (sRet (dOV (d2 ixV (dHV (dVO (dLst (aCons (dHV (dC (.int 0))) (aCons (dHV (dC (.int 1))) (aCons (dHV (dC .non)) (aCons (dHV (dC (.bl true))) (aCons (dHV (dC (.bl false))) (aCons (dHV (dC (.str "a"))) (aCons (dHV (dTup aNil)) (aCons (dHV (dNeg (dC (.int 1)))) aNil))))))))))) (dVar 3)))))))) [.pbox b1.c b1.d b1.s, .fz (.tup xs), .no, .no] → ∃ (b' : Bx) (y : Val), flRes 2 (some 0) (D__law_bent e__law_draw e__law_bent [.pbox b.c b.d b.s, .fz (.tup xs), .no, .no]) = .ok (.fz y, .pbox b'.c b'.d b'.s) ∧ nice (L + 2) y = true := fun b1 h => by
      obtain ⟨b', y, s3, e, hm⟩ := bent_flat e__law_draw e__law_bent hd b1 xs (by omega) _ rfl
      rw [h, e]
      exact ⟨b', y, by simp -implicitDefEqProofs, rowsT_nice hL hi0 y hm⟩
    by_cases hz : xs = []
    · subst hz
      refine flat b ?_
      unfold D__law_bent
      rw [seq_nx (ρ' := [.pbox b.c b.d b.s, .fz (.tup []), .no, .no]) (by simp -implicitDefEqProofs)]
    · have hlp : 0 < xs.length := List.length_pos_iff.mpr hz
      obtain ⟨p, b1, p0, p1, e1⟩ := hd.ex b (m := 5) (by decide) (by decide)
      by_cases hp : p = 0
      · subst hp
        refine flat b1 ?_
        unfold D__law_bent
        rw [seq_nx (ρ' := [.pbox b1.c b1.d b1.s, .fz (.tup xs), .no, .no]) (by simp -implicitDefEqProofs [n1, e1, hlp])]
      · have hp : 0 < p := by omega
        obtain ⟨d, b2, d0, d1, e2⟩ := hd.ex b1 (m := (xs.length : Int)) (by omega) (by omega)
        have hdn : d.toNat < xs.length := by omega
        have at1 : L2.atI xs d = some xs[d.toNat] := by rw [atI_int d0 d1]; simp [hdn]
        obtain ⟨b3, y, e3, hy⟩ := hb L b2 xs[d.toNat] hL hL2 (ivs_all.mp hi.2 _ (List.getElem_mem hdn)) (by have := dp_lt (List.getElem_mem hdn); omega)
        obtain ⟨c1, c2⟩ := cut_at xs d d0 d1
        generalize xs[d.toNat] = z at *
        refine ⟨b3, .tup ((cutL xs none (some d) ++ [y]) ++ cutL xs (some (d + 1)) none), ?_, ?_⟩
        · have a1 : (cutL xs none (some d)).length + 1 ≤ 1000000 := by omega
          have a2 : (cutL xs none (some d)).length + 1 + (cutL xs (some (d + 1)) none).length ≤ 1000000 := by omega
          unfold D__law_bent
          simp -implicitDefEqProofs [n1, nb, e1, e2, e3, hlp, hp, at1, a1, a2]
        · have hn : ∀ y ∈ xs, nice (L + 2) y = true := fun y hy => nice_mono (by omega) (iv_nice (ivs_all.mp hi.2 y hy))
          refine nice_tup (fun u hu => ?_) (by rw [List.length_append, List.length_append]; simp; omega)
          rcases List.mem_append.mp hu with hu | hu
          · rcases List.mem_append.mp hu with hu | hu
            · exact hn u (cutL_mem hu)
            · rw [List.mem_singleton.mp hu]; exact hy
          · exact hn u (cutL_mem hu)
  | _ => simp [iv] at hi
theorem bent_ok : ∀ m : Nat, BentOk (E__law_bent m) m
  | 0 => fun L b x _ _ _ h => absurd h (Nat.not_lt_zero _)
  | m + 1 => fun L b x hL hL2 hi hd => by
    rw [s__law_bent]
    exact bent_core _ _ draw_ok (lv__law_bent m).2.2 m (bent_ok m) L b x hL hL2 hi hd

/-! ### numbers within bounds -/
def cnt (lo hi : Int) : Val → Bool
  | .int n => decide (lo ≤ n) && decide (n ≤ hi)
  | _ => false
theorem cnt_int {lo hi : Int} {x : Val} (h : cnt lo hi x = true) : ∃ n, x = .int n ∧ lo ≤ n ∧ n ≤ hi := by
  cases x with
  | int n => simp only [cnt, Bool.and_eq_true, decide_eq_true_eq] at h; exact ⟨n, rfl, h⟩
  | _ => cases h
theorem all_cnt {lo hi : Int} : ∀ {xs : List Val}, xs.all (cnt lo hi) = true → ∃ ns : List Int, xs = ns.map .int ∧ ∀ n ∈ ns, lo ≤ n ∧ n ≤ hi
  | [], _ => ⟨[], rfl, fun _ h => by cases h⟩
  | x :: xs, h => by
    rw [List.all_cons, Bool.and_eq_true] at h
    obtain ⟨n, rfl, h1⟩ := cnt_int h.1
    obtain ⟨ns, rfl, h2⟩ := all_cnt h.2
    exact ⟨n :: ns, rfl, fun m hm => (List.mem_cons.mp hm).elim (fun e => e ▸ h1) (h2 m)⟩
def CountOk (e : FnE) : Prop := e.np = 3 ∧ ∀ (L : Nat) (x : Val) (lo hi : Int), nice L x = true → e.sem [.fz x, .fz (.int lo), .fz (.int hi)] = .ok (.fz (.bl (cnt lo hi x)), .no)
theorem count_ok : CountOk E_is_count := by
  refine ⟨rfl, fun L x lo hi h => ?_⟩
  rw [s_is_count]
  unfold D_is_count
  cases x with
  | non => simp -implicitDefEqProofs [cnt]
  | bl b => simp -implicitDefEqProofs [cnt]
  | int n => by_cases h1 : lo ≤ n <;> simp -implicitDefEqProofs [cnt, h1]
  | str s => simp -implicitDefEqProofs [cnt]
  | tup xs => simp -implicitDefEqProofs [cnt]
  | _ => simp [nice] at h

/-! ### rows of pairs -/
abbrev Pr := Int × Int
def stV (S : List Pr) : Val := .tup (S.map prV)
def gt (S : List Pr) (i : Int) : Pr := (S[i.toNat]?).getD (0, 0)
theorem at_st (S : List Pr) {i : Int} (h0 : 0 ≤ i) (h1 : i < S.length) : L2.atI (S.map prV) i = some (prV (gt S i)) := by
  rw [atI_int h0 (by simpa using h1), List.getElem?_map]
  have : i.toNat < S.length := by omega
  simp [this, gt]
theorem ix_st (S : List Pr) {i : Int} (h0 : 0 ≤ i) (h1 : i < S.length) : ixV (stV S) (.int i) = some (prV (gt S i)) := at_st S h0 h1
theorem len_st (S : List Pr) : lenV (stV S) = some (.int S.length) := by simp [stV]
theorem ix_pr0 (p : Pr) : ixV (prV p) (.int 0) = some (.int p.1) := by simp [prV]
theorem ix_pr1 (p : Pr) : ixV (prV p) (.int 1) = some (.int p.2) := by simp [prV]
theorem go_st (S : List Pr) : goesV (stV S) = some (S.map prV) := rfl
def landV (n : Int) (P : List Pr) : Val := .tup [.int n, .tup (P.map prV)]

/-! ### a number, or None -/
def optV : Option Int → Val
  | none => .non
  | some i => .int i
theorem intsOf_ints : ∀ (ns : List Int), intsOf (ns.map .int) = some ns
  | [] => rfl
  | n :: ns => by
    show (intsOf (ns.map .int)).map (n :: ·) = _
    rw [intsOf_ints ns]; rfl
theorem ls_ints (ns : List Int) (h : ns.length < 4000) : lsV (.tup (ns.map .int)) = some (.int ((ddI ns).length : Nat)) := by
  have h1 : seqOf (.tup (ns.map .int)) = some ns := intsOf_ints _
  unfold lsV
  rw [h1, Option.bind_some, if_pos h]
theorem gd_opt (o : Option Int) : gd (optV o) = true := by cases o <;> rfl
theorem dp_opt (o : Option Int) : dp (optV o) = 0 := by
  cases o with
  | none => exact dp_non
  | some i => exact dp_int i
theorem in_opt (gs : List (Option Int)) : inV .non (.lst (gs.map optV)) = some (.bl (decide (none ∈ gs))) := by
  have h := (in_of (x := .non) (ys := gs.map optV) (b := decide (none ∈ gs)) rfl (gds_all.mpr fun x hx => by obtain ⟨o, _, rfl⟩ := List.mem_map.mp hx; exact gd_opt o) (.inr (by rw [dp_non]; omega)) (by
    rw [decide_eq_true_eq, List.mem_map]
    constructor
    · intro h; exact ⟨none, h, rfl⟩
    · rintro ⟨o, h, e⟩; cases o with
      | none => exact h
      | some i => cases e)).1
  unfold inV
  rw [h]
  rfl
theorem sum_opt : ∀ {gs : List (Option Int)}, none ∉ gs → sumV (.lst (gs.map optV)) = some (.int (gs.filterMap id).sum)
  | [], _ => rfl
  | none :: gs, h => absurd (List.mem_cons_self) h
  | some i :: gs, h => by
    have e := sum_opt (gs := gs) fun z => h (List.mem_cons_of_mem _ z)
    simp only [sumV, List.map_cons, optV, intsOf] at e ⊢
    cases e1 : intsOf (gs.map optV) with
    | none => rw [e1] at e; cases e
    | some ns =>
      rw [e1] at e
      have e : some (Val.int ns.sum) = some (.int (gs.filterMap id).sum) := e
      injection e with e
      injection e with e
      simp [e]

/-! ### graphs, and whom each visitor met -/
def lexP (p q : Pr) : Prop := p.1 < q.1 ∨ (p.1 = q.1 ∧ p.2 < q.2)
structure Gr (n : Int) (P : List Pr) : Prop where
  n0 : 0 ≤ n
  n1 : n ≤ 24
  bd : ∀ p ∈ P, 0 ≤ p.1 ∧ p.1 < p.2 ∧ p.2 < n
  so : P.Pairwise lexP
def adj (P : List Pr) (i j : Int) : Bool := decide ((i, j) ∈ P) || decide ((j, i) ∈ P)
theorem adj_symm (P : List Pr) (i j : Int) : adj P i j = adj P j i := by unfold adj; rw [Bool.or_comm]
theorem adj_bd {n : Int} {P : List Pr} (g : Gr n P) {i j : Int} (h : adj P i j = true) : 0 ≤ i ∧ i < n ∧ 0 ≤ j ∧ j < n ∧ i ≠ j := by
  unfold adj at h
  rw [Bool.or_eq_true, decide_eq_true_eq, decide_eq_true_eq] at h
  rcases h with h | h
  · have := g.bd _ h; simp only at this; omega
  · have := g.bd _ h; simp only at this; omega
theorem nodup_gr {n : Int} {P : List Pr} (g : Gr n P) : P.Nodup := g.so.imp fun {p q} h e => by subst e; unfold lexP at h; omega
/-- those whom k met, ascending -/
def nb (n : Int) (P : List Pr) (k : Int) : List Int := (rangeI 0 n).filter fun j => adj P k j
theorem mem_nb {n : Int} {P : List Pr} (g : Gr n P) {k j : Int} : j ∈ nb n P k ↔ adj P k j = true := by
  unfold nb
  rw [List.mem_filter, mem_rangeI]
  exact ⟨fun h => h.2, fun h => ⟨by have := adj_bd g h; omega, h⟩⟩
theorem rise_range (a b : Int) : (rangeI a b).Pairwise (· < ·) := by
  unfold rangeI
  rw [List.pairwise_map]
  exact List.pairwise_lt_range.imp fun h => by omega
theorem rise_nb (n : Int) (P : List Pr) (k : Int) : (nb n P k).Pairwise (· < ·) := (rise_range 0 n).filter _
/-- as they come from the pairs -/
def rowA (P : List Pr) (k : Int) : List Int := P.flatMap fun p => (if k = p.1 then [p.2] else []) ++ (if k = p.2 then [p.1] else [])
theorem rowA_snoc (P : List Pr) (p : Pr) (k : Int) : rowA (P ++ [p]) k = (rowA P k ++ if k = p.1 then [p.2] else []) ++ (if k = p.2 then [p.1] else []) := by
  unfold rowA
  rw [List.flatMap_append]
  simp
theorem mem_rowA {P : List Pr} {k j : Int} : j ∈ rowA P k ↔ adj P k j = true := by
  unfold rowA adj
  rw [List.mem_flatMap, Bool.or_eq_true, decide_eq_true_eq, decide_eq_true_eq]
  constructor
  · rintro ⟨p, hp, h⟩
    rcases List.mem_append.mp h with h | h
    · split at h
      · rename_i e; rw [List.mem_singleton.mp h, e]; exact .inl hp
      · cases h
    · split at h
      · rename_i e; rw [List.mem_singleton.mp h, e]; exact .inr hp
      · cases h
  · rintro (h | h)
    · exact ⟨_, h, List.mem_append_left _ (by simp)⟩
    · exact ⟨_, h, List.mem_append_right _ (by simp)⟩
theorem rowA_len (P : List Pr) (k : Int) : (rowA P k).length ≤ 2 * P.length := by
  induction P with
  | nil => simp [rowA]
  | cons p P ih =>
    have : rowA (p :: P) k = ((if k = p.1 then [p.2] else []) ++ (if k = p.2 then [p.1] else [])) ++ rowA P k := by unfold rowA; rw [List.flatMap_cons]
    rw [this, List.length_append, List.length_append, List.length_cons]
    split <;> split <;> simp <;> omega
theorem rowA_nodup {n : Int} {P : List Pr} (g : Gr n P) (k : Int) : (rowA P k).Nodup := by
  have key : ∀ (P : List Pr), (∀ p ∈ P, 0 ≤ p.1 ∧ p.1 < p.2 ∧ p.2 < n) → P.Nodup → (rowA P k).Nodup := by
    intro P
    induction P with
    | nil => intro _ _; simp [rowA]
    | cons p P ih =>
      intro hb hn
      have hp := hb p List.mem_cons_self
      have ih := ih (fun q hq => hb q (List.mem_cons_of_mem _ hq)) (List.nodup_cons.mp hn).2
      have hnp := (List.nodup_cons.mp hn).1
      have e : rowA (p :: P) k = ((if k = p.1 then [p.2] else []) ++ (if k = p.2 then [p.1] else [])) ++ rowA P k := by unfold rowA; rw [List.flatMap_cons]
      rw [e]
      have nm : ∀ j, adj P k j = true → (k, j) ≠ p ∧ (j, k) ≠ p := fun j h => by
        unfold adj at h
        rw [Bool.or_eq_true, decide_eq_true_eq, decide_eq_true_eq] at h
        rcases h with h | h
        · have hb' := hb _ (List.mem_cons_of_mem _ h)
          exact ⟨fun z => hnp (z ▸ h), fun z => by rw [← z] at hp; simp only at hp hb'; omega⟩
        · have hb' := hb _ (List.mem_cons_of_mem _ h)
          exact ⟨fun z => by rw [← z] at hp; simp only at hp hb'; omega, fun z => hnp (z ▸ h)⟩
      by_cases h1 : k = p.1
      · have h2 : ¬ k = p.2 := by omega
        rw [if_pos h1, if_neg h2]
        simp only [List.append_nil, List.cons_append, List.nil_append]
        exact List.nodup_cons.mpr ⟨fun z => (nm _ (mem_rowA.mp z)).1 (by rw [h1]), ih⟩
      · by_cases h2 : k = p.2
        · rw [if_neg h1, if_pos h2]
          simp only [List.cons_append, List.nil_append]
          exact List.nodup_cons.mpr ⟨fun z => (nm _ (mem_rowA.mp z)).2 (by rw [h2]), ih⟩
        · rw [if_neg h1, if_neg h2]
          simpa using ih
  exact key P g.bd (nodup_gr g)
theorem srt_int_eq (xs : List Int) : srt Val.int xs = xs.mergeSort fun a b => decide (a ≤ b) := by
  unfold srt
  have h : (fun a b => PySem.W.dataLe false Val.py (Val.int a) (Val.int b)) = fun a b : Int => decide (a ≤ b) := by
    funext a b
    rw [PySem.W.dataLe_eq]
    show (!PySem.W.dataLt (Val.int b).py (Val.int a).py) = _
    show (!PySem.W.dataLt (.int b) (.int a)) = _
    rw [PySem.W.dataLt_int]
    by_cases h : a ≤ b
    · have : ¬ b < a := by omega
      simp [h, this]
    · have : b < a := by omega
      simp [h, this]
  rw [h]
theorem srt_rise {xs : List Int} (h : xs.Nodup) : (srt Val.int xs).Pairwise (· < ·) := by
  rw [srt_int_eq]
  have h1 : (xs.mergeSort fun a b => decide (a ≤ b)).Pairwise (fun a b => decide (a ≤ b) = true) := List.pairwise_mergeSort (fun a b c h1 h2 => by simp at *; omega) (fun a b => by simp; omega) xs
  have h2 : (xs.mergeSort fun a b => decide (a ≤ b)).Nodup := (List.mergeSort_perm xs _).nodup_iff.mpr h
  exact (h1.and h2).imp fun {a b} ⟨h1, h2⟩ => by simp at h1; omega
theorem srt_row {n : Int} {P : List Pr} (g : Gr n P) (k : Int) : srt Val.int (rowA P k) = nb n P k :=
  rise_ext (srt_rise (rowA_nodup g k)) (rise_nb n P k) fun j => by
    rw [(srt_perm Val.int (rowA P k)).mem_iff, mem_rowA, mem_nb g]
def nearV (n : Int) (P : List Pr) : List Val := (rangeI 0 n).map fun k => .lst ((nb n P k).map .int)
theorem nodup_len {α : Type} [DecidableEq α] : ∀ {l D : List α}, l.Nodup → (∀ x ∈ l, x ∈ D) → l.length ≤ D.length
  | [], _, _, _ => Nat.zero_le _
  | x :: t, D, h1, h2 => by
    have hx := h2 x List.mem_cons_self
    have ih := nodup_len (l := t) (D := D.erase x) (List.nodup_cons.mp h1).2 fun y hy => (List.mem_erase_of_ne fun z => (List.nodup_cons.mp h1).1 (by rw [← z]; exact hy)).mpr (h2 y (List.mem_cons_of_mem _ hy))
    have := List.length_erase_of_mem hx
    have : 0 < D.length := List.length_pos_of_mem hx
    rw [List.length_cons]
    omega
theorem pairs_len {n : Int} {P : List Pr} (g : Gr n P) : P.length ≤ 576 := by
  have h1 : P.Nodup := nodup_gr g
  have h2 : ∀ p ∈ P, p ∈ ((rangeI 0 24).flatMap fun i => (rangeI 0 24).map fun j => (i, j)) := fun p hp => by
    have := g.bd p hp
    have := g.n1
    rw [List.mem_flatMap]
    exact ⟨p.1, mem_rangeI.mpr (by omega), List.mem_map.mpr ⟨p.2, mem_rangeI.mpr (by omega), rfl⟩⟩
  have h3 := nodup_len h1 h2
  have h4 : ((rangeI 0 24).flatMap fun i => (rangeI 0 24).map fun j => (i, j)).length = 576 := by decide +kernel
  omega
/-! ### the def's two forms -/
def rowsP (n : Int) (P : List Pr) : List (List Val) := (rangeI 0 n).map fun k => (rowA P k).map .int
theorem rows_at {n : Int} (f : Int → List Val) {i : Int} (h0 : 0 ≤ i) (h1 : i < n) : ((rangeI 0 n).map f)[i.toNat]? = some (f i) := by
  unfold rangeI
  rw [List.map_map, List.getElem?_map, List.getElem?_range (by omega)]
  simp
  congr 1
  omega
theorem rows_set {n : Int} (f : Int → List Val) {i : Int} (v : List Val) (h0 : 0 ≤ i) : ((rangeI 0 n).map f).set i.toNat v = (rangeI 0 n).map fun k => if k = i then v else f k := by
  unfold rangeI
  apply List.ext_getElem?
  intro m
  rw [List.getElem?_set, List.map_map, List.map_map, List.getElem?_map, List.getElem?_map]
  by_cases hm : m < (n - 0).toNat
  · rw [List.getElem?_range hm]
    simp only [Option.map_some, Function.comp]
    by_cases h : i.toNat = m
    · have e : (0 + (m : Int)) = i := by omega
      simp [h, e]
      omega
    · have e : ¬ (0 + (m : Int)) = i := by omega
      simp [h]
      intro z
      omega
  · rw [List.getElem?_eq_none (by simpa using hm)]
    simp
    intro h
    omega
theorem rows_ix {n : Int} (f : Int → List Val) {i : Int} (h0 : 0 ≤ i) (h1 : i < n) : L2.ixN ((rangeI 0 n).map f).length i = some i.toNat := by
  rw [List.length_map, length_rangeI]
  have : i = (i.toNat : Int) := by omega
  rw [this]
  exact ixN_nat (by omega)

/-! ### small things about numbers and rows -/
def SmOk (e : FnE) : Prop := e.np = 2 ∧ ∀ b, e.sem [.fz (.bl b), .fz (.bl b)] = .ok (.fz (.bl true), .no)
theorem ints_iv {L : Nat} {ns : List Int} (h : ns.length ≤ L) (hb : ∀ n ∈ ns, n.natAbs ≤ 1000000000000) : iv L (.tup (ns.map .int)) = true := by
  simp only [iv, Bool.and_eq_true, decide_eq_true_eq, List.length_map]
  exact ⟨h, ivs_all.mpr fun x hx => by obtain ⟨n, hn, rfl⟩ := List.mem_map.mp hx; simp [iv, hb n hn]⟩
theorem dp_ints (ns : List Int) : dp (.tup (ns.map .int)) ≤ 1 := dp_tup fun x hx => by obtain ⟨n, _, rfl⟩ := List.mem_map.mp hx; rw [dp_int]; omega
def BnOk (e : FnE) : Prop := e.np = 2 ∧ BentOk e 8
theorem ints_inj : ∀ {xs ys : List Int}, xs.map Val.int = ys.map Val.int → xs = ys
  | [], [], _ => rfl
  | [], _ :: _, h => by cases h
  | _ :: _, [], h => by cases h
  | x :: xs, y :: ys, h => by
    rw [List.map_cons, List.map_cons] at h
    injection h with h1 h2
    injection h1 with h1
    rw [h1, ints_inj h2]
theorem cutI (ns : List Int) (lo hi : Option Int) : cutL (ns.map Val.int) lo hi = (cutL ns lo hi).map .int := by
  unfold cutL
  rw [List.length_map, List.map_take, List.map_drop]
theorem cut_post {α : Type} (pre : List α) (x : α) (post : List α) : cutL (pre ++ x :: post) (some (pre.length + 1)) none = post := by
  have h2 : HT.sIx (pre ++ x :: post).length 0 (some ((pre.length : Int) + 1)) = pre.length + 1 := by
    unfold HT.sIx
    have : ¬ ((pre.length : Int) + 1 < 0) := by omega
    simp [this] <;> omega
  have h4 : HT.sIx (pre ++ x :: post).length (pre ++ x :: post).length none = (pre ++ x :: post).length := rfl
  have h5 : (pre ++ x :: post).drop (pre.length + 1) = post := by
    rw [List.drop_append, List.drop_eq_nil_of_le (by omega), show pre.length + 1 - pre.length = 1 by omega]
    rfl
  unfold cutL
  rw [h2, h4, h5]
  exact List.take_of_length_le (by simp; omega)
theorem zip_split {α : Type} {xs : List α} {pre post : List (α × Nat)} {p : α × Nat} (e : xs.zipIdx = pre ++ p :: post) : p.2 = pre.length ∧ xs = pre.map Prod.fst ++ p.1 :: post.map Prod.fst := by
  constructor
  · have h1 : xs.zipIdx[pre.length]? = some p := by rw [e]; simp
    rw [List.getElem?_zipIdx] at h1
    cases h2 : xs[pre.length]? with
    | none => rw [h2] at h1; cases h1
    | some v => rw [h2] at h1; simp at h1; rw [← h1]
  · have h1 : xs.zipIdx.map Prod.fst = xs := by simp
    rw [← h1, e, List.map_append, List.map_cons]
theorem post_filter {pre post : List Int} {x : Int} (h : (pre ++ x :: post).Pairwise (· < ·)) : post = (pre ++ x :: post).filter fun y => decide (x < y) := by
  rw [List.pairwise_append] at h
  obtain ⟨h1, h2, h3⟩ := h
  rw [List.pairwise_cons] at h2
  rw [List.filter_append, List.filter_eq_nil_iff.mpr (fun a ha => by have := h3 a ha x (by simp); simp; omega), List.filter_cons_of_neg (by simp), List.filter_eq_self.mpr (fun a ha => by simp [h2.1 a ha])]
  rfl
theorem flat_len {α β : Type} {l : List α} {f : α → List β} {k : Nat} (h : ∀ a ∈ l, (f a).length ≤ k) : (l.flatMap f).length ≤ l.length * k := by
  induction l with
  | nil => simp
  | cons a l ih =>
    have h1 := h a (by simp)
    have h2 := ih fun b hb => h b (by simp [hb])
    rw [List.flatMap_cons, List.length_append, List.length_cons, Nat.add_mul]
    omega
theorem flat_filter {α β : Type} (l : List α) (p : α → Bool) (f : α → List β) : (l.filter p).flatMap f = l.flatMap fun a => if p a = true then f a else [] := by
  induction l with
  | nil => rfl
  | cons a l ih =>
    by_cases h : p a = true
    · rw [List.filter_cons_of_pos h, List.flatMap_cons, List.flatMap_cons, ih, if_pos h]
    · rw [List.filter_cons_of_neg h, List.flatMap_cons, ih, if_neg h]; rfl
theorem flat_congr {α β : Type} {l : List α} {f g : α → List β} (h : ∀ a ∈ l, f a = g a) : l.flatMap f = l.flatMap g := by
  induction l with
  | nil => rfl
  | cons a l ih => rw [List.flatMap_cons, List.flatMap_cons, h a (by simp), ih fun b hb => h b (by simp [hb])]
theorem range_from {x n : Int} (h : 0 ≤ x + 1) : rangeI (x + 1) n = (rangeI 0 n).filter fun y => decide (x < y) :=
  rise_ext (rise_range _ _) ((rise_range _ _).filter _) fun y => by
    rw [List.mem_filter, mem_rangeI, mem_rangeI, decide_eq_true_eq]
    omega

/-! ### gains -/
def clkV (n : Int) (P : List Pr) (B : List Tr) : Val := .tup [landV n P, .tup (B.map trV)]
theorem clk0 (n : Int) (P : List Pr) (B : List Tr) : ixV (clkV n P B) (.int 0) = some (landV n P) := by unfold clkV; generalize landV n P = w; simp -implicitDefEqProofs
theorem clk1 (n : Int) (P : List Pr) (B : List Tr) : ixV (clkV n P B) (.int 1) = some (.tup (B.map trV)) := by unfold clkV; generalize landV n P = w; generalize B.map trV = v; simp -implicitDefEqProofs
theorem land0 (n : Int) (P : List Pr) : ixV (landV n P) (.int 0) = some (.int n) := by unfold landV; simp -implicitDefEqProofs
theorem land1 (n : Int) (P : List Pr) : ixV (landV n P) (.int 1) = some (stV P) := by unfold landV stV; simp -implicitDefEqProofs
def ownG (P : List Pr) (a b : Int) : Option Int :=
  if a = -1 then some 0 else if b = -1 then some (-1000000) else
  if a / 2 = b / 2 then (if a < b then some 0 else none) else
  if a % 2 = 1 then (if b % 2 = 0 ∧ (a / 2, b / 2) ∈ P then some 1 else none) else
  if b % 2 = 1 ∧ (a / 2, b / 2) ∉ P ∧ (b / 2, a / 2) ∉ P then some 0 else none
def OwnOk (e : FnE) : Prop := e.np = 3 ∧ ∀ (P : List Pr) (a b : Int), e.sem [.fz (stV P), .fz (.int a), .fz (.int b)] = .ok (.fz (optV (ownG P a b)), .no)
theorem in_pair (P : List Pr) (i j : Int) : inV (.tup [.int i, .int j]) (stV P) = some (.bl (decide ((i, j) ∈ P))) ∧ ninV (.tup [.int i, .int j]) (stV P) = some (.bl (!decide ((i, j) ∈ P))) := by
  have h := in_prs (i, j) P
  exact ⟨h.2.1, h.2.2.2⟩
theorem own_ok : OwnOk E_order_gain := ⟨rfl, fun P a b => by
  rw [s_order_gain]
  have da : divV (.int a) (.int 2) = some (.int (a / 2)) := div_of (by decide) (by decide)
  have db : divV (.int b) (.int 2) = some (.int (b / 2)) := div_of (by decide) (by decide)
  have i1 := (in_pair P (a / 2) (b / 2)).1
  have i2 := (in_pair P (a / 2) (b / 2)).2
  have i3 := (in_pair P (b / 2) (a / 2)).2
  generalize stV P = u at *
  unfold D_order_gain ownG
  by_cases h1 : a = -1
  · rw [if_pos h1]
    subst h1
    simp -implicitDefEqProofs [optV]
  · rw [if_neg h1]
    by_cases h2 : b = -1
    · rw [if_pos h2]
      subst h2
      simp -implicitDefEqProofs [optV, h1]
    · rw [if_neg h2]
      by_cases h3 : a / 2 = b / 2
      · rw [if_pos h3]
        by_cases h4 : a < b
        · rw [if_pos h4]
          simp -implicitDefEqProofs [optV, h1, h2, da, db, h3, h4]
        · rw [if_neg h4]
          simp -implicitDefEqProofs [optV, h1, h2, da, db, h3, h4]
      · rw [if_neg h3]
        by_cases h5 : a % 2 = 1
        · rw [if_pos h5]
          by_cases h6 : b % 2 = 0
          · by_cases h7 : (a / 2, b / 2) ∈ P
            · rw [if_pos ⟨h6, h7⟩]
              simp -implicitDefEqProofs [optV, h1, h2, da, db, h3, h5, h6, i1, h7]
            · rw [if_neg (fun z => h7 z.2)]
              simp -implicitDefEqProofs [optV, h1, h2, da, db, h3, h5, h6, i1, h7]
          · rw [if_neg (fun z => h6 z.1)]
            simp -implicitDefEqProofs [optV, h1, h2, da, db, h3, h5, h6]
        · rw [if_neg h5]
          by_cases h6 : b % 2 = 1
          · by_cases h7 : (a / 2, b / 2) ∈ P
            · rw [if_neg (fun z => z.2.1 h7)]
              simp -implicitDefEqProofs [optV, h1, h2, da, db, h3, h5, h6, i2, h7]
            · by_cases h8 : (b / 2, a / 2) ∈ P
              · rw [if_neg (fun z => z.2.2 h8)]
                simp -implicitDefEqProofs [optV, h1, h2, da, db, h3, h5, h6, i2, h7, i3, h8]
              · rw [if_pos ⟨h6, h7, h8⟩]
                simp -implicitDefEqProofs [optV, h1, h2, da, db, h3, h5, h6, i2, h7, i3, h8]
          · rw [if_neg (fun z => h6 z.1)]
            simp -implicitDefEqProofs [optV, h1, h2, da, db, h3, h5, h6]⟩

/-! ### the gain of a step -/
def rowsG (B : List Tr) (a b : Int) : List Int := (B.filter fun t => decide (t.1 = a) && decide (t.2.1 = b)).map fun t => t.2.2
def maxO : List Int → Option Int
  | [] => none
  | n :: r => some (r.foldl max n)
def gainO (P : List Pr) (B : List Tr) (a b : Int) : Option Int := maxO (rowsG B a b ++ (ownG P a b).toList)
theorem max_opt (ns : List Int) (h : ns ≠ []) : maxLV (.lst (ns.map .int)) = some (optV (maxO ns)) := by
  cases ns with
  | nil => exact absurd rfl h
  | cons n r =>
    show (intsOf ((n :: r).map .int)).bind _ = _
    rw [intsOf_ints]
    rfl
theorem rowsG_len (B : List Tr) (a b : Int) : (rowsG B a b).length ≤ B.length := by
  unfold rowsG
  rw [List.length_map]
  exact List.length_filter_le ..
/-- the bounds, less by a give -/
def gv (g : Int) (B : List Tr) : List Tr := B.map fun t => (t.1, t.2.1, t.2.2 - g)
theorem gv_len (g : Int) (B : List Tr) : (gv g B).length = B.length := List.length_map _
theorem gv0 (B : List Tr) : gv 0 B = B := by
  unfold gv
  rw [show (fun t : Tr => ((t.1, t.2.1, t.2.2 - 0) : Tr)) = id from funext fun t => by simp, List.map_id]
theorem rows_gv (g : Int) (B : List Tr) (a b : Int) : rowsG (gv g B) a b = (B.filter fun t => decide (t.1 = a) && decide (t.2.1 = b)).map fun t => t.2.2 - g := by
  unfold rowsG gv
  rw [List.filter_map, List.map_map]
  rfl

/-! ### the law's gain -/
def LGainOk (e : FnE) : Prop := e.np = 4 ∧ ∀ (n g : Int) (P : List Pr) (B : List Tr) (a b : Int), B.length ≤ 1000 → e.sem [.fz (clkV n P B), .fz (.int g), .fz (.int a), .fz (.int b)] = .ok (.fz (optV (gainO P (gv g B) a b)), .no)
theorem ne_nil (ns : List Int) : neV (.lst (ns.map .int)) (.lst []) = some (.bl (!decide (ns = []))) := by
  rw [ne_gd (x := .lst (ns.map .int)) (y := .lst []) (gds_all.mpr fun x hx => by obtain ⟨i, _, rfl⟩ := List.mem_map.mp hx; rfl) rfl (.inr (by decide))]
  congr 3
  rw [decide_eq_decide]
  constructor
  · intro h; injection h with h; exact List.map_eq_nil_iff.mp h
  · rintro rfl; rfl
theorem lgain_mid (g : Int) (P : List Pr) (a b : Int) (w : Val) (rv : List Val) (hl : rv.length < 1000000) :
    (sIf (tBl (d2 eqV (dVar 2) (dHV (dNeg (dC (.int 1)))))) (sDrop (dOV (dU appV 5 (aCons (dHV (dC (.int 0))) aNil)))) (sIf (tBl (d2 eqV (dVar 3) (dHV (dNeg (dC (.int 1)))))) (sDrop (dOV (dU appV 5 (aCons (dHV (dNeg (dC (.int 1000000)))) aNil)))) (sIf (tBl (d2 eqV (dVar 6) (dVar 7))) (sIf (tBl (d2 ltV (dVar 2) (dVar 3))) (sDrop (dOV (dU appV 5 (aCons (dHV (dC (.int 0))) aNil)))) sSkip) (sIf (tAndD (tBl (d2 eqV (dVar 2) (dHV (d2 addV (dHV (d2 mulV (dHV (dC (.int 2))) (dVar 6))) (dHV (dC (.int 1))))))) (tBl (d2 eqV (dVar 3) (dHV (d2 mulV (dHV (dC (.int 2))) (dVar 7)))))) (sIf (tBl (d2 inV (dHV (dTup (aCons (dVar 6) (aCons (dVar 7) aNil)))) (dVar 4))) (sDrop (dOV (dU appV 5 (aCons (dHV (dC (.int 1))) aNil)))) sSkip) (sIf (tAndD (tBl (d2 eqV (dVar 2) (dHV (d2 mulV (dHV (dC (.int 2))) (dVar 6))))) (tAndD (tBl (d2 eqV (dVar 3) (dHV (d2 addV (dHV (d2 mulV (dHV (dC (.int 2))) (dVar 7))) (dHV (dC (.int 1))))))) (tAndD (tBl (d2 ninV (dHV (dTup (aCons (dVar 6) (aCons (dVar 7) aNil)))) (dVar 4))) (tBl (d2 ninV (dHV (dTup (aCons (dVar 7) (aCons (dVar 6) aNil)))) (dVar 4)))))) (sDrop (dOV (dU appV 5 (aCons (dHV (dC (.int 0))) aNil)))) sSkip))))) [.fz w, .fz (.int g), .fz (.int a), .fz (.int b), .fz (stV P), .own rv, .fz (.int (a / 2)), .fz (.int (b / 2)), .no, .no, .no] = .nx [.fz w, .fz (.int g), .fz (.int a), .fz (.int b), .fz (stV P), .own (rv ++ (ownG P a b).toList.map .int), .fz (.int (a / 2)), .fz (.int (b / 2)), .no, .no, .no] := by
  have ma : mulV (.int 2) (.int (a / 2)) = some (.int (2 * (a / 2))) := mul_l (by decide)
  have mb : mulV (.int 2) (.int (b / 2)) = some (.int (2 * (b / 2))) := mul_l (by decide)
  have i1 := (in_pair P (a / 2) (b / 2)).1
  have i2 := (in_pair P (a / 2) (b / 2)).2
  have i3 := (in_pair P (b / 2) (a / 2)).2
  have oddA : decide (a = 2 * (a / 2) + 1) = decide (a % 2 = 1) := by rw [decide_eq_decide]; omega
  have evA : decide (a = 2 * (a / 2)) = !decide (a % 2 = 1) := by rw [← decide_not, decide_eq_decide]; omega
  have evB : decide (b = 2 * (b / 2)) = decide (b % 2 = 0) := by rw [decide_eq_decide]; omega
  have oddB : decide (b = 2 * (b / 2) + 1) = decide (b % 2 = 1) := by rw [decide_eq_decide]; omega
  have qa1 : eqV (.int a) (.int (2 * (a / 2) + 1)) = some (.bl (decide (a % 2 = 1))) := by rw [← oddA]; exact eq_int ..
  have qa0 : eqV (.int a) (.int (2 * (a / 2))) = some (.bl (!decide (a % 2 = 1))) := by rw [← evA]; exact eq_int ..
  have qb0 : eqV (.int b) (.int (2 * (b / 2))) = some (.bl (decide (b % 2 = 0))) := by rw [← evB]; exact eq_int ..
  have qb1 : eqV (.int b) (.int (2 * (b / 2) + 1)) = some (.bl (decide (b % 2 = 1))) := by rw [← oddB]; exact eq_int ..
  have q1 : eqV (.int a) (.int (-1)) = some (.bl (decide (a = -1))) := eq_int ..
  have q2 : eqV (.int b) (.int (-1)) = some (.bl (decide (b = -1))) := eq_int ..
  have q3 : eqV (.int (a / 2)) (.int (b / 2)) = some (.bl (decide (a / 2 = b / 2))) := eq_int ..
  generalize stV P = u at *
  unfold ownG
  by_cases h1 : a = -1
  · rw [if_pos h1]
    rw [decide_eq_true h1] at q1
    simp -implicitDefEqProofs [-t_eq, q1, hl]
  · rw [if_neg h1]
    rw [decide_eq_false h1] at q1
    by_cases h2 : b = -1
    · rw [if_pos h2]
      rw [decide_eq_true h2] at q2
      simp -implicitDefEqProofs [-t_eq, q1, q2, hl]
    · rw [if_neg h2]
      rw [decide_eq_false h2] at q2
      by_cases h3 : a / 2 = b / 2
      · rw [if_pos h3]
        rw [decide_eq_true h3] at q3
        by_cases h4 : a < b
        · rw [if_pos h4]
          simp -implicitDefEqProofs [-t_eq, q1, q2, q3, h4, hl]
        · rw [if_neg h4]
          simp -implicitDefEqProofs [-t_eq, q1, q2, q3, h4]
      · rw [if_neg h3]
        rw [decide_eq_false h3] at q3
        by_cases h5 : a % 2 = 1
        · rw [if_pos h5]
          rw [decide_eq_true h5] at qa1 qa0
          by_cases h6 : b % 2 = 0
          · rw [decide_eq_true h6] at qb0
            by_cases h7 : (a / 2, b / 2) ∈ P
            · rw [if_pos ⟨h6, h7⟩]
              simp -implicitDefEqProofs [-t_eq, q1, q2, q3, ma, mb, qa1, qb0, i1, h7, hl]
            · rw [if_neg (fun z => h7 z.2)]
              simp -implicitDefEqProofs [-t_eq, q1, q2, q3, ma, mb, qa1, qb0, i1, h7]
          · rw [decide_eq_false h6] at qb0
            rw [if_neg (fun z => h6 z.1)]
            simp -implicitDefEqProofs [-t_eq, q1, q2, q3, ma, mb, qa1, qa0, qb0]
        · rw [if_neg h5]
          rw [decide_eq_false h5] at qa1 qa0
          by_cases h6 : b % 2 = 1
          · rw [decide_eq_true h6] at qb1
            by_cases h7 : (a / 2, b / 2) ∈ P
            · rw [if_neg (fun z => z.2.1 h7)]
              simp -implicitDefEqProofs [-t_eq, q1, q2, q3, ma, mb, qa1, qa0, qb1, i2, h7]
            · by_cases h8 : (b / 2, a / 2) ∈ P
              · rw [if_neg (fun z => z.2.2 h8)]
                simp -implicitDefEqProofs [-t_eq, q1, q2, q3, ma, mb, qa1, qa0, qb1, i2, h7, i3, h8]
              · rw [if_pos ⟨h6, h7, h8⟩]
                simp -implicitDefEqProofs [-t_eq, q1, q2, q3, ma, mb, qa1, qa0, qb1, i2, h7, i3, h8, hl]
          · rw [decide_eq_false h6] at qb1
            rw [if_neg (fun z => h6 z.1)]
            simp -implicitDefEqProofs [-t_eq, q1, q2, q3, ma, mb, qa1, qa0, qb1]
theorem lgain_core (n g : Int) (P : List Pr) (B : List Tr) (a b : Int) (hB : B.length ≤ 1000) : flRes 4 none (D__law_gain [.fz (clkV n P B), .fz (.int g), .fz (.int a), .fz (.int b), .no, .no, .no, .no, .no, .no, .no]) = .ok (.fz (optV (gainO P (gv g B) a b)), .no) := by
  have c0 := clk0 n P B
  have c1 := clk1 n P B
  have l1 := land1 n P
  have da : divV (.int a) (.int 2) = some (.int (a / 2)) := div_of (by decide) (by decide)
  have db : divV (.int b) (.int 2) = some (.int (b / 2)) := div_of (by decide) (by decide)
  have hC : C1__law_gain [.fz (clkV n P B), .fz (.int g), .fz (.int a), .fz (.int b), .no, .no, .no, .no, .no, .no, .no] = .ok (.own ((rowsG (gv g B) a b).map .int), [.fz (clkV n P B), .fz (.int g), .fz (.int a), .fz (.int b), .no, .no, .no, .no, .no, .no, .no]) := by
    unfold C1__law_gain
    generalize clkV n P B = w at *
    rw [dLc_3 (xs := B) (ρ0 := [.fz w, .fz (.int g), .fz (.int a), .fz (.int b), .no, .no, .no, .no, .no, .no, .no]) (fun t => decide (t.1 = a) && decide (t.2.1 = b)) (fun t => .int (t.2.2 - g)) (by generalize B.map trV = v at *; simp -implicitDefEqProofs [c1]) (by omega) (by simp) (by simp) (by simp) rfl rfl (fun _ _ _ => rfl) fun t ht => ?_]
    · rw [rows_gv, List.map_map]
      rfl
    · refine ⟨?_, fun _ => ?_⟩
      · by_cases h1 : t.1 = a <;> simp -implicitDefEqProofs [h1]
      · simp -implicitDefEqProofs
  have hl : ((rowsG (gv g B) a b).map Val.int).length < 1000000 := by rw [List.length_map]; have := rowsG_len (gv g B) a b; have := gv_len g B; omega
  have hmid := lgain_mid g P a b (clkV n P B) ((rowsG (gv g B) a b).map .int) hl
  rw [← List.map_append] at hmid
  have hne := ne_nil (rowsG (gv g B) a b ++ (ownG P a b).toList)
  have hmax := max_opt (rowsG (gv g B) a b ++ (ownG P a b).toList)
  unfold D__law_gain gainO
  generalize rowsG (gv g B) a b ++ (ownG P a b).toList = gs at *
  have hres : gs = [] → optV (maxO gs) = .non := fun h => by rw [h]; rfl
  generalize optV (maxO gs) = res at *
  generalize (rowsG (gv g B) a b).map Val.int = rv at *
  by_cases hg : gs = []
  · rw [decide_eq_true hg] at hne
    rw [hres hg]
    generalize gs.map Val.int = gv at *
    generalize clkV n P B = w at *
    generalize landV n P = lw at *
    generalize stV P = u at *
    rw [y_sSeq, v_sPo]
    generalize hmidS : ((sIf (tBl (d2 eqV (dVar 2) (dHV (dNeg (dC (.int 1)))))) (sDrop (dOV (dU appV 5 (aCons (dHV (dC (.int 0))) aNil)))) (sIf (tBl (d2 eqV (dVar 3) (dHV (dNeg (dC (.int 1)))))) (sDrop (dOV (dU appV 5 (aCons (dHV (dNeg (dC (.int 1000000)))) aNil)))) (sIf (tBl (d2 eqV (dVar 6) (dVar 7))) (sIf (tBl (d2 ltV (dVar 2) (dVar 3))) (sDrop (dOV (dU appV 5 (aCons (dHV (dC (.int 0))) aNil)))) sSkip) (sIf (tAndD (tBl (d2 eqV (dVar 2) (dHV (d2 addV (dHV (d2 mulV (dHV (dC (.int 2))) (dVar 6))) (dHV (dC (.int 1))))))) (tBl (d2 eqV (dVar 3) (dHV (d2 mulV (dHV (dC (.int 2))) (dVar 7)))))) (sIf (tBl (d2 inV (dHV (dTup (aCons (dVar 6) (aCons (dVar 7) aNil)))) (dVar 4))) (sDrop (dOV (dU appV 5 (aCons (dHV (dC (.int 1))) aNil)))) sSkip) (sIf (tAndD (tBl (d2 eqV (dVar 2) (dHV (d2 mulV (dHV (dC (.int 2))) (dVar 6))))) (tAndD (tBl (d2 eqV (dVar 3) (dHV (d2 addV (dHV (d2 mulV (dHV (dC (.int 2))) (dVar 7))) (dHV (dC (.int 1))))))) (tAndD (tBl (d2 ninV (dHV (dTup (aCons (dVar 6) (aCons (dVar 7) aNil)))) (dVar 4))) (tBl (d2 ninV (dHV (dTup (aCons (dVar 7) (aCons (dVar 6) aNil)))) (dVar 4)))))) (sDrop (dOV (dU appV 5 (aCons (dHV (dC (.int 0))) aNil)))) sSkip)))))) = M at *
    simp -implicitDefEqProofs [c0, l1, hC, da, db, hmid, hne]
  · rw [decide_eq_false hg] at hne
    have hmax := hmax hg
    generalize gs.map Val.int = gv at *
    generalize clkV n P B = w at *
    generalize landV n P = lw at *
    generalize stV P = u at *
    rw [y_sSeq, v_sPo]
    generalize hmidS : ((sIf (tBl (d2 eqV (dVar 2) (dHV (dNeg (dC (.int 1)))))) (sDrop (dOV (dU appV 5 (aCons (dHV (dC (.int 0))) aNil)))) (sIf (tBl (d2 eqV (dVar 3) (dHV (dNeg (dC (.int 1)))))) (sDrop (dOV (dU appV 5 (aCons (dHV (dNeg (dC (.int 1000000)))) aNil)))) (sIf (tBl (d2 eqV (dVar 6) (dVar 7))) (sIf (tBl (d2 ltV (dVar 2) (dVar 3))) (sDrop (dOV (dU appV 5 (aCons (dHV (dC (.int 0))) aNil)))) sSkip) (sIf (tAndD (tBl (d2 eqV (dVar 2) (dHV (d2 addV (dHV (d2 mulV (dHV (dC (.int 2))) (dVar 6))) (dHV (dC (.int 1))))))) (tBl (d2 eqV (dVar 3) (dHV (d2 mulV (dHV (dC (.int 2))) (dVar 7)))))) (sIf (tBl (d2 inV (dHV (dTup (aCons (dVar 6) (aCons (dVar 7) aNil)))) (dVar 4))) (sDrop (dOV (dU appV 5 (aCons (dHV (dC (.int 1))) aNil)))) sSkip) (sIf (tAndD (tBl (d2 eqV (dVar 2) (dHV (d2 mulV (dHV (dC (.int 2))) (dVar 6))))) (tAndD (tBl (d2 eqV (dVar 3) (dHV (d2 addV (dHV (d2 mulV (dHV (dC (.int 2))) (dVar 7))) (dHV (dC (.int 1))))))) (tAndD (tBl (d2 ninV (dHV (dTup (aCons (dVar 6) (aCons (dVar 7) aNil)))) (dVar 4))) (tBl (d2 ninV (dHV (dTup (aCons (dVar 7) (aCons (dVar 6) aNil)))) (dVar 4)))))) (sDrop (dOV (dU appV 5 (aCons (dHV (dC (.int 0))) aNil)))) sSkip)))))) = M at *
    simp -implicitDefEqProofs [c0, l1, hC, da, db, hmid, hne, hmax]
theorem lgain_ok : LGainOk E__law_gain := ⟨rfl, fun n g P B a b hB => by rw [s__law_gain]; exact lgain_core n g P B a b hB⟩

/-! ### the empty tuple -/
mutual
theorem nice_plain {L : Nat} : ∀ {x : Val}, nice L x = true → x.py.plain = true
  | .non, _ => rfl
  | .bl _, _ => rfl
  | .int _, _ => rfl
  | .str _, _ => rfl
  | .tup xs, h => by
    simp only [nice, Bool.and_eq_true] at h
    simp only [Val.py, PyData.plain]
    exact nices_plain h.2
theorem nices_plain {L : Nat} : ∀ {xs : List Val}, nices L xs = true → PyData.plainAll (pys xs) = true
  | [], _ => by simp [pys, PyData.plainAll]
  | x :: xs, h => by
    simp only [nices, Bool.and_eq_true] at h
    simp only [pys, PyData.plainAll, Bool.and_eq_true]
    exact ⟨nice_plain h.1, nices_plain h.2⟩
end
theorem eq_nilT {L : Nat} {xs : List Val} (h : nice L (.tup xs) = true) : eqV (.tup xs) (.tup []) = some (.bl (decide (xs = []))) := by
  have h1 := nice_plain h
  unfold eqV eqB
  have h2 : (Val.tup []).py.plain = true := by simp [Val.py, pys, PyData.plain, PyData.plainAll]
  have h3 : small2 (Val.tup xs).py (Val.tup []).py = true := by
    unfold small2
    simp [Val.py, pys, PyData.depth, PyData.depthAll] <;> omega
  rw [h1, h2, h3]
  cases xs with
  | nil => simp [Val.py, pys, PyData.eqv, PyData.eqvAll]
  | cons x xs => simp [Val.py, pys, PyData.eqv, PyData.eqvAll]

/-! ### the law's steps -/
structure Stp (n : Int) (P : List Pr) (B : List Tr) (t : Tr) : Prop where
  ne : t.1 ≠ t.2.1
  lo1 : -1 ≤ t.1
  hi1 : t.1 < 2 * n
  g : gainO P B t.1 t.2.1 = some t.2.2
  lo : -1 ≤ t.2.1
  hi : t.2.1 < 2 * n
def StepsOk (e : FnE) : Prop := e.np = 2 ∧ ∀ (n v : Int) (P : List Pr) (B : List Tr), 0 ≤ n → n ≤ 24 → B.length ≤ 1000 → ∃ F : List Tr, e.sem [.fz (clkV n P B), .fz (.int v)] = .ok (.fz (.lst (F.map trV)), .no) ∧ F.length ≤ 10000 ∧ ∀ t ∈ F, Stp n P (gv v B) t
theorem step_one (e__law_gain : FnE) (hg : LGainOk e__law_gain) (n v : Int) (P : List Pr) (B : List Tr) (hB : B.length ≤ 1000) (s2 : Sl) (F : List Tr) (hF : F.length ≤ 10000) (a b : Int) (a0 : -1 ≤ a) (a1 : a < 2 * n) (b0 : -1 ≤ b) (b1 : b < 2 * n) (hall : ∀ t ∈ F, Stp n P (gv v B) t) (s6 : Sl) :
    ∃ (F' : List Tr) (s6' : Sl), L2__law_steps e__law_gain [.fz (clkV n P B), .fz (.int v), s2, .own (F.map trV), .fz (.int a), .fz (.int b), s6] = .nx [.fz (clkV n P B), .fz (.int v), s2, .own (F'.map trV), .fz (.int a), .fz (.int b), s6'] ∧ F'.length ≤ F.length + 1 ∧ ∀ t ∈ F', Stp n P (gv v B) t := by
  have n1 := hg.1
  have e1 := hg.2 n v P B a b hB
  have hl : (F.map trV).length < 1000000 := by rw [List.length_map]; omega
  by_cases hab : a = b
  · refine ⟨F, .fz .non, ?_, by omega, hall⟩
    generalize clkV n P B = w at *
    generalize F.map trV = fv at *
    unfold L2__law_steps
    simp -implicitDefEqProofs [hab]
  · cases hgo : gainO P (gv v B) a b with
    | none =>
      rw [hgo] at e1
      unfold optV at e1
      refine ⟨F, .fz .non, ?_, by omega, hall⟩
      generalize clkV n P B = w at *
      generalize F.map trV = fv at *
      unfold L2__law_steps
      simp -implicitDefEqProofs [n1, hab, e1]
    | some k =>
      rw [hgo] at e1
      unfold optV at e1
      refine ⟨F ++ [(a, b, k)], .fz (.int k), ?_, by rw [List.length_append]; simp, fun t ht => ?_⟩
      · rw [List.map_append]
        generalize clkV n P B = w at *
        generalize F.map trV = fv at *
        unfold L2__law_steps
        simp -implicitDefEqProofs [n1, hab, e1, hl, trV]
      · rcases List.mem_append.mp ht with ht | ht
        · exact hall t ht
        · rw [List.mem_singleton.mp ht]; exact ⟨hab, a0, a1, hgo, b0, b1⟩
theorem steps_core (e__law_gain : FnE) (hg : LGainOk e__law_gain) (n v : Int) (P : List Pr) (B : List Tr) (n0 : 0 ≤ n) (n24 : n ≤ 24) (hB : B.length ≤ 1000) :
    ∃ F : List Tr, flRes 2 none (D__law_steps e__law_gain [.fz (clkV n P B), .fz (.int v), .no, .no, .no, .no, .no]) = .ok (.fz (.lst (F.map trV)), .no) ∧ F.length ≤ 10000 ∧ ∀ t ∈ F, Stp n P (gv v B) t := by
  have c0 := clk0 n P B
  have l0 := land0 n P
  have hm : mulV (.int 2) (.int n) = some (.int (2 * n)) := mul_l (by decide)
  have hin : ∀ (a : Int) (F : List Tr) (s5 s6 : Sl), -1 ≤ a → a < 2 * n → F.length ≤ 9000 → (∀ t ∈ F, Stp n P (gv v B) t) → ∃ (F' : List Tr) (s5' s6' : Sl), F2__law_steps e__law_gain [.fz (clkV n P B), .fz (.int v), .fz (.lst ((rangeI (-1) (2 * n)).map .int)), .own (F.map trV), .fz (.int a), s5, s6] = .nx [.fz (clkV n P B), .fz (.int v), .fz (.lst ((rangeI (-1) (2 * n)).map .int)), .own (F'.map trV), .fz (.int a), s5', s6'] ∧ F'.length ≤ F.length + 49 ∧ ∀ t ∈ F', Stp n P (gv v B) t := fun a F s5 s6 a0 a1 hF hall => by
    obtain ⟨ρ', h1, F', s5', s6', rfl, h2, h3⟩ := forL_nm (i := 5) (b := L2__law_steps e__law_gain) Val.int (rangeI (-1) (2 * n))
      (fun pre ρ => ∃ (F' : List Tr) (s5 s6 : Sl), ρ = [.fz (clkV n P B), .fz (.int v), .fz (.lst ((rangeI (-1) (2 * n)).map .int)), .own (F'.map trV), .fz (.int a), s5, s6] ∧ F'.length ≤ F.length + pre.length ∧ ∀ t ∈ F', Stp n P (gv v B) t)
      (ρ := [.fz (clkV n P B), .fz (.int v), .fz (.lst ((rangeI (-1) (2 * n)).map .int)), .own (F.map trV), .fz (.int a), s5, s6]) ⟨F, s5, s6, rfl, by simp, hall⟩ fun pre b post ρ e h => by
        obtain ⟨F', s5, s6, rfl, h2, h3⟩ := h
        have hb := mem_rangeI.mp (show b ∈ rangeI (-1) (2 * n) by rw [e]; simp)
        have hpl : pre.length ≤ 49 := by
          have := congrArg List.length e
          rw [length_rangeI] at this
          simp at this
          omega
        obtain ⟨F2, s6', h4, h5, h6⟩ := step_one e__law_gain hg n v P B hB (.fz (.lst ((rangeI (-1) (2 * n)).map .int))) F' (by omega) a b a0 a1 hb.1 hb.2 h3 s6
        exact ⟨by simp, _, .inl h4, F2, _, s6', rfl, by rw [List.length_append]; simp; omega, h6⟩
    have hr : (rangeI (-1) (2 * n)).length ≤ 49 := by rw [length_rangeI]; omega
    refine ⟨F', s5', s6', ?_, by omega, h3⟩
    generalize (rangeI (-1) (2 * n)).map Val.int = rv at *
    generalize F.map trV = fv at *
    generalize F'.map trV = fv' at *
    generalize clkV n P B = w at *
    unfold F2__law_steps
    simp -implicitDefEqProofs
    exact h1
  obtain ⟨ρ', h1, F, s4, s5, s6, rfl, h2, h3⟩ := forL_nm (i := 4) (b := L1__law_steps e__law_gain) Val.int (rangeI (-1) (2 * n))
    (fun pre ρ => ∃ (F : List Tr) (s4 s5 s6 : Sl), ρ = [.fz (clkV n P B), .fz (.int v), .fz (.lst ((rangeI (-1) (2 * n)).map .int)), .own (F.map trV), s4, s5, s6] ∧ F.length ≤ 49 * pre.length ∧ ∀ t ∈ F, Stp n P (gv v B) t)
    (ρ := [.fz (clkV n P B), .fz (.int v), .fz (.lst ((rangeI (-1) (2 * n)).map .int)), .own [], .no, .no, .no]) ⟨[], .no, .no, .no, rfl, by simp, fun _ h => by cases h⟩ fun pre a post ρ e h => by
      obtain ⟨F, s4, s5, s6, rfl, h2, h3⟩ := h
      have hpl : pre.length ≤ 49 := by
        have := congrArg List.length e
        rw [length_rangeI] at this
        simp at this
        omega
      have ha := mem_rangeI.mp (show a ∈ rangeI (-1) (2 * n) by rw [e]; simp)
      obtain ⟨F', s5', s6', h4, h5, h6⟩ := hin a F s5 s6 ha.1 ha.2 (by omega) h3
      exact ⟨by simp, _, .inl h4, F', _, s5', s6', rfl, by rw [List.length_append]; simp; omega, h6⟩
  have hr : (rangeI (-1) (2 * n)).length ≤ 49 := by rw [length_rangeI]; omega
  refine ⟨F, ?_, by omega, h3⟩
  have r1 : rOk (2 * n) = true := rOk_of (by omega)
  have r2 : rOk (-1) = true := by decide
  have rg : rgOk (-1) (2 * n) = true := by unfold rgOk; simp; omega
  have hF : F1__law_steps e__law_gain [.fz (clkV n P B), .fz (.int v), .own ((rangeI (-1) (2 * n)).map .int), .own [], .no, .no, .no] = .nx [.fz (clkV n P B), .fz (.int v), .fz (.lst ((rangeI (-1) (2 * n)).map .int)), .own (F.map trV), s4, s5, s6] := by
    generalize (rangeI (-1) (2 * n)).map Val.int = rv at *
    generalize F.map trV = fv at *
    generalize clkV n P B = w at *
    unfold F1__law_steps
    simp -implicitDefEqProofs [h1]
  generalize F.map trV = fv at *
  generalize clkV n P B = w at *
  generalize landV n P = lw at *
  unfold D__law_steps
  simp -implicitDefEqProofs [c0, l0, hm, r1, r2, rg, hF]
theorem steps_ok : StepsOk E__law_steps := ⟨rfl, fun n v P B n0 n1 hB => by
  obtain ⟨F, h⟩ := steps_core _ lgain_ok n v P B n0 n1 hB
  exact ⟨F, by rw [s__law_steps]; exact h.1, h.2⟩⟩

/-! ### rings by raising sums -/
abbrev Stp3 := Int × Int × Int
structure BF where
  S : Int → Int
  by_ : Int → Option Int
  R : Int → Nat
  T : Int → Nat
  t : Nat
  last : Option Int
def up1 {α : Type} (f : Int → α) (b : Int) (x : α) : Int → α := fun y => if y = b then x else f y
theorem up1_same {α : Type} (f : Int → α) (b : Int) (x : α) : up1 f b x b = x := if_pos rfl
theorem up1_ne {α : Type} (f : Int → α) {b y : Int} (x : α) (h : y ≠ b) : up1 f b x y = f y := if_neg h
def relax (r : Nat) (s : BF) (e : Stp3) : BF :=
  if s.S e.2.1 < s.S e.1 + e.2.2 then { S := up1 s.S e.2.1 (s.S e.1 + e.2.2), by_ := up1 s.by_ e.2.1 (some e.1), R := up1 s.R e.2.1 r, T := up1 s.T e.2.1 s.t, t := s.t + 1, last := some e.2.1 } else s
structure BInv (F : List Stp3) (r : Nat) (pre : List Stp3) (s : BF) : Prop where
  k1 : ∀ e ∈ F, s.S e.1 + e.2.2 ≤ s.S e.2.1 ∨ r ≤ s.R e.1 + 1
  k2 : ∀ e ∈ pre, s.S e.1 + e.2.2 ≤ s.S e.2.1 ∨ r ≤ s.R e.1
  k3 : ∀ b, s.R b ≤ r
  j1 : ∀ b, 1 ≤ s.R b → ∃ a g, s.by_ b = some a ∧ (a, b, g) ∈ F ∧ s.R b ≤ s.R a + 1 ∧ s.S b ≤ s.S a + g ∧ (s.T b < s.T a → s.S b < s.S a + g)
  j2 : ∀ b, 1 ≤ s.R b → s.T b < s.t
  j3 : ∀ b, s.T b ≤ s.t
  j4 : ∀ b c, 1 ≤ s.R b → 1 ≤ s.R c → s.T b = s.T c → b = c
  la : ∀ b, s.last = some b → s.R b = r ∧ 1 ≤ r
theorem relax_inv {F : List Stp3} (ne : ∀ e ∈ F, e.1 ≠ e.2.1) {r : Nat} (hr : 1 ≤ r) {pre : List Stp3} {s : BF} (h : BInv F r pre s) {e : Stp3} (he : e ∈ F) (hp : ∀ x ∈ pre, x ∈ F) : BInv F r (pre ++ [e]) (relax r s e) := by
  obtain ⟨a, b, g⟩ := e
  have hab : a ≠ b := ne _ he
  unfold relax
  simp only
  split
  · rename_i hi
    have ha : r ≤ s.R a + 1 := by
      rcases h.k1 _ he with h1 | h1
      · simp only at h1; omega
      · exact h1
    have Sm : ∀ x, s.S x ≤ up1 s.S b (s.S a + g) x := fun x => by
      by_cases q : x = b
      · subst q; rw [up1_same]; omega
      · rw [up1_ne _ _ q]; exact Int.le_refl _
    have Rm : ∀ x, s.R x ≤ up1 s.R b r x := fun x => by
      by_cases q : x = b
      · subst q; rw [up1_same]; exact h.k3 _
      · rw [up1_ne _ _ q]; exact Nat.le_refl _
    refine ⟨fun x hx => ?_, fun x hx => ?_, fun x => ?_, fun x hx => ?_, fun x hx => ?_, fun x => ?_, fun x y hx hy hxy => ?_, fun x hx => ?_⟩
    · show up1 s.S b (s.S a + g) x.1 + x.2.2 ≤ up1 s.S b (s.S a + g) x.2.1 ∨ r ≤ up1 s.R b r x.1 + 1
      by_cases q : x.1 = b
      · right; rw [q, up1_same]; omega
      · rw [up1_ne _ _ q, up1_ne _ _ q]
        rcases h.k1 x hx with h1 | h1
        · left; have := Sm x.2.1; omega
        · exact .inr h1
    · show up1 s.S b (s.S a + g) x.1 + x.2.2 ≤ up1 s.S b (s.S a + g) x.2.1 ∨ r ≤ up1 s.R b r x.1
      rcases List.mem_append.mp hx with hx | hx
      · by_cases q : x.1 = b
        · right; rw [q, up1_same]; exact Nat.le_refl _
        · rw [up1_ne _ _ q, up1_ne _ _ q]
          rcases h.k2 x hx with h1 | h1
          · left; have := Sm x.2.1; omega
          · exact .inr h1
      · rw [List.mem_singleton.mp hx]
        left
        show up1 s.S b (s.S a + g) a + g ≤ up1 s.S b (s.S a + g) b
        rw [up1_same, up1_ne _ _ hab]
        exact Int.le_refl _
    · show up1 s.R b r x ≤ r
      by_cases q : x = b
      · subst q; rw [up1_same]; exact Nat.le_refl _
      · rw [up1_ne _ _ q]; exact h.k3 x
    · by_cases q : x = b
      · subst q
        refine ⟨a, g, up1_same .., he, ?_, ?_, fun z => ?_⟩
        · show up1 s.R x r x ≤ up1 s.R x r a + 1
          rw [up1_same, up1_ne _ _ hab]; exact ha
        · show up1 s.S x (s.S a + g) x ≤ up1 s.S x (s.S a + g) a + g
          rw [up1_same, up1_ne _ _ hab]; exact Int.le_refl _
        · exfalso
          have z : up1 s.T x s.t x < up1 s.T x s.t a := z
          rw [up1_same, up1_ne _ _ hab] at z
          have := h.j3 a
          omega
      · have hx : 1 ≤ up1 s.R b r x := hx
        rw [up1_ne _ _ q] at hx
        obtain ⟨a2, g2, h1, h2, h3, h4, h5⟩ := h.j1 x hx
        refine ⟨a2, g2, ?_, h2, ?_, ?_, fun z => ?_⟩
        · show up1 s.by_ b (some a) x = some a2
          rw [up1_ne _ _ q]; exact h1
        · show up1 s.R b r x ≤ up1 s.R b r a2 + 1
          rw [up1_ne _ _ q]; have := Rm a2; omega
        · show up1 s.S b (s.S a + g) x ≤ up1 s.S b (s.S a + g) a2 + g2
          rw [up1_ne _ _ q]; have := Sm a2; omega
        · show up1 s.S b (s.S a + g) x < up1 s.S b (s.S a + g) a2 + g2
          have z : up1 s.T b s.t x < up1 s.T b s.t a2 := z
          rw [up1_ne _ _ q] at z ⊢
          by_cases q2 : a2 = b
          · subst q2; rw [up1_same]; omega
          · rw [up1_ne _ _ q2] at z ⊢; exact h5 z
    · show up1 s.T b s.t x < s.t + 1
      by_cases q : x = b
      · subst q; rw [up1_same]; omega
      · rw [up1_ne _ _ q]; have := h.j3 x; omega
    · show up1 s.T b s.t x ≤ s.t + 1
      by_cases q : x = b
      · subst q; rw [up1_same]; omega
      · rw [up1_ne _ _ q]; have := h.j3 x; omega
    · have hx : 1 ≤ up1 s.R b r x := hx
      have hy : 1 ≤ up1 s.R b r y := hy
      have hxy : up1 s.T b s.t x = up1 s.T b s.t y := hxy
      by_cases q : x = b
      · by_cases q2 : y = b
        · rw [q, q2]
        · rw [q, up1_same, up1_ne _ _ q2] at hxy
          rw [up1_ne _ _ q2] at hy
          have := h.j2 y hy; omega
      · by_cases q2 : y = b
        · rw [q2, up1_same, up1_ne _ _ q] at hxy
          rw [up1_ne _ _ q] at hx
          have := h.j2 x hx; omega
        · rw [up1_ne _ _ q] at hx hxy
          rw [up1_ne _ _ q2] at hy hxy
          exact h.j4 x y hx hy hxy
    · have hx : some b = some x := hx
      cases hx
      exact ⟨up1_same .., hr⟩
  · rename_i hi
    refine ⟨h.k1, fun x hx => ?_, h.k3, h.j1, h.j2, h.j3, h.j4, h.la⟩
    rcases List.mem_append.mp hx with hx | hx
    · exact h.k2 x hx
    · rw [List.mem_singleton.mp hx]
      left; show s.S a + g ≤ s.S b; omega
def rnd (F : List Stp3) (r : Nat) (s : BF) : BF := F.foldl (relax r) { s with last := none }
theorem rlx_all {F : List Stp3} (ne : ∀ e ∈ F, e.1 ≠ e.2.1) {r : Nat} (hr : 1 ≤ r) : ∀ (L pre : List Stp3) (s : BF), BInv F r pre s → (∀ x ∈ L, x ∈ F) → (∀ x ∈ pre, x ∈ F) → BInv F r (pre ++ L) (L.foldl (relax r) s)
  | [], pre, s, h, _, _ => by rw [List.append_nil]; exact h
  | e :: L, pre, s, h, hL, hp => by
    have h1 := relax_inv ne hr h (hL e List.mem_cons_self) hp
    have h2 := rlx_all ne hr L (pre ++ [e]) (relax r s e) h1 (fun x hx => hL x (List.mem_cons_of_mem _ hx)) fun x hx => by
      rcases List.mem_append.mp hx with hx | hx
      · exact hp x hx
      · rw [List.mem_singleton.mp hx]; exact hL e List.mem_cons_self
    rw [List.append_assoc] at h2
    exact h2
theorem rnd_inv {F : List Stp3} (ne : ∀ e ∈ F, e.1 ≠ e.2.1) {r : Nat} (hr : 1 ≤ r) {s : BF} (h : BInv F r [] { s with last := none }) : BInv F r F (rnd F r s) := by
  have := rlx_all ne hr F [] _ h (fun _ h => h) (fun _ h => by cases h)
  rwa [List.nil_append] at this
theorem next_inv {F : List Stp3} {r : Nat} {s : BF} (h : BInv F r F s) : BInv F (r + 1) [] { s with last := none } :=
  ⟨fun e he => (h.k2 e he).imp id fun z => by show r + 1 ≤ s.R e.1 + 1; omega, fun _ h => by (cases h), fun b => Nat.le_succ_of_le (h.k3 b), h.j1, h.j2, h.j3, h.j4, fun b hb => by cases hb⟩
def bf0 : BF := ⟨fun _ => 0, fun _ => none, fun _ => 0, fun _ => 0, 0, none⟩
theorem first_inv (F : List Stp3) : BInv F 1 [] { bf0 with last := none } :=
  ⟨fun e he => .inr (by show 1 ≤ 0 + 1; omega), fun _ h => by (cases h), fun b => Nat.zero_le _, fun b hb => by (have hb : 1 ≤ 0 := hb; omega), fun b hb => by (have hb : 1 ≤ 0 := hb; omega), fun b => Nat.le_refl _, fun b c hb => by (have hb : 1 ≤ 0 := hb; omega), fun b hb => by cases hb⟩
/-! the way back -/
def nxt (s : BF) (x : Int) : Int := (s.by_ x).getD 0
def itn (s : BF) : Nat → Int → Int
  | 0, x => x
  | k + 1, x => nxt s (itn s k x)
theorem itn_add (s : BF) (i : Nat) (x : Int) : ∀ j : Nat, itn s (j + i) x = itn s j (itn s i x)
  | 0 => by rw [Nat.zero_add]; rfl
  | j + 1 => by rw [Nat.succ_add]; show nxt s (itn s (j + i) x) = _; rw [itn_add s i x j]; rfl
theorem nxt_some {F : List Stp3} {r : Nat} {pre : List Stp3} {s : BF} (h : BInv F r pre s) {x : Int} (hx : 1 ≤ s.R x) : s.by_ x = some (nxt s x) ∧ s.R x ≤ s.R (nxt s x) + 1 ∧ ∃ g, (nxt s x, x, g) ∈ F ∧ s.S x ≤ s.S (nxt s x) + g ∧ (s.T x < s.T (nxt s x) → s.S x < s.S (nxt s x) + g) := by
  obtain ⟨a, g, h1, h2, h3, h4, h5⟩ := h.j1 x hx
  have e : nxt s x = a := by unfold nxt; rw [h1]; rfl
  rw [e]
  exact ⟨h1, h3, g, h2, h4, h5⟩
theorem itn_R {F : List Stp3} {r : Nat} {pre : List Stp3} {s : BF} (h : BInv F r pre s) {b : Int} (hb : s.R b = r) : ∀ i : Nat, i < r → r ≤ s.R (itn s i b) + i
  | 0, _ => by rw [show itn s 0 b = b from rfl, hb]; omega
  | i + 1, hi => by
    have ih := itn_R h hb i (by omega)
    have := (nxt_some h (x := itn s i b) (by omega)).2.1
    show r ≤ s.R (nxt s (itn s i b)) + (i + 1)
    omega
theorem pigeon {M : Nat} {Pts : List Int} (hP : Pts.length ≤ M) {f : Nat → Int} (hf : ∀ i, i ≤ M → f i ∈ Pts) : ∃ i j, i < j ∧ j ≤ M ∧ f i = f j := by
  by_cases h : ((List.range (M + 1)).map f).Nodup
  · exfalso
    have go : ∀ (L D : List Int), L.Nodup → (∀ x ∈ L, x ∈ D) → L.length ≤ D.length := by
      intro L
      induction L with
      | nil => intro D _ _; exact Nat.zero_le _
      | cons x L ih =>
        intro D hn hs
        have h1 := List.nodup_cons.mp hn
        have hx := hs x List.mem_cons_self
        have h2 := ih (D.erase x) h1.2 fun y hy => (List.mem_erase_of_ne (a := y) (b := x) (fun e => h1.1 (by rw [← e]; exact hy))).mpr (hs y (List.mem_cons_of_mem _ hy))
        rw [List.length_erase_of_mem hx] at h2
        have := List.length_pos_of_mem hx
        rw [List.length_cons]; omega
    have := go _ Pts h fun x hx => by
      obtain ⟨i, hi, rfl⟩ := List.mem_map.mp hx
      exact hf i (by have := List.mem_range.mp hi; omega)
    rw [List.length_map, List.length_range] at this
    omega
  · refine Classical.byContradiction fun hc => h ?_
    rw [List.nodup_iff_pairwise_ne, List.pairwise_map]
    refine List.pairwise_lt_range.imp_of_mem ?_
    intro a b ha hb hab e
    exact hc ⟨a, b, hab, by have := List.mem_range.mp hb; omega, e⟩
/-- the rooms of a ring: y, and on, until y comes again -/
structure Cyc (F : List Stp3) (s : BF) (y : Int) (L : Nat) : Prop where
  l1 : 1 ≤ L
  back : itn s L y = y
  ne : ∀ k, 1 ≤ k → k < L → itn s k y ≠ y
  on : ∀ k, 1 ≤ s.R (itn s k y)
theorem cyc_ex {F : List Stp3} {r : Nat} {pre : List Stp3} {s : BF} (h : BInv F r pre s) {b : Int} (hb : s.R b = r) {Pts : List Int} (hP : Pts.length + 1 ≤ r) (hF : ∀ e ∈ F, e.2.1 ∈ Pts) : (∀ i, i ≤ Pts.length → 1 ≤ s.R (itn s i b)) ∧ ∃ L, L ≤ Pts.length ∧ Cyc F s (itn s Pts.length b) L := by
  have hR : ∀ i, i ≤ Pts.length → 1 ≤ s.R (itn s i b) := fun i hi => by have := itn_R h hb i (by omega); omega
  have hin : ∀ i, i ≤ Pts.length → itn s i b ∈ Pts := fun i hi => by
    obtain ⟨_, _, g, h1, _⟩ := nxt_some h (hR i hi)
    exact hF _ h1
  obtain ⟨i, j, hij, hj, e⟩ := pigeon (Nat.le_refl _) hin
  -- all on the ring
  have ring : ∀ k, ∃ m, i ≤ m ∧ m < j ∧ itn s (i + k) b = itn s m b := by
    intro k
    induction k with
    | zero => exact ⟨i, Nat.le_refl _, hij, rfl⟩
    | succ k ih =>
      obtain ⟨m, h1, h2, h3⟩ := ih
      have e1 : itn s (i + (k + 1)) b = itn s (m + 1) b := by
        show nxt s (itn s (i + k) b) = nxt s (itn s m b)
        rw [h3]
      by_cases q : m + 1 = j
      · exact ⟨i, Nat.le_refl _, hij, by rw [e1, q, ← e]⟩
      · exact ⟨m + 1, by omega, by omega, e1⟩
  have on : ∀ k, 1 ≤ s.R (itn s k (itn s Pts.length b)) := fun k => by
    rw [← itn_add]
    obtain ⟨m, h1, h2, h3⟩ := ring (k + Pts.length - i)
    rw [show k + Pts.length = i + (k + Pts.length - i) by omega, h3]
    exact hR m (by omega)
  have per : itn s (j - i) (itn s Pts.length b) = itn s Pts.length b := by
    have e2 : ∀ k, itn s (j - i) (itn s (i + k) b) = itn s (i + k) b := fun k => by
      rw [← itn_add, show j - i + (i + k) = k + j by omega, itn_add, ← e, ← itn_add, Nat.add_comm]
    rw [show Pts.length = i + (Pts.length - i) by omega]
    exact e2 _
  refine ⟨hR, ?_⟩
  generalize itn s Pts.length b = y at *
  -- the least one
  have least : ∀ n : Nat, ∀ L, L ≤ n → 1 ≤ L → itn s L y = y → ∃ L', L' ≤ L ∧ Cyc F s y L' := by
    intro n
    induction n with
    | zero => intro L h1 h2 _; omega
    | succ n ih =>
      intro L h1 h2 h3
      by_cases q : ∃ k, 1 ≤ k ∧ k < L ∧ itn s k y = y
      · obtain ⟨k, k1, k2, k3⟩ := q
        obtain ⟨L', a1, a2⟩ := ih k (by omega) k1 k3
        exact ⟨L', by omega, a2⟩
      · exact ⟨L, Nat.le_refl _, h2, h3, fun k k1 k2 k3 => q ⟨k, k1, k2, k3⟩, on⟩
  obtain ⟨L', a1, a2⟩ := least (j - i) (j - i) (Nat.le_refl _) (by omega) per
  exact ⟨L', by omega, a2⟩
theorem Cyc.inj {F : List Stp3} {s : BF} {y : Int} {L : Nat} (c : Cyc F s y L) {i j : Nat} (hij : i < j) (hj : j < L) : itn s i y ≠ itn s j y := fun e => by
  have h1 : itn s (L - j + i) y = y := by
    rw [itn_add, e, ← itn_add, show L - j + j = L by omega]
    exact c.back
  exact c.ne _ (by omega) (by omega) h1
def sumN (g : Nat → Int) : Nat → Int
  | 0 => 0
  | m + 1 => sumN g m + g m
theorem tele (S g : Nat → Int) : ∀ m : Nat, (∀ k, k < m → S k ≤ S (k + 1) + g k) → S 0 - S m ≤ sumN g m ∧ ((∃ k, k < m ∧ S k < S (k + 1) + g k) → S 0 - S m < sumN g m)
  | 0, _ => ⟨by simp [sumN], fun ⟨k, hk, _⟩ => by omega⟩
  | m + 1, h => by
    obtain ⟨h1, h2⟩ := tele S g m fun k hk => h k (by omega)
    have h3 := h m (by omega)
    refine ⟨by unfold sumN; omega, fun ⟨k, hk, hs⟩ => ?_⟩
    unfold sumN
    by_cases q : k = m
    · subst q; omega
    · have := h2 ⟨k, by omega, hs⟩; omega
/-- the sum of the gains along the ring is above 0 -/
theorem cyc_pos {F : List Stp3} {r : Nat} {pre : List Stp3} {s : BF} (h : BInv F r pre s) (ne : ∀ e ∈ F, e.1 ≠ e.2.1) {y : Int} {L : Nat} (c : Cyc F s y L) (G : Int → Int) (hG : ∀ a b g, (a, b, g) ∈ F → nxt s b = a → G b = g) : 0 < sumN (fun k => G (itn s k y)) L := by
  have st : ∀ k, s.S (itn s k y) ≤ s.S (itn s (k + 1) y) + G (itn s k y) ∧ (s.T (itn s k y) < s.T (itn s (k + 1) y) → s.S (itn s k y) < s.S (itn s (k + 1) y) + G (itn s k y)) := fun k => by
    obtain ⟨_, _, g, h1, h2, h3⟩ := nxt_some h (c.on k)
    rw [hG _ _ _ h1 rfl]
    exact ⟨h2, h3⟩
  have t := tele (fun k => s.S (itn s k y)) (fun k => G (itn s k y)) L fun k _ => (st k).1
  have hb : s.S (itn s L y) = s.S (itn s 0 y) := by rw [c.back]; rfl
  have hstrict : ∃ k, k < L ∧ s.T (itn s k y) < s.T (itn s (k + 1) y) := by
    refine Classical.byContradiction fun hc => ?_
    have hm : ∀ k, k < L → s.T (itn s (k + 1) y) ≤ s.T (itn s k y) := fun k hk => Nat.le_of_not_lt fun z => hc ⟨k, hk, z⟩
    have mono : ∀ k, 1 ≤ k → k ≤ L → s.T (itn s L y) ≤ s.T (itn s k y) := by
      intro k
      induction hd : L - k generalizing k with
      | zero => intro _ h2; rw [show k = L by omega]; exact Nat.le_refl _
      | succ d ih =>
        intro h1 h2
        have a := ih (k + 1) (by omega) (by omega) (by omega)
        have b := hm k (by omega)
        omega
    have h0 := hm 0 c.l1
    have h1 := mono 1 (Nat.le_refl _) c.l1
    rw [c.back] at h1
    have e0 : itn s 0 y = y := rfl
    rw [e0] at h0
    have et : s.T y = s.T (itn s (0 + 1) y) := by
      have h1 : s.T y ≤ s.T (itn s (0 + 1) y) := h1
      omega
    have hy := c.on 0
    have hy1 := c.on (0 + 1)
    have := h.j4 _ _ hy hy1 et
    obtain ⟨_, _, g, h1, _⟩ := nxt_some h hy
    exact ne _ h1 (by show nxt s (itn s 0 y) = itn s 0 y; exact this.symm)
  obtain ⟨k, hk, hT⟩ := hstrict
  have h9 : s.S (itn s 0 y) - s.S (itn s L y) < sumN (fun k => G (itn s k y)) L := t.2 ⟨k, hk, (st k).2 hT⟩
  rw [hb] at h9
  omega

/-! ### gains around -/
def pk (ns : List Int) (k : Int) : Int := (L2.atI ns k).getD 0
theorem at_pk (ns : List Int) {k : Int} (h0 : 0 ≤ k) (h1 : k < ns.length) : ixV (.tup (ns.map .int)) (.int k) = some (.int (pk ns k)) := by
  have h2 : k.toNat < ns.length := by omega
  show L2.atI (ns.map Val.int) k = _
  unfold pk
  rw [atI_int h0 (by rw [List.length_map]; omega), atI_int h0 (by omega), List.getElem?_map, List.getElem?_eq_getElem h2]
  rfl
theorem at_m1 {α : Type} (xs : List α) : L2.atI xs (-1) = xs[xs.length - 1]? := by
  cases xs with
  | nil => rfl
  | cons x xs =>
    have e1 : L2.ixN (x :: xs).length (-1) = some xs.length := by
      unfold L2.ixN
      simp
      omega
    unfold L2.atI
    rw [e1]
    rfl
theorem at_pk1 (ns : List Int) {k : Int} (hn : ns ≠ []) (h0 : -1 ≤ k) (h1 : k < ns.length) : ixV (.tup (ns.map .int)) (.int k) = some (.int (pk ns k)) := by
  by_cases h : k = -1
  · subst h
    have hl : 0 < ns.length := List.length_pos_iff.mpr hn
    show L2.atI (ns.map Val.int) (-1) = _
    unfold pk
    rw [at_m1, at_m1, List.length_map, List.getElem?_map, List.getElem?_eq_getElem (show ns.length - 1 < ns.length by omega)]
    rfl
  · exact at_pk ns (by omega) h1
def ringG (P : List Pr) (B : List Tr) (ns : List Int) : List (Option Int) := (rangeI 0 ns.length).map fun k => gainO P B (pk ns (k - 1)) (pk ns k)
def ringB (gs : List (Option Int)) : Bool := !decide (none ∈ gs) && decide (0 < (gs.filterMap id).sum)
/-! the program's loop -/
theorem eq_pr2 (a b c d : Int) : eqV (.tup [.int a, .int b]) (.tup [.int c, .int d]) = some (.bl (decide (a = c) && decide (b = d))) := by
  unfold eqV
  rw [eqB_b (x := .tup [.int a, .int b]) (y := .tup [.int c, .int d]) (b := decide (a = c) && decide (b = d)) rfl rfl (.inr (by have := dp_ints [c, d]; exact Nat.le_trans this (by decide))) (by
    rw [Bool.and_eq_true, decide_eq_true_eq, decide_eq_true_eq]
    constructor
    · rintro ⟨rfl, rfl⟩; rfl
    · intro h
      injection h with h
      injection h with h1 h
      injection h with h2 h
      injection h1 with h1
      injection h2 with h2
      exact ⟨h1, h2⟩)]
  rfl
theorem br_c1 (n g : Int) (P : List Pr) (B : List Tr) (hB : B.length ≤ 1000) (s1 s3 s4 s5 s6 s9 s10 : Sl) (a b : Int) : C1_is_bound_ring [.fz (clkV n P B), s1, .fz (.int g), s3, s4, s5, s6, .fz (.int a), .fz (.int b), s9, s10, .no, .no, .no] = .ok (.own ((rowsG (gv g B) a b).map .int), [.fz (clkV n P B), s1, .fz (.int g), s3, s4, s5, s6, .fz (.int a), .fz (.int b), s9, s10, .no, .no, .no]) := by
  have c1 := clk1 n P B
  unfold C1_is_bound_ring
  generalize clkV n P B = w at *
  rw [dLc_3 (xs := B) (ρ0 := [.fz w, s1, .fz (.int g), s3, s4, s5, s6, .fz (.int a), .fz (.int b), s9, s10, .no, .no, .no]) (fun t => decide (t.1 = a) && decide (t.2.1 = b)) (fun t => .int (t.2.2 - g)) (by generalize B.map trV = v at *; simp -implicitDefEqProofs [c1]) (by omega) (by simp) (by simp) (by simp) rfl rfl (fun _ _ _ => rfl) fun t ht => ?_]
  · rw [rows_gv, List.map_map]
    rfl
  · refine ⟨?_, fun _ => ?_⟩
    · have := eq_pr2 t.1 t.2.1 a b
      simp -implicitDefEqProofs [-t_eq, this]
    · simp -implicitDefEqProofs
theorem br_turn (eo : FnE) (ho : OwnOk eo) (n g : Int) (P : List Pr) (B : List Tr) (hB : B.length ≤ 1000) (ns : List Int) (hn : ns ≠ []) (k : Int) (k0 : 0 ≤ k) (k1 : k < ns.length) (tot : Int) (s7 s8 s9 s10 : Sl) :
    match gainO P (gv g B) (pk ns (k - 1)) (pk ns k) with
    | some x => ∃ s7' s8' s9' s10', L1_is_bound_ring eo [.fz (clkV n P B), .fz (.tup (ns.map .int)), .fz (.int g), .fz (.int n), .fz (stV P), .fz (.int tot), .fz (.int k), s7, s8, s9, s10, .no, .no, .no] = .nx [.fz (clkV n P B), .fz (.tup (ns.map .int)), .fz (.int g), .fz (.int n), .fz (stV P), .fz (.int (tot + x)), .fz (.int k), s7', s8', s9', s10', .no, .no, .no]
    | none => ∃ ρ', L1_is_bound_ring eo [.fz (clkV n P B), .fz (.tup (ns.map .int)), .fz (.int g), .fz (.int n), .fz (stV P), .fz (.int tot), .fz (.int k), s7, s8, s9, s10, .no, .no, .no] = .rt (.fz (.bl false)) ρ' ∧ 3 ≤ ρ'.length := by
  have n1 := ho.1
  have h1 := at_pk1 ns hn (k := k - 1) (by omega) (by omega)
  have h2 := at_pk1 ns hn (k := k) (by omega) k1
  generalize pk ns (k - 1) = a at *
  generalize pk ns k = b at *
  have e1 := ho.2 P a b
  have hC := fun (s5 s6 s9 s10 : Sl) => br_c1 n g P B hB (.fz (.tup (ns.map .int))) (.fz (.int n)) (.fz (stV P)) s5 s6 s9 s10 a b
  have hl : ((rowsG (gv g B) a b).map Val.int).length < 1000000 := by rw [List.length_map]; have := rowsG_len (gv g B) a b; have := gv_len g B; omega
  unfold gainO
  cases ho2 : ownG P a b with
  | none =>
    rw [ho2] at e1
    unfold optV at e1
    simp only [Option.toList_none, List.append_nil]
    generalize clkV n P B = w at *
    generalize stV P = u at *
    generalize ns.map Val.int = nv at *
    cases hr : rowsG (gv g B) a b with
    | nil =>
      rw [hr] at hC
      show ∃ ρ', _
      refine ⟨[.fz w, .fz (.tup nv), .fz (.int g), .fz (.int n), .fz u, .fz (.int tot), .fz (.int k), .fz (.int a), .fz (.int b), .own [], .fz .non, .no, .no, .no], ?_, by simp⟩
      unfold L1_is_bound_ring
      generalize C1_is_bound_ring = C at *
      simp -implicitDefEqProofs [n1, h1, h2, hC, e1]
    | cons x r =>
      rw [hr] at hC
      have hm := max_opt (x :: r) (by simp)
      show ∃ s7' s8' s9' s10', _
      refine ⟨.fz (.int a), .fz (.int b), .own ((x :: r).map .int), .fz .non, ?_⟩
      rw [List.map_cons] at hC hm ⊢
      unfold maxO optV at hm
      generalize r.map Val.int = rv at *
      unfold L1_is_bound_ring
      generalize C1_is_bound_ring = C at *
      simp -implicitDefEqProofs [n1, h1, h2, hC, e1, hm]
  | some q =>
    rw [ho2] at e1
    unfold optV at e1
    have hm := max_opt (rowsG (gv g B) a b ++ [q]) (by simp)
    rw [List.map_append] at hm
    change maxLV (.lst ((rowsG (gv g B) a b).map .int ++ [.int q])) = _ at hm
    simp only [Option.toList_some]
    cases hx : maxO (rowsG (gv g B) a b ++ [q]) with
    | none =>
      exfalso
      cases h : rowsG (gv g B) a b <;> rw [h] at hx <;> cases hx
    | some x =>
      rw [hx] at hm
      unfold optV at hm
      show ∃ s7' s8' s9' s10', _
      refine ⟨.fz (.int a), .fz (.int b), .own ((rowsG (gv g B) a b).map .int ++ [.int q]), .fz (.int q), ?_⟩
      have ht : ∀ (w : Val) (u : Val) (nv : List Val), tOf (dVar 9) [.fz w, .fz (.tup nv), .fz (.int g), .fz (.int n), .fz u, .fz (.int tot), .fz (.int k), .fz (.int a), .fz (.int b), .own ((rowsG (gv g B) a b).map .int ++ [.int q]), .fz (.int q), .no, .no, .no] = .ok (true, [.fz w, .fz (.tup nv), .fz (.int g), .fz (.int n), .fz u, .fz (.int tot), .fz (.int k), .fz (.int a), .fz (.int b), .own ((rowsG (gv g B) a b).map .int ++ [.int q]), .fz (.int q), .no, .no, .no]) := fun w u nv => by
        generalize (rowsG (gv g B) a b).map Val.int = rv
        cases rv <;> simp -implicitDefEqProofs
      have ht := ht (clkV n P B) (stV P) (ns.map .int)
      generalize (rowsG (gv g B) a b).map Val.int = rv at *
      generalize clkV n P B = w at *
      generalize stV P = u at *
      generalize ns.map Val.int = nv at *
      unfold L1_is_bound_ring
      generalize C1_is_bound_ring = C at *
      simp -implicitDefEqProofs [n1, h1, h2, hC, e1, hl, ht, hm]

theorem br_for (eo : FnE) (ho : OwnOk eo) (n g : Int) (P : List Pr) (B : List Tr) (hB : B.length ≤ 1000) (ns : List Int) (hn : ns ≠ []) (hl : ns.length ≤ 1000) :
    if none ∈ ringG P (gv g B) ns then ∃ ρ', F1_is_bound_ring eo [.fz (clkV n P B), .fz (.tup (ns.map .int)), .fz (.int g), .fz (.int n), .fz (stV P), .fz (.int 0), .no, .no, .no, .no, .no, .no, .no, .no] = .rt (.fz (.bl false)) ρ' ∧ 3 ≤ ρ'.length
    else ∃ s6 s7 s8 s9 s10, F1_is_bound_ring eo [.fz (clkV n P B), .fz (.tup (ns.map .int)), .fz (.int g), .fz (.int n), .fz (stV P), .fz (.int 0), .no, .no, .no, .no, .no, .no, .no, .no] = .nx [.fz (clkV n P B), .fz (.tup (ns.map .int)), .fz (.int g), .fz (.int n), .fz (stV P), .fz (.int ((ringG P (gv g B) ns).filterMap id).sum), s6, s7, s8, s9, s10, .no, .no, .no] := by
  have lp := forL_ret (g := gNm 6) (b := L1_is_bound_ring eo) Val.int (rangeI 0 ns.length)
    (fun pre ρ => (∃ s6 s7 s8 s9 s10, ρ = [.fz (clkV n P B), .fz (.tup (ns.map .int)), .fz (.int g), .fz (.int n), .fz (stV P), .fz (.int ((pre.map fun k => gainO P (gv g B) (pk ns (k - 1)) (pk ns k)).filterMap id).sum), s6, s7, s8, s9, s10, .no, .no, .no]) ∧ none ∉ pre.map fun k => gainO P (gv g B) (pk ns (k - 1)) (pk ns k))
    (fun s ρ => s = .fz (.bl false) ∧ 3 ≤ ρ.length ∧ none ∈ ringG P (gv g B) ns) [] (rangeI 0 ns.length) [.fz (clkV n P B), .fz (.tup (ns.map .int)), .fz (.int g), .fz (.int n), .fz (stV P), .fz (.int 0), .no, .no, .no, .no, .no, .no, .no, .no] rfl ⟨⟨_, _, _, _, _, rfl⟩, by simp⟩ fun pre k post ρ e0 h => by
      obtain ⟨⟨s6, s7, s8, s9, s10, rfl⟩, hp⟩ := h
      have hk := mem_rangeI.mp (show k ∈ rangeI 0 ns.length by rw [e0]; simp)
      have ht := br_turn eo ho n g P B hB ns hn k hk.1 hk.2 ((pre.map fun k => gainO P (gv g B) (pk ns (k - 1)) (pk ns k)).filterMap id).sum s7 s8 s9 s10
      refine ⟨[.fz (clkV n P B), .fz (.tup (ns.map .int)), .fz (.int g), .fz (.int n), .fz (stV P), .fz (.int ((pre.map fun k => gainO P (gv g B) (pk ns (k - 1)) (pk ns k)).filterMap id).sum), .fz (.int k), s7, s8, s9, s10, .no, .no, .no], by simp [gNm], ?_⟩
      cases hx : gainO P (gv g B) (pk ns (k - 1)) (pk ns k) with
      | some x =>
        rw [hx] at ht
        obtain ⟨s7', s8', s9', s10', ht⟩ := ht
        refine .inl ⟨_, .inl ht, ⟨.fz (.int k), s7', s8', s9', s10', ?_⟩, ?_⟩
        · rw [List.map_append, List.filterMap_append, List.sum_append]
          simp [hx]
        · rw [List.map_append]
          simp [hx]
          simpa using hp
      | none =>
        rw [hx] at ht
        obtain ⟨ρ', ht, h3⟩ := ht
        exact .inr ⟨_, ρ', ht, rfl, h3, List.mem_map.mpr ⟨k, mem_rangeI.mpr hk, hx⟩⟩
  have hr : F1_is_bound_ring eo [.fz (clkV n P B), .fz (.tup (ns.map .int)), .fz (.int g), .fz (.int n), .fz (stV P), .fz (.int 0), .no, .no, .no, .no, .no, .no, .no, .no] = forL (gNm 6) (L1_is_bound_ring eo) ((rangeI 0 ns.length).map .int) [.fz (clkV n P B), .fz (.tup (ns.map .int)), .fz (.int g), .fz (.int n), .fz (stV P), .fz (.int 0), .no, .no, .no, .no, .no, .no, .no, .no] := by
    unfold F1_is_bound_ring
    have hlv : (ns.map Val.int).length = ns.length := List.length_map _
    rw [for_eq (rg1 (n := ns.length) (ρ' := [.fz (clkV n P B), .fz (.tup (ns.map .int)), .fz (.int g), .fz (.int n), .fz (stV P), .fz (.int 0), .no, .no, .no, .no, .no, .no, .no, .no]) (by generalize clkV n P B = w; generalize stV P = u; generalize ns.map Val.int = nv at *; simp -implicitDefEqProofs [hlv]) (by omega))]
  rw [hr]
  rcases lp with ⟨ρ', h1, ⟨s6, s7, s8, s9, s10, rfl⟩, h2⟩ | ⟨s, ρ', h1, rfl, h2, h3⟩
  · have h2 : none ∉ ringG P (gv g B) ns := h2
    rw [if_neg h2]
    exact ⟨s6, s7, s8, s9, s10, h1⟩
  · rw [if_pos h3]
    exact ⟨ρ', h1, h2⟩
theorem nin_of_in {x y : Val} {b : Bool} (h : inV x y = some (.bl b)) : ninV x y = some (.bl (!b)) := by
  unfold inV at h
  unfold ninV
  cases hq : inB x y with
  | none => rw [hq] at h; cases h
  | some q =>
    rw [hq] at h
    cases h
    rfl
def JudgeOk (e f : FnE) : Prop := e.np = 3 ∧ f.np = 3 ∧ ∀ (L : Nat) (n g : Int) (P : List Pr) (B : List Tr) (x : Val), L ≤ 1000 → 0 ≤ n → n ≤ 1000 → B.length ≤ 1000 → nice L x = true →
  ∃ b : Bool, e.sem [.fz (clkV n P B), .fz x, .fz (.int g)] = .ok (.fz (.bl b), .no) ∧ f.sem [.fz (clkV n P B), .fz (.int g), .fz x] = .ok (.fz (.bl b), .no) ∧
    ∀ ns : List Int, x = .tup (ns.map .int) → 2 ≤ ns.length → (∀ i ∈ ns, -1 ≤ i ∧ i ≤ 2 * n - 1) → (ddI ns).length = ns.length → b = ringB (ringG P (gv g B) ns)
theorem due_cnt (w : Val) (n : Int) {L : Nat} {x : Val} (h : nice L x = true) (s1 s2 s4 s5 : Sl) : (vAnd (dIsi "int" (dVar 6)) (vAnd (vNot (dHV (dIsi "bool" (dVar 6)))) (dChain leV ltV (dHV (dNeg (dC (.int 1)))) (dVar 6) (dHV (d2 mulV (dHV (dC (.int 2))) (dVar 3)))))) [.fz w, s1, s2, .fz (.int n), s4, s5, .fz x] = .ok (.bl (cnt (-1) (2 * n - 1) x), [.fz w, s1, s2, .fz (.int n), s4, s5, .fz x]) := by
  have hm : mulV (.int 2) (.int n) = some (.int (2 * n)) := mul_l (by decide)
  cases x with
  | non => simp -implicitDefEqProofs [cnt]
  | bl b => simp -implicitDefEqProofs [cnt]
  | int k =>
    have e : decide (k ≤ 2 * n - 1) = decide (k < 2 * n) := by rw [decide_eq_decide]; omega
    by_cases h1 : -1 ≤ k <;> simp -implicitDefEqProofs [cnt, h1, e, hm]
  | str s => simp -implicitDefEqProofs [cnt]
  | tup xs => simp -implicitDefEqProofs [cnt]
  | _ => simp [nice] at h
theorem judge_core (eo ec el : FnE) (ho : OwnOk eo) (hc : CountOk ec) (hlg : LGainOk el) (L : Nat) (n g : Int) (P : List Pr) (B : List Tr) (x : Val) (hL : L ≤ 1000) (n0 : 0 ≤ n) (nn : n ≤ 1000) (hB : B.length ≤ 1000) (h : nice L x = true) :
    ∃ b : Bool, flRes 3 none (D_is_bound_ring eo ec [.fz (clkV n P B), .fz x, .fz (.int g), .no, .no, .no, .no, .no, .no, .no, .no, .no, .no, .no]) = .ok (.fz (.bl b), .no) ∧ flRes 3 none (D__law_due el [.fz (clkV n P B), .fz (.int g), .fz x, .no, .no, .no, .no]) = .ok (.fz (.bl b), .no) ∧
      ∀ ns : List Int, x = .tup (ns.map .int) → 2 ≤ ns.length → (∀ i ∈ ns, -1 ≤ i ∧ i ≤ 2 * n - 1) → (ddI ns).length = ns.length → b = ringB (ringG P (gv g B) ns) := by
  have n1 := hc.1
  have n2 := ho.1
  have n3 := hlg.1
  have c0 : ixV (clkV n P B) (.int 0) = some (.tup [.int n, stV P]) := clk0 n P B
  have hm : mulV (.int 2) (.int n) = some (.int (2 * n)) := mul_l (by decide)
  have flat : (∀ xs, x ≠ .tup xs) → flRes 3 none (D_is_bound_ring eo ec [.fz (clkV n P B), .fz x, .fz (.int g), .no, .no, .no, .no, .no, .no, .no, .no, .no, .no, .no]) = .ok (.fz (.bl false), .no) ∧ flRes 3 none (D__law_due el [.fz (clkV n P B), .fz (.int g), .fz x, .no, .no, .no, .no]) = .ok (.fz (.bl false), .no) := fun hx => by
    unfold D_is_bound_ring D__law_due
    generalize C2_is_bound_ring ec = C2 at *
    generalize F1_is_bound_ring eo = F1 at *
    generalize C2__law_due = D2 at *
    generalize C1__law_due el = D1 at *
    generalize clkV n P B = w at *
    generalize stV P = u at *
    cases x with
    | tup xs => exact absurd rfl (hx xs)
    | non => exact ⟨by simp -implicitDefEqProofs [c0], by simp -implicitDefEqProofs [c0]⟩
    | bl b => exact ⟨by simp -implicitDefEqProofs [c0], by simp -implicitDefEqProofs [c0]⟩
    | int k => exact ⟨by simp -implicitDefEqProofs [c0], by simp -implicitDefEqProofs [c0]⟩
    | str s => exact ⟨by simp -implicitDefEqProofs [c0], by simp -implicitDefEqProofs [c0]⟩
    | _ => simp [nice] at h
  by_cases hT : ∃ xs, x = .tup xs
  · obtain ⟨xs, rfl⟩ := hT
    simp only [nice, Bool.and_eq_true, decide_eq_true_eq] at h
    have hx := nices_all.mp h.2
    by_cases h2 : (xs.length : Int) < 2
    · refine ⟨false, ?_, ?_, fun ns e h3 _ _ => ?_⟩
      · unfold D_is_bound_ring
        generalize C2_is_bound_ring ec = C2 at *
        generalize F1_is_bound_ring eo = F1 at *
        generalize clkV n P B = w at *
        generalize stV P = u at *
        simp -implicitDefEqProofs [c0, h2]
      · unfold D__law_due
        generalize C2__law_due = D2 at *
        generalize C1__law_due el = D1 at *
        generalize clkV n P B = w at *
        generalize stV P = u at *
        simp -implicitDefEqProofs [c0, h2]
      · injection e with e
        rw [e, List.length_map] at h2
        omega
    · have cA : C2_is_bound_ring ec [.fz (clkV n P B), .fz (.tup xs), .fz (.int g), .fz (.int n), .fz (stV P), .no, .no, .no, .no, .no, .no, .no, .no, .no] = .ok (.own (xs.map fun x => .bl (cnt (-1) (2 * n - 1) x)), [.fz (clkV n P B), .fz (.tup xs), .fz (.int g), .fz (.int n), .fz (stV P), .no, .no, .no, .no, .no, .no, .no, .no, .no]) := by
        generalize clkV n P B = w at *
        generalize stV P = u at *
        unfold C2_is_bound_ring
        rw [dLc_nm1 (xs := xs) id (fun x => .bl (cnt (-1) (2 * n - 1) x)) (by simp -implicitDefEqProofs) (by omega) (by simp) fun x hm2 => ?_]
        · simp -implicitDefEqProofs
        · have e1 := hc.2 L x (-1) (2 * n - 1) (hx x hm2)
          simp -implicitDefEqProofs [n1, hm, e1]
      have cB : C2__law_due [.fz (clkV n P B), .fz (.int g), .fz (.tup xs), .fz (.int n), .no, .no, .no] = .ok (.own (xs.map fun x => .bl (cnt (-1) (2 * n - 1) x)), [.fz (clkV n P B), .fz (.int g), .fz (.tup xs), .fz (.int n), .no, .no, .no]) := by
        generalize clkV n P B = w at *
        unfold C2__law_due
        rw [dLc_nm1 (xs := xs) id (fun x => .bl (cnt (-1) (2 * n - 1) x)) (by simp -implicitDefEqProofs) (by omega) (by simp) fun x hm2 => ?_]
        · simp -implicitDefEqProofs
        · exact due_cnt w n (hx x hm2) _ _ _ _
      have ca := all_map (cnt (-1) (2 * n - 1)) xs
      generalize (xs.map fun x => Val.bl (cnt (-1) (2 * n - 1) x)) = bs at *
      cases hall : xs.all (cnt (-1) (2 * n - 1)) with
      | false =>
        rw [hall] at ca
        refine ⟨false, ?_, ?_, fun ns e _ h3 _ => ?_⟩
        · unfold D_is_bound_ring
          generalize C2_is_bound_ring ec = C2 at *
          generalize F1_is_bound_ring eo = F1 at *
          generalize clkV n P B = w at *
          generalize stV P = u at *
          simp -implicitDefEqProofs [c0, h2, cA, ca]
        · unfold D__law_due
          generalize C2__law_due = D2 at *
          generalize C1__law_due el = D1 at *
          generalize clkV n P B = w at *
          generalize stV P = u at *
          simp -implicitDefEqProofs [c0, h2, cB, ca]
        · injection e with e
          exfalso
          have : xs.all (cnt (-1) (2 * n - 1)) = true := by
            rw [e, List.all_map, List.all_eq_true]
            intro i hi
            have := h3 i hi
            simp [cnt, this.1, this.2]
          rw [this] at hall
          cases hall
      | true =>
        rw [hall] at ca
        obtain ⟨ns, rfl, hb⟩ := all_cnt hall
        have hnl : ns.length ≤ 1000 := by have := h.1; rw [List.length_map] at this; omega
        have h2n : ¬ (ns.length : Int) < 2 := by rw [List.length_map] at h2; exact h2
        have hne : ns ≠ [] := fun z => by rw [z] at h2n; simp at h2n
        have hls := ls_ints ns (by omega)
        have hlv : lenV (.tup (ns.map .int)) = some (.int ns.length) := by simp
        have inj : ∀ ms : List Int, Val.tup (ns.map .int) = .tup (ms.map .int) → ns = ms := fun ms e => ints_inj (by injection e)
        by_cases hd : ((ddI ns).length : Int) = ns.length
        · have hG : C1__law_due el [.fz (clkV n P B), .fz (.int g), .fz (.tup (ns.map .int)), .fz (.int n), .no, .no, .no] = .ok (.own ((ringG P (gv g B) ns).map optV), [.fz (clkV n P B), .fz (.int g), .fz (.tup (ns.map .int)), .fz (.int n), .no, .no, .no]) := by
            have r1 : rOk (ns.length : Int) = true := rOk_of (by omega)
            have hi := fun k h0 h1 => at_pk1 ns (k := k) hne h0 h1
            unfold C1__law_due
            have hgs := fun a b => hlg.2 n g P B a b hB
            generalize clkV n P B = w at *
            generalize Val.tup (ns.map .int) = tv at *
            rw [dLc_nm1 (xs := rangeI 0 (ns.length : Int)) Val.int (fun k => optV (gainO P (gv g B) (pk ns (k - 1)) (pk ns k))) (by simp -implicitDefEqProofs [hlv, r1]) (by rw [length_rangeI]; omega) (by simp) fun k hk => ?_]
            · unfold ringG
              rw [List.map_map]
              rfl
            · have hk := mem_rangeI.mp hk
              have h1 := hi (k - 1) (by omega) (by omega)
              have h2 := hi k (by omega) (by omega)
              have h3 := hgs (pk ns (k - 1)) (pk ns k)
              generalize optV (gainO P (gv g B) (pk ns (k - 1)) (pk ns k)) = o at *
              simp -implicitDefEqProofs [n3, h1, h2, h3]
          have hin := in_opt (ringG P (gv g B) ns)
          have hnin := nin_of_in hin
          have hsum := fun h => sum_opt (gs := ringG P (gv g B) ns) h
          have hf := br_for eo ho n g P B hB ns hne hnl
          refine ⟨ringB (ringG P (gv g B) ns), ?_, ?_, fun ms e _ _ _ => by rw [inj ms e]⟩
          · unfold ringB
            by_cases hN : none ∈ ringG P (gv g B) ns
            · rw [if_pos hN] at hf
              obtain ⟨ρ', hf, h3⟩ := hf
              have h3' : ¬ ρ'.length < 3 := by omega
              rw [decide_eq_true hN]
              generalize ((ringG P (gv g B) ns).filterMap id).sum = t at *
              generalize clkV n P B = w at *
              generalize stV P = u at *
              generalize ns.map Val.int = nv at *
              unfold D_is_bound_ring
              generalize C2_is_bound_ring ec = C2 at *
              generalize F1_is_bound_ring eo = F1 at *
              simp -implicitDefEqProofs [-t_lenT, c0, h2n, cA, ca, hls, hlv, hd, hf, parOf, h3']
            · rw [if_neg hN] at hf
              obtain ⟨s6, s7, s8, s9, s10, hf⟩ := hf
              rw [decide_eq_false hN]
              generalize ((ringG P (gv g B) ns).filterMap id).sum = t at *
              generalize clkV n P B = w at *
              generalize stV P = u at *
              generalize ns.map Val.int = nv at *
              unfold D_is_bound_ring
              generalize C2_is_bound_ring ec = C2 at *
              generalize F1_is_bound_ring eo = F1 at *
              simp -implicitDefEqProofs [-t_lenT, c0, h2n, cA, ca, hls, hlv, hd, hf]
          · unfold ringB
            by_cases hN : none ∈ ringG P (gv g B) ns
            · rw [decide_eq_true hN] at hnin ⊢
              generalize ((ringG P (gv g B) ns).filterMap id).sum = t at *
              generalize (ringG P (gv g B) ns).map optV = gv' at *
              generalize clkV n P B = w at *
              generalize stV P = u at *
              generalize ns.map Val.int = nv at *
              unfold D__law_due
              generalize C2__law_due = D2 at *
              generalize C1__law_due el = D1 at *
              simp -implicitDefEqProofs [-t_lenT, c0, h2n, cB, ca, hls, hlv, hd, hG, hnin]
            · have hsum := hsum hN
              rw [decide_eq_false hN] at hnin ⊢
              generalize ((ringG P (gv g B) ns).filterMap id).sum = t at *
              generalize (ringG P (gv g B) ns).map optV = gv' at *
              generalize clkV n P B = w at *
              generalize stV P = u at *
              generalize ns.map Val.int = nv at *
              unfold D__law_due
              generalize C2__law_due = D2 at *
              generalize C1__law_due el = D1 at *
              simp -implicitDefEqProofs [-t_lenT, c0, h2n, cB, ca, hls, hlv, hd, hG, hnin, hsum]
        · refine ⟨false, ?_, ?_, fun ms e _ _ h3 => ?_⟩
          · generalize clkV n P B = w at *
            generalize stV P = u at *
            generalize ns.map Val.int = nv at *
            unfold D_is_bound_ring
            generalize C2_is_bound_ring ec = C2 at *
            generalize F1_is_bound_ring eo = F1 at *
            simp -implicitDefEqProofs [-t_lenT, c0, h2n, cA, ca, hls, hlv, hd]
          · generalize clkV n P B = w at *
            generalize stV P = u at *
            generalize ns.map Val.int = nv at *
            unfold D__law_due
            generalize C2__law_due = D2 at *
            generalize C1__law_due el = D1 at *
            simp -implicitDefEqProofs [-t_lenT, c0, h2n, cB, ca, hls, hlv, hd]
          · have := inj ms e
            subst this
            exact absurd (by rw [h3]) hd
  · obtain ⟨f1, f2⟩ := flat fun xs e => hT ⟨xs, e⟩
    exact ⟨false, f1, f2, fun ns e => absurd ⟨_, e⟩ hT⟩
theorem judge_ok : JudgeOk E_is_bound_ring E__law_due := ⟨rfl, rfl, fun L n g P B x hL n0 nn hB h => by
  rw [s_is_bound_ring, s__law_due]
  exact judge_core _ _ _ own_ok count_ok lgain_ok L n g P B x hL n0 nn hB h⟩

/-! ### lists over points -/
def pe (f : Int → Val) (n : Int) : List Val := (rangeI 0 (2 * n)).map f ++ [f (-1)]
theorem pe_len (f : Int → Val) (n : Int) : (pe f n).length = (2 * n).toNat + 1 := by
  unfold pe
  rw [List.length_append, List.length_map, length_rangeI]
  simp
theorem pe_get (f : Int → Val) (n : Int) (i : Nat) : (pe f n)[i]? = if i < (2 * n).toNat then some (f i) else if i = (2 * n).toNat then some (f (-1)) else none := by
  have hl : ((rangeI 0 (2 * n)).map f).length = (2 * n).toNat := by rw [List.length_map, length_rangeI]; simp
  unfold pe
  by_cases h : i < (2 * n).toNat
  · rw [if_pos h, List.getElem?_append_left (by rw [hl]; exact h), List.getElem?_map]
    unfold rangeI
    rw [List.getElem?_map, List.getElem?_range (by simpa using h)]
    simp
  · rw [if_neg h, List.getElem?_append_right (by rw [hl]; omega), hl]
    by_cases h2 : i = (2 * n).toNat
    · rw [if_pos h2, h2]; simp
    · rw [if_neg h2]
      rw [List.getElem?_eq_none]
      simp
      omega
theorem pe_at (f : Int → Val) {n k : Int} (h0 : -1 ≤ k) (h1 : k < 2 * n) (hn : 0 ≤ n) : L2.atI (pe f n) k = some (f k) := by
  by_cases h : k = -1
  · subst h
    rw [at_m1, pe_get, pe_len]
    simp
  · rw [atI_int (by omega) (by rw [pe_len]; omega), pe_get, if_pos (by omega)]
    rw [show ((k.toNat : Nat) : Int) = k by omega]
theorem pe_put (f : Int → Val) {n k : Int} (h0 : -1 ≤ k) (h1 : k < 2 * n) (hn : 0 ≤ n) (x : Val) (f2 : Int → Val) (hf : ∀ y, f2 y = if y = k then x else f y) : putV (pe f n) (.int k) x = some (pe f2 n) := by
  have hix : L2.ixN (pe f n).length k = some (if k = -1 then (2 * n).toNat else k.toNat) := by
    rw [pe_len]
    by_cases h : k = -1
    · subst h
      unfold L2.ixN
      simp
      omega
    · rw [if_neg h]
      have e := ixN_nat (n := (2 * n).toNat + 1) (i := k.toNat) (by omega)
      rw [show ((k.toNat : Nat) : Int) = k by omega] at e
      exact e
  show (L2.ixN (pe f n).length k).map _ = _
  rw [hix]
  show some _ = some _
  congr 1
  apply List.ext_getElem?
  intro i
  rw [List.getElem?_set, pe_get, pe_len, pe_get]
  by_cases h : k = -1
  · subst h
    rw [if_pos rfl]
    by_cases h2 : (2 * n).toNat = i
    · subst h2
      simp [hf]
    · rw [if_neg h2]
      by_cases h3 : i < (2 * n).toNat
      · rw [if_pos h3, if_pos h3, hf, if_neg (by omega)]
      · rw [if_neg h3, if_neg h3, if_neg (Ne.symm h2), if_neg (Ne.symm h2)]
  · rw [if_neg h]
    by_cases h2 : k.toNat = i
    · subst h2
      rw [if_pos rfl, if_pos (by omega), if_pos (by omega), hf, if_pos (by omega)]
    · rw [if_neg h2]
      by_cases h3 : i < (2 * n).toNat
      · rw [if_pos h3, if_pos h3, hf, if_neg (by omega)]
      · rw [if_neg h3, if_neg h3]
        by_cases h4 : i = (2 * n).toNat
        · rw [if_pos h4, if_pos h4, hf, if_neg (by omega)]
        · rw [if_neg h4, if_neg h4]
theorem pe_rep (x : Val) (n : Int) (hn : 0 ≤ n) : List.replicate (2 * n + 1).toNat x = pe (fun _ => x) n := by
  apply List.ext_getElem?
  intro i
  rw [pe_get, List.getElem?_replicate]
  by_cases h : i < (2 * n).toNat
  · rw [if_pos h, if_pos (by omega)]
  · rw [if_neg h]
    by_cases h2 : i = (2 * n).toNat
    · rw [if_pos h2, if_pos (by omega)]
    · rw [if_neg h2, if_neg (by omega)]
def sV (s : BF) (n : Int) : List Val := pe (fun y => .int (s.S y)) n
def bV (s : BF) (n : Int) : List Val := pe (fun y => optV (s.by_ y)) n
theorem rx_turn (r : Nat) (s : BF) (n : Int) (n0 : 0 ≤ n) (e : Tr) (a0 : -1 ≤ e.1) (a1 : e.1 < 2 * n) (b0 : -1 ≤ e.2.1) (b1 : e.2.1 < 2 * n) (s0 s1 s2 s3 s7 : Sl) :
    L4__law_ring [s0, s1, s2, s3, .own (sV s n), .own (bV s n), .fz (optV s.last), s7, .fz (.int e.1), .fz (.int e.2.1), .fz (.int e.2.2), .no] = .nx [s0, s1, s2, s3, .own (sV (relax r s e) n), .own (bV (relax r s e) n), .fz (optV (relax r s e).last), s7, .fz (.int e.1), .fz (.int e.2.1), .fz (.int e.2.2), .no] := by
  have h1 : L2.atI (sV s n) e.1 = some (.int (s.S e.1)) := pe_at _ a0 a1 n0
  have h2 : L2.atI (sV s n) e.2.1 = some (.int (s.S e.2.1)) := pe_at _ b0 b1 n0
  unfold relax
  by_cases h : s.S e.2.1 < s.S e.1 + e.2.2
  · rw [if_pos h]
    have p1 : putV (sV s n) (.int e.2.1) (.int (s.S e.1 + e.2.2)) = some (pe (fun y => .int (up1 s.S e.2.1 (s.S e.1 + e.2.2) y)) n) := pe_put _ b0 b1 n0 _ _ fun y => by unfold up1; split <;> rfl
    have p2 : putV (bV s n) (.int e.2.1) (.int e.1) = some (pe (fun y => optV (up1 s.by_ e.2.1 (some e.1) y)) n) := pe_put _ b0 b1 n0 _ _ fun y => by unfold up1; split <;> rfl
    unfold sV bV at *
    simp only
    generalize pe (fun y => .int (up1 s.S e.2.1 (s.S e.1 + e.2.2) y)) n = v1 at *
    generalize pe (fun y => optV (up1 s.by_ e.2.1 (some e.1) y)) n = v2 at *
    generalize pe (fun y => .int (s.S y)) n = u1 at *
    generalize pe (fun y => optV (s.by_ y)) n = u2 at *
    generalize optV s.last = o at *
    change (Option.map (fun j => u1.set j (.int (s.S e.1 + e.2.2))) (L2.ixN u1.length e.2.1)) = some v1 at p1
    change (Option.map (fun j => u2.set j (.int e.1)) (L2.ixN u2.length e.2.1)) = some v2 at p2
    unfold L4__law_ring optV
    simp -implicitDefEqProofs [h1, h2, h, p1, p2, lstOf, setL]
  · rw [if_neg h]
    generalize sV s n = u1 at *
    generalize bV s n = u2 at *
    generalize optV s.last = o at *
    unfold L4__law_ring
    simp -implicitDefEqProofs [h1, h2, h]

/-! ### the law's ring -/
def RF (n : Int) (F : List Tr) : Prop := ∀ t ∈ F, t.1 ≠ t.2.1 ∧ -1 ≤ t.1 ∧ t.1 < 2 * n ∧ -1 ≤ t.2.1 ∧ t.2.1 < 2 * n
theorem r4_go (r : Nat) (n : Int) (n0 : 0 ≤ n) (F : List Tr) (hF : RF n F) (s : BF) (s0 s1 s2 s7 s8 s9 s10 : Sl) :
    ∃ s8' s9' s10', F4__law_ring [s0, s1, s2, .fz (.lst (F.map trV)), .own (sV s n), .own (bV s n), .fz (optV s.last), s7, s8, s9, s10, .no] = .nx [s0, s1, s2, .fz (.lst (F.map trV)), .own (sV (F.foldl (relax r) s) n), .own (bV (F.foldl (relax r) s) n), .fz (optV (F.foldl (relax r) s).last), s7, s8', s9', s10', .no] := by
  obtain ⟨ρ', lp, s8', s9', s10', rfl⟩ := forL_all (g := g3n 8 9 10) (b := L4__law_ring) trV F
    (fun pre ρ => ∃ s8 s9 s10, ρ = [s0, s1, s2, .fz (.lst (F.map trV)), .own (sV (pre.foldl (relax r) s) n), .own (bV (pre.foldl (relax r) s) n), .fz (optV (pre.foldl (relax r) s).last), s7, s8, s9, s10, .no])
    (ρ := [s0, s1, s2, .fz (.lst (F.map trV)), .own (sV s n), .own (bV s n), .fz (optV s.last), s7, s8, s9, s10, .no]) ⟨s8, s9, s10, rfl⟩ fun pre t post ρ e0 h => by
      obtain ⟨s8, s9, s10, rfl⟩ := h
      obtain ⟨_, a0, a1, b0, b1⟩ := hF t (by rw [e0]; simp)
      have ht := rx_turn r (pre.foldl (relax r) s) n n0 t a0 a1 b0 b1 s0 s1 s2 (.fz (.lst (F.map trV))) s7
      refine ⟨_, _, g3n_eq (i := 8) (j := 9) (k := 10) (.int t.1) (.int t.2.1) (.int t.2.2) (by simp) (by simp) (by simp), .inl ht, _, _, _, by rw [List.foldl_append]; rfl⟩
  refine ⟨s8', s9', s10', ?_⟩
  unfold F4__law_ring
  generalize F.map trV = fv at *
  generalize sV s n = u1 at *
  generalize bV s n = u2 at *
  generalize optV s.last = o at *
  generalize sV (F.foldl (relax r) s) n = v1 at *
  generalize bV (F.foldl (relax r) s) n = v2 at *
  generalize optV (F.foldl (relax r) s).last = o2 at *
  simp -implicitDefEqProofs [goesV]
  exact lp
theorem r3_go (n : Int) (n0 : 0 ≤ n) (n24 : n ≤ 24) (F : List Tr) (hF : RF n F) (s0 s1 : Sl) :
    ∃ (s : BF) (s7 s8 s9 s10 : Sl), F3__law_ring [s0, s1, .fz (.int n), .fz (.lst (F.map trV)), .own (sV bf0 n), .own (bV bf0 n), .fz .non, .no, .no, .no, .no, .no] = .nx [s0, s1, .fz (.int n), .fz (.lst (F.map trV)), .own (sV s n), .own (bV s n), .fz (optV s.last), s7, s8, s9, s10, .no] ∧ BInv F (2 * n + 2).toNat F s := by
  have ne : ∀ e ∈ F, e.1 ≠ e.2.1 := fun e he => (hF e he).1
  have hm : mulV (.int 2) (.int n) = some (.int (2 * n)) := mul_l (by decide)
  obtain ⟨ρ', lp, s, s6, s7, s8, s9, s10, rfl, _, hb⟩ := forL_nm (i := 7) (b := L3__law_ring) Val.int (rangeI 0 (2 * n + 2))
    (fun pre ρ => ∃ (s : BF) (s6 s7 s8 s9 s10 : Sl), ρ = [s0, s1, .fz (.int n), .fz (.lst (F.map trV)), .own (sV s n), .own (bV s n), s6, s7, s8, s9, s10, .no] ∧ BInv F (pre.length + 1) [] { s with last := none } ∧ (pre ≠ [] → BInv F pre.length F s ∧ s6 = .fz (optV s.last)))
    (ρ := [s0, s1, .fz (.int n), .fz (.lst (F.map trV)), .own (sV bf0 n), .own (bV bf0 n), .fz .non, .no, .no, .no, .no, .no]) ⟨bf0, _, _, _, _, _, rfl, first_inv F, fun h => absurd rfl h⟩ fun pre k post ρ e0 h => by
      obtain ⟨s, s6, s7, s8, s9, s10, rfl, h1, _⟩ := h
      obtain ⟨s8', s9', s10', h4⟩ := r4_go (pre.length + 1) n n0 F hF { s with last := none } s0 s1 (.fz (.int n)) (.fz (.int k)) s8 s9 s10
      have h2 := rnd_inv ne (by omega) h1
      refine ⟨by simp, _, .inl ?_, rnd F (pre.length + 1) s, .fz (optV (rnd F (pre.length + 1) s).last), .fz (.int k), s8', s9', s10', rfl, ?_, fun _ => ⟨?_, rfl⟩⟩
      · have e1 : sV { s with last := none } n = sV s n := rfl
        have e2 : bV { s with last := none } n = bV s n := rfl
        have e3 : ({ s with last := none } : BF).last = none := rfl
        rw [e1, e2, e3] at h4
        change _ = Fl.nx [s0, s1, .fz (.int n), .fz (.lst (F.map trV)), .own (sV (rnd F (pre.length + 1) s) n), .own (bV (rnd F (pre.length + 1) s) n), .fz (optV (rnd F (pre.length + 1) s).last), .fz (.int k), s8', s9', s10', .no] at h4
        unfold optV at h4
        simp only at h4
        unfold L3__law_ring
        generalize F.map trV = fv at *
        generalize sV s n = u1 at *
        generalize bV s n = u2 at *
        generalize F4__law_ring = F4 at *
        simp -implicitDefEqProofs [h4, optV]
      · rw [List.length_append, List.length_singleton]
        exact next_inv h2
      · rw [List.length_append, List.length_singleton]
        exact h2
  have hl : (rangeI 0 (2 * n + 2)).length = (2 * n + 2).toNat := by rw [length_rangeI]; simp
  have hne : rangeI 0 (2 * n + 2) ≠ [] := fun z => by rw [z] at hl; simp at hl; omega
  obtain ⟨h1, rfl⟩ := hb hne
  rw [hl] at h1
  refine ⟨s, s7, s8, s9, s10, ?_, h1⟩
  unfold F3__law_ring
  rw [for_eq (rg1 (n := 2 * n + 2) (ρ' := [s0, s1, .fz (.int n), .fz (.lst (F.map trV)), .own (sV bf0 n), .own (bV bf0 n), .fz .non, .no, .no, .no, .no, .no]) (by generalize F.map trV = fv; generalize sV bf0 n = u1; generalize bV bf0 n = u2; simp -implicitDefEqProofs [hm]) (by omega))]
  exact lp
theorem r_in {n : Int} {F : List Tr} (hF : RF n F) {r : Nat} {pre : List Tr} {s : BF} (h : BInv F r pre s) {x : Int} (hx : 1 ≤ s.R x) : -1 ≤ x ∧ x < 2 * n := by
  obtain ⟨_, _, g, h1, _⟩ := nxt_some h hx
  obtain ⟨_, _, _, b0, b1⟩ := hF _ h1
  exact ⟨b0, b1⟩
theorem by_at {n : Int} (n0 : 0 ≤ n) {F : List Tr} (hF : RF n F) {r : Nat} {pre : List Tr} {s : BF} (h : BInv F r pre s) {x : Int} (hx : 1 ≤ s.R x) : L2.atI (bV s n) x = some (.int (nxt s x)) := by
  obtain ⟨b0, b1⟩ := r_in hF h hx
  have := pe_at (fun y => optV (s.by_ y)) b0 b1 n0
  rw [(nxt_some h hx).1] at this
  exact this
theorem r2_go (n : Int) (n0 : 0 ≤ n) (n24 : n ≤ 24) (F : List Tr) (hF : RF n F) (s : BF) (h : BInv F (2 * n + 2).toNat F s) (b : Int) (hR : ∀ i, i ≤ (2 * n + 1).toNat → 1 ≤ s.R (itn s i b)) (s0 s1 s3 s4 s7 s8 s9 s10 : Sl) :
    ∃ s7', F2__law_ring [s0, s1, .fz (.int n), s3, s4, .own (bV s n), .fz (.int b), s7, s8, s9, s10, .no] = .nx [s0, s1, .fz (.int n), s3, s4, .own (bV s n), .fz (.int (itn s (2 * n + 1).toNat b)), s7', s8, s9, s10, .no] := by
  have hm : mulV (.int 2) (.int n) = some (.int (2 * n)) := mul_l (by decide)
  have hl : (rangeI 0 (2 * n + 1)).length = (2 * n + 1).toNat := by rw [length_rangeI]; simp
  obtain ⟨ρ', lp, s7', rfl⟩ := forL_nm (i := 7) (b := L2__law_ring) Val.int (rangeI 0 (2 * n + 1))
    (fun pre ρ => ∃ s7, ρ = [s0, s1, .fz (.int n), s3, s4, .own (bV s n), .fz (.int (itn s pre.length b)), s7, s8, s9, s10, .no])
    (ρ := [s0, s1, .fz (.int n), s3, s4, .own (bV s n), .fz (.int b), s7, s8, s9, s10, .no]) ⟨s7, rfl⟩ fun pre k post ρ e0 hh => by
      obtain ⟨s7, rfl⟩ := hh
      have hpl : pre.length < (rangeI 0 (2 * n + 1)).length := by rw [e0]; simp
      rw [hl] at hpl
      have hat := by_at n0 hF h (hR pre.length (by omega))
      refine ⟨by simp, _, .inl ?_, .fz (.int k), by rw [List.length_append, List.length_singleton]⟩
      show L2__law_ring _ = .nx [s0, s1, .fz (.int n), s3, s4, .own (bV s n), .fz (.int (nxt s (itn s pre.length b))), .fz (.int k), s8, s9, s10, .no]
      generalize bV s n = u2 at *
      unfold L2__law_ring
      simp -implicitDefEqProofs [hat]
  rw [hl] at lp
  refine ⟨s7', ?_⟩
  unfold F2__law_ring
  rw [for_eq (rg1 (n := 2 * n + 1) (ρ' := [s0, s1, .fz (.int n), s3, s4, .own (bV s n), .fz (.int b), s7, s8, s9, s10, .no]) (by generalize bV s n = u2; simp -implicitDefEqProofs [hm]) (by omega))]
  exact lp
/-- the ring's points, from y on -/
def rg (s : BF) (y : Int) (k : Nat) : List Int := (List.range k).map fun i => itn s i y
theorem rg_succ (s : BF) (y : Int) (k : Nat) : rg s y (k + 1) = rg s y k ++ [itn s k y] := by unfold rg; rw [List.range_succ, List.map_append]; rfl
theorem rg_last (s : BF) (y : Int) {k : Nat} (hk : 1 ≤ k) : L2.atI ((rg s y k).map Val.int) (-1) = some (.int (itn s (k - 1) y)) := by
  obtain ⟨k, rfl⟩ : ∃ j, k = j + 1 := ⟨k - 1, by omega⟩
  rw [rg_succ, at_m1]
  simp
theorem r1_go (n : Int) (n0 : 0 ≤ n) (F : List Tr) (hF : RF n F) (s : BF) {r : Nat} (h : BInv F r F s) (y : Int) (L : Nat) (c : Cyc F s y L) (hL : L ≤ 49) (s0 s1 s2 s3 s4 s7 s8 s9 s10 : Sl) :
    F1__law_ring [s0, s1, s2, s3, s4, .own (bV s n), .fz (.int y), s7, s8, s9, s10, .own [.int y]] = .nx [s0, s1, s2, s3, s4, .own (bV s n), .fz (.int y), s7, s8, s9, s10, .own ((rg s y L).map .int)] := by
  have w := while_go (c := (tAndD (tBl (d2 neV (dHV (d2 ixV (dVar 5) (dHV (d2 ixV (dVar 11) (dHV (dNeg (dC (.int 1)))))))) (dVar 6))) (tBl (d2 ltV (dHV (dN (g1 lenV) (aCons (dVar 11) aNil))) (dHV (dC (.int 60))))))) (b := L1__law_ring)
    (fun m ρ => ∃ k : Nat, 1 ≤ k ∧ k ≤ L ∧ m + k = L ∧ ρ = [s0, s1, s2, s3, s4, .own (bV s n), .fz (.int y), s7, s8, s9, s10, .own ((rg s y k).map .int)])
    (fun ρ => ρ = [s0, s1, s2, s3, s4, .own (bV s n), .fz (.int y), s7, s8, s9, s10, .own ((rg s y L).map .int)])
    (fun _ _ => False) (n := L - 1) (ρ := [s0, s1, s2, s3, s4, .own (bV s n), .fz (.int y), s7, s8, s9, s10, .own ((rg s y 1).map .int)])
    (fun m ρ hh => by
      obtain ⟨k, k1, k2, hk, rfl⟩ := hh
      have hla := rg_last s y k1
      have hat := by_at n0 hF h (c.on (k - 1))
      have e1 : nxt s (itn s (k - 1) y) = itn s k y := by
        obtain ⟨j, rfl⟩ : ∃ j, k = j + 1 := ⟨k - 1, by omega⟩
        rfl
      rw [e1] at hat
      have hlen : ((rg s y k).map Val.int).length = k := by unfold rg; simp
      have h60 : ((k : Nat) : Int) < 60 := by omega
      have hsz : ((rg s y k).map Val.int).length < 1000000 := by omega
      by_cases q : k = L
      · left
        refine ⟨?_, by rw [q]⟩
        have hy : itn s k y = y := by rw [q]; exact c.back
        rw [hy] at hat
        generalize (rg s y k).map Val.int = rv at *
        generalize bV s n = u2 at *
        simp -implicitDefEqProofs [hla, hat]
      · right
        have hy := c.ne k k1 (by omega)
        refine ⟨?_, .inl ⟨_, ?_, m - 1, by omega, k + 1, by omega, by omega, by omega, rfl⟩⟩
        · generalize (rg s y k).map Val.int = rv at *
          generalize bV s n = u2 at *
          simp -implicitDefEqProofs [hla, hat, hy, hlen, h60]
        · rw [rg_succ, List.map_append]
          generalize (rg s y k).map Val.int = rv at *
          generalize bV s n = u2 at *
          unfold L1__law_ring
          simp -implicitDefEqProofs [hla, hat, hsz])
    ⟨1, Nat.le_refl _, c.l1, by have := c.l1; omega, rfl⟩
  rcases w with ⟨ρ', hw, rfl⟩ | ⟨_, _, _, hf⟩
  · exact hw
  · exact hf.elim

theorem dd_len {ns : List Int} (h : ns.Nodup) : (ddI ns).length = ns.length := perm_mem (nodup_ddI ns) h fun k => mem_ddI
theorem rev_pk (A : List Int) {k : Int} (h0 : 0 ≤ k) (h1 : k < A.length) : pk A.reverse k = A[A.length - 1 - k.toNat]?.getD 0 := by
  unfold pk
  rw [atI_int h0 (by rw [List.length_reverse]; exact h1), List.getElem?_reverse (by omega)]
theorem rev_m1 (A : List Int) : pk A.reverse (-1) = A[0]?.getD 0 := by
  unfold pk
  rw [at_m1, List.length_reverse]
  cases A with
  | nil => rfl
  | cons a A => rw [List.getElem?_reverse (by simp)]; simp
theorem sum_rg (s : BF) (y : Int) (G : Int → Int) : ∀ L : Nat, ((rg s y L).map G).sum = sumN (fun k => G (itn s k y)) L
  | 0 => rfl
  | L + 1 => by
    rw [rg_succ, List.map_append, List.sum_append, sum_rg s y G L]
    simp [sumN]
theorem sum_rev (xs : List Int) : xs.reverse.sum = xs.sum := by
  induction xs with
  | nil => rfl
  | cons x xs ih => rw [List.reverse_cons, List.sum_append, ih]; simp; omega
theorem rg_at (s : BF) (y : Int) {L k : Nat} (h : k < L) : (rg s y L)[k]? = some (itn s k y) := by unfold rg; rw [List.getElem?_map, List.getElem?_range h]; rfl
/-- the gains around the ring that is told -/
theorem rg_gains {n : Int} {P : List Pr} {B : List Tr} {F : List Tr} (hs : ∀ t ∈ F, Stp n P B t) {r : Nat} {s : BF} (h : BInv F r F s) {y : Int} {L : Nat} (c : Cyc F s y L) : ∃ G : Int → Int, (∀ a b g, (a, b, g) ∈ F → nxt s b = a → G b = g) ∧ ringG P B (rg s y L).reverse = ((rg s y L).map G).reverse.map some := by
  refine ⟨fun x => (gainO P B (nxt s x) x).getD 0, fun a b g hm e => by show (gainO P B (nxt s b) b).getD 0 = g; rw [e, (hs _ hm).g]; rfl, ?_⟩
  have hl : (rg s y L).length = L := by unfold rg; simp
  unfold ringG
  apply List.ext_getElem?
  intro i
  rw [List.getElem?_map, List.getElem?_map, List.length_reverse, hl]
  by_cases hi : i < L
  · have e1 : (rangeI 0 (L : Int))[i]? = some (i : Int) := by
      unfold rangeI
      rw [List.getElem?_map, List.getElem?_range (by simpa using hi)]
      simp
    have p1 : pk (rg s y L).reverse (i : Int) = itn s (L - 1 - i) y := by
      rw [rev_pk _ (by omega) (by rw [hl]; omega), hl, rg_at s y (by simp; omega)]
      simp
    have p2 : pk (rg s y L).reverse ((i : Int) - 1) = itn s (L - i) y := by
      by_cases q : i = 0
      · subst q
        rw [show (((0 : Nat) : Int) - 1) = -1 by rfl, rev_m1, rg_at s y c.l1]
        exact c.back.symm
      · rw [rev_pk _ (by omega) (by rw [hl]; omega), hl, rg_at s y (by omega)]
        rw [show L - 1 - ((i : Int) - 1).toNat = L - i by omega]
        rfl
    have hx : nxt s (itn s (L - 1 - i) y) = itn s (L - i) y := by
      rw [show L - i = (L - 1 - i) + 1 by omega]
      rfl
    rw [e1, List.getElem?_reverse (by rw [List.length_map, hl]; exact hi), List.length_map, hl, List.getElem?_map, rg_at s y (by omega)]
    simp only [Option.map_some]
    rw [p1, p2, hx]
    obtain ⟨_, _, g, hm, _⟩ := nxt_some h (c.on (L - 1 - i))
    rw [hx] at hm
    rw [(hs _ hm).g]
    rfl
  · rw [List.getElem?_eq_none (by rw [length_rangeI]; omega), List.getElem?_eq_none (by rw [List.length_reverse, List.length_map, hl]; omega)]
    rfl
def lstO2 : Option (List Int) → Val
  | none => .non
  | some ns => .tup (ns.map .int)
def RingOk (e : FnE) : Prop := e.np = 2 ∧ ∀ (n g : Int) (P : List Pr) (B : List Tr), 0 ≤ n → n ≤ 24 → B.length ≤ 1000 → ∃ o : Option (List Int), e.sem [.fz (clkV n P B), .fz (.int g)] = .ok (.fz (lstO2 o), .no) ∧
  ∀ ns, o = some ns → 2 ≤ ns.length ∧ ns.length ≤ 49 ∧ (∀ i ∈ ns, -1 ≤ i ∧ i ≤ 2 * n - 1) ∧ (ddI ns).length = ns.length ∧ ringB (ringG P (gv g B) ns) = true
theorem ring_core (es : FnE) (hst : StepsOk es) (n g : Int) (P : List Pr) (B : List Tr) (n0 : 0 ≤ n) (n24 : n ≤ 24) (hB : B.length ≤ 1000) :
    ∃ o : Option (List Int), flRes 2 none (D__law_ring es [.fz (clkV n P B), .fz (.int g), .no, .no, .no, .no, .no, .no, .no, .no, .no, .no]) = .ok (.fz (lstO2 o), .no) ∧
      ∀ ns, o = some ns → 2 ≤ ns.length ∧ ns.length ≤ 49 ∧ (∀ i ∈ ns, -1 ≤ i ∧ i ≤ 2 * n - 1) ∧ (ddI ns).length = ns.length ∧ ringB (ringG P (gv g B) ns) = true := by
  obtain ⟨F, e1, hFl, hs⟩ := hst.2 n g P B n0 n24 hB
  have np := hst.1
  have c0 := clk0 n P B
  have l0 := land0 n P
  have hm : mulV (.int 2) (.int n) = some (.int (2 * n)) := mul_l (by decide)
  have hF : RF n F := fun t ht => let q := hs t ht; ⟨q.ne, q.lo1, q.hi1, q.lo, q.hi⟩
  have ne : ∀ e ∈ F, e.1 ≠ e.2.1 := fun e he => (hF e he).1
  have r0 : repV (.lst [.int 0]) (.int (2 * n + 1)) = some (sV bf0 n) := by rw [rep_one _ _ (by omega) (by omega), pe_rep _ _ n0]; rfl
  have rN : repV (.lst [.non]) (.int (2 * n + 1)) = some (bV bf0 n) := by rw [rep_one _ _ (by omega) (by omega), pe_rep _ _ n0]; rfl
  obtain ⟨s, s7, s8, s9, s10, e3, hb⟩ := r3_go n n0 n24 F hF (.fz (clkV n P B)) (.fz (.int g))
  cases hla : s.last with
  | none =>
    rw [hla] at e3
    unfold optV at e3
    refine ⟨none, ?_, fun ns h => by cases h⟩
    generalize F.map trV = fv at *
    generalize clkV n P B = w at *
    generalize landV n P = lw at *
    generalize sV bf0 n = u1 at *
    generalize bV bf0 n = u2 at *
    generalize sV s n = u3 at *
    generalize bV s n = u4 at *
    unfold D__law_ring lstO2
    generalize F3__law_ring = F3 at *
    simp -implicitDefEqProofs [np, c0, l0, e1, hm, r0, rN, e3]
  | some b =>
    rw [hla] at e3
    unfold optV at e3
    obtain ⟨hR, hN⟩ := hb.la b hla
    have hPl : (rangeI (-1) (2 * n)).length = (2 * n + 1).toNat := by rw [length_rangeI]; congr 1
    obtain ⟨hR2, L, hL, c⟩ := cyc_ex hb hR (Pts := rangeI (-1) (2 * n)) (by rw [hPl]; omega) fun e he => mem_rangeI.mpr (by have := hF e he; omega)
    rw [hPl] at hR2 hL c
    obtain ⟨s7', e4⟩ := r2_go n n0 n24 F hF s hb b hR2 (.fz (clkV n P B)) (.fz (.int g)) (.fz (.lst (F.map trV))) (.own (sV s n)) s7 s8 s9 s10
    generalize itn s (2 * n + 1).toNat b = y at *
    have e5 := r1_go n n0 F hF s hb y L c (by omega) (.fz (clkV n P B)) (.fz (.int g)) (.fz (.int n)) (.fz (.lst (F.map trV))) (.own (sV s n)) s7' s8 s9 s10
    have hlen : (rg s y L).length = L := by unfold rg; simp
    refine ⟨some (rg s y L).reverse, ?_, fun ns h => ?_⟩
    · have e6 : (rg s y L).reverse.map Val.int = ((rg s y L).map Val.int).reverse := List.map_reverse
      show _ = Out.ok (Sl.fz (.tup ((rg s y L).reverse.map .int)), _)
      rw [e6]
      generalize (rg s y L).map Val.int = rv at *
      generalize F.map trV = fv at *
      generalize clkV n P B = w at *
      generalize landV n P = lw at *
      generalize sV bf0 n = u1 at *
      generalize bV bf0 n = u2 at *
      generalize sV s n = u3 at *
      generalize bV s n = u4 at *
      unfold D__law_ring
      generalize F3__law_ring = F3 at *
      generalize F2__law_ring = F2 at *
      generalize F1__law_ring = F1 at *
      simp -implicitDefEqProofs [np, c0, l0, e1, hm, r0, rN, e3, e4, e5, backV]
    · cases h
      have hnd : (rg s y L).Nodup := by
        unfold rg
        rw [List.nodup_iff_pairwise_ne, List.pairwise_map]
        refine List.pairwise_lt_range.imp_of_mem ?_
        intro i j hi hj hij
        exact c.inj hij (List.mem_range.mp hj)
      have L2 : 2 ≤ L := by
        have h1 := c.l1
        by_cases q : L = 1
        · exfalso
          have hb2 := c.back
          rw [q] at hb2
          obtain ⟨_, _, gg, hm2, _⟩ := nxt_some hb (c.on 0)
          exact ne _ hm2 hb2
        · omega
      refine ⟨by rw [List.length_reverse, hlen]; exact L2, by rw [List.length_reverse, hlen]; omega, fun i hi => ?_, dd_len (List.pairwise_reverse.mpr (hnd.imp Ne.symm)), ?_⟩
      · rw [List.mem_reverse] at hi
        unfold rg at hi
        obtain ⟨k, _, rfl⟩ := List.mem_map.mp hi
        have := r_in hF hb (c.on k)
        omega
      · obtain ⟨G, hG, hr⟩ := rg_gains hs hb c
        have hpos := cyc_pos hb ne c G hG
        rw [hr]
        unfold ringB
        have h1 : none ∉ ((rg s y L).map G).reverse.map some := fun z => by
          obtain ⟨x, _, e⟩ := List.mem_map.mp z
          cases e
        rw [decide_eq_false h1]
        have h2 : (((rg s y L).map G).reverse.map some).filterMap id = ((rg s y L).map G).reverse := by
          rw [List.filterMap_map]
          exact List.filterMap_some
        rw [h2, sum_rev, sum_rg, decide_eq_true hpos]
        rfl
theorem ring_ok : RingOk E__law_ring := ⟨rfl, fun n g P B n0 n1 hB => by rw [s__law_ring]; exact ring_core _ steps_ok n g P B n0 n1 hB⟩

/-! ### precedences, stays -/
def PrecOk (e : FnE) : Prop := e.np = 1 ∧ ∀ S : List Pr, S.length ≤ 24 → ∃ P : List Pr, e.sem [.fz (stV S)] = .ok (.fz (landV S.length P), .no)
theorem prec_core (S : List Pr) (hS : S.length ≤ 24) : ∃ P : List Pr, flRes 1 none (D__law_precedence [.fz (stV S), .no, .no, .no, .no]) = .ok (.fz (landV S.length P), .no) := by
  have hl := len_st S
  obtain ⟨ρ', h1, P, s2, s3, rfl, h2, h3⟩ := forL_nm (i := 3) (b := L1__law_precedence) Val.int (rangeI 0 S.length)
    (fun pre ρ => ∃ (P : List Pr) (s2 s3 : Sl), ρ = [.fz (stV S), .fz (.int S.length), s2, s3, .no] ∧ (s2 = .own (P.map prV) ∨ s2 = .fz (.lst (P.map prV))) ∧ P.length ≤ pre.length * 24)
    (ρ := [.fz (stV S), .fz (.int S.length), .own [], .no, .no]) ⟨[], _, _, rfl, .inl rfl, by simp⟩ fun pre a post ρ e h => by
      obtain ⟨P, s2, s3, rfl, h2, h3⟩ := h
      have ha := mem_rangeI.mp (show a ∈ rangeI 0 S.length by rw [e]; simp)
      have hpl : pre.length < 24 := by
        have := congrArg List.length e
        rw [length_rangeI, List.length_append, List.length_cons] at this
        omega
      have hC : ∀ s2, C1__law_precedence [.fz (stV S), .fz (.int S.length), s2, .fz (.int a), .no] = .ok (.own ((((rangeI 0 S.length).filter fun b => decide ((gt S a).2 < (gt S b).1)).map fun b => (a, b)).map prV), [.fz (stV S), .fz (.int S.length), s2, .fz (.int a), .no]) := fun s2 => by
        unfold C1__law_precedence
        have : rOk S.length = true := rOk_of (by omega)
        rw [List.map_map, dLc_nm (xs := rangeI 0 S.length) Val.int (fun b => decide ((gt S a).2 < (gt S b).1)) (fun b => prV (a, b)) (by simp -implicitDefEqProofs [this]) (by rw [length_rangeI]; omega) (by simp) fun b hb => ?_]
        · simp -implicitDefEqProofs
        · have hb := mem_rangeI.mp hb
          have e1 := ix_st S ha.1 ha.2
          have e2 := ix_st S hb.1 hb.2
          have e3 := ix_pr1 (gt S a)
          have e4 := ix_pr0 (gt S b)
          generalize stV S = u at *
          generalize prV (gt S a) = p at *
          generalize prV (gt S b) = q at *
          simp -implicitDefEqProofs [e1, e2, e3, e4]
          intro _
          rfl
      have hQ : ((((rangeI 0 S.length).filter fun b => decide ((gt S a).2 < (gt S b).1)).map fun b => (a, b)) : List Pr).length ≤ 24 := by
        rw [List.length_map]
        have := List.length_filter_le (fun b => decide ((gt S a).2 < (gt S b).1)) (rangeI 0 S.length)
        rw [length_rangeI] at this
        omega
      generalize ((((rangeI 0 S.length).filter fun b => decide ((gt S a).2 < (gt S b).1)).map fun b => (a, b)) : List Pr) = Q at *
      have hle : (P.map prV).length + (Q.map prV).length ≤ 1000000 := by rw [List.length_map, List.length_map]; omega
      refine ⟨by simp, [.fz (stV S), .fz (.int S.length), .fz (.lst ((P ++ Q).map prV)), .fz (.int a), .no], .inl ?_, P ++ Q, _, _, rfl, .inr rfl, by rw [List.length_append, List.length_append]; simp; omega⟩
      rw [List.map_append]
      unfold L1__law_precedence
      generalize stV S = u at *
      generalize P.map prV = ps at *
      generalize Q.map prV = qs at *
      rcases h2 with rfl | rfl
      · simp -implicitDefEqProofs [hC, hle]
      · simp -implicitDefEqProofs [hC, hle]
  refine ⟨P, ?_⟩
  have hF : F1__law_precedence [.fz (stV S), .fz (.int S.length), .own [], .no, .no] = .nx [.fz (stV S), .fz (.int S.length), s2, s3, .no] := by
    unfold F1__law_precedence
    have : rOk S.length = true := rOk_of (by omega)
    simp -implicitDefEqProofs [this]
    exact h1
  unfold D__law_precedence landV
  generalize stV S = u at *
  generalize P.map prV = ps at *
  rcases h2 with rfl | rfl
  · simp -implicitDefEqProofs [hl, hF]
  · simp -implicitDefEqProofs [hl, hF]
theorem prec_ok : PrecOk E__law_precedence := ⟨rfl, fun S hS => by
  obtain ⟨P, h⟩ := prec_core S hS
  exact ⟨P, by rw [s__law_precedence]; exact h⟩⟩
def StaysOk (e : FnE) : Prop := e.np = 4 ∧ ∀ (b : Bx) (n : Nat) (wide top : Int), n ≤ 24 → 0 < wide → wide ≤ 1000000 → 0 < top → top ≤ 1000000 →
  ∃ (b' : Bx) (S : List Pr), e.sem [.pbox b.c b.d b.s, .fz (.int n), .fz (.int wide), .fz (.int top)] = .ok (.fz (stV S), .pbox b'.c b'.d b'.s) ∧ S.length = n
theorem stays_core (ed : FnE) (hd : DrawOk ed) (b : Bx) (n : Nat) (wide top : Int) (hn : n ≤ 24) (w0 : 0 < wide) (w1 : wide ≤ 1000000) (t0 : 0 < top) (t1 : top ≤ 1000000) :
    ∃ (b' : Bx) (S : List Pr), flRes 4 (some 0) (D__law_stays ed [.pbox b.c b.d b.s, .fz (.int n), .fz (.int wide), .fz (.int top), .no, .no, .no]) = .ok (.fz (stV S), .pbox b'.c b'.d b'.s) ∧ S.length = n := by
  have n1 := hd.1
  have r1 : rOk n = true := rOk_of (by omega)
  obtain ⟨fs, b1, h1, h2⟩ := dLc_st1 (i := 5) (it := dRg (dR1 (dVH (dVar 1)))) (e := dVO (callD1 ed 0 (aCons (dVar 0) (aCons (dVar 2) aNil)))) Val.int Val.int (fun b : Bx => [.pbox b.c b.d b.s, .fz (.int n), .fz (.int wide), .fz (.int top), .no, .no, .no]) (ρ0 := [.pbox b.c b.d b.s, .fz (.int n), .fz (.int wide), .fz (.int top), .no, .no, .no]) b (xs := rangeI 0 n) (by simp -implicitDefEqProofs [r1]) (by rw [length_rangeI]; omega) (fun _ => rfl)
    (fun pre out _ => out.length = pre.length) rfl fun pre a post out b e h => by
      obtain ⟨d, b', d0, d1, e1⟩ := hd.ex b w0 (Int.lt_of_le_of_lt w1 (by decide))
      exact ⟨d, b', by simp -implicitDefEqProofs [n1, e1], by simp [h]⟩
  rw [length_rangeI] at h2
  obtain ⟨S, b2, h3, h4⟩ := dLc_st1 (i := 6) (it := dIt (dVH (dVar 4))) (e := dTup (aCons (dVar 6) (aCons (dHV (d2 addV (dVar 6) (dHV (dVO (callD1 ed 0 (aCons (dVar 0) (aCons (dVar 3) aNil))))))) aNil))) Val.int prV (fun b : Bx => [.pbox b.c b.d b.s, .fz (.int n), .fz (.int wide), .fz (.int top), .fz (.lst (fs.map .int)), .no, .no]) (ρ0 := [.pbox b1.c b1.d b1.s, .fz (.int n), .fz (.int wide), .fz (.int top), .own (fs.map .int), .no, .no]) b1 (xs := fs) (by simp -implicitDefEqProofs) (by omega) (fun _ => rfl)
    (fun pre out _ => out.length = pre.length) rfl fun pre a post out b e h => by
      obtain ⟨d, b', d0, d1, e1⟩ := hd.ex b t0 (Int.lt_of_le_of_lt t1 (by decide))
      refine ⟨(a, a + d), b', ?_, by simp [h]⟩
      unfold prV
      generalize fs.map Val.int = vs
      simp -implicitDefEqProofs [n1, e1]
  refine ⟨b2, S, ?_, by omega⟩
  unfold D__law_stays C2__law_stays
  rw [seq_nx (ρ' := [.pbox b1.c b1.d b1.s, .fz (.int n), .fz (.int wide), .fz (.int top), .own (fs.map .int), .no, .no])]
  · have hC : C1__law_stays ed [.pbox b1.c b1.d b1.s, .fz (.int n), .fz (.int wide), .fz (.int top), .own (fs.map .int), .no, .no] = .ok (.own (S.map prV), [.pbox b2.c b2.d b2.s, .fz (.int n), .fz (.int wide), .fz (.int top), .fz (.lst (fs.map .int)), .no, .no]) := h3
    unfold stV
    generalize S.map prV = ps at *
    generalize fs.map Val.int = vs at *
    simp -implicitDefEqProofs [hC]
  · simp -implicitDefEqProofs [h1]
theorem stays_ok : StaysOk E__law_stays := ⟨rfl, fun b n wide top hn w0 w1 t0 t1 => by
  obtain ⟨b', S, h⟩ := stays_core _ draw_ok b n wide top hn w0 w1 t0 t1
  exact ⟨b', S, by rw [s__law_stays]; exact h.1, h.2⟩⟩

/-! ### the law's clock -/
def ClockOk (e : FnE) : Prop := e.np = 3 ∧ ∀ b : Bx, ∃ (b' : Bx) (P S : List Pr) (U : List Tr), e.sem [.pbox b.c b.d b.s, .fz (.int 5), .fz (.int 10)] = .ok (.fz (.tup [clkV S.length P U, stV S]), .pbox b'.c b'.d b'.s) ∧ S.length ≤ 5 ∧ U.length ≤ 10
def atO (vs : List Int) (k : Int) : Int := (L2.atI vs k).getD 0
theorem at_o (vs : List Int) {k : Int} (h0 : 0 ≤ k) (h1 : k < vs.length) : ixV (.lst (vs.map .int)) (.int k) = some (.int (atO vs k)) := at_pk vs h0 h1
theorem clock_turn (e__law_draw : FnE) (hd : DrawOk e__law_draw) (b : Bx) (s1 s2 s3 s4 s8 s9 s11 s12 s13 s14 : Sl) (T : List Tr) (hT : T.length ≤ 1000) (pts hrs : List Int) (hp : 0 < pts.length) (hp2 : pts.length ≤ 1000) (hh : hrs.length = pts.length) (s7 : Sl) (h7 : s7 = .own (hrs.map .int) ∨ s7 = .fz (.lst (hrs.map .int))) (loose : Int) (l0 : 0 ≤ loose) (l1 : loose < 3) :
    ∃ (b' : Bx) (T' : List Tr) (s12' s13' s14' : Sl), L1__law_clock e__law_draw [.pbox b.c b.d b.s, s1, s2, s3, s4, .own (T.map trV), .fz (.lst (pts.map .int)), s7, s8, s9, .fz (.int loose), s11, s12, s13, s14] = .nx [.pbox b'.c b'.d b'.s, s1, s2, s3, s4, .own (T'.map trV), .fz (.lst (pts.map .int)), s7, s8, s9, .fz (.int loose), s11, s12', s13', s14'] ∧ T'.length ≤ T.length + 1 := by
  have n1 := hd.1
  obtain ⟨x, b1, x0, x1, e1⟩ := hd.ex b (m := (pts.length : Int)) (by omega) (by omega)
  obtain ⟨y, b2, y0, y1, e2⟩ := hd.ex b1 (m := (pts.length : Int)) (by omega) (by omega)
  have hlv : lenV (.lst (pts.map .int)) = some (.int pts.length) := by simp
  by_cases hxy : x = y
  · refine ⟨b2, T, .fz (.int x), .fz (.int y), s14, ?_, by omega⟩
    subst hxy
    generalize (pts.length : Int) = pl at *
    generalize pts.map Val.int = pv at *
    generalize hrs.map Val.int = hv at *
    generalize T.map trV = tv at *
    unfold L1__law_clock
    simp -implicitDefEqProofs [-t_lenL, n1, hlv, e1, e2]
  · obtain ⟨u, b3, u0, u1, e3⟩ := hd.ex b2 (m := 4) (by decide) (by decide)
    obtain ⟨v, b4, v0, v1, e4⟩ := hd.ex b3 (m := 6) (by decide) (by decide)
    have p1 := at_o pts x0 x1
    have p2 := at_o pts y0 y1
    have q1 := at_o hrs x0 (by omega)
    have q2 := at_o hrs y0 (by omega)
    obtain ⟨z, hz⟩ : ∃ z, mulV (.int loose) (.int (if v = 0 then 1 else 0)) = some (.int z) := ⟨_, mul_l (by omega)⟩
    have hl : (T.map trV).length < 1000000 := by rw [List.length_map]; omega
    have hi : intV (.bl (decide (v = 0))) = some (.int (if v = 0 then 1 else 0)) := by by_cases h : v = 0 <;> simp [h] <;> rfl
    refine ⟨b4, T ++ [(atO pts x, atO pts y, atO hrs y - atO hrs x - u + z)], .fz (.int x), .fz (.int y), .fz (.int (atO hrs y - atO hrs x - u + z)), ?_, by rw [List.length_append]; simp⟩
    rw [List.map_append]
    generalize (pts.length : Int) = pl at *
    generalize pts.map Val.int = pv at *
    generalize hrs.map Val.int = hv at *
    generalize T.map trV = tv at *
    generalize atO pts x = a1 at *
    generalize atO pts y = a2 at *
    generalize atO hrs x = a3 at *
    generalize atO hrs y = a4 at *
    unfold L1__law_clock
    rcases h7 with rfl | rfl <;> simp -implicitDefEqProofs [-t_lenL, n1, hlv, e1, e2, hxy, p1, p2, q1, q2, e3, e4, hi, hz, hl, trV]

theorem clock_core (e__law_precedence e__law_draw e__law_stays : FnE) (hpr : PrecOk e__law_precedence) (hd : DrawOk e__law_draw) (hst : StaysOk e__law_stays) (b : Bx) :
    ∃ (b' : Bx) (P S : List Pr) (U : List Tr), flRes 3 (some 0) (D__law_clock e__law_precedence e__law_draw e__law_stays [.pbox b.c b.d b.s, .fz (.int 5), .fz (.int 10), .no, .no, .no, .no, .no, .no, .no, .no, .no, .no, .no, .no]) = .ok (.fz (.tup [clkV S.length P U, stV S]), .pbox b'.c b'.d b'.s) ∧ S.length ≤ 5 ∧ U.length ≤ 10 := by
  have n1 := hd.1; have n2 := hst.1; have n3 := hpr.1
  obtain ⟨n, b1, m0, m1, e1⟩ := hd.ex b (m := 6) (by decide) (by decide)
  obtain ⟨b2, S, e2, hS⟩ := hst.2 b1 n.toNat 12 6 (by omega) (by decide) (by decide) (by decide) (by decide)
  have hn : ((n.toNat : Nat) : Int) = n := by omega
  rw [hn] at e2
  have hSn : (S.length : Int) = n := by omega
  obtain ⟨P, e3⟩ := hpr.2 S (by omega)
  have hm : mulV (.int 2) (.int n) = some (.int (2 * n)) := mul_l (by decide)
  have rg : rgOk 0 (2 * n) = true := by unfold rgOk; simp; omega
  have r2 : rOk (2 * n) = true := rOk_of (by omega)
  have r0 : rOk 0 = true := by decide
  -- the hours
  obtain ⟨ρ', h1, hrs, s7, s8, s9, rfl, h7, hh⟩ := forL_2 (i := 8) (j := 9) (b := L2__law_clock) (fun p : Pr => Val.int p.1) (fun p => Val.int p.2) S
    (fun pre ρ => ∃ (hrs : List Int) (s7 s8 s9 : Sl), ρ = [.pbox b2.c b2.d b2.s, .fz (.int 5), .fz (.int 10), .fz (.int n), .fz (stV S), .own [], .fz (.lst ((-1 :: rangeI 0 (2 * n)).map .int)), s7, s8, s9, .no, .no, .no, .no, .no] ∧ (s7 = .own (hrs.map .int) ∨ s7 = .fz (.lst (hrs.map .int))) ∧ hrs.length = 1 + 2 * pre.length)
    (ρ := [.pbox b2.c b2.d b2.s, .fz (.int 5), .fz (.int 10), .fz (.int n), .fz (stV S), .own [], .fz (.lst ((-1 :: rangeI 0 (2 * n)).map .int)), .own [.int 0], .no, .no, .no, .no, .no, .no, .no]) ⟨[0], _, _, _, rfl, .inl rfl, rfl⟩ fun pre p post ρ e h => by
      obtain ⟨hrs, s7, s8, s9, rfl, h7, hh⟩ := h
      have hpl : pre.length ≤ 5 := by have := congrArg List.length e; simp at this; omega
      have hl : (hrs.map Val.int).length + 2 ≤ 1000000 := by rw [List.length_map]; omega
      refine ⟨by simp, by simp, _, .inl ?_, hrs ++ [p.1, p.2], .fz (.lst ((hrs ++ [p.1, p.2]).map .int)), .fz (.int p.1), .fz (.int p.2), rfl, .inr rfl, by rw [List.length_append, List.length_append]; simp; omega⟩
      rw [List.map_append]
      generalize hrs.map Val.int = hv at *
      generalize (-1 :: rangeI 0 (2 * n)).map Val.int = pv at *
      generalize stV S = sv at *
      unfold L2__law_clock
      rcases h7 with rfl | rfl <;> simp -implicitDefEqProofs [hl]
  obtain ⟨loose, b3, l0, l1, e4⟩ := hd.ex b2 (m := 3) (by decide) (by decide)
  obtain ⟨cnt', b4, c0, c1, e5⟩ := hd.ex b3 (m := 11) (by decide) (by decide)
  have rc : rOk cnt' = true := rOk_of (by omega)
  have hpts : (-1 :: rangeI 0 (2 * n)).length = 1 + 2 * S.length := by rw [List.length_cons, length_rangeI]; omega
  -- the bounds
  obtain ⟨ρ2, h2, b5, T, s11, s12, s13, s14, rfl, hT⟩ := forL_nm (i := 11) (b := L1__law_clock e__law_draw) Val.int (rangeI 0 cnt')
    (fun pre ρ => ∃ (b : Bx) (T : List Tr) (s11 s12 s13 s14 : Sl), ρ = [.pbox b.c b.d b.s, .fz (.int 5), .fz (.int 10), .fz (.int n), .fz (stV S), .own (T.map trV), .fz (.lst ((-1 :: rangeI 0 (2 * n)).map .int)), s7, s8, s9, .fz (.int loose), s11, s12, s13, s14] ∧ T.length ≤ pre.length)
    (ρ := [.pbox b4.c b4.d b4.s, .fz (.int 5), .fz (.int 10), .fz (.int n), .fz (stV S), .own [], .fz (.lst ((-1 :: rangeI 0 (2 * n)).map .int)), s7, s8, s9, .fz (.int loose), .no, .no, .no, .no]) ⟨b4, [], .no, .no, .no, .no, rfl, Nat.le_refl _⟩ fun pre k post ρ e h => by
      obtain ⟨b, T, s11, s12, s13, s14, rfl, hT⟩ := h
      have hpl : pre.length ≤ 10 := by
        have := congrArg List.length e
        rw [length_rangeI] at this
        simp at this
        omega
      obtain ⟨b', T', s12', s13', s14', h3, h4⟩ := clock_turn e__law_draw hd b (.fz (.int 5)) (.fz (.int 10)) (.fz (.int n)) (.fz (stV S)) s8 s9 (.fz (.int k)) s12 s13 s14 T (by omega) (-1 :: rangeI 0 (2 * n)) hrs (by simp) (by omega) (by omega) s7 h7 loose l0 l1
      exact ⟨by simp, _, .inl h3, b', T', _, s12', s13', s14', rfl, by rw [List.length_append]; simp; omega⟩
  have hTl : T.length ≤ 10 := by rw [length_rangeI] at hT; omega
  obtain ⟨U, e6, hU, _⟩ := sd_tr (ts := T) (by omega)
  refine ⟨b5, P, S, U, ?_, by omega, by omega⟩
  have F2 : F2__law_clock [.pbox b2.c b2.d b2.s, .fz (.int 5), .fz (.int 10), .fz (.int n), .fz (stV S), .own [], .fz (.lst ((-1 :: rangeI 0 (2 * n)).map .int)), .own [.int 0], .no, .no, .no, .no, .no, .no, .no] = .nx [.pbox b2.c b2.d b2.s, .fz (.int 5), .fz (.int 10), .fz (.int n), .fz (stV S), .own [], .fz (.lst ((-1 :: rangeI 0 (2 * n)).map .int)), s7, s8, s9, .no, .no, .no, .no, .no] := by
    have hz : lstOf (Sl.fz (stV S)) = none := rfl
    have hg : goesV (stV S) = some (S.map prV) := rfl
    change forL _ _ (S.map prV) _ = _ at h1
    generalize stV S = sv at *
    generalize (-1 :: rangeI 0 (2 * n)).map Val.int = pv at *
    unfold F2__law_clock
    simp -implicitDefEqProofs [hz, hg]
    exact h1
  have F1 : F1__law_clock e__law_draw [.pbox b3.c b3.d b3.s, .fz (.int 5), .fz (.int 10), .fz (.int n), .fz (stV S), .own [], .fz (.lst ((-1 :: rangeI 0 (2 * n)).map .int)), s7, s8, s9, .fz (.int loose), .no, .no, .no, .no] = .nx [.pbox b5.c b5.d b5.s, .fz (.int 5), .fz (.int 10), .fz (.int n), .fz (stV S), .own (T.map trV), .fz (.lst ((-1 :: rangeI 0 (2 * n)).map .int)), s7, s8, s9, .fz (.int loose), s11, s12, s13, s14] := by
    generalize stV S = sv at *
    generalize (-1 :: rangeI 0 (2 * n)).map Val.int = pv at *
    generalize T.map trV = tv at *
    unfold F1__law_clock
    simp -implicitDefEqProofs [n1, e5, rc, r0]
    exact h2
  have hpv : Val.int (-1) :: (rangeI 0 (2 * n)).map .int = (-1 :: rangeI 0 (2 * n)).map .int := rfl
  have hpl2 : 1 + (rangeI 0 (2 * n)).length ≤ sizeLine := ok_size (by rw [length_rangeI]; omega)
  unfold clkV
  generalize landV S.length P = lw at *
  generalize stV S = sv at *
  generalize (-1 :: rangeI 0 (2 * n)).map Val.int = pv at *
  generalize T.map trV = tv at *
  generalize U.map trV = uv at *
  unfold D__law_clock
  simp -implicitDefEqProofs [n1, n2, n3, e1, e2, hm, rg, r2, r0, hpv, hpl2, F2, e4, F1, e3, e6]
theorem clock_ok : ClockOk E__law_clock := ⟨rfl, fun b => by
  obtain ⟨b', P, S, U, h⟩ := clock_core _ _ _ prec_ok draw_ok stays_ok b
  exact ⟨b', P, S, U, by rw [s__law_clock]; exact h.1, h.2⟩⟩

theorem map_erase : ∀ (xs : List Int) (d : Nat), (xs.map Val.int).eraseIdx d = (xs.eraseIdx d).map .int
  | [], _ => rfl
  | _ :: _, 0 => rfl
  | x :: xs, d + 1 => by
    rw [List.map_cons, List.eraseIdx_cons_succ, List.eraseIdx_cons_succ, List.map_cons, map_erase xs d]
theorem perm_erase : ∀ (xs : List Int) (d : Nat) (h : d < xs.length), (xs[d] :: xs.eraseIdx d).Perm xs
  | x :: xs, 0, _ => List.Perm.refl _
  | x :: xs, d + 1, h => by
    rw [List.eraseIdx_cons_succ, List.getElem_cons_succ]
    exact (List.Perm.swap x _ _).trans ((perm_erase xs d (by simpa using h)).cons x)
theorem popV_int (left : List Int) (d : Nat) (h : d < left.length) (hl : left.length ≤ 1000000) : popV (left.map .int) [.int (d : Int)] = some (.int left[d], (left.eraseIdx d).map .int) := by
  have h1 : seqIndex? (d : Int) (left.map Val.int).length = some d := by
    unfold seqIndex?
    rw [List.length_map]
    have : ¬ ((d : Int) < 0) := by omega
    simp [this]
    omega
  have h2 : ((left.map Val.int)[d]?) = some (.int left[d]) := by simp [h]
  unfold popV
  simp only [h1]
  rw [if_pos (by omega), Option.bind_some, h2, map_erase]
  rfl
theorem mixed_step (e : FnE) (hn : e.np = 2) (tv t2v : List Val) (rw : Val) (left : List Val) (a : Int) (d : Int) (z : Val) (left2 : List Val) (ht : e.sem [.par tv, .fz (.int left.length)] = .ok (.fz (.int d), .par t2v)) (hp : popV left [.int d] = some (z, left2)) :
    dU popV 2 (aCons (dHV (dVO (callD1 e 0 (aCons (dVar 0) (aCons (dHV (dN (g1 lenV) (aCons (dVar 2) aNil))) aNil))))) aNil) [.par tv, .fz rw, .own left, .fz (.int a)] = .ok (z, [.par t2v, .fz rw, .own left2, .fz (.int a)]) := by
  simp [fo_ok, th_nx, th_rt, th_bk, th_ct, op_s, ob_ok, oo_s, de_v, de_s, ds_n, ds_c, ts_n, ts_c, tv_v, tv_s, fl_rt, fl_nx, x_dHV, x_dVar, x_dC, x_dVH, x_dIt, x_dRg, x_tYesD, x_dU, x_sPut, x_d2, x_aNil, x_aCons, x_dN, x_pNone, x_pSome, x_dSl, x_dTup, x_dOV, x_dVO, x_dLst, x_tOf, x_tBl, x_dChain, x_tAndD, x_tOrD, x_tNotD, x_vAnd, x_vOr, x_vNot, x_dIf, x_dNeg, x_dIsN, x_dNotN, x_dNo, x_dR1, x_dR2, x_dLR, x_dIsi, x_sSkip, x_sBreak, x_sCont, x_sSeq, x_sIf, x_sDrop, x_sRet, x_asg, x_sSet, x_gNm, x_gN, x_gC, x_gTp, x_sAsg, x_sPar, x_g1, x_g2, x_go1, x_callD0, x_callD1, parOf, putV, lstOf, setL, frOf, Sl.view, add_int, sub_int, int_int, ixl, ixt, len_lst, len_tup, lt_int, gt_int, le_int, ge_int, eq_int, ne_int, at0, at1, at2, at3, notNo, isNone, tupOf, x_dBk, isi_non_int, isi_non_bool, isi_non_str, isi_non_tuple, isi_non_list, isi_bl_int, isi_bl_bool, isi_bl_str, isi_bl_tuple, isi_bl_list, isi_int_int, isi_int_bool, isi_int_str, isi_int_tuple, isi_int_list, isi_str_int, isi_str_bool, isi_str_str, isi_str_tuple, isi_str_list, isi_tup_int, isi_tup_bool, isi_tup_str, isi_tup_tuple, isi_tup_list, isi_lst_int, isi_lst_bool, isi_lst_str, isi_lst_tuple, isi_lst_list, eq_bl, ne_bl, truth, parIn, parBack, hn, ht, hp]

/-- a comprehension that changes something, whose variable had a value before -/
theorem dLc_st1w {α β τ : Type} {it : DI} {i : Nat} {e : DV} (enc : α → Val) (dec : β → Val) (ρ : τ → Ev.Env) {ρ0 ρ1 : Ev.Env} (b0 : τ) {xs : List α} (hit : it ρ0 = .ok (xs.map enc, ρ1)) (hw0 : ρ1.set i .no = ρ b0) (hl : xs.length ≤ 1000000)
    (hk : ∀ b, (ρ b)[i]? = some .no) (I : List α → List β → τ → Prop) (h0 : I [] [] b0)
    (st : ∀ pre a post out b, xs = pre ++ a :: post → I pre out b → ∃ y b2, e ((ρ b).set i (.fz (enc a))) = .ok (dec y, (ρ b2).set i (.fz (enc a))) ∧ I (pre ++ [a]) (out ++ [y]) b2) :
    ∃ ys b', dLc it (gNm i) tYesD e [i] ρ0 = .ok (.own (ys.map dec), (ρ b').set i (keepFz ρ1[i]?)) ∧ I xs ys b' := by
  have hs : ∀ b (v : Sl), ((ρ b).set i v).set i .no = ρ b := fun b v => by rw [set_set]; exact set_self (hk b)
  have hi : ∀ b, i < (ρ b).length := fun b => (List.getElem?_eq_some_iff.mp (hk b)).1
  obtain ⟨ys, ρ', h1, zs, b', rfl, rfl, h2⟩ := lcL_all (g := gNm i) (t := tYesD) (e := e) (vs := [i]) enc xs (fun pre out r => ∃ zs b, out = zs.map dec ∧ r = ρ b ∧ I pre zs b) (ρ := ρ b0) ⟨[], b0, rfl, rfl, h0⟩ fun pre a post out r e0 ⟨zs, b, h1, h2, h3⟩ => by
    subst h1 h2
    obtain ⟨y, b2, h6, h7⟩ := st pre a post zs b e0 h3
    exact ⟨_, true, _, by rw [y_gNm, if_pos (hi b)], rfl, .inl ⟨rfl, _, _, h6, zs ++ [y], b2, by simp, by show wipeE _ [i] = _; simp only [wipeE]; exact hs _ _, h7⟩⟩
  refine ⟨zs, b', ?_, h2⟩
  rw [lc_eq hit (by rw [List.length_map]; exact Nat.le_trans hl (by decide)) (by rw [show wipeE ρ1 [i] = ρ1.set i .no from rfl, hw0]; exact h1)]
  simp only [rest]
theorem same_bl (n : Nat) (b : Bool) : (E__law_same (n + 1)).sem [.fz (.bl b), .fz (.bl b)] = .ok (.fz (.bl true), .no) := by
  rw [s__law_same]
  generalize E__law_same n = e
  unfold D__law_same
  simp -implicitDefEqProofs
theorem sm_ok : SmOk (E__law_same 8) := ⟨(lv__law_same 8).2.2, same_bl 7⟩
theorem ints_nice {ns : List Int} (hl : ns.length ≤ 900) : nice 900 (.tup (ns.map .int)) = true := by
  simp only [nice, Bool.and_eq_true, decide_eq_true_eq, List.length_map]
  exact ⟨hl, nices_all.mpr fun x hx => by obtain ⟨i, _, rfl⟩ := List.mem_map.mp hx; rfl⟩
theorem backI (ns : List Int) (lo hi : Option Int) : backL (ns.map Val.int) lo hi = (backL ns lo hi).map .int := by
  unfold backL
  rw [List.length_map, List.map_filterMap]
  simp only [List.getElem?_map]
def JOk (e f : FnE) : Prop := JudgeOk e f
/-! one value -/
theorem f2_go (es e f : FnE) (hs : SmOk es) (hj : JudgeOk e f) (n g : Int) (P : List Pr) (B : List Tr) (n0 : 0 ≤ n) (nn : n ≤ 1000) (hB : B.length ≤ 1000) (vs : List Val) (hv : ∀ v ∈ vs, nice 900 v = true) (s0 s2 s4 s6 s7 s8 s9 s10 : Sl) :
    ∃ s10', F2__law_fine es e f [s0, .fz (clkV n P B), s2, .fz (.int g), s4, .fz (.lst vs), s6, s7, s8, s9, s10] = .nx [s0, .fz (clkV n P B), s2, .fz (.int g), s4, .fz (.lst vs), s6, s7, s8, s9, s10'] := by
  have n1 := hs.1; have n2 := hj.1; have n3 := hj.2.1
  obtain ⟨ρ', lp, s10', rfl⟩ := forL_nm0 (i := 10) (b := L2__law_fine es e f) (fun x : Val => x) vs (fun ρ => ∃ s10, ρ = [s0, .fz (clkV n P B), s2, .fz (.int g), s4, .fz (.lst vs), s6, s7, s8, s9, s10])
    (ρ := [s0, .fz (clkV n P B), s2, .fz (.int g), s4, .fz (.lst vs), s6, s7, s8, s9, s10]) ⟨s10, rfl⟩ fun x ρ hx h => by
      obtain ⟨s10, rfl⟩ := h
      obtain ⟨b, b1, b2, _⟩ := hj.2.2 900 n g P B x (by decide) n0 nn hB (hv x hx)
      obtain ⟨c, c1, c2, _⟩ := hj.2.2 900 n 0 P B x (by decide) n0 nn hB (hv x hx)
      have b3 := hs.2 b
      have c3 := hs.2 c
      refine ⟨by simp, _, .inl ?_, .fz x, rfl⟩
      unfold L2__law_fine
      generalize clkV n P B = w at *
      by_cases hg : g = 0
      · subst hg
        simp -implicitDefEqProofs [n1, n2, n3, b1, b2, b3, c1, c2, c3]
      · simp -implicitDefEqProofs [n1, n2, n3, b1, b2, b3, hg]
  rw [List.map_id'] at lp
  refine ⟨s10', ?_⟩
  unfold F2__law_fine
  generalize clkV n P B = w at *
  simp -implicitDefEqProofs [goesV]
  exact lp
/-! rows drawn -/
theorem c1_go (ed : FnE) (hd : DrawOk ed) (b : Bx) (pts : List Int) (hp : 0 < pts.length) (hp2 : pts.length ≤ 100) (s1 s3 s4 s5 s6 s7 s9 s10 : Sl) (h6 : keepFz (some s6) = s6) :
    ∃ (b' : Bx) (row left : List Int), C1__law_fine ed [.pbox b.c b.d b.s, s1, .own (pts.map .int), s3, s4, s5, s6, s7, .own (pts.map .int), s9, s10] = .ok (.own (row.map .int), [.pbox b'.c b'.d b'.s, s1, .own (pts.map .int), s3, s4, s5, s6, s7, .own (left.map .int), s9, s10]) ∧ (∀ x ∈ row, x ∈ pts) ∧ row.length ≤ 4 := by
  have n1 := hd.1
  have hlv : (pts.map Val.int).length = pts.length := List.length_map _
  obtain ⟨d, b1, d0, d1, e1⟩ := hd.ex b (m := if (pts.length : Int) < 4 then (pts.length : Int) else 4) (by split <;> omega) (by split <;> omega)
  have hd4 : 1 + d ≤ pts.length ∧ 1 + d ≤ 4 := by split at d1 <;> omega
  obtain ⟨ys, ⟨b', left⟩, h1, h2, h3, h4⟩ := dLc_st1w (i := 6) (e := (dU popV 8 (aCons (dHV (dVO (callD1 ed 0 (aCons (dVar 0) (aCons (dHV (dN (g1 lenV) (aCons (dVar 8) aNil))) aNil))))) aNil)))
    (it := (dRg (dR1 (d2 addV (dHV (dC (.int 1))) (dHV (dVO (callD1 ed 0 (aCons (dVar 0) (aCons (dHV (dN (g2 min2V) (aCons (dHV (dC (.int 4))) (aCons (dHV (dN (g1 lenV) (aCons (dVar 2) aNil))) aNil)))) aNil)))))))))
    Val.int Val.int (fun (t : Bx × List Int) => [.pbox t.1.c t.1.d t.1.s, s1, .own (pts.map .int), s3, s4, s5, .no, s7, .own (t.2.map .int), s9, s10])
    (ρ0 := [.pbox b.c b.d b.s, s1, .own (pts.map .int), s3, s4, s5, s6, s7, .own (pts.map .int), s9, s10]) (ρ1 := [.pbox b1.c b1.d b1.s, s1, .own (pts.map .int), s3, s4, s5, s6, s7, .own (pts.map .int), s9, s10]) (b1, pts) (xs := rangeI 0 (1 + d)) (rg1 (by
      generalize pts.map Val.int = pv at *
      by_cases q : (pts.length : Int) < 4
      · rw [if_pos q] at e1
        simp -implicitDefEqProofs [n1, hlv, q, e1]
      · rw [if_neg q] at e1
        simp -implicitDefEqProofs [n1, hlv, q, e1]) (by omega)) rfl (by rw [length_rangeI]; omega) (fun _ => rfl)
    (fun pre out t => (∀ x ∈ out, x ∈ pts) ∧ (∀ x ∈ t.2, x ∈ pts) ∧ t.2.length + pre.length = pts.length ∧ out.length = pre.length) ⟨by simp, fun x hx => hx, by simp, rfl⟩ fun pre a post out t e0 h => by
      obtain ⟨b, left⟩ := t
      obtain ⟨g1, g2, g3, g4⟩ := h
      have hpl : pre.length < (rangeI 0 (1 + d)).length := by rw [e0]; simp
      rw [length_rangeI] at hpl
      simp only at g2 g3
      obtain ⟨k, b2, k0, k1, e2⟩ := hd.ex b (m := (left.length : Int)) (by omega) (by omega)
      obtain ⟨kn, rfl⟩ := Int.eq_ofNat_of_zero_le k0
      have hk : kn < left.length := by omega
      have hpop := popV_int left kn hk (by omega)
      have hll : (left.map Val.int).length = left.length := List.length_map _
      refine ⟨left[kn], (b2, left.eraseIdx kn), ?_, ?_⟩
      · generalize left[kn] = z at *
        generalize (left.eraseIdx kn).map Val.int = lv2 at *
        generalize left.map Val.int = lv at *
        generalize pts.map Val.int = pv at *
        simp -implicitDefEqProofs [n1, hll, e2, hpop]
      · have hmem := List.getElem_mem hk
        refine ⟨fun x hx => ?_, fun x hx => g2 x (List.mem_of_mem_eraseIdx hx), ?_, by simp [g4]⟩
        · rcases List.mem_append.mp hx with hx | hx
          · exact g1 x hx
          · rw [List.mem_singleton.mp hx]; exact g2 _ hmem
        · show (left.eraseIdx kn).length + _ = _
          rw [List.length_eraseIdx_of_lt hk, List.length_append]
          simp
          omega
  rw [length_rangeI] at h4
  refine ⟨b', ys, left, ?_, h2, by omega⟩
  unfold C1__law_fine
  rw [h1]
  simp only [List.getElem?_cons_succ, List.getElem?_cons_zero, h6]
  rfl

def Pts (n : Int) : List Int := rangeI (-1) (2 * n)
theorem pts_len {n : Int} (n0 : 0 ≤ n) : (Pts n).length = (2 * n + 1).toNat := by unfold Pts; rw [length_rangeI]; congr 1
def KF (s : Sl) : Prop := keepFz (some s) = s
theorem kf_fz (x : Val) : KF (.fz x) := rfl
theorem kf_no : KF .no := rfl
theorem f3_go (ed eb : FnE) (hd : DrawOk ed) (hb : BnOk eb) (n : Int) (n0 : 0 ≤ n) (n24 : n ≤ 24) (b : Bx) (vs : List Val) (hv : ∀ v ∈ vs, nice 900 v = true) (hl : vs.length ≤ 100) (s5 : Sl) (h5 : s5 = .own vs ∨ s5 = .fz (.lst vs)) (s1 s3 s4 s6 s7 s8 s9 s10 : Sl) (h6 : KF s6) :
    ∃ (b' : Bx) (ws : List Val) (s7' s8' s9' : Sl), F3__law_fine ed eb [.pbox b.c b.d b.s, s1, .own ((Pts n).map .int), s3, s4, s5, s6, s7, s8, s9, s10] = .nx [.pbox b'.c b'.d b'.s, s1, .own ((Pts n).map .int), s3, s4, .fz (.lst ws), s6, s7', s8', s9', s10] ∧ (∀ v ∈ ws, nice 900 v = true) ∧ KF s7' := by
  have n1 := hd.1; have n2 := hb.1
  have hp := pts_len n0
  obtain ⟨ρ', lp, b', ws, s5', s7', s8', s9', rfl, h1, h2, h3, h4, _⟩ := forL_nm (i := 7) (b := L3__law_fine ed eb) Val.int (rangeI 0 8)
    (fun pre ρ => ∃ (b : Bx) (ws : List Val) (s5 s7 s8 s9 : Sl), ρ = [.pbox b.c b.d b.s, s1, .own ((Pts n).map .int), s3, s4, s5, s6, s7, s8, s9, s10] ∧ (s5 = .own ws ∨ s5 = .fz (.lst ws)) ∧ (pre ≠ [] → s5 = .fz (.lst ws)) ∧ (pre ≠ [] → KF s7) ∧ (∀ v ∈ ws, nice 900 v = true) ∧ ws.length ≤ 100 + 2 * pre.length)
    (ρ := [.pbox b.c b.d b.s, s1, .own ((Pts n).map .int), s3, s4, s5, s6, s7, s8, s9, s10]) ⟨b, vs, s5, s7, s8, s9, rfl, h5, fun h => absurd rfl h, fun h => absurd rfl h, hv, by simpa using hl⟩ fun pre a post ρ e0 h => by
      obtain ⟨b, ws, s5, s7, s8, s9, rfl, g1, _, _, g4, g5⟩ := h
      have hpl : pre.length < (rangeI 0 8).length := by rw [e0]; simp
      rw [length_rangeI] at hpl
      obtain ⟨b1, row, left, e1, r1, r2⟩ := c1_go ed hd b (Pts n) (by omega) (by omega) s1 s3 s4 s5 s6 (.fz (.int a)) s9 s10 h6
      have hiv : iv 24 (.tup (row.map .int)) = true := ints_iv (by omega) fun i hi => by have := mem_rangeI.mp (show i ∈ rangeI (-1) (2 * n) from r1 i hi); omega
      have hdp := dp_ints row
      obtain ⟨b2, y, e2, h2⟩ := hb.2 24 b1 (.tup (row.map .int)) (by omega) (by omega) hiv (by omega)
      have hrn := ints_nice (ns := row) (by omega)
      have hsz : ws.length + 2 ≤ 1000000 := by omega
      refine ⟨by simp, _, .inl ?_, b2, ws ++ [.tup (row.map .int), y], .fz (.lst (ws ++ [.tup (row.map .int), y])), .fz (.int a), .own (left.map .int), .fz (.tup (row.map .int)), rfl, .inr rfl, fun _ => rfl, fun _ => rfl, fun v hv => ?_, by simp; omega⟩
      · generalize (Pts n).map Val.int = pv at *
        generalize row.map Val.int = rv at *
        generalize left.map Val.int = lv at *
        unfold L3__law_fine
        generalize C1__law_fine ed = C at *
        rcases g1 with rfl | rfl
        · simp -implicitDefEqProofs [n1, n2, e1, e2, itemsV, hsz]
        · simp -implicitDefEqProofs [n1, n2, e1, e2, itemsV, hsz]
      · rcases List.mem_append.mp hv with hv | hv
        · exact g4 v hv
        · simp only [List.mem_cons, List.not_mem_nil, or_false] at hv
          rcases hv with rfl | rfl
          · exact hrn
          · exact nice_mono (by omega) h2
  have hne : rangeI 0 8 ≠ [] := fun z => by have := congrArg List.length z; rw [length_rangeI] at this; simp at this
  obtain rfl := h2 hne
  refine ⟨b', ws, s7', s8', s9', ?_, h4, h3 hne⟩
  unfold F3__law_fine
  rw [for_eq (rg1 (n := 8) (ρ' := [.pbox b.c b.d b.s, s1, .own ((Pts n).map .int), s3, s4, s5, s6, s7, s8, s9, s10]) (by rfl) (by decide))]
  exact lp
theorem c2_go (eb : FnE) (hb : BnOk eb) (b : Bx) (ns : List Int) (hl : ns.length ≤ 49) (hr : ∀ i ∈ ns, -1 ≤ i ∧ i ≤ 47) (s1 s2 s3 s5 s6 s7 s8 s9 s10 : Sl) (h7 : KF s7) :
    ∃ (b' : Bx) (ys : List Val), C2__law_fine eb [.pbox b.c b.d b.s, s1, s2, s3, .fz (.tup (ns.map .int)), s5, s6, s7, s8, s9, s10] = .ok (.own ys, [.pbox b'.c b'.d b'.s, s1, s2, s3, .fz (.tup (ns.map .int)), s5, s6, s7, s8, s9, s10]) ∧ (∀ y ∈ ys, nice 900 y = true) ∧ ys.length = 6 := by
  have n1 := hb.1
  have hiv : iv 49 (.tup (ns.map .int)) = true := ints_iv (by omega) fun i hi => by have := hr i hi; omega
  have hdp := dp_ints ns
  obtain ⟨ys, b', h1, h2, h3⟩ := dLc_st1w (i := 7) (e := dVO (callD1 eb 0 (aCons (dVar 0) (aCons (dVar 4) aNil)))) (it := dRg (dR1 (dC (.int 6)))) Val.int (fun y : Val => y) (fun b : Bx => [.pbox b.c b.d b.s, s1, s2, s3, .fz (.tup (ns.map .int)), s5, s6, .no, s8, s9, s10])
    (ρ0 := [.pbox b.c b.d b.s, s1, s2, s3, .fz (.tup (ns.map .int)), s5, s6, s7, s8, s9, s10]) (ρ1 := [.pbox b.c b.d b.s, s1, s2, s3, .fz (.tup (ns.map .int)), s5, s6, s7, s8, s9, s10]) b (xs := rangeI 0 6) (rg1 (by rfl) (by decide)) rfl (by rw [length_rangeI]; decide) (fun _ => rfl)
    (fun pre out _ => (∀ y ∈ out, nice 900 y = true) ∧ out.length = pre.length) ⟨by simp, rfl⟩ fun pre a post out b e0 h => by
      obtain ⟨b2, y, e2, h2⟩ := hb.2 49 b (.tup (ns.map .int)) (by omega) (by omega) hiv (by omega)
      refine ⟨y, b2, ?_, fun z hz => ?_, by simp [h.2]⟩
      · generalize ns.map Val.int = nv at *
        simp -implicitDefEqProofs [n1, e2]
      · rcases List.mem_append.mp hz with hz | hz
        · exact h.1 z hz
        · rw [List.mem_singleton.mp hz]; exact nice_mono (by omega) h2
  rw [List.map_id'] at h1
  rw [length_rangeI] at h3
  refine ⟨b', ys, ?_, h2, h3⟩
  unfold C2__law_fine
  rw [h1]
  simp only [List.getElem?_cons_succ, List.getElem?_cons_zero, show keepFz (some s7) = s7 from h7]
  rfl
def EnvG (n : Int) (P : List Pr) (B : List Tr) (ρ : Ev.Env) : Prop := ∃ (b : Bx) (s3 s4 s5 s6 s7 s8 s9 s10 : Sl), ρ = [.pbox b.c b.d b.s, .fz (clkV n P B), .own ((Pts n).map .int), s3, s4, s5, s6, s7, s8, s9, s10] ∧ KF s6 ∧ KF s7
theorem l1_go (er ef ed eb es ej : FnE) (hr : RingOk er) (hj : JudgeOk ej ef) (hd : DrawOk ed) (hb : BnOk eb) (hs : SmOk es) (n : Int) (P : List Pr) (B : List Tr) (n0 : 0 ≤ n) (n24 : n ≤ 24) (hB : B.length ≤ 1000) (g : Int) (ρ : Ev.Env) (h : EnvG n P B ρ) :
    ∃ ρ', L1__law_fine er ef ed eb es ej (ρ.set 3 (.fz (.int g))) = .nx ρ' ∧ EnvG n P B ρ' := by
  obtain ⟨b, s3, s4, s5, s6, s7, s8, s9, s10, rfl, h6, h7⟩ := h
  have n1 := hr.1; have n2 := hj.2.1; have n3 := hd.1; have n4 := hb.1
  have hp := pts_len n0
  obtain ⟨o, e1, ho⟩ := hr.2 n g P B n0 n24 hB
  have hpn := ints_nice (ns := Pts n) (by omega)
  cases o with
  | none =>
    have e1 : er.sem [.fz (clkV n P B), .fz (.int g)] = .ok (.fz .non, .no) := e1
    obtain ⟨b1, ws, s7', s8', s9', e3, hws, hk⟩ := f3_go ed eb hd hb n n0 n24 b [.non, .tup [], .tup [.int (-1)], .tup [.int (-1), .int (-1)], .tup ((Pts n).map .int)] (fun v hv => by
      simp only [List.mem_cons, List.not_mem_nil, or_false] at hv
      rcases hv with rfl | rfl | rfl | rfl | rfl
      · rfl
      · rfl
      · rfl
      · rfl
      · exact hpn) (by simp) _ (.inl rfl) (.fz (clkV n P B)) (.fz (.int g)) (.fz .non) s6 s7 s8 s9 s10 h6
    obtain ⟨s10', e4⟩ := f2_go es ej ef hs hj n g P B n0 (by omega) hB ws hws (.pbox b1.c b1.d b1.s) (.own ((Pts n).map .int)) (.fz .non) s6 s7' s8' s9' s10
    refine ⟨_, ?_, b1, .fz (.int g), .fz .non, .fz (.lst ws), s6, s7', s8', s9', s10', rfl, h6, hk⟩
    · generalize (Pts n).map Val.int = pv at *
      generalize clkV n P B = w at *
      unfold L1__law_fine
      generalize F3__law_fine ed eb = F3 at *
      generalize F2__law_fine es ej ef = F2 at *
      simp -implicitDefEqProofs [n1, e1, e3, e4]
  | some ns =>
    have e1 : er.sem [.fz (clkV n P B), .fz (.int g)] = .ok (.fz (.tup (ns.map .int)), .no) := e1
    obtain ⟨q1, q2, q3, q4, q5⟩ := ho ns rfl
    have hnn := ints_nice (ns := ns) (by omega)
    obtain ⟨bb, _, j2, j3⟩ := hj.2.2 900 n g P B (.tup (ns.map .int)) (by decide) n0 (by omega) hB hnn
    rw [j3 ns rfl q1 q3 q4, q5] at j2
    have hlv : (ns.map Val.int).length = ns.length := List.length_map _
    obtain ⟨k, b1, k0, k1, e2⟩ := hd.ex b (m := (ns.length : Int)) (by omega) (by omega)
    have x1 := cutI ns (some k) none
    have x2 := cutI ns none (some k)
    have x3 : (backL (ns.map Val.int) none none) = (backL ns none none).map .int := backI ns none none
    have l1 := cutL_len ns (some k) none
    have l2 := cutL_len ns none (some k)
    have l3 := backL_len ns none none
    obtain ⟨b2, ys, e5, hy, hyl⟩ := c2_go eb hb b1 ns q2 (fun i hi => by have := q3 i hi; omega) (.fz (clkV n P B)) (.own ((Pts n).map .int)) (.fz (.int g)) (.own [.non, .tup [], .tup [.int (-1)], .tup [.int (-1), .int (-1)], .tup ((Pts n).map .int)]) (.fz (.int k)) s7 s8 s9 s10 h7
    obtain ⟨b3, ws, s7', s8', s9', e3, hws, hk⟩ := f3_go ed eb hd hb n n0 n24 b2 ([.non, .tup [], .tup [.int (-1)], .tup [.int (-1), .int (-1)], .tup ((Pts n).map .int)] ++ [.tup (ns.map .int), .tup (cutL (ns.map Val.int) (some k) none ++ cutL (ns.map Val.int) none (some k)), .tup (backL (ns.map Val.int) none none)] ++ ys) (fun v hv => by
      rcases List.mem_append.mp hv with hv | hv
      · rcases List.mem_append.mp hv with hv | hv
        · simp only [List.mem_cons, List.not_mem_nil, or_false] at hv
          rcases hv with rfl | rfl | rfl | rfl | rfl
          · rfl
          · rfl
          · rfl
          · rfl
          · exact hpn
        · simp only [List.mem_cons, List.not_mem_nil, or_false] at hv
          rcases hv with rfl | rfl | rfl
          · exact hnn
          · rw [x1, x2, ← List.map_append]; exact ints_nice (by rw [List.length_append]; omega)
          · rw [x3]; exact ints_nice (by omega)
      · exact hy v hv) (by simp; omega) _ (.inr rfl) (.fz (clkV n P B)) (.fz (.int g)) (.fz (.tup (ns.map .int))) (.fz (.int k)) s7 s8 s9 s10 (kf_fz _)
    obtain ⟨s10', e4⟩ := f2_go es ej ef hs hj n g P B n0 (by omega) hB ws hws (.pbox b3.c b3.d b3.s) (.own ((Pts n).map .int)) (.fz (.tup (ns.map .int))) (.fz (.int k)) s7' s8' s9' s10
    have z1 : (cutL (ns.map Val.int) (some k) none).length + (cutL (ns.map Val.int) none (some k)).length ≤ 1000000 := by rw [x1, x2, List.length_map, List.length_map]; omega
    have z2 : 8 + ys.length ≤ 1000000 := by omega
    refine ⟨_, ?_, b3, .fz (.int g), .fz (.tup (ns.map .int)), .fz (.lst ws), .fz (.int k), s7', s8', s9', s10', rfl, kf_fz _, hk⟩
    · clear x1 x2 x3 hpn hnn hws hy
      generalize (Pts n).map Val.int = pv at *
      generalize clkV n P B = w at *
      generalize ns.map Val.int = nv at *
      unfold L1__law_fine
      generalize F3__law_fine ed eb = F3 at *
      generalize F2__law_fine es ej ef = F2 at *
      generalize C2__law_fine eb = C2 at *
      simp only [List.cons_append, List.nil_append] at e3
      simp -implicitDefEqProofs [n1, n2, n3, e1, j2, hlv, e2, slV, z1, e5, z2, e3, e4]
theorem fine_core (es ef ej eb ed er : FnE) (hr : RingOk er) (hj : JudgeOk ej ef) (hd : DrawOk ed) (hb : BnOk eb) (hs : SmOk es) (b : Bx) (n : Int) (P : List Pr) (B : List Tr) (n0 : 0 ≤ n) (n24 : n ≤ 24) (hB : B.length ≤ 1000) :
    ∃ b' : Bx, flRes 2 (some 0) (D__law_fine es ef ej eb ed er [.pbox b.c b.d b.s, .fz (clkV n P B), .no, .no, .no, .no, .no, .no, .no, .no, .no]) = .ok (.fz (.bl true), .pbox b'.c b'.d b'.s) := by
  have n1 := hd.1
  have c0 := clk0 n P B
  have l0 := land0 n P
  have hm : mulV (.int 2) (.int n) = some (.int (2 * n)) := mul_l (by decide)
  have rg : rgOk (-1) (2 * n) = true := by unfold rgOk; simp; omega
  obtain ⟨d, b1, d0, d1, e1⟩ := hd.ex b (m := 7) (by decide) (by decide)
  obtain ⟨ρ', lp, b2, s3, s4, s5, s6, s7, s8, s9, s10, rfl, _⟩ := forL_nm0 (i := 3) (b := L1__law_fine er ef ed eb es ej) Val.int [0, 1, d] (EnvG n P B)
    (ρ := [.pbox b1.c b1.d b1.s, .fz (clkV n P B), .own ((Pts n).map .int), .no, .no, .no, .no, .no, .no, .no, .no]) ⟨b1, _, _, _, _, _, _, _, _, rfl, kf_no, kf_no⟩ fun a ρ ha h => by
      obtain ⟨ρ', h1, h2⟩ := l1_go er ef ed eb es ej hr hj hd hb hs n P B n0 n24 hB a ρ h
      obtain ⟨b, s3, s4, s5, s6, s7, s8, s9, s10, rfl, _⟩ := h
      exact ⟨by simp, ρ', .inl h1, h2⟩
  have hF : F1__law_fine ed er ef eb es ej [.pbox b.c b.d b.s, .fz (clkV n P B), .own ((Pts n).map .int), .no, .no, .no, .no, .no, .no, .no, .no] = .nx [.pbox b2.c b2.d b2.s, .fz (clkV n P B), .own ((Pts n).map .int), s3, s4, s5, s6, s7, s8, s9, s10] := by
    rw [← lp]
    generalize (Pts n).map Val.int = pv at *
    generalize clkV n P B = w at *
    unfold F1__law_fine
    generalize L1__law_fine er ef ed eb es ej = L1 at *
    simp -implicitDefEqProofs [n1, e1, goesV]
  refine ⟨b2, ?_⟩
  unfold Pts at hF
  unfold D__law_fine
  generalize F1__law_fine ed er ef eb es ej = F1 at *
  generalize clkV n P B = w at *
  generalize landV n P = lw at *
  simp -implicitDefEqProofs [c0, l0, hm, rg, hF]
def FineOk (e : FnE) : Prop := e.np = 2 ∧ ∀ (b : Bx) (n : Int) (P : List Pr) (B : List Tr), 0 ≤ n → n ≤ 24 → B.length ≤ 1000 → ∃ b' : Bx, e.sem [.pbox b.c b.d b.s, .fz (clkV n P B)] = .ok (.fz (.bl true), .pbox b'.c b'.d b'.s)
theorem bn_ok : BnOk (E__law_bent 8) := ⟨(lv__law_bent 8).2.2, bent_ok 8⟩
theorem fine_ok : FineOk E__law_fine := ⟨rfl, fun b n P B n0 n1 hB => by
  rw [s__law_fine]
  exact fine_core _ _ _ _ _ _ ring_ok judge_ok draw_ok bn_ok sm_ok b n P B n0 n1 hB⟩

def EnvT (ρ : Ev.Env) : Prop := ∃ (s0 : Sl) (b : Bx) (s2 s3 s4 : Sl), ρ = [s0, .box b.c b.d b.s, s2, s3, s4, .no]
theorem lw1_go (ec ef : FnE) (hc : ClockOk ec) (hf : FineOk ef) (k : Int) (ρ : Ev.Env) (h : EnvT ρ) :
    ∃ ρ', L1_law ec ef (ρ.set 2 (.fz (.int k))) = .nx ρ' ∧ EnvT ρ' := by
  obtain ⟨s0, b, s2, s3, s4, rfl⟩ := h
  have n1 := hc.1; have n2 := hf.1
  obtain ⟨b1, P, S, U, e1, hS, hU⟩ := hc.2 b
  obtain ⟨b2, e2⟩ := hf.2 b1 S.length P U (by omega) (by omega) (by omega)
  refine ⟨_, ?_, s0, b2, .fz (.int k), .fz (clkV S.length P U), .fz (stV S), rfl⟩
  generalize (S.length : Int) = sl at *
  generalize clkV sl P U = w at *
  generalize stV S = sv at *
  unfold L1_law
  simp -implicitDefEqProofs [n1, n2, e1, e2]
theorem law_core (ej ed ef ec ex : FnE) (hj : JudgeOk ej ed) (hf : FineOk ef) (hc : ClockOk ec) (hx : BoxOk ex) (ns : List Int) (h63 : ns.length ≤ 63) :
    flRes 1 none (D_law ej ef ec ex [.fz (.scr ns), .no, .no, .no, .no, .no]) = .ok (.fz (.bl true), .no) := by
  obtain ⟨b, e1⟩ := hx.2 ns h63
  have n1 := hx.1; have n2 := hj.1
  obtain ⟨ρ2, f1, s0, b2, s2, s3, s4, rfl⟩ := forL_nm0 (i := 2) (b := L1_law ec ef) Val.int (rangeI 0 3) EnvT (ρ := [.fz (.scr ns), .box b.c b.d b.s, .no, .no, .no, .no]) ⟨_, b, _, _, _, rfl⟩ fun a ρ ha h => by
    obtain ⟨ρ', h1, h2⟩ := lw1_go ec ef hc hf a ρ h
    obtain ⟨s0, b, s2, s3, s4, rfl⟩ := h
    exact ⟨by simp, ρ', .inl h1, h2⟩
  have F1 : F1_law ec ef [.fz (.scr ns), .box b.c b.d b.s, .no, .no, .no, .no] = .nx [s0, .box b2.c b2.d b2.s, s2, s3, s4, .no] := by
    unfold F1_law
    rw [for_eq (rg1 (n := 3) (ρ' := [.fz (.scr ns), .box b.c b.d b.s, .no, .no, .no, .no]) (by rfl) (by decide))]
    exact f1
  have day := fun (g : Int) (B : List Tr) (hB : B.length ≤ 1000) (ms : List Int) (hn : nice 10 (.tup (ms.map .int)) = true) => hj.2.2 10 2 g [(0, 1)] B (.tup (ms.map .int)) (by omega) (by omega) (by omega) hB hn
  obtain ⟨o1, a1, _, c1⟩ := day 0 [(-1, 1, 5), (2, -1, -5)] (by decide) [-1, 1, 2] rfl
  obtain ⟨o2, a2, _, c2⟩ := day 1 [(-1, 1, 5), (2, -1, -5)] (by decide) [1, 2, -1] rfl
  obtain ⟨o3, a3, _, c3⟩ := day 1 [(-1, 1, 5), (2, -1, -3)] (by decide) [2, -1, 1] rfl
  have v1 : o1 = true := (c1 _ rfl (by decide) (by decide) (by decide)).trans (by decide +kernel)
  have v2 : o2 = false := (c2 _ rfl (by decide) (by decide) (by decide)).trans (by decide +kernel)
  have v3 : o3 = true := (c3 _ rfl (by decide) (by decide) (by decide)).trans (by decide +kernel)
  subst v1 v2 v3
  simp [clkV, landV, prV, trV] at a1 a2 a3
  unfold D_law
  simp -implicitDefEqProofs [n1, n2, e1, F1, a1, a2, a3]
theorem law_true (ns : List Int) (hl : ns.length ≤ 63) : E_law.sem [.fz (.scr ns)] = .ok (.fz (.bl true), .no) := by
  rw [s_law]
  exact law_core _ _ _ _ _ judge_ok fine_ok clock_ok box_ok ns hl

end C49

open PySem PySem.W PySem.Calls PyProof.Rows
theorem PySem.Challenge.cw_whocame_k49_rings_of_bounds_judged_holds : PySem.Challenge.rw_whocame_k49_rings_of_bounds_judged.Holds := by
  w_on; o_law
  refine HandSHeadRun.head_any (r := OpenLaw.row PySem.Challenge.rw_whocame_k49_rings_of_bounds_judged) (q := view (OpenLaw.row PySem.Challenge.rw_whocame_k49_rings_of_bounds_judged).prog [21]) (H := Hd.hk) (ob := Hd.ob) (M := 4000) (loose := ["is_count", "MAX_HOUR", "order_gain", "is_bound_ring", "_law_box", "_law_load", "_law_draw", "_law_same", "_law_bent", "_law_precedence", "_law_stays", "_law_clock", "_law_gain", "_law_steps", "_law_due", "_law_ring", "_law_fine"]) (d := HandSHeadRun.topDef (OpenLaw.row PySem.Challenge.rw_whocame_k49_rings_of_bounds_judged).prog 21) (kwd := []) Hd.ob_eq
    (by kernel_rfl) (fun s => by kernel_rfl) Hd.run (by kernel_rfl) (by kernel_rfl) (by kernel_rfl) (by rfl) (by first | assumption | decide +kernel) (by decide +kernel) ⟨rfl, rfl, rfl, rfl, rfl, by decide +kernel⟩ ?hw ?hc
  case hw => w_witness2
  case hc =>
    refine L2.walk_ofE (l := PySem.Challenge.rw_whocame_k49_rings_of_bounds_judged) (n := 63) (k := 13) (x := "script") (CX := L2.CX0) rfl (by decide) (by kernel_rfl) ⟨rfl, by decide, by decide⟩ ?F (fun _ _ _ _ z => z)
    intro w mg fa h Y G hmg0
    obtain ⟨K, KX, c⟩ := Y
    have hmg : mg ("law" : PySem.Str) = some (.ref fa) := by
      have e : (HandSHeadRun.topDef (OpenLaw.row PySem.Challenge.rw_whocame_k49_rings_of_bounds_judged).prog 21).name = ("law" : PySem.Str) := by kernel_rfl
      rw [← e]
      exact hmg0
    obtain ⟨fd_is_count, F_is_count⟩ := c.def_ 0 (d := Hd.d1) rfl
    have m_is_count := He.glo_ok KX G (c.fact 0 (f := .glo "is_count") rfl)
    obtain ⟨fd_order_gain, F_order_gain⟩ := c.def_ 1 (d := Hd.d4) rfl
    have m_order_gain := He.glo_ok KX G (c.fact 1 (f := .glo "order_gain") rfl)
    obtain ⟨fd_is_bound_ring, F_is_bound_ring⟩ := c.def_ 2 (d := Hd.d6) rfl
    have m_is_bound_ring := He.glo_ok KX G (c.fact 2 (f := .glo "is_bound_ring") rfl)
    obtain ⟨fd__law_box, F__law_box⟩ := c.def_ 3 (d := Hd.d8) rfl
    have m__law_box := He.glo_ok KX G (c.fact 3 (f := .glo "_law_box") rfl)
    obtain ⟨fd__law_load, F__law_load⟩ := c.def_ 4 (d := Hd.d9) rfl
    have m__law_load := He.glo_ok KX G (c.fact 4 (f := .glo "_law_load") rfl)
    obtain ⟨fd__law_draw, F__law_draw⟩ := c.def_ 5 (d := Hd.d10) rfl
    have m__law_draw := He.glo_ok KX G (c.fact 5 (f := .glo "_law_draw") rfl)
    obtain ⟨fd__law_same, F__law_same⟩ := c.def_ 6 (d := Hd.d11) rfl
    have m__law_same := He.glo_ok KX G (c.fact 6 (f := .glo "_law_same") rfl)
    obtain ⟨fd__law_bent, F__law_bent⟩ := c.def_ 7 (d := Hd.d12) rfl
    have m__law_bent := He.glo_ok KX G (c.fact 7 (f := .glo "_law_bent") rfl)
    obtain ⟨fd__law_precedence, F__law_precedence⟩ := c.def_ 8 (d := Hd.d13) rfl
    have m__law_precedence := He.glo_ok KX G (c.fact 8 (f := .glo "_law_precedence") rfl)
    obtain ⟨fd__law_stays, F__law_stays⟩ := c.def_ 9 (d := Hd.d14) rfl
    have m__law_stays := He.glo_ok KX G (c.fact 9 (f := .glo "_law_stays") rfl)
    obtain ⟨fd__law_clock, F__law_clock⟩ := c.def_ 10 (d := Hd.d15) rfl
    have m__law_clock := He.glo_ok KX G (c.fact 10 (f := .glo "_law_clock") rfl)
    obtain ⟨fd__law_gain, F__law_gain⟩ := c.def_ 11 (d := Hd.d16) rfl
    have m__law_gain := He.glo_ok KX G (c.fact 11 (f := .glo "_law_gain") rfl)
    obtain ⟨fd__law_steps, F__law_steps⟩ := c.def_ 12 (d := Hd.d17) rfl
    have m__law_steps := He.glo_ok KX G (c.fact 12 (f := .glo "_law_steps") rfl)
    obtain ⟨fd__law_due, F__law_due⟩ := c.def_ 13 (d := Hd.d18) rfl
    have m__law_due := He.glo_ok KX G (c.fact 13 (f := .glo "_law_due") rfl)
    obtain ⟨fd__law_ring, F__law_ring⟩ := c.def_ 14 (d := Hd.d19) rfl
    have m__law_ring := He.glo_ok KX G (c.fact 14 (f := .glo "_law_ring") rfl)
    obtain ⟨fd__law_fine, F__law_fine⟩ := c.def_ 15 (d := Hd.d20) rfl
    have m__law_fine := He.glo_ok KX G (c.fact 15 (f := .glo "_law_fine") rfl)
    obtain ⟨fd_law, F_law⟩ := c.def_ 16 (d := Hd.d21) rfl
    have m_law := He.glo_ok KX G (c.fact 16 (f := .glo "law") rfl)
    have g_isinstance := He.free_ok KX G (c.fact 20 (f := .free "isinstance") rfl)
    have g_int := He.free_ok KX G (c.fact 19 (f := .free "int") rfl)
    have g_bool := He.free_ok KX G (c.fact 18 (f := .free "bool") rfl)
    have g_max := He.free_ok KX G (c.fact 23 (f := .free "max") rfl)
    have g_range := He.free_ok KX G (c.fact 25 (f := .free "range") rfl)
    have g_len := He.free_ok KX G (c.fact 21 (f := .free "len") rfl)
    have g_set := He.free_ok KX G (c.fact 26 (f := .free "set") rfl)
    have g_tuple := He.free_ok KX G (c.fact 30 (f := .free "tuple") rfl)
    have g_all := He.free_ok KX G (c.fact 17 (f := .free "all") rfl)
    have g_list := He.free_ok KX G (c.fact 22 (f := .free "list") rfl)
    have g_str := He.free_ok KX G (c.fact 28 (f := .free "str") rfl)
    have g_sorted := He.free_ok KX G (c.fact 27 (f := .free "sorted") rfl)
    have g_sum := He.free_ok KX G (c.fact 29 (f := .free "sum") rfl)
    have g_min := He.free_ok KX G (c.fact 24 (f := .free "min") rfl)
    have g_MAX_HOUR := He.int_ok KX G (c.fact 31 (f := .int "MAX_HOUR" 1000000) rfl)
    have e := hmg.symm.trans m_law
    cases e
    have b := L2.FunD.bindsA (ps := ["script"]) F_law fun _ _ _ _ _ _ us hl => match us, hl with | [_], _ => rfl
    refine ⟨K, fd_law, Ev.spF K mg B49.E_law, KX, fun s v => b s [v] rfl, fun H a ns hl hO hS => Ev.sp_script rfl rfl hS (C49.law_true ns hl), fun base kb hb => ?_⟩
    have C_is_count := B49.ok_is_count (P := (PySem.Challenge.rw_whocame_k49_rings_of_bounds_judged).prog) (w := w) (base := base) F_is_count m_is_count g_isinstance g_int g_bool
    have C_order_gain := B49.ok_order_gain (P := (PySem.Challenge.rw_whocame_k49_rings_of_bounds_judged).prog) (w := w) (base := base) F_order_gain m_order_gain g_MAX_HOUR
    have C_is_bound_ring := B49.ok_is_bound_ring (P := (PySem.Challenge.rw_whocame_k49_rings_of_bounds_judged).prog) (w := w) (base := base) F_is_bound_ring m_is_bound_ring g_max g_range g_len g_set g_isinstance g_tuple g_all C_order_gain C_is_count
    have C__law_box := B49.ok__law_box (P := (PySem.Challenge.rw_whocame_k49_rings_of_bounds_judged).prog) (w := w) (base := base) F__law_box m__law_box g_list g_len
    have C__law_load := B49.ok__law_load (P := (PySem.Challenge.rw_whocame_k49_rings_of_bounds_judged).prog) (w := w) (base := base) F__law_load m__law_load g_len g_int
    have C__law_draw := B49.ok__law_draw (P := (PySem.Challenge.rw_whocame_k49_rings_of_bounds_judged).prog) (w := w) (base := base) F__law_draw m__law_draw g_int C__law_load
    have C__law_same := B49.ok__law_same (P := (PySem.Challenge.rw_whocame_k49_rings_of_bounds_judged).prog) (w := w) (base := base) F__law_same m__law_same g_isinstance g_int g_str g_bool g_tuple g_list g_len g_all g_range 8
    have C__law_bent := B49.ok__law_bent (P := (PySem.Challenge.rw_whocame_k49_rings_of_bounds_judged).prog) (w := w) (base := base) F__law_bent m__law_bent g_isinstance g_str g_int g_bool g_tuple g_len C__law_draw 8
    have C__law_precedence := B49.ok__law_precedence (P := (PySem.Challenge.rw_whocame_k49_rings_of_bounds_judged).prog) (w := w) (base := base) F__law_precedence m__law_precedence g_tuple g_range g_len
    have C__law_stays := B49.ok__law_stays (P := (PySem.Challenge.rw_whocame_k49_rings_of_bounds_judged).prog) (w := w) (base := base) F__law_stays m__law_stays g_tuple g_range C__law_draw
    have C__law_clock := B49.ok__law_clock (P := (PySem.Challenge.rw_whocame_k49_rings_of_bounds_judged).prog) (w := w) (base := base) F__law_clock m__law_clock g_tuple g_sorted g_set g_int g_len g_range g_list C__law_precedence C__law_draw C__law_stays
    have C__law_gain := B49.ok__law_gain (P := (PySem.Challenge.rw_whocame_k49_rings_of_bounds_judged).prog) (w := w) (base := base) F__law_gain m__law_gain g_max
    have C__law_steps := B49.ok__law_steps (P := (PySem.Challenge.rw_whocame_k49_rings_of_bounds_judged).prog) (w := w) (base := base) F__law_steps m__law_steps g_list g_range C__law_gain
    have C__law_due := B49.ok__law_due (P := (PySem.Challenge.rw_whocame_k49_rings_of_bounds_judged).prog) (w := w) (base := base) F__law_due m__law_due g_sum g_range g_len g_set g_all g_isinstance g_int g_bool g_tuple C__law_gain
    have C__law_ring := B49.ok__law_ring (P := (PySem.Challenge.rw_whocame_k49_rings_of_bounds_judged).prog) (w := w) (base := base) F__law_ring m__law_ring g_tuple g_len g_range C__law_steps
    have C__law_fine := B49.ok__law_fine (P := (PySem.Challenge.rw_whocame_k49_rings_of_bounds_judged).prog) (w := w) (base := base) F__law_fine m__law_fine g_tuple g_range g_min g_len g_list C__law_same C__law_due C_is_bound_ring C__law_bent C__law_draw C__law_ring
    exact B49.fo_law (P := (PySem.Challenge.rw_whocame_k49_rings_of_bounds_judged).prog) (w := w) (base := base) F_law g_range C_is_bound_ring C__law_fine C__law_clock C__law_box
