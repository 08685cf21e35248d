import PyProof.Rows.All
import Wide.All
import OpenK.AllK
import Wide.FinOn
import HandS.ForMost
import HandS.WordsExc
import HandS.Defaults
import HandS.Wide
import HandS.TupAny
import HandS.DictComp
import KE.KDictKeyed
import KE.KDictDisplayH
import KE.KDictSum
import KE.KDictCopyH
import KE.GoesDict
import KE.KeyNested
import KE.SortData
import KE.DataMinMax
import KE.Datum
import HandS.TupLen
import HandS.Style
import HandS.IsInst
import HandS.Text
import HandS.RaiseMore
import KE.GoesEnum
import HandS.Star
import HandS.Zip
import HandS.Flow
import KE.KRevSl
import HandS.TupSets
import KE.GoesEnumKw
import KE.KStateDown
import Lean
import HandS.Base
import HandS.Call
import HandS.Ends
import HandS.More
import HandS.Words
import HandS.Head0
import HandS.Head1
import HandS.Head2
import HandS.HeadEnd
import HandS.HeadHook1
import HandS.HeadHook2
import PySem.Challenge.RW_nodetour_k74_whole_corridors_answered
set_option Elab.async false
set_option linter.all false
set_option maxRecDepth 100000
set_option maxHeartbeats 4000000
/-! values as data: tuples are pure -/
namespace G
open PySem PySem.Spec PyProof.Rows L2

inductive D where
  | non | bl (b : Bool) | int (i : Int) | str (x : Str) | tup (xs : List D) | ref (a : Addr) | frl (ns : List Int)

namespace D
mutual
def beq : D → D → Bool
  | .non, .non => true
  | .bl a, .bl b => decide (a = b)
  | .int a, .int b => decide (a = b)
  | .str a, .str b => decide (a = b)
  | .tup a, .tup b => beqAll a b
  | .ref a, .ref b => decide (a = b)
  | .frl a, .frl b => decide (a = b)
  | _, _ => false
def beqAll : List D → List D → Bool
  | [], [] => true
  | a :: as, b :: bs => beq a b && beqAll as bs
  | _, _ => false
end
mutual
theorem beq_self : ∀ a : D, beq a a = true
  | .non => rfl
  | .bl a => by simp [beq]
  | .int a => by simp [beq]
  | .str a => by simp [beq]
  | .tup a => by rw [beq]; exact beqAll_self a
  | .ref a => by simp [beq]
  | .frl a => by simp [beq]
theorem beqAll_self : ∀ a : List D, beqAll a a = true
  | [] => rfl
  | a :: as => by rw [beqAll, beq_self a, beqAll_self as]; rfl
end
mutual
theorem eq_of_beq : ∀ a b : D, beq a b = true → a = b
  | .non, b, h => by cases b <;> simp_all [beq]
  | .bl a, b, h => by cases b <;> simp_all [beq]
  | .int a, b, h => by cases b <;> simp_all [beq]
  | .str a, b, h => by cases b <;> simp_all [beq]
  | .tup a, b, h => by
    cases b with
    | tup b => rw [beq] at h; rw [eq_of_beqAll a b h]
    | _ => simp [beq] at h
  | .ref a, b, h => by cases b <;> simp_all [beq]
  | .frl a, b, h => by cases b <;> simp_all [beq]
theorem eq_of_beqAll : ∀ a b : List D, beqAll a b = true → a = b
  | [], b, h => by cases b <;> simp_all [beqAll]
  | a :: as, b, h => by
    cases b with
    | nil => simp [beqAll] at h
    | cons b bs =>
      rw [beqAll, Bool.and_eq_true] at h
      rw [eq_of_beq a b h.1, eq_of_beqAll as bs h.2]
end
instance : DecidableEq D := fun a b => if h : beq a b = true then Decidable.isTrue (eq_of_beq a b h) else Decidable.isFalse fun e => h (e ▸ beq_self a)
theorem decide_eq (a b : D) : decide (a = b) = beq a b := by
  cases h : beq a b with
  | true => exact decide_eq_true (eq_of_beq a b h)
  | false => exact decide_eq_false fun e => by rw [e, beq_self] at h; cases h
end D

/-- a frozen list of ints (the script) -/
def FrL (K : PySem.W.Frag) (H : Hp) (a : Addr) (ns : List Int) : Prop :=
  (∃ o, H a = some (.frz o (.lst (ns.map V.int)))) ∨
    ∃ (o : Obj) (its : Array Value) (n : Nat), K.lookup a = some o ∧ o.cls = .type "list" ∧ o.dict = none ∧ o.data = .seq its n ∧ its.size ≤ sizeLine ∧ Vals (ns.map V.int) its.toList
theorem FrL.sq {K : PySem.W.Frag} {H : Hp} {a : Addr} {ns : List Int} (h : FrL K H a ns) : SqL K H a (ns.map V.int) := by
  rcases h with ⟨o, h⟩ | h
  · exact .inl (.inr ⟨o, h⟩)
  · exact .inr h
theorem FrL.of {K : PySem.W.Frag} {H : Hp} {a : Addr} {ns : List Int} (hO : Only H) (h : SqL K H a (ns.map V.int)) : FrL K H a ns := by
  rcases h with (h | h) | h
  · rcases hO a with z | ⟨o, xs, z⟩
    · rw [z] at h; cases h
    · rw [z] at h; cases h
  · exact .inl h
  · exact .inr h

mutual
/-- v in H is the datum d -/
inductive Dat (K : PySem.W.Frag) (H : Hp) : V → D → Prop
  | non : Dat K H .non .non
  | bl (b : Bool) : Dat K H (.bl b) (.bl b)
  | int (i : Int) : Dat K H (.int i) (.int i)
  | str (x : Str) : Dat K H (.str x) (.str x)
  | ref (a : Addr) : Dat K H (.ref a) (.ref a)
  | tup {a : Addr} {vs : List V} {ds : List D} : SqT K H a vs → DatL K H vs ds → Dat K H (.ref a) (.tup ds)
  | frl {a : Addr} {ns : List Int} : FrL K H a ns → Dat K H (.ref a) (.frl ns)
inductive DatL (K : PySem.W.Frag) (H : Hp) : List V → List D → Prop
  | nil : DatL K H [] []
  | cons {v : V} {d : D} {vs : List V} {ds : List D} : Dat K H v d → DatL K H vs ds → DatL K H (v :: vs) (d :: ds)
end

/-- tuples and frozen things stay -/
structure TK (H H' : Hp) : Prop where
  tup : ∀ a vs, H a = some (.tup vs) → H' a = some (.tup vs)
  frz : ∀ a o u, H a = some (.frz o u) → H' a = some (.frz o u)
theorem TK.refl {H : Hp} : TK H H := ⟨fun _ _ h => h, fun _ _ _ h => h⟩
theorem TK.trans {H H1 H2 : Hp} (a : TK H H1) (b : TK H1 H2) : TK H H2 := ⟨fun x vs h => b.tup x vs (a.tup x vs h), fun x o u h => b.frz x o u (a.frz x o u h)⟩
theorem TK.new {H : Hp} {p : Addr} {o : HO} (h : H p = none) : TK H (upd H p o) := ⟨fun a vs e => by rw [upd_ne (ne_of_none e h)]; exact e, fun a o u e => by rw [upd_ne (ne_of_none e h)]; exact e⟩
theorem TK.set {H : Hp} {p : Addr} {o u : HO} (h : H p = some u) (n1 : ∀ vs, u ≠ .tup vs) (n2 : ∀ o w, u ≠ .frz o w) : TK H (upd H p o) :=
  ⟨fun a vs e => by rw [upd_ne (ne_of e h fun z => n1 vs z.symm)]; exact e, fun a o w e => by rw [upd_ne (ne_of e h fun z => n2 o w z.symm)]; exact e⟩
/-- less: frozen tuples and lists -/
structure TKw (H H' : Hp) : Prop where
  tup : ∀ a vs, H a = some (.tup vs) → H' a = some (.tup vs)
  frzT : ∀ a o vs, H a = some (.frz o (.tup vs)) → H' a = some (.frz o (.tup vs))
  frzL : ∀ a o vs, H a = some (.frz o (.lst vs)) → H' a = some (.frz o (.lst vs))
theorem TK.w {H H' : Hp} (k : TK H H') : TKw H H' := ⟨k.tup, fun a o vs => k.frz a o _, fun a o vs => k.frz a o _⟩
theorem TKw.sqT {K : PySem.W.Frag} {H H' : Hp} (k : TKw H H') {a : Addr} {vs : List V} (h : SqT K H a vs) : SqT K H' a vs := by
  rcases h with (h | ⟨o, h⟩) | h
  · exact .inl (.inl (k.tup a vs h))
  · exact .inl (.inr ⟨o, k.frzT a o _ h⟩)
  · exact .inr h
theorem TKw.frL {K : PySem.W.Frag} {H H' : Hp} (k : TKw H H') {a : Addr} {ns : List Int} (h : FrL K H a ns) : FrL K H' a ns := by
  rcases h with ⟨o, h⟩ | h
  · exact .inl ⟨o, k.frzL a o _ h⟩
  · exact .inr h
theorem TK.sqT {K : PySem.W.Frag} {H H' : Hp} (k : TK H H') {a : Addr} {vs : List V} (h : SqT K H a vs) : SqT K H' a vs := k.w.sqT h
theorem TK.frL {K : PySem.W.Frag} {H H' : Hp} (k : TK H H') {a : Addr} {ns : List Int} (h : FrL K H a ns) : FrL K H' a ns := k.w.frL h
mutual
theorem Dat.monoW {K : PySem.W.Frag} {H H' : Hp} (k : TKw H H') : ∀ {v : V} {d : D}, Dat K H v d → Dat K H' v d
  | _, _, .non => .non
  | _, _, .bl b => .bl b
  | _, _, .int i => .int i
  | _, _, .str x => .str x
  | _, _, .ref a => .ref a
  | _, _, .tup h t => .tup (k.sqT h) (DatL.monoW k t)
  | _, _, .frl h => .frl (k.frL h)
theorem DatL.monoW {K : PySem.W.Frag} {H H' : Hp} (k : TKw H H') : ∀ {vs : List V} {ds : List D}, DatL K H vs ds → DatL K H' vs ds
  | _, _, .nil => .nil
  | _, _, .cons h t => .cons (Dat.monoW k h) (DatL.monoW k t)
end
theorem Dat.mono {K : PySem.W.Frag} {H H' : Hp} (k : TK H H') {v : V} {d : D} (h : Dat K H v d) : Dat K H' v d := h.monoW k.w
theorem DatL.mono {K : PySem.W.Frag} {H H' : Hp} (k : TK H H') {vs : List V} {ds : List D} (h : DatL K H vs ds) : DatL K H' vs ds := h.monoW k.w
section
variable {K : PySem.W.Frag} {H : Hp}
theorem DatL.length : ∀ {vs : List V} {ds : List D}, DatL K H vs ds → vs.length = ds.length
  | _, _, .nil => rfl
  | _, _, .cons _ t => by rw [List.length_cons, List.length_cons, DatL.length t]
theorem DatL.get : ∀ {vs : List V} {ds : List D} {i : Nat} {v : V}, DatL K H vs ds → vs[i]? = some v → ∃ d, ds[i]? = some d ∧ Dat K H v d
  | _, _, _, _, .nil, e => by simp at e
  | _, _, 0, _, .cons h _, e => by simp at e; subst e; exact ⟨_, rfl, h⟩
  | _, _, i + 1, v, .cons _ t, e => by
    obtain ⟨d, h1, h2⟩ := DatL.get (i := i) t (by simpa using e)
    exact ⟨d, by simpa using h1, h2⟩
theorem DatL.get' : ∀ {vs : List V} {ds : List D} {i : Nat} {d : D}, DatL K H vs ds → ds[i]? = some d → ∃ v, vs[i]? = some v ∧ Dat K H v d
  | _, _, _, _, .nil, e => by simp at e
  | _, _, 0, _, .cons h _, e => by simp at e; subst e; exact ⟨_, rfl, h⟩
  | _, _, i + 1, v, .cons _ t, e => by
    obtain ⟨d, h1, h2⟩ := DatL.get' (i := i) t (by simpa using e)
    exact ⟨d, by simpa using h1, h2⟩
theorem DatL.append : ∀ {vs ws : List V} {ds es : List D}, DatL K H vs ds → DatL K H ws es → DatL K H (vs ++ ws) (ds ++ es)
  | _, _, _, _, .nil, s => s
  | _, _, _, _, .cons r t, s => .cons r (DatL.append t s)
theorem DatL.set {v : V} {d : D} (r : Dat K H v d) : ∀ {vs : List V} {ds : List D} (i : Nat), DatL K H vs ds → DatL K H (vs.set i v) (ds.set i d)
  | _, _, _, .nil => .nil
  | _, _, 0, .cons _ t => .cons r t
  | _, _, i + 1, .cons q t => .cons q (DatL.set r i t)
theorem DatL.take : ∀ {vs : List V} {ds : List D} (n : Nat), DatL K H vs ds → DatL K H (vs.take n) (ds.take n)
  | _, _, 0, _ => .nil
  | _, _, _ + 1, .nil => .nil
  | _, _, n + 1, .cons r t => .cons r (DatL.take n t)
theorem DatL.drop : ∀ {vs : List V} {ds : List D} (n : Nat), DatL K H vs ds → DatL K H (vs.drop n) (ds.drop n)
  | _, _, 0, r => r
  | _, _, _ + 1, .nil => .nil
  | _, _, n + 1, .cons _ t => DatL.drop n t
theorem DatL.eraseIdx : ∀ {vs : List V} {ds : List D} (i : Nat), DatL K H vs ds → DatL K H (vs.eraseIdx i) (ds.eraseIdx i)
  | _, _, _, .nil => .nil
  | _, _, 0, .cons _ t => t
  | _, _, i + 1, .cons q t => .cons q (DatL.eraseIdx i t)
theorem DatL.reverse : ∀ {vs : List V} {ds : List D}, DatL K H vs ds → DatL K H vs.reverse ds.reverse
  | _, _, .nil => .nil
  | _, _, .cons r t => by
    rw [List.reverse_cons, List.reverse_cons]
    exact DatL.append (DatL.reverse t) (.cons r .nil)
theorem DatL.dropLast {vs : List V} {ds : List D} (h : DatL K H vs ds) : DatL K H vs.dropLast ds.dropLast := by
  rw [List.dropLast_eq_take, List.dropLast_eq_take, h.length]
  exact h.take _
theorem DatL.rep {vs : List V} {ds : List D} (h : DatL K H vs ds) : ∀ k : Nat, DatL K H (List.replicate k vs).flatten (List.replicate k ds).flatten
  | 0 => .nil
  | k + 1 => by
    rw [List.replicate_succ, List.replicate_succ, List.flatten_cons, List.flatten_cons]
    exact h.append (DatL.rep h k)
/-- some order of the same items -/
theorem DatL.perm {vs ws : List V} (p : vs.Perm ws) : ∀ {es : List D}, DatL K H ws es → ∃ ds, ds.Perm es ∧ DatL K H vs ds := by
  induction p with
  | nil => intro es h; cases h; exact ⟨[], .nil, .nil⟩
  | cons x _ ih =>
    intro es h
    cases h with
    | cons r t =>
      obtain ⟨ds, q, s⟩ := ih t
      exact ⟨_ :: ds, q.cons _, .cons r s⟩
  | swap x y l =>
    intro es h
    cases h with
    | cons r t =>
      cases t with
      | cons r' t => exact ⟨_, .swap _ _ _, .cons r' (.cons r t)⟩
  | trans _ _ ih1 ih2 =>
    intro es h
    obtain ⟨ds, q, s⟩ := ih2 h
    obtain ⟨cs, q', s'⟩ := ih1 s
    exact ⟨cs, q'.trans q, s'⟩
end

/-! ### the heap of mutable things -/
inductive GO where
  | lst (xs : List D)
  | dct (kvs : List (D × D))
  | dks (kvs : List (Str × D))
  | frd (kvs : List (D × D))
  | src
abbrev Gp := Addr → Option GO
def gup (G : Gp) (a : Addr) (o : GO) : Gp := fun b => if b = a then some o else G b
@[simp] theorem gup_same {G : Gp} {a : Addr} {o : GO} : gup G a o a = some o := by unfold gup; rw [if_pos rfl]
theorem gup_ne {G : Gp} {a b : Addr} {o : GO} (h : b ≠ a) : gup G a o b = G b := by unfold gup; rw [if_neg h]
def Sub (G G' : Gp) : Prop := ∀ a o, G a = some o → G' a = some o
theorem Sub.refl {G : Gp} : Sub G G := fun _ _ h => h
theorem Sub.trans {G G1 G2 : Gp} (a : Sub G G1) (b : Sub G1 G2) : Sub G G2 := fun x o h => b x o (a x o h)
theorem Sub.new {G : Gp} {p : Addr} {o : GO} (h : G p = none) : Sub G (gup G p o) := fun a u e => by
  rw [gup_ne]
  · exact e
  · rintro rfl; rw [h] at e; cases e

/-! ### keys -/
mutual
def nk : D → NestedKey
  | .non => .none
  | .bl b => .num (if b then 1 else 0)
  | .int i => .num i
  | .str x => .text x
  | .tup xs => .tup (nkAll xs)
  | .ref _ => .none
  | .frl _ => .none
def nkAll : List D → List NestedKey
  | [] => []
  | x :: xs => nk x :: nkAll xs
end
mutual
/-- a key of ints, texts, tuples, nested at most n deep -/
def okey : Nat → D → Bool
  | _, .non => true
  | _, .int _ => true
  | _, .str _ => true
  | n + 1, .tup xs => okeyAll n xs
  | _, _ => false
def okeyAll : Nat → List D → Bool
  | _, [] => true
  | n, x :: xs => okey n x && okeyAll n xs
end
end G
set_option Elab.async false
set_option linter.all false
set_option maxRecDepth 100000
set_option maxHeartbeats 4000000
namespace G
open PySem PySem.Spec PyProof.Rows L2

mutual
theorem nk_inj : ∀ {n m : Nat} {a b : D}, okey n a = true → okey m b = true → nk a = nk b → a = b
  | n, m, .int i, b, ha, hb, h => by
    cases b with
    | int j => simp only [nk, NestedKey.num.injEq] at h; rw [h]
    | str y => simp [nk] at h
    | tup y => simp [nk] at h
    | non => simp [nk] at h
    | bl y => cases m <;> simp [okey] at hb
    | ref y => simp [nk] at h
    | frl y => simp [nk] at h
  | n, m, .str x, b, ha, hb, h => by
    cases b with
    | int j => simp [nk] at h
    | str y => simp only [nk, NestedKey.text.injEq] at h; rw [h]
    | tup y => simp [nk] at h
    | non => simp [nk] at h
    | bl y => simp [nk] at h
    | ref y => simp [nk] at h
    | frl y => simp [nk] at h
  | 0, m, .tup xs, b, ha, hb, h => by simp [okey] at ha
  | n + 1, m, .tup xs, b, ha, hb, h => by
    cases b with
    | int j => simp [nk] at h
    | str y => simp [nk] at h
    | tup ys =>
      cases m with
      | zero => simp [okey] at hb
      | succ m =>
        simp only [nk, NestedKey.tup.injEq] at h
        rw [nkAll_inj (n := n) (m := m) (by simpa [okey] using ha) (by simpa [okey] using hb) h]
    | non => simp [nk] at h
    | bl y => simp [nk] at h
    | ref y => simp [nk] at h
    | frl y => simp [nk] at h
  | n, m, .non, b, ha, hb, h => by
    cases b with
    | int j => simp [nk] at h
    | str y => simp [nk] at h
    | tup y => simp [nk] at h
    | non => rfl
    | bl y => cases m <;> simp [okey] at hb
    | ref y => cases m <;> simp [okey] at hb
    | frl y => cases m <;> simp [okey] at hb
  | n, m, .bl _, b, ha, hb, h => by cases n <;> simp [okey] at ha
  | n, m, .ref _, b, ha, hb, h => by cases n <;> simp [okey] at ha
  | n, m, .frl _, b, ha, hb, h => by cases n <;> simp [okey] at ha
theorem nkAll_inj : ∀ {n m : Nat} {a b : List D}, okeyAll n a = true → okeyAll m b = true → nkAll a = nkAll b → a = b
  | n, m, [], b, ha, hb, h => by
    cases b with
    | nil => rfl
    | cons y ys => simp [nkAll] at h
  | n, m, x :: xs, b, ha, hb, h => by
    cases b with
    | nil => simp [nkAll] at h
    | cons y ys =>
      simp only [nkAll, List.cons.injEq] at h
      simp only [okeyAll, Bool.and_eq_true] at ha hb
      rw [nk_inj ha.1 hb.1 h.1, nkAll_inj ha.2 hb.2 h.2]
end
mutual
theorem nk_depth : ∀ {n : Nat} {a : D}, okey n a = true → (nk a).depth ≤ n
  | n, .int i, h => by simp [nk, NestedKey.depth]
  | n, .str x, h => by simp [nk, NestedKey.depth]
  | 0, .tup xs, h => by simp [okey] at h
  | n + 1, .tup xs, h => by
    simp only [nk, NestedKey.depth]
    have := nkAll_depth (n := n) (a := xs) (by simpa [okey] using h)
    omega
  | n, .non, h => by simp [nk, NestedKey.depth]
  | n, .bl _, h => by simp [nk, NestedKey.depth]
  | n, .ref _, h => by simp [nk, NestedKey.depth]
  | n, .frl _, h => by simp [nk, NestedKey.depth]
theorem nkAll_depth : ∀ {n : Nat} {a : List D}, okeyAll n a = true → NestedKey.depthAll (nkAll a) ≤ n
  | n, [], h => by simp [nkAll, NestedKey.depthAll]
  | n, x :: xs, h => by
    simp only [okeyAll, Bool.and_eq_true] at h
    simp only [nkAll, NestedKey.depthAll]
    exact Nat.max_le.mpr ⟨nk_depth h.1, nkAll_depth h.2⟩
end

/-! ### from the abstract heap to the heap -/
section
variable {X : Cx} {pins : List (Addr × Obj)} {σ : L2.St} {H : Hp} {s : Shared}
mutual
theorem Dat.nested (I : Inv X pins σ H s) : ∀ (n : Nat) (v : V) (d : D) (u : Value), okey n d = true → Dat X.K H v d → RelV v u → NestedIs s.heap (nk d) u
  | n, v, .int i, u, hk, h, r => by cases h; obtain ⟨t, rfl⟩ := r; exact .int i t
  | n, v, .str x, u, hk, h, r => by cases h; obtain ⟨t, rfl⟩ := r; exact .text x t
  | 0, v, .tup ds, u, hk, h, r => by simp [okey] at hk
  | n + 1, v, .tup ds, u, hk, h, r => by
    cases h with
    | tup h t =>
      cases r
      obtain ⟨its, rv, ⟨o, e, c, m, dd⟩, hz⟩ := I.tuple h
      rw [nk]
      exact .tup e c dd (by simpa using DatL.nested I n _ ds _ (by simpa [okey] using hk) t rv)
  | n, v, .non, u, hk, h, r => by cases h; cases r; exact .none
  | n, v, .bl _, u, hk, h, r => by cases n <;> simp [okey] at hk
  | n, v, .ref _, u, hk, h, r => by cases n <;> simp [okey] at hk
  | n, v, .frl _, u, hk, h, r => by cases n <;> simp [okey] at hk
theorem DatL.nested (I : Inv X pins σ H s) : ∀ (n : Nat) (vs : List V) (ds : List D) (us : List Value), okeyAll n ds = true → DatL X.K H vs ds → Vals vs us → NestedAll s.heap (nkAll ds) us
  | n, vs, [], us, hk, h, r => by
    cases h
    cases r
    exact .nil
  | n, vs, d :: ds, us, hk, h, r => by
    cases h with
    | cons h t =>
      cases r with
      | cons r rs =>
        simp only [okeyAll, Bool.and_eq_true] at hk
        exact .cons (Dat.nested I n _ d _ hk.1 h r) (DatL.nested I n _ ds _ hk.2 t rs)
end
end

/-! ### how a G object stands in H -/
/-- a dict with tuple keys by its entries -/
def dphi (P : Program) (w : World) (a : Addr) (xs : List (NestedKey × Addr × Value)) (h : Heap) : Prop :=
  (a == sysModules) = false ∧ ∃ o es ep, h.get? a = some o ∧ o.ExactDict ∧ o.data = .dict es ep ∧ es.toList = xs.map (entryOfKey (nestedKind P w)) ∧ (xs.map (·.1)).Nodup
def dO (P : Program) (w : World) (a : Addr) (xs : List (NestedKey × Addr × Value)) : HO := .ext (dphi P w a xs)
theorem dO_new {P : Program} {w : World} {H : Hp} {h : Heap} {a : Addr} {xs : List (NestedKey × Addr × Value)} (R : dphi P w a xs h) : ObjOk P w H h a (dO P w a xs) :=
  ⟨R, let ⟨_, o, _, _, e, _⟩ := R; ⟨o, e⟩, fun h1 h2 ⟨z, o, es, ep, e, r⟩ k => ⟨z, o, es, ep, k o e, r⟩⟩
/-- an entry -/
def EntOk (K : PySem.W.Frag) (H : Hp) (p : D × D) (q : NestedKey × Addr × Value) : Prop :=
  okey 8 p.1 = true ∧ q.1 = nk p.1 ∧ Dat K H (.ref q.2.1) p.1 ∧ ∃ v, RelV v q.2.2 ∧ Dat K H v p.2
def srcKvs (c : Addr) (l m t : Int) : List (Key × V) := [(.inr "cells", .ref c), (.inr "left", .int l), (.inr "mixed", .int m), (.inr "turn", .int t)]
def GOk (P : Program) (w : World) (K : PySem.W.Frag) (H : Hp) (G : Gp) (a : Addr) : GO → Prop
  | .lst ds => ds.length ≤ sizeLine ∧ ∃ vs, H a = some (.lst vs) ∧ DatL K H vs ds
  | .dct kvs => kvs.length ≤ sizeLine ∧ ∃ xs, H a = some (dO P w a xs) ∧ Paired (EntOk K H) kvs xs
  | .dks kvs => kvs.length ≤ sizeLine ∧ ∃ kv : List (Key × V), H a = some (.dK kv) ∧ Paired (fun (p : Str × D) (q : Key × V) => q.1 = .inr p.1 ∧ Dat K H q.2 p.2) kvs kv
  | .frd kvs => kvs.length ≤ sizeLine ∧ ∃ o xs, H a = some (.frz o (dO P w a xs)) ∧ Paired (EntOk K H) kvs xs
  | .src => ∃ (c : Addr) (l m t : Int) (ns : List Int), G c = none ∧ H a = some (.dK (srcKvs c l m t)) ∧ H c = some (.lst (ns.map V.int)) ∧ (∀ n ∈ ns, 0 ≤ n) ∧ 0 ≤ l ∧ ns.length ≤ sizeLine
structure GH (P : Program) (w : World) (K : PySem.W.Frag) (G : Gp) (H : Hp) : Prop where
  at_ : ∀ a o, G a = some o → GOk P w K H G a o
  one : ∀ a b, G a = some .src → G b = some .src → a = b
instance {P : Program} {w : World} {K : PySem.W.Frag} {G : Gp} {H : Hp} : CoeFun (GH P w K G H) (fun _ => ∀ a o, G a = some o → GOk P w K H G a o) := ⟨GH.at_⟩
section
variable {P : Program} {w : World} {K : PySem.W.Frag} {H H' : Hp} {G G' : Gp} {a : Addr} {o : GO}
theorem EntOk.monoW (k : TKw H H') {p : D × D} {q : NestedKey × Addr × Value} (h : EntOk K H p q) : EntOk K H' p q :=
  let ⟨h1, h2, h3, v, h4, h5⟩ := h; ⟨h1, h2, h3.monoW k, v, h4, h5.monoW k⟩
theorem EntOk.mono (k : TK H H') {p : D × D} {q : NestedKey × Addr × Value} (h : EntOk K H p q) : EntOk K H' p q :=
  let ⟨h1, h2, h3, v, h4, h5⟩ := h; ⟨h1, h2, h3.mono k, v, h4, h5.mono k⟩
/-- an object stays: its own entry (and the source's list) stay -/
theorem GOk.stayW (h : GOk P w K H G a o) (k : TKw H H') (ha : H' a = H a) (hc : ∀ c xs, G c = none → H c = some (.lst xs) → H' c = some (.lst xs) ∧ G' c = none) : GOk P w K H' G' a o := by
  cases o with
  | lst ds => obtain ⟨z, vs, e, d⟩ := h; exact ⟨z, vs, ha.trans e, d.monoW k⟩
  | dct kvs => obtain ⟨z, xs, e, d⟩ := h; exact ⟨z, xs, ha.trans e, Paired.mapP d fun _ _ q => q.monoW k⟩
  | frd kvs => obtain ⟨z, o, xs, e, d⟩ := h; exact ⟨z, o, xs, ha.trans e, Paired.mapP d fun _ _ q => q.monoW k⟩
  | dks kvs => obtain ⟨z, kv, e, d⟩ := h; exact ⟨z, kv, ha.trans e, Paired.mapP d fun _ _ q => ⟨q.1, q.2.monoW k⟩⟩
  | src =>
    obtain ⟨c, l, m, t, ns, gc, e, ec, r⟩ := h
    obtain ⟨q1, q2⟩ := hc c _ gc ec
    exact ⟨c, l, m, t, ns, q2, ha.trans e, q1, r⟩
theorem GOk.stay (h : GOk P w K H G a o) (k : TK H H') (ha : H' a = H a) (hc : ∀ c xs, G c = none → H c = some (.lst xs) → H' c = some (.lst xs) ∧ G' c = none) : GOk P w K H' G' a o := h.stayW k.w ha hc
theorem GOk.there (h : GOk P w K H G a o) : ∃ u, H a = some u := by
  cases o with
  | lst ds => obtain ⟨_, vs, e, d⟩ := h; exact ⟨_, e⟩
  | dct kvs => obtain ⟨_, xs, e, d⟩ := h; exact ⟨_, e⟩
  | frd kvs => obtain ⟨_, o, xs, e, d⟩ := h; exact ⟨_, e⟩
  | dks kvs => obtain ⟨_, kv, e, d⟩ := h; exact ⟨_, e⟩
  | src => obtain ⟨c, l, m, t, ns, _, e, _⟩ := h; exact ⟨_, e⟩
theorem GOk.some (h : GOk P w K H G a o) (nf : ∀ kvs, o ≠ .frd kvs) : ∃ u, H a = some u ∧ Mut (some u) ∧ (∀ vs, u ≠ .tup vs) ∧ (∀ o w, u ≠ .frz o w) := by
  cases o with
  | lst ds => obtain ⟨_, vs, e, d⟩ := h; exact ⟨_, e, trivial, (by intro vs z; cases z), (by intro o w z; cases z)⟩
  | dct kvs => obtain ⟨_, xs, e, d⟩ := h; exact ⟨_, e, trivial, (by intro vs z; cases z), (by intro o w z; cases z)⟩
  | frd kvs => exact absurd rfl (nf kvs)
  | dks kvs => obtain ⟨_, kv, e, d⟩ := h; exact ⟨_, e, trivial, (by intro vs z; cases z), (by intro o w z; cases z)⟩
  | src => obtain ⟨c, l, m, t, ns, _, e, _⟩ := h; exact ⟨_, e, trivial, (by intro vs z; cases z), (by intro o w z; cases z)⟩
theorem GH.ne (g : GH P w K G H) (h : H a = none) : G a = none := by
  cases e : G a with
  | none => rfl
  | some o =>
    obtain ⟨u, hu⟩ := (g a o e).there
    rw [h] at hu; cases hu
/-- less is known -/
theorem GH.sub (g : GH P w K G H) (s : Sub G' G) : GH P w K G' H := ⟨fun a o e =>
  (g a o (s a o e)).stay TK.refl rfl fun c xs hc hx => ⟨hx, by
    cases q : G' c with
    | none => rfl
    | some u => rw [s c u q] at hc; cases hc⟩, fun a b ha hb => g.one a b (s _ _ ha) (s _ _ hb)⟩
/-- a new thing in H that G does not know -/
theorem GH.grow (g : GH P w K G H) {p : Addr} {u : HO} (h : H p = none) : GH P w K G (upd H p u) := ⟨fun a o e =>
  (g a o e).stay (TK.new h) (upd_ne (by rintro rfl; rw [g.ne h] at e; cases e)) fun c xs hc hx => ⟨by rw [upd_ne (ne_of_none hx h)]; exact hx, hc⟩, g.one⟩
theorem one_up {p : Addr} (g : GH P w K G H) (ns : o ≠ .src) (a b : Addr) (ha : gup G p o a = some .src) (hb : gup G p o b = some .src) : a = b := by
  by_cases h1 : a = p
  · subst h1; rw [gup_same] at ha; cases ha; exact absurd rfl ns
  · by_cases h2 : b = p
    · subst h2; rw [gup_same] at hb; cases hb; exact absurd rfl ns
    · rw [gup_ne h1] at ha; rw [gup_ne h2] at hb; exact g.one a b ha hb
end
section
variable {P : Program} {w : World} {K : PySem.W.Frag} {H H' : Hp} {Γ Γ' : Gp} {a : Addr} {o : GO}
theorem GH.tkset (g : GH P w K Γ H) {p : Addr} {o : GO} (h : Γ p = some o) (u : HO) (nf : ∀ kvs, o ≠ .frd kvs := by intro _ z; cases z) : TK H (upd H p u) := by
  obtain ⟨v, e, _, n1, n2⟩ := (g p o h).some nf
  exact TK.set e n1 n2
/-- a new thing -/
theorem GH.new (g : GH P w K Γ H) {p : Addr} {u : HO} {o : GO} (h : H p = none) (n : GOk P w K (upd H p u) (gup Γ p o) p o) (ns : o ≠ .src := by intro z; cases z) : GH P w K (gup Γ p o) (upd H p u) := ⟨fun a o' e => by
  by_cases hp : a = p
  · subst hp
    rw [gup_same] at e; cases e
    exact n
  · rw [gup_ne hp] at e
    exact (g a o' e).stay (TK.new h) (upd_ne hp) fun c xs hc hx => ⟨by rw [upd_ne (ne_of_none hx h)]; exact hx, by rw [gup_ne (ne_of_none hx h)]; exact hc⟩, one_up g ns⟩
/-- a thing changed -/
theorem GH.set (g : GH P w K Γ H) {p : Addr} {u : HO} {o o' : GO} (h : Γ p = some o) (n : GOk P w K (upd H p u) (gup Γ p o') p o') (ns : o' ≠ .src := by intro z; cases z) (nf : ∀ kvs, o ≠ .frd kvs := by intro _ z; cases z) : GH P w K (gup Γ p o') (upd H p u) := ⟨fun a q e => by
  by_cases hp : a = p
  · subst hp
    rw [gup_same] at e; cases e
    exact n
  · rw [gup_ne hp] at e
    exact (g a q e).stay (g.tkset h u nf) (upd_ne hp) fun c xs hc hx => by
      have ne : c ≠ p := by rintro rfl; rw [h] at hc; cases hc
      exact ⟨by rw [upd_ne ne]; exact hx, by rw [gup_ne ne]; exact hc⟩, one_up g ns⟩
end

/-! ### states -/
abbrev Ro := List (Option D)
structure RS (K : PySem.W.Frag) (H : Hp) (σ : L2.St) (ρ : Ro) : Prop where
  len : ρ.length = σ.length
  at_ : ∀ (i : Nat) (d : D), ρ[i]? = some (some d) → ∃ v, σ[i]? = some (some v) ∧ Dat K H v d
section
variable {K : PySem.W.Frag} {H H' : Hp} {σ : L2.St} {ρ : Ro}
theorem RS.mono (k : TK H H') (r : RS K H σ ρ) : RS K H' σ ρ := ⟨r.len, fun i d e => let ⟨v, h1, h2⟩ := r.at_ i d e; ⟨v, h1, h2.mono k⟩⟩
theorem RS.set (r : RS K H σ ρ) {v : V} {d : D} (h : Dat K H v d) (i : Nat) : RS K H (σ.set i (some v)) (ρ.set i (some d)) := by
  refine ⟨by simp [r.len], fun j e hj => ?_⟩
  by_cases hij : i = j
  · subst hij
    have hlt : i < ρ.length := by
      have := (List.getElem?_eq_some_iff.mp hj).1
      simpa using this
    rw [List.getElem?_set_self hlt] at hj
    cases hj
    exact ⟨v, List.getElem?_set_self (by rw [← r.len]; exact hlt), h⟩
  · rw [List.getElem?_set_ne hij] at hj ⊢
    exact r.at_ j e hj
theorem RS.start {vs : List V} {ds : List D} (h : DatL K H vs ds) (n : Nat) : RS K H (vs.map some ++ List.replicate n none) (ds.map some ++ List.replicate n none) := by
  refine ⟨by simp [h.length], fun i d e => ?_⟩
  have hi : i < ds.length := by
    by_cases hi : i < ds.length
    · exact hi
    · rw [List.getElem?_append_right (by simpa using hi), List.getElem?_replicate] at e
      split at e <;> cases e
  rw [List.getElem?_append_left (by simpa using hi), List.getElem?_map] at e
  cases q : ds[i]? with
  | none => rw [q] at e; cases e
  | some d' =>
    rw [q] at e; cases e
    obtain ⟨v, h1, h2⟩ := h.get' q
    refine ⟨v, ?_, h2⟩
    rw [List.getElem?_append_left (by rw [List.length_map, h.length]; exact hi), List.getElem?_map, h1]
    rfl
end

/-! ### the judgements -/
abbrev GK := D → Gp → Prop
abbrev GTE := Ro → Gp → GK → Prop
abbrev GTT := Ro → Gp → (Bool → Gp → Prop) → Prop
abbrev GTA := Ro → Gp → (List D → Gp → Prop) → Prop
structure GEnds where
  nx : Ro → Gp → Prop
  rt : GK
  bk : Ro → Gp → Prop := fun _ _ => False
  ct : Ro → Gp → Prop := fun _ _ => False
abbrev GTS := GEnds → Ro → Gp → Prop
abbrev GTG := D → Ro → Gp → (Ro → Gp → Prop) → Prop
section
variable (P : Program) (w : World) (K : PySem.W.Frag)
def up (t : GTE) : TE := fun σ H Q => ∃ ρ G R, RS K H σ ρ ∧ GH P w K G H ∧ t ρ G R ∧ ∀ v H' d G', TK H H' → GH P w K G' H' → Dat K H' v d → R d G' → Q v H'
def upT (t : GTT) : TT := fun σ H Q => ∃ ρ G R, RS K H σ ρ ∧ GH P w K G H ∧ t ρ G R ∧ ∀ b H' G', TK H H' → GH P w K G' H' → R b G' → Q b H'
structure Link (D : GEnds) (E : Ends) (H : Hp) : Prop where
  nx : ∀ σ' H' ρ' G', TK H H' → RS K H' σ' ρ' → GH P w K G' H' → D.nx ρ' G' → E.nx σ' H'
  rt : ∀ v H' d G', TK H H' → GH P w K G' H' → Dat K H' v d → D.rt d G' → E.rt v H'
  bk : ∀ σ' H' ρ' G', TK H H' → RS K H' σ' ρ' → GH P w K G' H' → D.bk ρ' G' → E.bk σ' H'
  ct : ∀ σ' H' ρ' G', TK H H' → RS K H' σ' ρ' → GH P w K G' H' → D.ct ρ' G' → E.ct σ' H'
def upS (t : GTS) : TS := fun E σ H => ∃ ρ G D, RS K H σ ρ ∧ GH P w K G H ∧ t D ρ G ∧ Link P w K D E H
def upG (g : GTG) : TG := fun v σ H Q => ∃ ρ G R d, RS K H σ ρ ∧ GH P w K G H ∧ Dat K H v d ∧ g d ρ G R ∧ ∀ σ' H' ρ' G', TK H H' → RS K H' σ' ρ' → GH P w K G' H' → R ρ' G' → Q σ' H'
end
theorem Link.mono {P : Program} {w : World} {K : PySem.W.Frag} {D : GEnds} {E : Ends} {H H' : Hp} (l : Link P w K D E H) (k : TK H H') : Link P w K D E H' :=
  ⟨fun _ _ _ _ q => l.nx _ _ _ _ (k.trans q), fun _ _ _ _ q => l.rt _ _ _ _ (k.trans q), fun _ _ _ _ q => l.bk _ _ _ _ (k.trans q), fun _ _ _ _ q => l.ct _ _ _ _ (k.trans q)⟩
def GE (X : Cx) (e : Expr) (t : GTE) : Prop := PE X e (up X.prog X.w X.K t)
def GT (X : Cx) (e : Expr) (t : GTT) : Prop := PT X e (upT X.prog X.w X.K t)
def GS (X : Cx) (st : Stmt) (t : GTS) : Prop := PS X st (upS X.prog X.w X.K t)
def GSs (X : Cx) (sts : List Stmt) (t : GTS) : Prop := PSs X sts (upS X.prog X.w X.K t)
def GG (X : Cx) (tg : Expr) (g : GTG) : Prop := PG X tg (upG X.prog X.w X.K g)
theorem PE.weak {X : Cx} {e : Expr} {t u : TE} (h : PE X e t) (f : ∀ σ H Q, u σ H Q → t σ H Q) : PE X e u := ⟨fun pins s σ H Q I q => h.run pins s σ H Q I (f _ _ _ q)⟩
theorem PT.weak {X : Cx} {e : Expr} {t u : TT} (h : PT X e t) (f : ∀ σ H Q, u σ H Q → t σ H Q) : PT X e u := ⟨fun pins s σ H Q I q => h.run pins s σ H Q I (f _ _ _ q)⟩
theorem PA.weak {X : Cx} {e : List Expr} {t u : TA} (h : PA X e t) (f : ∀ σ H Q, u σ H Q → t σ H Q) : PA X e u := ⟨fun pos pins s σ H Q I q => h.run pos pins s σ H Q I (f _ _ _ q)⟩
theorem PS.weak {X : Cx} {e : Stmt} {t u : TS} (h : PS X e t) (f : ∀ D σ H, u D σ H → t D σ H) : PS X e u := ⟨fun pins s σ H D I q => h.run pins s σ H D I (f _ _ _ q)⟩
theorem PSs.weak {X : Cx} {e : List Stmt} {t u : TS} (h : PSs X e t) (f : ∀ D σ H, u D σ H → t D σ H) : PSs X e u := ⟨fun pins s σ H D I q => h.run pins s σ H D I (f _ _ _ q)⟩
theorem PG.weak {X : Cx} {e : Expr} {t u : TG} (h : PG X e t) (f : ∀ v σ H Q, u v σ H Q → t v σ H Q) : PG X e u := ⟨fun pins s σ H v w Q I r q => h.run pins s σ H v w Q I r (f _ _ _ _ q)⟩
end G
set_option Elab.async false
set_option linter.all false
set_option maxRecDepth 100000
set_option maxHeartbeats 4000000
namespace G
open PySem PySem.Spec PyProof.Rows L2

/-! ### names, constants -/
section
variable {X : Cx} {pos : Pos}
@[simp] def gVar (i : Nat) : GTE := fun ρ G Q => ∃ d, ρ[i]? = some (some d) ∧ Q d G
@[simp] def gC (d : D) : GTE := fun _ G Q => Q d G
theorem ge_of {e : Expr} {r : TE} {t : GTE} (h : PE X e r) (f : ∀ σ H ρ G R Q, RS X.K H σ ρ → GH X.prog X.w X.K G H → t ρ G R →
    (∀ v H' d G', TK H H' → GH X.prog X.w X.K G' H' → Dat X.K H' v d → R d G' → Q v H') → r σ H Q) : GE X e t :=
  PE.weak h fun σ H Q ⟨ρ, G, R, rs, g, q, k⟩ => f σ H ρ G R Q rs g q k
theorem gv (i : Nat) {x : Str} (hN : X.N[i]? = some x := by rfl) (hv : Vis X.env.scope x := by first | exact Or.inl rfl | exact Or.inr (Or.inl rfl) | exact Or.inr (Or.inr rfl)) (hd : (x == ("__debug__" : Str)) = false := by decide)
    (hcd : (x == ("__classdict__" : Str)) = false := by decide) : GE X (.Name x pos) (gVar i) :=
  ge_of (pe_var hN hv hd hcd) fun σ H ρ G R Q rs g ⟨d, e, q⟩ k => let ⟨v, h1, h2⟩ := rs.at_ i d e; ⟨v, h1, k v H d G TK.refl g h2 q⟩
theorem ge_int {i j} : GE X (.Constant (.int i) j pos) (gC (.int i)) := ge_of pe_int fun σ H ρ G R Q rs g q k => k _ H _ G TK.refl g (.int i) q
theorem ge_bl {b j} : GE X (.Constant (.bool b) j pos) (gC (.bl b)) := ge_of pe_bl fun σ H ρ G R Q rs g q k => k _ H _ G TK.refl g (.bl b) q
theorem ge_non {j} : GE X (.Constant .none j pos) (gC .non) := ge_of pe_non fun σ H ρ G R Q rs g q k => k _ H _ G TK.refl g .non q
theorem ge_str {x j} : GE X (.Constant (.str x) j pos) (gC (.str x)) := ge_of pe_str fun σ H ρ G R Q rs g q k => k _ H _ G TK.refl g (.str x) q
end

/-! ### operators by values -/
abbrev GR2 := D → D → Gp → GK → Prop
section
variable (P : Program) (w : World) (K : PySem.W.Frag)
def upR (r : GR2) : R2 := fun x y H Q => ∃ G R d e, GH P w K G H ∧ Dat K H x d ∧ Dat K H y e ∧ r d e G R ∧ ∀ v H' d' G', TK H H' → GH P w K G' H' → Dat K H' v d' → R d' G' → Q v H'
def upU (r : D → Gp → GK → Prop) : V → Hp → VK → Prop := fun x H Q => ∃ G R d, GH P w K G H ∧ Dat K H x d ∧ r d G R ∧ ∀ v H' d' G', TK H H' → GH P w K G' H' → Dat K H' v d' → R d' G' → Q v H'
def upC (r : List D → Gp → GK → Prop) : List V → Hp → VK → Prop := fun xs H Q => ∃ G R ds, GH P w K G H ∧ DatL K H xs ds ∧ r ds G R ∧ ∀ v H' d' G', TK H H' → GH P w K G' H' → Dat K H' v d' → R d' G' → Q v H'
def upM (r : D → List D → Gp → GK → Prop) : V → List V → Hp → VK → Prop := fun x xs H Q => ∃ G R d ds, GH P w K G H ∧ Dat K H x d ∧ DatL K H xs ds ∧ r d ds G R ∧ ∀ v H' d' G', TK H H' → GH P w K G' H' → Dat K H' v d' → R d' G' → Q v H'
end
def GOp (X : Cx) (f : Value → Value → Sem Value) (r : GR2) : Prop := OpR X f (upR X.prog X.w X.K r)
def GUn (X : Cx) (f : Value → Sem Value) (r : D → Gp → GK → Prop) : Prop := UnR X f (upU X.prog X.w X.K r)
def GCall (X : Cx) (f : Value) (r : List D → Gp → GK → Prop) : Prop := CallR X f (upC X.prog X.w X.K r)
def GIx (X : Cx) (r : GR2) : Prop := IxR X (upR X.prog X.w X.K r)
theorem OpR.weak {X : Cx} {f : Value → Value → Sem Value} {r u : R2} (h : OpR X f r) (k : ∀ x y H Q, u x y H Q → r x y H Q) : OpR X f u := fun pins s σ H x y v w Q I rx ry q => h pins s σ H x y v w Q I rx ry (k _ _ _ _ q)
theorem UnR.weak {X : Cx} {f : Value → Sem Value} {r u : V → Hp → VK → Prop} (h : UnR X f r) (k : ∀ x H Q, u x H Q → r x H Q) : UnR X f u := fun pins s σ H x v Q I rx q => h pins s σ H x v Q I rx (k _ _ _ q)
theorem CallR.weak {X : Cx} {f : Value} {r u : List V → Hp → VK → Prop} (h : CallR X f r) (k : ∀ x H Q, u x H Q → r x H Q) : CallR X f u := fun pins s σ H x v Q I rx q => h pins s σ H x v Q I rx (k _ _ _ q)
theorem IxR.weak {X : Cx} {r u : R2} (h : IxR X r) (k : ∀ x y H Q, u x y H Q → r x y H Q) : IxR X u := by
  intro value slice pins s σ H x y v w' Q I rx ry q hs
  exact h value slice pins s σ H x y v w' Q I rx ry (k _ _ _ _ q) hs
@[simp] def gOp (r : GR2) (ta tb : GTE) : GTE := fun ρ G Q => ta ρ G fun x G1 => tb ρ G1 fun y G2 => r x y G2 Q
@[simp] def gUn (r : D → Gp → GK → Prop) (ta : GTE) : GTE := fun ρ G Q => ta ρ G fun x G1 => r x G1 Q
section
variable {X : Cx} {pos : Pos} {a b : Expr} {ta tb : GTE}
theorem up_op {r : GR2} {σ : L2.St} {H : Hp} {Q : VK} (h : up X.prog X.w X.K (gOp r ta tb) σ H Q) : tOp (upR X.prog X.w X.K r) (up X.prog X.w X.K ta) (up X.prog X.w X.K tb) σ H Q := by
  obtain ⟨ρ, G, R, rs, g, q, k⟩ := h
  refine ⟨ρ, G, _, rs, g, q, fun v H1 d G1 k1 g1 h1 q1 => ?_⟩
  refine ⟨ρ, G1, _, rs.mono k1, g1, q1, fun v2 H2 e G2 k2 g2 h2 q2 => ?_⟩
  exact ⟨G2, R, d, e, g2, h1.mono k2, h2, q2, fun v3 H3 d3 G3 k3 => k v3 H3 d3 G3 ((k1.trans k2).trans k3)⟩
theorem ge_op {op : Operator} {r : GR2} (ho : GOp X (binaryOp op) r) (ha : GE X a ta) (hb : GE X b tb) : GE X (.BinOp a op b pos) (gOp r ta tb) :=
  PE.weak (pe_op ho ha hb) fun σ H Q h => up_op h
theorem ge_un {op : UnaryOp} {r : D → Gp → GK → Prop} (ho : GUn X (unaryOp op) r) (ha : GE X a ta) : GE X (.UnaryOp op a pos) (gUn r ta) :=
  PE.weak (pe_un ho ha) fun σ H Q ⟨ρ, G, R, rs, g, q, k⟩ => ⟨ρ, G, _, rs, g, q, fun v H1 d G1 k1 g1 h1 q1 => ⟨G1, R, d, g1, h1, q1, fun v3 H3 d3 G3 k3 => k v3 H3 d3 G3 (k1.trans k3)⟩⟩
theorem ge_cmp {op : CmpOp} {r : GR2} (ho : GOp X (compareOp op) r) (ha : GE X a ta) (hb : GE X b tb) (hm : behindInMarks op b = false := by first | exact nomark _ | rfl) : GE X (.Compare a [op] [b] pos) (gOp r ta tb) :=
  PE.weak (pe_cmpR ho ha hb hm) fun σ H Q h => up_op h
@[simp] def gTest (t : GTE) : GTT := fun ρ G Q => t ρ G fun d G' => ∃ b, d = .bl b ∧ Q b G'
theorem dat_bl {K : PySem.W.Frag} {H : Hp} {v : V} {b : Bool} (h : Dat K H v (.bl b)) : v = .bl b := by cases h; rfl
theorem dat_int {K : PySem.W.Frag} {H : Hp} {v : V} {b : Int} (h : Dat K H v (.int b)) : v = .int b := by cases h; rfl
theorem dat_str {K : PySem.W.Frag} {H : Hp} {v : V} {b : Str} (h : Dat K H v (.str b)) : v = .str b := by cases h; rfl
theorem dat_non {K : PySem.W.Frag} {H : Hp} {v : V} (h : Dat K H v .non) : v = .non := by cases h; rfl
theorem dat_ref {K : PySem.W.Frag} {H : Hp} {v : V} {a : Addr} (h : Dat K H v (.ref a)) : v = .ref a := by cases h; rfl
theorem dat_tup {K : PySem.W.Frag} {H : Hp} {v : V} {ds : List D} (h : Dat K H v (.tup ds)) : ∃ a vs, v = .ref a ∧ SqT K H a vs ∧ DatL K H vs ds := by
  cases h with
  | tup h t => exact ⟨_, _, rfl, h, t⟩
theorem upT_test {t : GTE} {σ : L2.St} {H : Hp} {Q : Bool → Hp → Prop} (h : upT X.prog X.w X.K (gTest t) σ H Q) : up X.prog X.w X.K t σ H (fun v H1 => ∃ c, v = .bl c ∧ Q c H1) := by
  obtain ⟨ρ, G, R, rs, g, q, k⟩ := h
  refine ⟨ρ, G, _, rs, g, q, fun v H1 d G1 k1 g1 h1 ⟨b, e, q1⟩ => ?_⟩
  subst e
  exact ⟨b, dat_bl h1, k b H1 G1 k1 g1 q1⟩
theorem gt_cmp {op : CmpOp} {r : GR2} (ho : GOp X (compareOp op) r) (ha : GE X a ta) (hb : GE X b tb) (hm : behindInMarks op b = false := by first | exact nomark _ | rfl) : GT X (.Compare a [op] [b] pos) (gTest (gOp r ta tb)) :=
  PT.weak (pt_cmpR ho ha hb hm) fun σ H Q h => up_op (upT_test h)
theorem gt_val {e : Expr} {t : GTE} (h : GE X e t) (he : ∀ whole, isTrue e X.env whole = (do let v ← whole; standAt e.pos; holding [v] (truthy v)) := by intro _; rfl) : GT X e (gTest t) :=
  PT.weak (pt_val h he) fun σ H Q h => upT_test h
/-- by truth: a list, a tuple, an int -/
def truD (d : D) (G : Gp) (k : Bool) : Prop := match d with
  | .non => k = false
  | .bl b => k = b
  | .int i => k = (i != 0)
  | .tup ds => k = !ds.isEmpty
  | .ref a => ∃ ds, G a = some (.lst ds) ∧ k = !ds.isEmpty
  | _ => False
def gTruth (t : GTE) : GTT := fun ρ G Q => t ρ G fun d G' => ∃ k, truD d G' k ∧ Q k G'
theorem isEmpty_len {α β : Type} {xs : List α} {ys : List β} (h : xs.length = ys.length) : xs.isEmpty = ys.isEmpty := by
  cases xs <;> cases ys <;> simp_all
theorem gt_truth (ha : GE X a ta) (he : ∀ whole, isTrue a X.env whole = (do let v ← whole; standAt a.pos; holding [v] (truthy v)) := by intro _; rfl) : GT X a (gTruth ta) :=
  PT.weak (pt_truth ha he) fun σ H Q ⟨ρ, G, R, rs, g, q, k⟩ => by
    refine ⟨ρ, G, _, rs, g, q, fun v H1 d G1 k1 g1 h1 ⟨b, tr, q1⟩ => ⟨b, ?_, k b H1 G1 k1 g1 q1⟩⟩
    cases d with
    | non => cases dat_non h1; exact tr
    | bl c => cases dat_bl h1; exact tr
    | int i => cases dat_int h1; exact tr
    | str x => exact tr.elim
    | frl x => exact tr.elim
    | tup ds =>
      obtain ⟨p, vs, rfl, hs, hd⟩ := dat_tup h1
      refine .inr (.inl ⟨vs, hs, ?_⟩)
      rw [tr, isEmpty_len hd.length]
    | ref p =>
      cases dat_ref h1
      obtain ⟨ds, hp, e⟩ := tr
      obtain ⟨_, vs, hv, hd⟩ := g1 p _ hp
      refine .inl ⟨vs, SqL.of hv, ?_⟩
      rw [e, isEmpty_len hd.length]
/-! and, or, not, if -/
variable {tA tB : GTT} {rest : List Expr}
def GW (X : Cx) (e : Expr) (t : GTT) : Prop := PW X e (upT X.prog X.w X.K t)
theorem PW.weak {X : Cx} {e : Expr} {t u : TT} (h : PW X e t) (f : ∀ σ H Q, u σ H Q → t σ H Q) : PW X e u := ⟨fun wh pins s σ H Q I q => h.run wh pins s σ H Q I (f _ _ _ q)⟩
theorem GW.gt {e : Expr} {t : GTT} (h : GW X e t) : GT X e t := PW.pt h
@[simp] def gAnd (t u : GTT) : GTT := fun ρ G Q => t ρ G fun c G1 => if c = true then u ρ G1 Q else Q false G1
@[simp] def gOr (t u : GTT) : GTT := fun ρ G Q => t ρ G fun c G1 => if c = true then Q true G1 else u ρ G1 Q
@[simp] def gNot (t : GTT) : GTT := fun ρ G Q => t ρ G fun c G1 => Q (!c) G1
theorem gw_and1 (ha : GT X a tA) : GW X (.BoolOp .And [a] pos) tA := pw_and1 ha
theorem gw_or1 (ha : GT X a tA) : GW X (.BoolOp .Or [a] pos) tA := pw_or1 ha
theorem gw_and (ha : GT X a tA) (hb : GW X (.BoolOp .And (b :: rest) pos) tB) : GW X (.BoolOp .And (a :: b :: rest) pos) (gAnd tA tB) :=
  PW.weak (pw_and ha hb) fun σ H Q ⟨ρ, G, R, rs, g, q, k⟩ => by
    refine ⟨ρ, G, _, rs, g, q, fun c H1 G1 k1 g1 q1 => ?_⟩
    cases c with
    | true => exact ⟨ρ, G1, R, rs.mono k1, g1, q1, fun b H2 G2 k2 => k b H2 G2 (k1.trans k2)⟩
    | false => exact k false H1 G1 k1 g1 q1
theorem gw_or (ha : GT X a tA) (hb : GW X (.BoolOp .Or (b :: rest) pos) tB) : GW X (.BoolOp .Or (a :: b :: rest) pos) (gOr tA tB) :=
  PW.weak (pw_or ha hb) fun σ H Q ⟨ρ, G, R, rs, g, q, k⟩ => by
    refine ⟨ρ, G, _, rs, g, q, fun c H1 G1 k1 g1 q1 => ?_⟩
    cases c with
    | true => exact k true H1 G1 k1 g1 q1
    | false => exact ⟨ρ, G1, R, rs.mono k1, g1, q1, fun b H2 G2 k2 => k b H2 G2 (k1.trans k2)⟩
theorem gt_not (ha : GT X a tA) : GT X (.UnaryOp .Not a pos) (gNot tA) :=
  PT.weak (pt_not ha) fun σ H Q ⟨ρ, G, R, rs, g, q, k⟩ => ⟨ρ, G, _, rs, g, q, fun c H1 G1 k1 g1 q1 => k _ H1 G1 k1 g1 q1⟩
@[simp] def gAndV (ta tb : GTE) : GTE := fun ρ G Q => ta ρ G fun x G1 => ∃ c, x = .bl c ∧ if c = true then tb ρ G1 Q else Q (.bl false) G1
@[simp] def gOrV (ta tb : GTE) : GTE := fun ρ G Q => ta ρ G fun x G1 => ∃ c, x = .bl c ∧ if c = true then Q (.bl true) G1 else tb ρ G1 Q
@[simp] def gNotV (ta : GTE) : GTE := fun ρ G Q => ta ρ G fun x G1 => ∃ c, x = .bl c ∧ Q (.bl (!c)) G1
theorem ge_one {op} {t : GTE} (h : GE X a t) : GE X (.BoolOp op [a] pos) t := pe_one h
theorem ge_and (ha : GE X a ta) (hb : GE X (.BoolOp .And (b :: rest) pos) tb) : GE X (.BoolOp .And (a :: b :: rest) pos) (gAndV ta tb) :=
  PE.weak (pe_and ha hb) fun σ H Q ⟨ρ, G, R, rs, g, q, k⟩ => by
    refine ⟨ρ, G, _, rs, g, q, fun v H1 d G1 k1 g1 h1 ⟨c, e, q1⟩ => ?_⟩
    subst e
    refine ⟨c, dat_bl h1, ?_⟩
    cases c with
    | true => exact ⟨ρ, G1, R, rs.mono k1, g1, q1, fun b H2 d2 G2 k2 => k b H2 d2 G2 (k1.trans k2)⟩
    | false => exact k _ H1 _ G1 k1 g1 (.bl false) q1
theorem ge_or (ha : GE X a ta) (hb : GE X (.BoolOp .Or (b :: rest) pos) tb) : GE X (.BoolOp .Or (a :: b :: rest) pos) (gOrV ta tb) :=
  PE.weak (pe_or ha hb) fun σ H Q ⟨ρ, G, R, rs, g, q, k⟩ => by
    refine ⟨ρ, G, _, rs, g, q, fun v H1 d G1 k1 g1 h1 ⟨c, e, q1⟩ => ?_⟩
    subst e
    refine ⟨c, dat_bl h1, ?_⟩
    cases c with
    | true => exact k _ H1 _ G1 k1 g1 (.bl true) q1
    | false => exact ⟨ρ, G1, R, rs.mono k1, g1, q1, fun b H2 d2 G2 k2 => k b H2 d2 G2 (k1.trans k2)⟩
theorem ge_not (ha : GE X a ta) : GE X (.UnaryOp .Not a pos) (gNotV ta) :=
  PE.weak (pe_not ha) fun σ H Q ⟨ρ, G, R, rs, g, q, k⟩ => by
    refine ⟨ρ, G, _, rs, g, q, fun v H1 d G1 k1 g1 h1 ⟨c, e, q1⟩ => ?_⟩
    subst e
    exact ⟨c, dat_bl h1, k _ H1 _ G1 k1 g1 (.bl _) q1⟩
@[simp] def gIfE (t : GTT) (ta tb : GTE) : GTE := fun ρ G Q => t ρ G fun c G1 => if c = true then ta ρ G1 Q else tb ρ G1 Q
theorem ge_if {c : Expr} (hc : GT X c tA) (ha : GE X a ta) (hb : GE X b tb) : GE X (.IfExp c a b pos) (gIfE tA ta tb) :=
  PE.weak (pe_ifExp hc ha hb) fun σ H Q ⟨ρ, G, R, rs, g, q, k⟩ => by
    refine ⟨ρ, G, _, rs, g, q, fun c H1 G1 k1 g1 q1 => ?_⟩
    cases c with
    | true => exact ⟨ρ, G1, R, rs.mono k1, g1, q1, fun b H2 d2 G2 k2 => k b H2 d2 G2 (k1.trans k2)⟩
    | false => exact ⟨ρ, G1, R, rs.mono k1, g1, q1, fun b H2 d2 G2 k2 => k b H2 d2 G2 (k1.trans k2)⟩
end

/-! ### arguments, tuples, lists -/
section
variable {X : Cx} {pos : Pos} {e : Expr} {es : List Expr} {te : GTE} {t : GTA}
/-- the arguments' readings one behind another -/
@[simp] def gArgs : List GTE → GTA
  | [] => fun _ G Q => Q [] G
  | t :: ts => fun ρ G Q => t ρ G fun x G1 => gArgs ts ρ G1 fun xs G2 => Q (x :: xs) G2
def vArgs (P : Program) (w : World) (K : PySem.W.Frag) : List GTE → TA
  | [] => tNil
  | t :: ts => tCons (up P w K t) (vArgs P w K ts)
def GA (X : Cx) (es : List Expr) (ts : List GTE) : Prop := PA X es (vArgs X.prog X.w X.K ts)
theorem ga_nil : GA X [] [] := pa_nil
theorem ga_cons {ts : List GTE} (ha : GE X e te) (hr : GA X es ts) (hs : starEach (e :: es) X.env = (false, eval e X.env) :: starEach es X.env := by rfl) : GA X (e :: es) (te :: ts) := pa_cons ha hr hs
theorem args_up {P : Program} {w : World} {K : PySem.W.Frag} {σ : L2.St} {ρ : Ro} : ∀ (ts : List GTE) {H : Hp} {G : Gp} {R : List D → Gp → Prop} {Q : List V → Hp → Prop}, RS K H σ ρ → GH P w K G H → gArgs ts ρ G R →
    (∀ vs H' ds G', TK H H' → GH P w K G' H' → DatL K H' vs ds → ds.length = ts.length → R ds G' → Q vs H') → vArgs P w K ts σ H Q
  | [], H, G, R, Q, rs, g, q, k => k [] H [] G TK.refl g .nil rfl q
  | t :: ts, H, G, R, Q, rs, g, q, k => by
    refine ⟨ρ, G, _, rs, g, q, fun v H1 d G1 k1 g1 h1 q1 => ?_⟩
    exact args_up ts (rs.mono k1) g1 q1 fun vs H2 ds G2 k2 g2 h2 l q2 => k (v :: vs) H2 (d :: ds) G2 (k1.trans k2) g2 (.cons (h1.mono k2) h2) (by rw [List.length_cons, List.length_cons, l]) q2
@[simp] def gTup (ts : List GTE) : GTE := fun ρ G Q => gArgs ts ρ G fun ds G1 => Q (.tup ds) G1
theorem ge_tup {x1} {ts : List GTE} (h : GA X es ts) (hz : ts.length ≤ 1000 := by exact Nat.le_of_ble_eq_true rfl) : GE X (.Tuple es x1 pos) (gTup ts) :=
  ge_of (pe_tup h) fun σ H ρ G R Q rs g q k => args_up ts rs g q fun vs H1 ds G1 k1 g1 h1 l q1 =>
    ⟨by rw [h1.length, l, sizeLine_eq]; omega, fun p hp => k _ _ _ G1 (k1.trans (TK.new hp)) (g1.grow hp) (.tup (SqT.of upd_same) (h1.mono (TK.new hp))) q1⟩
@[simp] def gLst (ts : List GTE) : GTE := fun ρ G Q => gArgs ts ρ G fun ds G1 => ∀ p, G1 p = none → Q (.ref p) (gup G1 p (.lst ds))
theorem gok_lst {P : Program} {w : World} {K : PySem.W.Frag} {H : Hp} {G : Gp} {p : Addr} {vs : List V} {ds : List D} (hz : ds.length ≤ sizeLine) (h : DatL K H vs ds) (e : H p = some (.lst vs)) : GOk P w K H G p (.lst ds) := ⟨hz, vs, e, h⟩
theorem ge_lst {ts : List GTE} (h : GA X es ts) (hz : ts.length ≤ 1000 := by exact Nat.le_of_ble_eq_true rfl) : GE X (.List es pos) (gLst ts) :=
  ge_of (pe_lst h) fun σ H ρ G R Q rs g q k => args_up ts rs g q fun vs H1 ds G1 k1 g1 h1 l q1 => by
    have z : ds.length ≤ sizeLine := by rw [l, sizeLine_eq]; omega
    exact ⟨by rw [h1.length]; exact z, fun p hp => k _ _ _ _ (k1.trans (TK.new hp)) (g1.new hp (gok_lst z (h1.mono (TK.new hp)) upd_same)) (.ref p) (q1 p (g1.ne hp))⟩
end
end G
set_option Elab.async false
set_option linter.all false
set_option maxRecDepth 100000
set_option maxHeartbeats 4000000
namespace G
open PySem PySem.Spec PyProof.Rows L2

/-! ### statements -/
section
variable {X : Cx} {pos : Pos} {st : Stmt} {rest : List Stmt} {t u : GTS} {e : Expr} {te : GTE}
@[simp] def gNext : GTS := fun D ρ G => D.nx ρ G
@[simp] def gSeq (t u : GTS) : GTS := fun D ρ G => t { D with nx := u D } ρ G
theorem gss_nil : GSs X [] gNext := PSs.weak pss_nil fun E σ H ⟨ρ, G, D, rs, g, q, l⟩ => l.nx σ H ρ G TK.refl rs g q
theorem gss_cons (h1 : GS X st t) (h2 : GSs X rest u) : GSs X (st :: rest) (gSeq t u) :=
  PSs.weak (pss_cons h1 h2) fun E σ H ⟨ρ, G, D, rs, g, q, l⟩ =>
    ⟨ρ, G, { D with nx := u D }, rs, g, q, ⟨fun σ' H' ρ' G' k rs' g' q' => ⟨ρ', G', D, rs', g', q', l.mono k⟩, l.rt, l.bk, l.ct⟩⟩
theorem gss_one (h1 : GS X st t) : GSs X [st] t := pss_one h1
theorem gs_pass : GS X (.Pass pos) gNext := PS.weak ps_pass fun E σ H ⟨ρ, G, D, rs, g, q, l⟩ => l.nx σ H ρ G TK.refl rs g q
def gBreak : GTS := fun D ρ G => D.bk ρ G
def gCont : GTS := fun D ρ G => D.ct ρ G
theorem gs_break : GS X (.Break pos) gBreak := PS.weak ps_break fun E σ H ⟨ρ, G, D, rs, g, q, l⟩ => l.bk σ H ρ G TK.refl rs g q
theorem gs_continue : GS X (.Continue pos) gCont := PS.weak ps_continue fun E σ H ⟨ρ, G, D, rs, g, q, l⟩ => l.ct σ H ρ G TK.refl rs g q
@[simp] def gDrop (te : GTE) : GTS := fun D ρ G => te ρ G fun _ G1 => D.nx ρ G1
theorem gs_expr (he : GE X e te) (hs : swapsWith e none pos.line X.env = pure false := by rfl) : GS X (.Expr e pos) (gDrop te) :=
  PS.weak (ps_expr he hs) fun E σ H ⟨ρ, G, D, rs, g, q, l⟩ => ⟨ρ, G, _, rs, g, q, fun v H1 d G1 k1 g1 h1 q1 => l.nx σ H1 ρ G1 k1 (rs.mono k1) g1 q1⟩
/-- forgetting (and telling in other words) -/
def Fg (G2 G1 : Gp) : Prop := ∀ P w K H, GH P w K G1 H → GH P w K G2 H
theorem Fg.of {G2 G1 : Gp} (s : Sub G2 G1) : Fg G2 G1 := fun _ _ _ _ g => g.sub s
theorem Fg.refl {G : Gp} : Fg G G := fun _ _ _ _ g => g
theorem Fg.trans {G1 G2 G3 : Gp} (a : Fg G1 G2) (b : Fg G2 G3) : Fg G1 G3 := fun P w K H g => a P w K H (b P w K H g)
/-- return: what is not needed any more is forgotten -/
@[simp] def gRet (te : GTE) : GTS := fun D ρ G => te ρ G fun d G1 => ∃ G2, Fg G2 G1 ∧ D.rt d G2
theorem gs_ret (he : GE X e te) : GS X (.Return (some e) pos) (gRet te) :=
  PS.weak (ps_ret he) fun E σ H ⟨ρ, G, D, rs, g, q, l⟩ => ⟨ρ, G, _, rs, g, q, fun v H1 d G1 k1 g1 h1 ⟨G2, s, q1⟩ => l.rt v H1 d G2 k1 (s _ _ _ _ g1) h1 q1⟩
@[simp] def gIf (c : GTT) (t u : GTS) : GTS := fun D ρ G => c ρ G fun b G1 => if b = true then t D ρ G1 else u D ρ G1
theorem gs_if {c : Expr} {a b : List Stmt} {tc : GTT} (hc : GT X c tc) (ha : GSs X a t) (hb : GSs X b u) : GS X (.If c a b pos) (gIf tc t u) :=
  PS.weak (ps_if hc ha hb) fun E σ H ⟨ρ, G, D, rs, g, q, l⟩ => by
    refine ⟨ρ, G, _, rs, g, q, fun c H1 G1 k1 g1 q1 => ?_⟩
    cases c with
    | true => exact ⟨ρ, G1, D, rs.mono k1, g1, q1, l.mono k1⟩
    | false => exact ⟨ρ, G1, D, rs.mono k1, g1, q1, l.mono k1⟩
def gNever : GTS := fun _ _ _ => False
theorem gs_never : GS X st gNever := PS.weak ps_never fun E σ H ⟨ρ, G, D, rs, g, q, l⟩ => q.elim
theorem gss_never {sts : List Stmt} : GSs X sts gNever := PSs.weak pss_never fun E σ H ⟨ρ, G, D, rs, g, q, l⟩ => q.elim

/-! targets -/
@[simp] def gName (i : Nat) : GTG := fun d ρ G Q => Q (ρ.set i (some d)) G
theorem gg_name {i : Nat} {x : Str} (hN : X.N.Nodup) (hi : X.N[i]? = some x := by rfl) (hx : Loc X.env.scope x := by first | exact Or.inl rfl | exact Or.inr rfl)
    (hf : X.fn x = true ∨ X.env.scope.names.lookup x = some .local := by first | exact .inl rfl | exact .inr rfl) : GG X (.Name x pos) (gName i) :=
  PG.weak (pg_name hN hi hx hf) fun v σ H Q ⟨ρ, G, R, d, rs, g, h, q, k⟩ => k _ H _ G TK.refl (rs.set h i) g q
/-- targets one behind another -/
@[simp] def gTgs : List GTG → List D → Ro → Gp → (Ro → Gp → Prop) → Prop
  | [] => fun ds ρ G Q => ds = [] ∧ Q ρ G
  | t :: ts => fun ds ρ G Q => ∃ d r, ds = d :: r ∧ t d ρ G fun ρ' G' => gTgs ts r ρ' G' Q
def vTgs (P : Program) (w : World) (K : PySem.W.Frag) : List GTG → TGs
  | [] => gNil
  | t :: ts => L2.gCons (upG P w K t) (vTgs P w K ts)
def GGs (X : Cx) (es : List Expr) (ts : List GTG) : Prop := PGs X es (vTgs X.prog X.w X.K ts)
theorem ggs_nil : GGs X [] [] := pgs_nil
theorem ggs_cons {g : GTG} {gs : List GTG} {es : List Expr} (h1 : GG X e g) (h2 : GGs X es gs) (hs : (assignEach (e :: es) X.env).map (·.2) = assign e X.env :: (assignEach es X.env).map (·.2) := by rfl) : GGs X (e :: es) (g :: gs) := pgs_cons h1 h2 hs
theorem tgs_up {P : Program} {w : World} {K : PySem.W.Frag} : ∀ (ts : List GTG) {vs : List V} {ds : List D} {σ : L2.St} {ρ : Ro} {H : Hp} {G : Gp} {R : Ro → Gp → Prop} {Q : L2.St → Hp → Prop}, RS K H σ ρ → GH P w K G H → DatL K H vs ds → gTgs ts ds ρ G R →
    (∀ σ' H' ρ' G', TK H H' → RS K H' σ' ρ' → GH P w K G' H' → R ρ' G' → Q σ' H') → vTgs P w K ts vs σ H Q
  | [], vs, ds, σ, ρ, H, G, R, Q, rs, g, h, q, k => by
    obtain ⟨rfl, q⟩ := q
    cases h
    exact ⟨rfl, k σ H ρ G TK.refl rs g q⟩
  | t :: ts, vs, ds, σ, ρ, H, G, R, Q, rs, g, h, q, k => by
    obtain ⟨d, r, rfl, q⟩ := q
    cases h with
    | cons h1 h2 =>
      refine ⟨_, _, rfl, ρ, G, _, d, rs, g, h1, q, fun σ1 H1 ρ1 G1 k1 rs1 g1 q1 => ?_⟩
      exact tgs_up ts rs1 g1 (h2.mono k1) q1 fun σ2 H2 ρ2 G2 k2 => k σ2 H2 ρ2 G2 (k1.trans k2)
@[simp] def gUnp (n : Nat) (ts : List GTG) : GTG := fun d ρ G Q => ∃ ds, d = .tup ds ∧ ds.length = n ∧ gTgs ts ds ρ G Q
theorem gg_tup {es : List Expr} {k : Nat} {ts : List GTG} {n : Nat} (h : GGs X es ts) (hc : X.calm = true := by rfl) (hn : (assignEach es X.env).length = n := by rfl) (hst : (assignEach es X.env).findIdx? (·.1) = none := by rfl) :
    GG X (.Tuple es k pos) (gUnp n ts) :=
  PG.weak (pg_tup hc h hn hst) fun v σ H Q ⟨ρ, G, R, d, rs, g, h, ⟨ds, e, l, q⟩, k⟩ => by
    subst e
    obtain ⟨a, vs, rfl, hs, hd⟩ := dat_tup h
    exact ⟨a, vs, rfl, hs, by rw [hd.length]; exact l, tgs_up ts rs g hd q k⟩
@[simp] def gAsg (te : GTE) (g : GTG) : GTS := fun D ρ G => te ρ G fun d G1 => g d ρ G1 D.nx
theorem gs_asg {tg : Expr} {g : GTG} (he : GE X e te) (hg : GG X tg g) (hs : swapsWithSole [tg] e pos.line X.env = pure false := by rfl) (hw : swappedStores [tg] e X.env = pure none := by rfl)
    (h1 : (assignEach [tg] X.env).map (·.2) = [assign tg X.env] := by rfl) : GS X (.Assign [tg] e pos) (gAsg te g) :=
  PS.weak (ps_asg he hg hs hw h1) fun E σ H ⟨ρ, G, D, rs, g, q, l⟩ => ⟨ρ, G, _, rs, g, q, fun v H1 d G1 k1 g1 h1 q1 =>
    ⟨ρ, G1, _, d, rs.mono k1, g1, h1, q1, fun σ2 H2 ρ2 G2 k2 => l.nx σ2 H2 ρ2 G2 (k1.trans k2)⟩⟩
theorem gs_set {i : Nat} {x : Str} {pos' : Pos} (hN : X.N.Nodup) (he : GE X e te) (hi : X.N[i]? = some x := by rfl) (hx : Loc X.env.scope x := by first | exact Or.inl rfl | exact Or.inr rfl)
    (hs : swapsWith e (some (.Name x pos')) pos.line X.env = pure false := by rfl) (hf : X.fn x = true ∨ X.env.scope.names.lookup x = some .local := by first | exact .inl rfl | exact .inr rfl) :
    GS X (.Assign [.Name x pos'] e pos) (gAsg te (gName i)) :=
  PS.weak (ps_set hN hi hx he hs hf) fun E σ H ⟨ρ, G, D, rs, g, q, l⟩ => ⟨ρ, G, _, rs, g, q, fun v H1 d G1 k1 g1 h1 q1 => l.nx _ H1 _ G1 k1 ((rs.mono k1).set h1 i) g1 q1⟩
/-- x, y = a, b -/
@[simp] def gPar (i j : Nat) (ta tb : GTE) : GTS := fun D ρ G => ta ρ G fun d G1 => tb ρ G1 fun e G2 => D.nx ((ρ.set i (some d)).set j (some e)) G2
theorem gs_par {i j : Nat} {x y : Str} {a b : Expr} {ta tb : GTE} {px py pt : Pos} {kt k2 pt2} (hN : X.N.Nodup) (ha : GA X [a, b] [ta, tb]) (hc : X.calm = true := by rfl) (hi : X.N[i]? = some x := by rfl) (hj : X.N[j]? = some y := by rfl) (hij : i ≠ j := by decide)
    (hx : X.env.scope.names.lookup x = some .local := by rfl) (hy : X.env.scope.names.lookup y = some .local := by rfl)
    (hw : swappedStores [.Tuple [.Name x px, .Name y py] kt pt] (.Tuple [a, b] k2 pt2) X.env = pure (some [x, y]) := by rfl)
    (hs : swapsWithSole [.Tuple [.Name x px, .Name y py] kt pt] (.Tuple [a, b] k2 pt2) pos.line X.env = pure false := by rfl) :
    GS X (.Assign [.Tuple [.Name x px, .Name y py] kt pt] (.Tuple [a, b] k2 pt2) pos) (gPar i j ta tb) :=
  PS.weak (ps_par hc hN hi hj hij hx hy ha hw hs) fun E σ H ⟨ρ, G, D, rs, g, q, l⟩ => by
    refine ⟨ρ, G, _, rs, g, q, fun v H1 d G1 k1 g1 h1 q1 => ⟨ρ, G1, _, rs.mono k1, g1, q1, fun v2 H2 d2 G2 k2 g2 h2 q2 => ?_⟩⟩
    exact ⟨v, v2, rfl, l.nx _ H2 _ G2 (k1.trans k2) ((((rs.mono k1).mono k2).set (h1.mono k2) i).set h2 j) g2 q2⟩
/-- x op= e -/
def GIp (X : Cx) (op : Operator) (r : GR2) : Prop := PIp X op (upR X.prog X.w X.K r)
def gAug (i : Nat) (te : GTE) (r : GR2) : GTS := fun D ρ G => ∃ x, ρ[i]? = some (some x) ∧ te ρ G fun y G1 => r x y G1 fun z G2 => D.nx (ρ.set i (some z)) G2
theorem gs_aug {i : Nat} {x : Str} {op : Operator} {r : GR2} {pos' : Pos} (hN : X.N.Nodup) (he : GE X e te) (ho : GIp X op r) (hi : X.N[i]? = some x := by rfl) (hx : Loc X.env.scope x := by first | exact Or.inl rfl | exact Or.inr rfl)
    (hf : X.fn x = true ∨ X.env.scope.names.lookup x = some .local := by first | exact .inl rfl | exact .inr rfl) : GS X (.AugAssign (.Name x pos') op e pos) (gAug i te r) :=
  PS.weak (ps_aug hN hi hx he ho hf) fun E σ H ⟨ρ, G, D, rs, g, ⟨x, ex, q⟩, l⟩ => by
    obtain ⟨v0, e0, h0⟩ := rs.at_ i x ex
    refine ⟨v0, e0, ρ, G, _, rs, g, q, fun v H1 d G1 k1 g1 h1 q1 => ?_⟩
    exact ⟨G1, _, x, d, g1, h0.mono k1, h1, q1, fun v2 H2 d2 G2 k2 g2 h2 q2 => l.nx _ H2 _ G2 (k1.trans k2) (((rs.mono k1).mono k2).set h2 i) g2 q2⟩
/-- o[i] = v, by values -/
def GSet (X : Cx) (t : D → D → D → Gp → (Gp → Prop) → Prop) : Prop :=
  PSet X fun o i v H Q => ∃ G R a b c, GH X.prog X.w X.K G H ∧ Dat X.K H o a ∧ Dat X.K H i b ∧ Dat X.K H v c ∧ t a b c G R ∧ ∀ H' G', TK H H' → GH X.prog X.w X.K G' H' → R G' → Q H'
@[simp] def gSubT (to ti : GTE) (t : D → D → D → Gp → (Gp → Prop) → Prop) : GTG := fun v ρ G Q => to ρ G fun o G1 => ti ρ G1 fun i G2 => t o i v G2 fun G3 => Q ρ G3
theorem gg_sub {o i : Expr} {to ti : GTE} {t : D → D → D → Gp → (Gp → Prop) → Prop} (ho : GE X o to) (hi : GE X i ti) (hs : GSet X t)
    (ha : ∀ v, assign (.Subscript o i pos) X.env v = (do
      let ov ← holding [v] (eval o X.env)
      let iv ← holding [v, ov] (eval i X.env)
      standAt pos
      holding [v, ov, iv] (setItem ov iv v)
      release [v, ov, iv] []) := by intro _; rfl) : GG X (.Subscript o i pos) (gSubT to ti t) :=
  PG.weak (pg_sub ho hi hs ha) fun v σ H Q ⟨ρ, G, R, d, rs, g, h, q, k⟩ => by
    refine ⟨ρ, G, _, rs, g, q, fun v1 H1 d1 G1 k1 g1 h1 q1 => ⟨ρ, G1, _, rs.mono k1, g1, q1, fun v2 H2 d2 G2 k2 g2 h2 q2 => ?_⟩⟩
    exact ⟨G2, _, d1, d2, d, g2, h1.mono k2, h2, (h.mono k1).mono k2, q2, fun H3 G3 k3 g3 q3 => k σ H3 ρ G3 ((k1.trans k2).trans k3) (((rs.mono k1).mono k2).mono k3) g3 q3⟩
end

/-! ### loops -/
section
variable {X : Cx} {pos : Pos}
/-- W: the invariant with its measure -/
def gWhile (c : GTT) (tb : GTS) : GTS := fun D ρ G => ∃ W : Nat → Ro → Gp → Prop, (∃ m, W m ρ G) ∧ ∀ m ρ G, W m ρ G →
  c ρ G fun b G1 => if b = true then tb { D with nx := fun ρ' G' => ∃ m', m' < m ∧ W m' ρ' G', ct := fun ρ' G' => ∃ m', m' < m ∧ W m' ρ' G', bk := D.nx } ρ G1 else D.nx ρ G1
theorem gs_while {c : Expr} {body : List Stmt} {tc : GTT} {tb : GTS} (hc : GT X c tc) (hb : GSs X body tb) (hp : PassesOwn (model X.prog X.w) X.A X.env X.xe := by exact PassesOwn.never) : GS X (.While c body [] pos) (gWhile tc tb) :=
  PS.weak (ps_while hp hc hb) fun E σ H ⟨ρ, G, D, rs, g, ⟨W, ⟨m, w0⟩, turn⟩, l⟩ => by
    refine ⟨fun m σ H' => ∃ ρ G, TK H H' ∧ RS X.K H' σ ρ ∧ GH X.prog X.w X.K G H' ∧ W m ρ G, ⟨m, ρ, G, TK.refl, rs, g, w0⟩, ?_⟩
    rintro m1 σ1 H1 ⟨ρ1, G1, k1, rs1, g1, w1⟩
    refine ⟨ρ1, G1, _, rs1, g1, turn m1 ρ1 G1 w1, fun b H2 G2 k2 g2 q2 => ?_⟩
    cases b with
    | false => exact l.nx σ1 H2 ρ1 G2 (k1.trans k2) (rs1.mono k2) g2 q2
    | true =>
      rw [if_pos rfl] at q2 ⊢
      refine ⟨fun σ' H' => ∃ m', m' < m1 ∧ ∃ ρ G, TK H H' ∧ RS X.K H' σ' ρ ∧ GH X.prog X.w X.K G H' ∧ W m' ρ G, fun σ' H' h => h, ρ1, G2, _, rs1.mono k2, g2, q2, ?_⟩
      exact ⟨fun σ' H' ρ' G' k rs' g' ⟨m', hm, w'⟩ => ⟨m', hm, ρ', G', (k1.trans k2).trans k, rs', g', w'⟩, fun v H' d G' k => l.rt v H' d G' ((k1.trans k2).trans k),
        fun σ' H' ρ' G' k => l.nx σ' H' ρ' G' ((k1.trans k2).trans k), fun σ' H' ρ' G' k rs' g' ⟨m', hm, w'⟩ => ⟨m', hm, ρ', G', (k1.trans k2).trans k, rs', g', w'⟩⟩
/-- over a list that stays -/
def gForL (ti : GTE) (g : GTG) (tb : GTS) : GTS := fun Z ρ G => ti ρ G fun x G0 => ∃ (a : Addr) (ds : List D) (W : Nat → Ro → Gp → Prop), x = .ref a ∧ W 0 ρ G0 ∧ (∀ i ρ G, W i ρ G → G a = some (.lst ds)) ∧
  (∀ i d ρ G, ds[i]? = some d → W i ρ G → g d ρ G fun ρ2 G2 => tb { Z with nx := W (i + 1), ct := W (i + 1), bk := Z.nx } ρ2 G2) ∧ ∀ ρ G, W ds.length ρ G → Z.nx ρ G
theorem list_of {P : Program} {w : World} {K : PySem.W.Frag} {H : Hp} {G : Gp} {a : Addr} {ds : List D} (g : GH P w K G H) (h : G a = some (.lst ds)) : ∃ vs, H a = some (.lst vs) ∧ DatL K H vs ds := by
  obtain ⟨_, vs, e, d⟩ := g a _ h
  exact ⟨vs, e, d⟩
theorem gs_forL {tg iter : Expr} {body : List Stmt} {ti : GTE} {g : GTG} {tb : GTS} (hi : GE X iter ti) (hg : GG X tg g) (hb : GSs X body tb) (hc : X.calm = true := by rfl) (hp : PassesOwn (model X.prog X.w) X.A X.env X.xe := by exact PassesOwn.never)
    (hs : ∀ x, foldedSetIterable iter X.env x = pure x := by intro _; rfl) : GS X (.For tg iter body [] pos) (gForL ti g tb) :=
  PS.weak (ps_for hp hc (pi_list hi) hg hb hs) fun E σ H ⟨ρ, G, D, rs, g0, q, l⟩ => by
    refine ⟨ρ, G, _, rs, g0, q, fun v H1 d G1 k1 g1 h1 ⟨a, ds, W, e, w0, src, turn, fin⟩ => ?_⟩
    subst e
    cases dat_ref h1
    obtain ⟨vs, ev, dv⟩ := list_of g1 (src 0 ρ G1 w0)
    refine ⟨a, rfl, ⟨vs, SqL.of ev⟩, ?_⟩
    refine ⟨fun i m σ' H' => ∃ ρ' G', m = ds.length - i ∧ i ≤ ds.length ∧ TK H H' ∧ RS X.K H' σ' ρ' ∧ GH X.prog X.w X.K G' H' ∧ W i ρ' G', ⟨ds.length, ρ, G1, by simp, Nat.zero_le _, k1, rs.mono k1, g1, w0⟩, ?_⟩
    rintro i m σ2 H2 ⟨ρ2, G2, rfl, hi2, k2, rs2, g2, w2⟩
    obtain ⟨vs2, ev2, dv2⟩ := list_of g2 (src i ρ2 G2 w2)
    by_cases hlt : i < ds.length
    · refine .inr ⟨⟨vs2, vs2[i]'(by rw [dv2.length]; exact hlt), SqL.of ev2, by simp⟩, fun σ' H' => ∃ ρ' G', TK H H' ∧ RS X.K H' σ' ρ' ∧ GH X.prog X.w X.K G' H' ∧ W (i + 1) ρ' G',
        fun σ' H' ⟨ρ', G', r⟩ => ⟨ds.length - (i + 1), by omega, ρ', G', rfl, hlt, r⟩, fun x H' y => ?_⟩
      obtain ⟨rfl, y⟩ := y
      obtain ⟨d, ed, hd⟩ := dv2.get (y vs2 (SqL.of ev2))
      refine ⟨ρ2, G2, _, d, rs2, g2, hd, turn i d ρ2 G2 ed w2, fun σ3 H3 ρ3 G3 k3 rs3 g3 q3 => ⟨ρ3, G3, _, rs3, g3, q3, ?_⟩⟩
      exact ⟨fun σ' H' ρ' G' k rs' g' w' => ⟨ρ', G', (k2.trans k3).trans k, rs', g', w'⟩, fun v H' d G' k => l.rt v H' d G' ((k2.trans k3).trans k),
        fun σ' H' ρ' G' k => l.nx σ' H' ρ' G' ((k2.trans k3).trans k), fun σ' H' ρ' G' k rs' g' w' => ⟨ρ', G', (k2.trans k3).trans k, rs', g', w'⟩⟩
    · have e : i = ds.length := by omega
      subst e
      exact .inl ⟨⟨vs2, SqL.of ev2, by rw [dv2.length]; exact Nat.le_refl _⟩, l.nx σ2 H2 ρ2 G2 k2 rs2 g2 (fin ρ2 G2 w2)⟩
/-- over a tuple -/
def gForT (ti : GTE) (g : GTG) (tb : GTS) : GTS := fun Z ρ G => ti ρ G fun x G0 => ∃ (ds : List D) (W : Nat → Ro → Gp → Prop), x = .tup ds ∧ W 0 ρ G0 ∧
  (∀ i d ρ G, ds[i]? = some d → W i ρ G → g d ρ G fun ρ2 G2 => tb { Z with nx := W (i + 1), ct := W (i + 1), bk := Z.nx } ρ2 G2) ∧ ∀ ρ G, W ds.length ρ G → Z.nx ρ G
theorem gs_forT {tg iter : Expr} {body : List Stmt} {ti : GTE} {g : GTG} {tb : GTS} (hi : GE X iter ti) (hg : GG X tg g) (hb : GSs X body tb) (hc : X.calm = true := by rfl) (hp : PassesOwn (model X.prog X.w) X.A X.env X.xe := by exact PassesOwn.never)
    (hs : ∀ x, foldedSetIterable iter X.env x = pure x := by intro _; rfl) : GS X (.For tg iter body [] pos) (gForT ti g tb) :=
  PS.weak (ps_for hp hc (pi_tup hi) hg hb hs) fun E σ H ⟨ρ, G, D, rs, g0, q, l⟩ => by
    refine ⟨ρ, G, _, rs, g0, q, fun v H1 d G1 k1 g1 h1 ⟨es, W, e, w0, turn, fin⟩ => ?_⟩
    subst e
    obtain ⟨a, vs, rfl, hs1, hd1⟩ := dat_tup h1
    refine ⟨a, rfl, ⟨vs, hs1⟩, ?_⟩
    refine ⟨fun i m σ' H' => ∃ ρ' G', m = es.length - i ∧ i ≤ es.length ∧ TK H H' ∧ TK H1 H' ∧ RS X.K H' σ' ρ' ∧ GH X.prog X.w X.K G' H' ∧ W i ρ' G', ⟨es.length, ρ, G1, by simp, Nat.zero_le _, k1, TK.refl, rs.mono k1, g1, w0⟩, ?_⟩
    rintro i m σ2 H2 ⟨ρ2, G2, rfl, hi2, k2, k12, rs2, g2, w2⟩
    have ev2 := k12.sqT hs1
    have dv2 := hd1.mono k12
    by_cases hlt : i < es.length
    · refine .inr ⟨⟨vs, vs[i]'(by rw [dv2.length]; exact hlt), ev2, by simp⟩, fun σ' H' => ∃ ρ' G', TK H H' ∧ TK H1 H' ∧ RS X.K H' σ' ρ' ∧ GH X.prog X.w X.K G' H' ∧ W (i + 1) ρ' G',
        fun σ' H' ⟨ρ', G', r⟩ => ⟨es.length - (i + 1), by omega, ρ', G', rfl, hlt, r⟩, fun x H' y => ?_⟩
      obtain ⟨rfl, y⟩ := y
      obtain ⟨d, ed, hd⟩ := dv2.get (y vs ev2)
      refine ⟨ρ2, G2, _, d, rs2, g2, hd, turn i d ρ2 G2 ed w2, fun σ3 H3 ρ3 G3 k3 rs3 g3 q3 => ⟨ρ3, G3, _, rs3, g3, q3, ?_⟩⟩
      exact ⟨fun σ' H' ρ' G' k rs' g' w' => ⟨ρ', G', (k2.trans k3).trans k, (k12.trans k3).trans k, rs', g', w'⟩, fun v H' d G' k => l.rt v H' d G' ((k2.trans k3).trans k),
        fun σ' H' ρ' G' k => l.nx σ' H' ρ' G' ((k2.trans k3).trans k), fun σ' H' ρ' G' k rs' g' w' => ⟨ρ', G', (k2.trans k3).trans k, (k12.trans k3).trans k, rs', g', w'⟩⟩
    · have e : i = es.length := by omega
      subst e
      exact .inl ⟨⟨vs, ev2, by rw [dv2.length]; exact Nat.le_refl _⟩, l.nx σ2 H2 ρ2 G2 k2 rs2 g2 (fin ρ2 G2 w2)⟩
/-- over range(a) -/
def gForR (ti : GTE) (g : GTG) (tb : GTS) : GTS := fun D ρ G => ti ρ G fun x G0 => ∃ (j : Int) (W : Nat → Ro → Gp → Prop), x = .int j ∧ j < 2 ^ 62 ∧ -(2 ^ 62) ≤ j ∧ W 0 ρ G0 ∧
  (∀ (i : Nat) ρ G, (i : Int) < j → W i ρ G → g (.int i) ρ G fun ρ2 G2 => tb { D with nx := W (i + 1), ct := W (i + 1), bk := D.nx } ρ2 G2) ∧ ∀ ρ G, W j.toNat ρ G → D.nx ρ G
theorem gs_forR {tg a : Expr} {body : List Stmt} {ti : GTE} {g : GTG} {tb : GTS} {p pp : Pos} (hgl : Gl X "range") (hm : X.mg "range" = none) (hi : GA X [a] [ti]) (hg : GG X tg g) (hb : GSs X body tb) (hc : X.calm = true := by rfl) (hp : PassesOwn (model X.prog X.w) X.A X.env X.xe := by exact PassesOwn.never)
    (hst : starEach [a] X.env = [(false, eval a X.env)] := by rfl) (hs : ∀ x, foldedSetIterable (.Call (.Name "range" p) [a] [] pp) X.env x = pure x := by intro _; rfl) : GS X (.For tg (.Call (.Name "range" p) [a] [] pp) body [] pos) (gForR ti g tb) :=
  PS.weak (ps_for hp hc (pi_range1 hgl hm hi hst) hg hb hs) fun E σ H ⟨ρ, G, D, rs, g0, q, l⟩ => by
    refine ⟨ρ, G, _, rs, g0, q, fun v H1 d G1 k1 g1 h1 ⟨j, W, e, j1, j2, w0, turn, fin⟩ => ?_⟩
    subst e
    cases dat_int h1
    refine ⟨j, rfl, j2, j1, for_range (lo := 0) (n := j.toNat) (fun i σ' H' => ∃ ρ' G', TK H H' ∧ RS X.K H' σ' ρ' ∧ GH X.prog X.w X.K G' H' ∧ W i ρ' G') ⟨ρ, G1, k1, rs.mono k1, g1, w0⟩ (fun i σ2 H2 hi ⟨ρ2, G2, k2, rs2, g2, w2⟩ => ?_) fun σ2 H2 ⟨ρ2, G2, k2, rs2, g2, w2⟩ => l.nx σ2 H2 ρ2 G2 k2 rs2 g2 (fin ρ2 G2 w2)⟩
    refine ⟨ρ2, G2, _, .int i, rs2, g2, by rw [Int.zero_add]; exact .int _, turn i ρ2 G2 (by omega) w2, fun σ3 H3 ρ3 G3 k3 rs3 g3 q3 => ⟨ρ3, G3, _, rs3, g3, q3, ?_⟩⟩
    exact ⟨fun σ' H' ρ' G' k rs' g' w' => ⟨ρ', G', (k2.trans k3).trans k, rs', g', w'⟩, fun v H' d G' k => l.rt v H' d G' ((k2.trans k3).trans k),
      fun σ' H' ρ' G' k => l.nx σ' H' ρ' G' ((k2.trans k3).trans k), fun σ' H' ρ' G' k rs' g' w' => ⟨ρ', G', (k2.trans k3).trans k, rs', g', w'⟩⟩
/-- over range(a, b) -/
def gForR2 (ti tj : GTE) (g : GTG) (tb : GTS) : GTS := fun D ρ G => ti ρ G fun x G0 => tj ρ G0 fun y G1 => ∃ (lo hi : Int) (W : Nat → Ro → Gp → Prop), x = .int lo ∧ y = .int hi ∧ (-(2 ^ 62) ≤ lo ∧ lo < 2 ^ 62 ∧ -(2 ^ 62) ≤ hi ∧ hi < 2 ^ 62) ∧ W 0 ρ G1 ∧
  (∀ (i : Nat) ρ G, lo + (i : Int) < hi → W i ρ G → g (.int (lo + i)) ρ G fun ρ2 G2 => tb { D with nx := W (i + 1), ct := W (i + 1), bk := D.nx } ρ2 G2) ∧ ∀ ρ G, W (hi - lo).toNat ρ G → D.nx ρ G
theorem gs_forR2 {tg a b : Expr} {body : List Stmt} {ti tj : GTE} {g : GTG} {tb : GTS} {p pp : Pos} (hgl : Gl X "range") (hm : X.mg "range" = none) (hi : GA X [a, b] [ti, tj]) (hg : GG X tg g) (hb : GSs X body tb) (hc : X.calm = true := by rfl) (hp : PassesOwn (model X.prog X.w) X.A X.env X.xe := by exact PassesOwn.never)
    (hst : starEach [a, b] X.env = [(false, eval a X.env), (false, eval b X.env)] := by rfl) (hst2 : starEach [b] X.env = [(false, eval b X.env)] := by rfl) (hs : ∀ x, foldedSetIterable (.Call (.Name "range" p) [a, b] [] pp) X.env x = pure x := by intro _; rfl) :
    GS X (.For tg (.Call (.Name "range" p) [a, b] [] pp) body [] pos) (gForR2 ti tj g tb) :=
  PS.weak (ps_for hp hc (pi_range2 hgl hm hi hst hst2) hg hb hs) fun E σ H ⟨ρ, G, D, rs, g0, q, l⟩ => by
    refine ⟨ρ, G, _, rs, g0, q, fun v0 H0 d0 G00 k0 g00 h0 q0 => ⟨ρ, G00, _, rs.mono k0, g00, q0, fun v H1 d G1 k01 g1 h1 ⟨lo, hi, W, e0, e, bd, w0, turn, fin⟩ => ?_⟩⟩
    subst e e0
    have k1 := k0.trans k01
    cases dat_int h1
    cases dat_int h0
    refine ⟨lo, hi, rfl, bd, for_range (lo := lo) (n := (hi - lo).toNat) (fun i σ' H' => ∃ ρ' G', TK H H' ∧ RS X.K H' σ' ρ' ∧ GH X.prog X.w X.K G' H' ∧ W i ρ' G') ⟨ρ, G1, k1, rs.mono k1, g1, w0⟩ (fun i σ2 H2 hi ⟨ρ2, G2, k2, rs2, g2, w2⟩ => ?_) fun σ2 H2 ⟨ρ2, G2, k2, rs2, g2, w2⟩ => l.nx σ2 H2 ρ2 G2 k2 rs2 g2 (fin ρ2 G2 w2)⟩
    refine ⟨ρ2, G2, _, .int (lo + i), rs2, g2, .int _, turn i ρ2 G2 (by omega) w2, fun σ3 H3 ρ3 G3 k3 rs3 g3 q3 => ⟨ρ3, G3, _, rs3, g3, q3, ?_⟩⟩
    exact ⟨fun σ' H' ρ' G' k rs' g' w' => ⟨ρ', G', (k2.trans k3).trans k, rs', g', w'⟩, fun v H' d G' k => l.rt v H' d G' ((k2.trans k3).trans k),
      fun σ' H' ρ' G' k => l.nx σ' H' ρ' G' ((k2.trans k3).trans k), fun σ' H' ρ' G' k rs' g' w' => ⟨ρ', G', (k2.trans k3).trans k, rs', g', w'⟩⟩
end

/-! ### defs -/
abbrev GSp := List D → Gp → GK → Prop
def lift (P : Program) (w : World) (K : PySem.W.Frag) (sp : GSp) : Sp := fun vs H Q _ => ∃ ds G R, DatL K H vs ds ∧ GH P w K G H ∧ sp ds G R ∧ ∀ v H' d G', TK H H' → GH P w K G' H' → Dat K H' v d → R d G' → Q v H'
def FnG (P : Program) (w : World) (K : PySem.W.Frag) (mg : Str → Option Value) (base : Heap) (k : Nat) (f : Addr) (fd : FuncData) (ps : List Str) (sp : GSp) : Prop := FnOk P w K mg base CX0 k f fd ps (lift P w K sp)
section
variable {X : Cx} {pos p : Pos} {e : Expr} {es : List Expr} {te : GTE} {ts : List GTE} {k : Nat} {f : Addr} {fd : FuncData} {ps : List Str} {sp : GSp} {x : Str}
@[simp] def gCall (sp : GSp) (ts : List GTE) : GTE := fun ρ G Q => gArgs ts ρ G fun ds G1 => sp ds G1 Q
theorem ge_call (F : FnG X.prog X.w X.K X.mg X.base k f fd ps sp) (hr : Room k X.A) (hm : X.mg x = some (.ref f)) (hk : PySem.W.keepIn X.K (.ref f) = true) (hb : Binds X.K fd ps [])
    (ha : GA X (e :: es) ts) (hg : Gl X x := by rfl) (hdb : (x == ("__debug__" : Str)) = false := by decide) (he : starEach (e :: es) X.env = (false, eval e X.env) :: starEach es X.env := by rfl) (hpl : (backTo pos (starEach es X.env)).any (·.1) = false := by rfl) :
    GE X (.Call (.Name x p) (e :: es) [] pos) (gCall sp ts) :=
  ge_of (pe_call F hr hg hm hk hb .nil pass0 ha hdb he hpl) fun σ H ρ G R Q rs g q k => args_up ts rs g q fun vs H1 ds G1 k1 g1 h1 l q1 => by
    refine ⟨ds, G1, R, ?_, g1, q1, fun v H' d G' k2 => k v H' d G' (k1.trans k2)⟩
    rw [List.append_nil]
    exact h1
theorem ge_call0 (F : FnG X.prog X.w X.K X.mg X.base k f fd ps sp) (hr : Room k X.A) (hm : X.mg x = some (.ref f)) (hk : PySem.W.keepIn X.K (.ref f) = true) (hb : Binds X.K fd ps [])
    (hg : Gl X x := by rfl) (hdb : (x == ("__debug__" : Str)) = false := by decide) : GE X (.Call (.Name x p) [] [] pos) (gCall sp []) :=
  ge_of (pe_call0 F hr hg hm hk hb .nil pass0 hdb) fun σ H ρ G R Q rs g q k => ⟨[], G, R, .nil, g, q, fun v H' d G' k2 => k v H' d G' k2⟩
/-- built-ins by name -/
@[simp] def gCB (r : List D → Gp → GK → Prop) (ts : List GTE) : GTE := fun ρ G Q => gArgs ts ρ G fun ds G1 => r ds G1 Q
theorem ge_cb {id : String} {r : List D → Gp → GK → Prop} (hc : GCall X (.builtin id) r) (hm : X.mg x = none) (hv : bootBuiltins x = some (.builtin id)) (ha : GA X (e :: es) ts) (hg : Gl X x := by rfl) (hn : x ≠ "__name__" := by decide) (hdb : (x == ("__debug__" : Str)) = false := by decide)
    (he : starEach (e :: es) X.env = (false, eval e X.env) :: starEach es X.env := by rfl) (hpl : (backTo pos (starEach es X.env)).any (·.1) = false := by rfl) : GE X (.Call (.Name x p) (e :: es) [] pos) (gCB r ts) :=
  ge_of (pe_callB hc hg hm hv ha hn hdb he hpl) fun σ H ρ G R Q rs g q k => args_up ts rs g q fun vs H1 ds G1 k1 g1 h1 l q1 =>
    ⟨G1, R, ds, g1, h1, q1, fun v H' d G' k2 => k v H' d G' (k1.trans k2)⟩
theorem ge_ct {T : String} {r : List D → Gp → GK → Prop} (hc : GCall X (.type T) r) (hm : X.mg x = none) (hv : bootBuiltins x = some (.type T)) (ha : GA X (e :: es) ts) (hg : Gl X x := by rfl) (hn : x ≠ "__name__" := by decide) (hdb : (x == ("__debug__" : Str)) = false := by decide)
    (he : starEach (e :: es) X.env = (false, eval e X.env) :: starEach es X.env := by rfl) (hpl : (backTo pos (starEach es X.env)).any (·.1) = false := by rfl) : GE X (.Call (.Name x p) (e :: es) [] pos) (gCB r ts) :=
  ge_of (pe_callTy hc hg hm hv ha hn hdb he hpl) fun σ H ρ G R Q rs g q k => args_up ts rs g q fun vs H1 ds G1 k1 g1 h1 l q1 =>
    ⟨G1, R, ds, g1, h1, q1, fun v H' d G' k2 => k v H' d G' (k1.trans k2)⟩
end
/-- THE RULE for a def; the heap may be told in other words at the entry -/
theorem fn_gO {P : Program} {w : World} {K : PySem.W.Frag} {mg : Str → Option Value} {base : Heap} {x : Str} {st : Stmt} {f : Addr} {fd : FuncData} {N ps : List Str} {k : Nat} {sp : GSp}
    (F : FunD K x x (defArgs st) (defBody st) (defScope st) [] [] f fd) (S : FnScope N ps (defScope st)) (len : ∀ ds G R, sp ds G R → ds.length = ps.length)
    (body : ∃ t : GTS, (∀ (cdv : Value) (A : Around) (outer : List Env) (s : Shared) (H : Hp) (E : XK), Room k (A.deeper (envOfC x (defScope st) s.heap.objs.size f cdv)) → GSs (cxOf CX0 P w K mg base N x (defScope st) f cdv A outer s H E).nox (defBody st) t) ∧
      ∀ ds G R H, sp ds G R → GH P w K G H → ∃ G1, GH P w K G1 H ∧ t { nx := fun _ G' => R .non G', rt := R } (ds.map some ++ List.replicate (N.length - ds.length) none) G1) :
    FnG P w K mg base (k + 1) f fd ps sp := by
  obtain ⟨t, hb, hq⟩ := body
  refine F.ok S (fun vs H Q E ⟨ds, G, R, h, g, q, _⟩ => by rw [h.length]; exact len ds G R q) (fun cdv A outer s H vs Q E hr ⟨ds, G, R, h, g, q, kk⟩ => ?_)
  obtain ⟨G1, g1, q1⟩ := hq ds G R H q g
  refine ⟨upS P w K t, PSs.nox ?_, ds.map some ++ List.replicate (N.length - ds.length) none, G1, _, ?_, g1, q1, ?_⟩
  · exact hb cdv A outer s H E hr
  · unfold L2.start
    rw [h.length]
    exact RS.start h _
  · exact ⟨fun σ' H' ρ' G' k1 rs' g' q' => kk _ H' _ G' k1 g' .non q', fun v H' d G' k1 g' h' q' => kk v H' d G' k1 g' h' q', fun _ _ _ _ _ _ _ z => z.elim, fun _ _ _ _ _ _ _ z => z.elim⟩
theorem fn_g {P : Program} {w : World} {K : PySem.W.Frag} {mg : Str → Option Value} {base : Heap} {x : Str} {st : Stmt} {f : Addr} {fd : FuncData} {N ps : List Str} {k : Nat} {sp : GSp}
    (F : FunD K x x (defArgs st) (defBody st) (defScope st) [] [] f fd) (S : FnScope N ps (defScope st)) (len : ∀ ds G R, sp ds G R → ds.length = ps.length)
    (body : ∃ t : GTS, (∀ (cdv : Value) (A : Around) (outer : List Env) (s : Shared) (H : Hp) (E : XK), Room k (A.deeper (envOfC x (defScope st) s.heap.objs.size f cdv)) → GSs (cxOf CX0 P w K mg base N x (defScope st) f cdv A outer s H E).nox (defBody st) t) ∧
      ∀ ds G R, sp ds G R → t { nx := fun _ G' => R .non G', rt := R } (ds.map some ++ List.replicate (N.length - ds.length) none) G) :
    FnG P w K mg base (k + 1) f fd ps sp :=
  fn_gO F S len (let ⟨t, hb, hq⟩ := body; ⟨t, hb, fun ds G R H q g => ⟨G, g, hq ds G R q⟩⟩)
end G
set_option Elab.async false
set_option linter.all false
set_option maxRecDepth 100000
set_option maxHeartbeats 4000000
namespace G
open PySem PySem.Spec PyProof.Rows L2

/-! ### data -/
mutual
def toP : D → PyData
  | .non => .none
  | .bl b => .bool b
  | .int i => .int i
  | .str x => .str x
  | .tup xs => .tuple (toPs xs)
  | .ref _ => .none
  | .frl _ => .none
def toPs : List D → List PyData
  | [] => []
  | x :: xs => toP x :: toPs xs
end
theorem toPs_map : ∀ xs : List D, toPs xs = xs.map toP
  | [] => rfl
  | x :: xs => by rw [toPs, List.map_cons, toPs_map xs]
mutual
theorem plain_toP : ∀ d : D, (toP d).plain = true
  | .non => rfl
  | .bl b => rfl
  | .int i => rfl
  | .str x => rfl
  | .tup xs => by rw [toP, PyData.plain]; exact plain_toPs xs
  | .ref _ => rfl
  | .frl _ => rfl
theorem plain_toPs : ∀ ds : List D, PyData.plainAll (toPs ds) = true
  | [] => rfl
  | x :: xs => by rw [toPs, PyData.plainAll, plain_toP x, plain_toPs xs]; rfl
end
mutual
theorem eqv_toP : ∀ {n m : Nat} {a b : D}, okey n a = true → okey m b = true → PyData.eqv (toP a) (toP b) = D.beq a b
  | n, m, .non, b, ha, hb => by cases b <;> first | rfl | (cases m <;> simp [okey] at hb)
  | n, m, .int i, b, ha, hb => by
    cases b with
    | int j => simp only [toP, PyData.eqv, D.beq]; exact PySem.W.beq_decide i j
    | non => rfl
    | str y => rfl
    | tup y => rfl
    | bl y => cases m <;> simp [okey] at hb
    | ref y => cases m <;> simp [okey] at hb
    | frl y => cases m <;> simp [okey] at hb
  | n, m, .str x, b, ha, hb => by
    cases b with
    | str j => simp only [toP, PyData.eqv, D.beq]; exact PySem.W.beq_decide x j
    | non => rfl
    | int y => rfl
    | tup y => rfl
    | bl y => cases m <;> simp [okey] at hb
    | ref y => cases m <;> simp [okey] at hb
    | frl y => cases m <;> simp [okey] at hb
  | 0, m, .tup xs, b, ha, hb => by simp [okey] at ha
  | n + 1, m, .tup xs, b, ha, hb => by
    cases b with
    | tup ys =>
      cases m with
      | zero => simp [okey] at hb
      | succ m =>
        simp only [toP, PyData.eqv, D.beq]
        exact eqv_toPs (n := n) (m := m) (by simpa [okey] using ha) (by simpa [okey] using hb)
    | non => rfl
    | int y => rfl
    | str y => rfl
    | bl y => cases m <;> simp [okey] at hb
    | ref y => cases m <;> simp [okey] at hb
    | frl y => cases m <;> simp [okey] at hb
  | n, m, .bl _, b, ha, hb => by cases n <;> simp [okey] at ha
  | n, m, .ref _, b, ha, hb => by cases n <;> simp [okey] at ha
  | n, m, .frl _, b, ha, hb => by cases n <;> simp [okey] at ha
theorem eqv_toPs : ∀ {n m : Nat} {a b : List D}, okeyAll n a = true → okeyAll m b = true → PyData.eqvAll (toPs a) (toPs b) = D.beqAll a b
  | n, m, [], b, ha, hb => by cases b <;> simp [toPs, PyData.eqvAll, D.beqAll]
  | n, m, x :: xs, b, ha, hb => by
    cases b with
    | nil => simp [toPs, PyData.eqvAll, D.beqAll]
    | cons y ys =>
      simp only [okeyAll, Bool.and_eq_true] at ha hb
      simp only [toPs, PyData.eqvAll, D.beqAll]
      rw [eqv_toP ha.1 hb.1, eqv_toPs ha.2 hb.2]
end
mutual
theorem depth_toP : ∀ {n : Nat} {a : D}, okey n a = true → (toP a).depth ≤ n
  | n, .int i, h => by simp [toP, PyData.depth]
  | n, .str x, h => by simp [toP, PyData.depth]
  | 0, .tup xs, h => by simp [okey] at h
  | n + 1, .tup xs, h => by
    simp only [toP, PyData.depth]
    have := depth_toPs (n := n) (a := xs) (by simpa [okey] using h)
    omega
  | n, .non, h => by simp [toP, PyData.depth]
  | n, .bl _, h => by simp [toP, PyData.depth]
  | n, .ref _, h => by simp [toP, PyData.depth]
  | n, .frl _, h => by simp [toP, PyData.depth]
theorem depth_toPs : ∀ {n : Nat} {a : List D}, okeyAll n a = true → PyData.depthAll (toPs a) ≤ n
  | n, [], h => by simp [toPs, PyData.depthAll]
  | n, x :: xs, h => by
    simp only [okeyAll, Bool.and_eq_true] at h
    simp only [toPs, PyData.depthAll]
    exact Nat.max_le.mpr ⟨depth_toP h.1, depth_toPs h.2⟩
end
/-- data without references -/
def pureD : D → Bool := fun d => okey 8 d
section
variable {X : Cx} {pins : List (Addr × Obj)} {σ : L2.St} {H : Hp} {s : Shared}
mutual
theorem Dat.reads (I : Inv X pins σ H s) : ∀ (n : Nat) (d : D) (v : V) (u : Value), okey n d = true → Dat X.K H v d → RelV v u → ∃ as, Reads s.heap u (toP d) as
  | n, .non, v, u, hk, h, r => by cases h; cases r; exact ⟨_, Reads.none⟩
  | n, .int i, v, u, hk, h, r => by cases h; obtain ⟨t, rfl⟩ := r; exact ⟨_, Reads.int i t⟩
  | n, .str x, v, u, hk, h, r => by cases h; obtain ⟨t, rfl⟩ := r; exact ⟨_, Reads.str x t⟩
  | 0, .tup ds, v, u, hk, h, r => by simp [okey] at hk
  | n + 1, .tup ds, v, u, hk, h, r => by
    cases h with
    | tup h t =>
      cases r
      obtain ⟨its, rv, ⟨o, ho, hc, m, hd⟩, _⟩ := I.tuple h
      obtain ⟨as, hr⟩ := DatL.reads I n ds _ its (by simpa [okey] using hk) t rv
      exact ⟨_, Reads.tuple ho hc hd hr⟩
  | n, .bl b, v, u, hk, h, r => by cases h; cases r; exact ⟨_, Reads.bool b⟩
  | n, .ref _, v, u, hk, h, r => by cases n <;> simp [okey] at hk
  | n, .frl _, v, u, hk, h, r => by cases n <;> simp [okey] at hk
theorem DatL.reads (I : Inv X pins σ H s) : ∀ (n : Nat) (ds : List D) (vs : List V) (us : List Value), okeyAll n ds = true → DatL X.K H vs ds → Vals vs us → ∃ as, ReadsAll s.heap us (toPs ds) as
  | n, [], vs, us, hk, h, r => by cases h; cases r; exact ⟨_, ReadsAll.nil⟩
  | n, d :: ds, vs, us, hk, h, r => by
    cases h with
    | cons h1 h2 =>
      cases r with
      | cons r1 r2 =>
        simp only [okeyAll, Bool.and_eq_true] at hk
        obtain ⟨as, q1⟩ := Dat.reads I n d _ _ hk.1 h1 r1
        obtain ⟨bs, q2⟩ := DatL.reads I n ds _ _ hk.2 h2 r2
        exact ⟨_, ReadsAll.cons q1 q2⟩
end
end
theorem okeyAll_of {n : Nat} {ds : List D} (h : ∀ d ∈ ds, okey n d = true) : okeyAll n ds = true := by
  induction ds with
  | nil => cases n <;> rfl
  | cons d ds ih =>
    simp only [okeyAll, Bool.and_eq_true]
    exact ⟨h d List.mem_cons_self, ih fun e he => h e (List.mem_cons_of_mem _ he)⟩
theorem of_okeyAll {n : Nat} : ∀ {ds : List D}, okeyAll n ds = true → ∀ d ∈ ds, okey n d = true
  | [], _, d, hd => by cases hd
  | x :: xs, h, d, hd => by
    simp only [okeyAll, Bool.and_eq_true] at h
    rcases List.mem_cons.mp hd with e | hd
    · rw [e]; exact h.1
    · exact of_okeyAll h.2 d hd

/-! ### == and != -/
section
variable {X : Cx}
/-- of pure data, or of two truth values -/
def eqOk (d e : D) : Prop := (pureD d = true ∧ pureD e = true) ∨ ∃ a b, d = .bl a ∧ e = .bl b
@[simp] def rEq : GR2 := fun d e G Q => eqOk d e ∧ Q (.bl (decide (d = e))) G
@[simp] def rNe : GR2 := fun d e G Q => eqOk d e ∧ Q (.bl (!decide (d = e))) G
theorem eqOk_at {pins : List (Addr × Obj)} {σ : L2.St} {H : Hp} {s : Shared} {x y : V} {u v : Value} {d e : D} {A : Around} (I : Inv X pins σ H s) (h : eqOk d e) (hx : Dat X.K H x d) (hy : Dat X.K H y e) (rx : RelV x u) (ry : RelV y v) (hu : A.units + 64 < cLine) :
    ∃ as bs, Reads s.heap u (toP d) as ∧ Reads s.heap v (toP e) bs ∧ A.units + min (toP d).depth (toP e).depth < cLine ∧ PyData.eqv (toP d) (toP e) = decide (d = e) := by
  rcases h with ⟨h1, h2⟩ | ⟨a, b, rfl, rfl⟩
  · obtain ⟨as, r1⟩ := Dat.reads I 8 d x u h1 hx rx
    obtain ⟨bs, r2⟩ := Dat.reads I 8 e y v h2 hy ry
    refine ⟨as, bs, r1, r2, ?_, ?_⟩
    · have := depth_toP h1
      have := Nat.min_le_left (toP d).depth (toP e).depth
      omega
    · rw [eqv_toP h1 h2, D.decide_eq]
  · cases hx
    cases hy
    cases rx
    cases ry
    refine ⟨_, _, Reads.bool a, Reads.bool b, by simp [toP, PyData.depth]; omega, ?_⟩
    rw [D.decide_eq]
    cases a <;> cases b <;> rfl
theorem op_eqG (hr : X.A.units + 64 < cLine) : GOp X (compareOp .Eq) rEq := by
  intro pins s σ H x y v u Q I rx ry h
  obtain ⟨G, R, d, e, g, hx, hy, ⟨ok, q⟩, k⟩ := h
  obtain ⟨as, bs, r1, r2, room, ev⟩ := eqOk_at I ok hx hy rx ry hr
  exact SeqAt.eq_plain r1 r2 (plain_toP d) (plain_toP e) room ⟨.bl _, H, I, rfl, k _ H _ G TK.refl g (.bl _) (by rw [ev]; exact q)⟩
theorem op_neG (hr : X.A.units + 64 < cLine) : GOp X (compareOp .NotEq) rNe := by
  intro pins s σ H x y v u Q I rx ry h
  obtain ⟨G, R, d, e, g, hx, hy, ⟨ok, q⟩, k⟩ := h
  obtain ⟨as, bs, r1, r2, room, ev⟩ := eqOk_at I ok hx hy rx ry hr
  exact SeqAt.ne_plain r1 r2 (plain_toP d) (plain_toP e) room ⟨.bl _, H, I, rfl, k _ H _ G TK.refl g (.bl _) (by rw [ev]; exact q)⟩
/-- lists of pure data -/
@[simp] def rEqL : GR2 := fun d e G Q => ∃ a b ds es, d = .ref a ∧ e = .ref b ∧ G a = some (.lst ds) ∧ G b = some (.lst es) ∧ okeyAll 8 ds = true ∧ okeyAll 8 es = true ∧ Q (.bl (decide (ds = es))) G
@[simp] def rNeL : GR2 := fun d e G Q => ∃ a b ds es, d = .ref a ∧ e = .ref b ∧ G a = some (.lst ds) ∧ G b = some (.lst es) ∧ okeyAll 8 ds = true ∧ okeyAll 8 es = true ∧ Q (.bl (!decide (ds = es))) G
theorem decide_eqAll (a b : List D) : decide (a = b) = D.beqAll a b := by
  cases h : D.beqAll a b with
  | true => exact decide_eq_true (D.eq_of_beqAll a b h)
  | false => exact decide_eq_false fun e => by rw [e, D.beqAll_self] at h; cases h
theorem list_reads {pins : List (Addr × Obj)} {σ : L2.St} {H : Hp} {s : Shared} {a : Addr} {ds : List D} {P : Program} {w : World} {G : Gp} (I : Inv X pins σ H s) (g : GH P w X.K G H) (h : G a = some (.lst ds)) (ok : okeyAll 8 ds = true) : ∃ as, Reads s.heap (.ref a) (.list (toPs ds)) as := by
  obtain ⟨vs, e, hd⟩ := list_of g h
  obtain ⟨its, rv, ⟨o, n, ho, hc, _, hdd⟩, _⟩ := I.list (SqL.of e)
  obtain ⟨as, hr⟩ := DatL.reads I 8 ds vs its ok hd rv
  exact ⟨_, Reads.list ho hc hdd hr⟩
theorem op_eqL (hr : X.A.units + 64 < cLine) : GOp X (compareOp .Eq) rEqL := by
  intro pins s σ H x y v u Q I rx ry h
  obtain ⟨G, R, d, e, g, hx, hy, ⟨a, b, ds, es, rfl, rfl, ga, gb, oa, ob, q⟩, k⟩ := h
  cases dat_ref hx
  cases dat_ref hy
  cases rx
  cases ry
  obtain ⟨as, r1⟩ := list_reads I g ga oa
  obtain ⟨bs, r2⟩ := list_reads I g gb ob
  refine SeqAt.eq_plain r1 r2 (by rw [PyData.plain]; exact plain_toPs ds) (by rw [PyData.plain]; exact plain_toPs es) ?_ ⟨.bl _, H, I, rfl, k _ H _ G TK.refl g (.bl _) ?_⟩
  · have := depth_toPs oa
    have := Nat.min_le_left (PyData.list (toPs ds)).depth (PyData.list (toPs es)).depth
    simp only [PyData.depth] at *
    omega
  · show R (.bl (PyData.eqv (.list (toPs ds)) (.list (toPs es)))) G
    rw [PyData.eqv, eqv_toPs oa ob, ← decide_eqAll]
    exact q
theorem op_neL (hr : X.A.units + 64 < cLine) : GOp X (compareOp .NotEq) rNeL := by
  intro pins s σ H x y v u Q I rx ry h
  obtain ⟨G, R, d, e, g, hx, hy, ⟨a, b, ds, es, rfl, rfl, ga, gb, oa, ob, q⟩, k⟩ := h
  cases dat_ref hx
  cases dat_ref hy
  cases rx
  cases ry
  obtain ⟨as, r1⟩ := list_reads I g ga oa
  obtain ⟨bs, r2⟩ := list_reads I g gb ob
  refine SeqAt.ne_plain r1 r2 (by rw [PyData.plain]; exact plain_toPs ds) (by rw [PyData.plain]; exact plain_toPs es) ?_ ⟨.bl _, H, I, rfl, k _ H _ G TK.refl g (.bl _) ?_⟩
  · have := depth_toPs oa
    have := Nat.min_le_left (PyData.list (toPs ds)).depth (PyData.list (toPs es)).depth
    simp only [PyData.depth] at *
    omega
  · show R (.bl (!PyData.eqv (.list (toPs ds)) (.list (toPs es)))) G
    rw [PyData.eqv, eqv_toPs oa ob, ← decide_eqAll]
    exact q
/-! in of a tuple, of a list -/
theorem any_toPs {n m : Nat} {d : D} (hd : okey m d = true) : ∀ {ds : List D}, okeyAll n ds = true → (toPs ds).any (fun y => PyData.eqv y (toP d)) = decide (d ∈ ds)
  | [], _ => by simp [toPs]
  | x :: xs, h => by
    simp only [okeyAll, Bool.and_eq_true] at h
    rw [toPs, List.any_cons, any_toPs hd h.2, eqv_toP h.1 hd, ← D.decide_eq, Bool.eq_iff_iff, Bool.or_eq_true, decide_eq_true_eq, decide_eq_true_eq, decide_eq_true_eq, List.mem_cons]
    exact ⟨fun q => q.imp (fun e => e.symm) id, fun q => q.imp (fun e => e.symm) id⟩
@[simp] def rInT (neg : Bool) : GR2 := fun d e G Q => ∃ ds, e = .tup ds ∧ pureD d = true ∧ okeyAll 8 ds = true ∧ Q (.bl (if neg then !decide (d ∈ ds) else decide (d ∈ ds))) G
@[simp] def rInL (neg : Bool) : GR2 := fun d e G Q => ∃ a ds, e = .ref a ∧ G a = some (.lst ds) ∧ pureD d = true ∧ okeyAll 8 ds = true ∧ Q (.bl (if neg then !decide (d ∈ ds) else decide (d ∈ ds))) G
theorem room_in {A : Around} {ds : List D} {d : D} (ok : pureD d = true) (hr : A.units + 64 < cLine) : A.units + 1 + min (PyData.depthAll (toPs ds)) (toP d).depth < cLine := by
  have := depth_toP ok
  have := Nat.min_le_right (PyData.depthAll (toPs ds)) (toP d).depth
  omega
theorem op_inT (hr : X.A.units + 64 < cLine) : GOp X (compareOp .In) (rInT false) := by
  intro pins s σ H x y v u Q I rx ry h
  obtain ⟨G, R, d, e, g, hx, hy, ⟨ds, rfl, od, os, q⟩, k⟩ := h
  obtain ⟨bs, r2⟩ := Dat.reads I 8 d x v od hx rx
  obtain ⟨as, r1⟩ := Dat.reads I 9 (.tup ds) y u (by simpa [okey] using os) hy ry
  exact SeqAt.in_tuple_data (show Reads s.heap u (.tuple (toPs ds)) as from r1) r2 (plain_toPs ds) (plain_toP d) (room_in od hr) ⟨.bl _, H, I, rfl, k _ H _ G TK.refl g (.bl _) (by rw [any_toPs od os]; exact q)⟩
theorem op_notinT (hr : X.A.units + 64 < cLine) : GOp X (compareOp .NotIn) (rInT true) := by
  intro pins s σ H x y v u Q I rx ry h
  obtain ⟨G, R, d, e, g, hx, hy, ⟨ds, rfl, od, os, q⟩, k⟩ := h
  obtain ⟨bs, r2⟩ := Dat.reads I 8 d x v od hx rx
  obtain ⟨as, r1⟩ := Dat.reads I 9 (.tup ds) y u (by simpa [okey] using os) hy ry
  exact SeqAt.notIn_tuple_data (show Reads s.heap u (.tuple (toPs ds)) as from r1) r2 (plain_toPs ds) (plain_toP d) (room_in od hr) ⟨.bl _, H, I, rfl, k _ H _ G TK.refl g (.bl _) (by rw [any_toPs od os]; exact q)⟩
theorem op_inL (hr : X.A.units + 64 < cLine) : GOp X (compareOp .In) (rInL false) := by
  intro pins s σ H x y v u Q I rx ry h
  obtain ⟨G, R, d, e, g, hx, hy, ⟨a, ds, rfl, ga, od, os, q⟩, k⟩ := h
  cases dat_ref hy
  cases ry
  obtain ⟨bs, r2⟩ := Dat.reads I 8 d x v od hx rx
  obtain ⟨as, r1⟩ := list_reads I g ga os
  exact SeqAt.in_list_data r1 r2 (plain_toPs ds) (plain_toP d) (room_in od hr) ⟨.bl _, H, I, rfl, k _ H _ G TK.refl g (.bl _) (by rw [any_toPs od os]; exact q)⟩
theorem op_notinL (hr : X.A.units + 64 < cLine) : GOp X (compareOp .NotIn) (rInL true) := by
  intro pins s σ H x y v u Q I rx ry h
  obtain ⟨G, R, d, e, g, hx, hy, ⟨a, ds, rfl, ga, od, os, q⟩, k⟩ := h
  cases dat_ref hy
  cases ry
  obtain ⟨bs, r2⟩ := Dat.reads I 8 d x v od hx rx
  obtain ⟨as, r1⟩ := list_reads I g ga os
  exact SeqAt.notIn_list_data r1 r2 (plain_toPs ds) (plain_toP d) (room_in od hr) ⟨.bl _, H, I, rfl, k _ H _ G TK.refl g (.bl _) (by rw [any_toPs od os]; exact q)⟩
/-! ### whole numbers -/
@[simp] def rI (g : Int → Int → D) : GR2 := fun d e G Q => ∃ i j, d = .int i ∧ e = .int j ∧ Q (g i j) G
@[simp] def rIc (C : Int → Int → Prop) (g : Int → Int → D) : GR2 := fun d e G Q => ∃ i j, d = .int i ∧ e = .int j ∧ C i j ∧ Q (g i j) G
theorem gop_int {f : Value → Value → Sem Value} {h : Int → Int → V} {g : Int → Int → D} (o : OpR X f (rI0 h)) (hg : ∀ K H i j, Dat K H (h i j) (g i j)) : GOp X f (rI g) :=
  OpR.weak o fun x y H Q ⟨G, R, d, e, gh, hx, hy, ⟨i, j, ed, ee, q⟩, k⟩ => by
    subst ed ee
    exact ⟨i, j, dat_int hx, dat_int hy, k _ H _ G TK.refl gh (hg _ _ i j) q⟩
theorem gop_intc {f : Value → Value → Sem Value} {C : Int → Int → Prop} {h : Int → Int → V} {g : Int → Int → D} (o : OpR X f (L2.rI C h)) (hg : ∀ K H i j, Dat K H (h i j) (g i j)) : GOp X f (rIc C g) :=
  OpR.weak o fun x y H Q ⟨G, R, d, e, gh, hx, hy, ⟨i, j, ed, ee, c, q⟩, k⟩ => by
    subst ed ee
    exact ⟨i, j, dat_int hx, dat_int hy, c, k _ H _ G TK.refl gh (hg _ _ i j) q⟩
theorem gadd : GOp X (binaryOp .Add) (rI fun i j => .int (i + j)) := gop_int op_add fun _ _ _ _ => .int _
theorem gsub : GOp X (binaryOp .Sub) (rI fun i j => .int (i - j)) := gop_int op_sub fun _ _ _ _ => .int _
theorem gmul : GOp X (binaryOp .Mult) (rIc CMul fun i j => .int (i * j)) := gop_intc op_mul fun _ _ _ _ => .int _
theorem gfdiv : GOp X (binaryOp .FloorDiv) (rIc CDiv fun i j => .int (i / j)) := gop_intc op_fdiv fun _ _ _ _ => .int _
theorem gmod : GOp X (binaryOp .Mod) (rIc (fun _ j => 0 < j) fun i j => .int (i % j)) := gop_intc op_mod fun _ _ _ _ => .int _
theorem glt : GOp X (compareOp .Lt) (rI fun i j => .bl (decide (i < j))) := gop_int op_lt fun _ _ _ _ => .bl _
theorem gle : GOp X (compareOp .LtE) (rI fun i j => .bl (decide (i ≤ j))) := gop_int op_le fun _ _ _ _ => .bl _
theorem ggt : GOp X (compareOp .Gt) (rI fun i j => .bl (decide (j < i))) := gop_int op_gt fun _ _ _ _ => .bl _
theorem gge : GOp X (compareOp .GtE) (rI fun i j => .bl (decide (j ≤ i))) := gop_int op_ge fun _ _ _ _ => .bl _
theorem gneg : GUn X (unaryOp .USub) (fun d G Q => ∃ i, d = .int i ∧ Q (.int (-i)) G) :=
  UnR.weak un_neg fun x H Q ⟨G, R, d, gh, hx, ⟨i, ed, q⟩, k⟩ => by
    subst ed
    exact ⟨i, dat_int hx, k _ H _ G TK.refl gh (.int _) q⟩
theorem gip_int {op : Operator} {f : Int → Int → Int} (o : PIp X op (ipI f)) : GIp X op (rI fun i j => .int (f i j)) := by
  intro pins s σ H x y v u Q I rx ry h
  obtain ⟨G, R, d, e, gh, hx, hy, ⟨i, j, ed, ee, q⟩, k⟩ := h
  subst ed ee
  exact o pins s σ H x y v u Q I rx ry ⟨i, j, dat_int hx, dat_int hy, k _ H _ G TK.refl gh (.int _) q⟩
theorem gip_add : GIp X .Add (rI fun i j => .int (i + j)) := gip_int ip_add
theorem gip_sub : GIp X .Sub (rI fun i j => .int (i - j)) := gip_int ip_sub
/-- x is None -/
def rIsN (neg : Bool) : GR2 := fun d e G Q => e = .non ∧ Q (.bl (if neg then !decide (d = .non) else decide (d = .non))) G
theorem dat_non_iff {K : PySem.W.Frag} {H : Hp} {v : V} {d : D} (h : Dat K H v d) : decide (v = .non) = decide (d = .non) := by
  cases h <;> rfl
theorem gisN : GOp X (compareOp .Is) (rIsN false) :=
  OpR.weak op_isN fun x y H Q ⟨G, R, d, e, gh, hx, hy, ⟨ee, q⟩, k⟩ => by
    subst ee
    exact ⟨dat_non hy, k _ H _ G TK.refl gh (.bl _) (by rw [dat_non_iff hx]; exact q)⟩
theorem gnotN : GOp X (compareOp .IsNot) (rIsN true) :=
  OpR.weak op_notN fun x y H Q ⟨G, R, d, e, gh, hx, hy, ⟨ee, q⟩, k⟩ => by
    subst ee
    exact ⟨dat_non hy, k _ H _ G TK.refl gh (.bl _) (by rw [dat_non_iff hx]; exact q)⟩
end
end G
set_option Elab.async false
set_option linter.all false
set_option maxRecDepth 100000
set_option maxHeartbeats 4000000
namespace G
open PySem PySem.Spec PyProof.Rows L2

/-! ### lists: places, slices, methods -/
section
variable {X : Cx} {pos : Pos} {a b : Expr} {ta tb : GTE}
theorem ge_ix {r : GR2} (hr : GIx X r) (ha : GE X a ta) (hb : GE X b tb) (hs : PlainIx b := by exact fun _ _ => rfl) : GE X (.Subscript a b pos) (gOp r ta tb) :=
  PE.weak (pe_ix hr ha hb hs) fun σ H Q h => up_op h
@[simp] def rIxL : GR2 := fun d e G Q => ∃ p ds i x, d = .ref p ∧ e = .int i ∧ G p = some (.lst ds) ∧ atI ds i = some x ∧ Q x G
@[simp] def rIxT : GR2 := fun d e G Q => ∃ ds i x, d = .tup ds ∧ e = .int i ∧ atI ds i = some x ∧ Q x G
theorem atI_dat {K : PySem.W.Frag} {H : Hp} {vs : List V} {ds : List D} {i : Int} {x : D} (h : DatL K H vs ds) (e : atI ds i = some x) : ∃ v, atI vs i = some v ∧ Dat K H v x := by
  unfold atI at e ⊢
  rw [h.length]
  cases q : ixN ds.length i with
  | none => rw [q] at e; cases e
  | some j =>
    rw [q] at e
    obtain ⟨v, h1, h2⟩ := h.get' (show ds[j]? = some x from e)
    exact ⟨v, h1, h2⟩
theorem ixL : GIx X rIxL := by
  refine IxR.weak ix_list fun x y H Q ⟨G, R, d, e, gh, hx, hy, ⟨p, ds, i, z, ed, ee, hp, hz, q⟩, k⟩ => ?_
  subst ed ee
  obtain ⟨vs, ev, dv⟩ := list_of gh hp
  obtain ⟨v, e1, e2⟩ := atI_dat dv hz
  exact ⟨p, vs, i, v, dat_ref hx, dat_int hy, SqL.of ev, e1, k v H z G TK.refl gh e2 q⟩
theorem ixT : GIx X rIxT := by
  refine IxR.weak ix_tup fun x y H Q ⟨G, R, d, e, gh, hx, hy, ⟨ds, i, z, ed, ee, hz, q⟩, k⟩ => ?_
  subst ed ee
  obtain ⟨p, vs, rfl, ev, dv⟩ := dat_tup hx
  obtain ⟨v, e1, e2⟩ := atI_dat dv hz
  exact ⟨p, vs, i, v, rfl, dat_int hy, ev, e1, k v H z G TK.refl gh e2 q⟩
/-! slices -/
def cutD (ds : List D) (lo hi : Option Int) : List D := (ds.drop (HT.sIx ds.length 0 lo)).take (HT.sIx ds.length ds.length hi - HT.sIx ds.length 0 lo)
theorem cut_dat {K : PySem.W.Frag} {H : Hp} {vs : List V} {ds : List D} (h : DatL K H vs ds) (lo hi : Option Int) : DatL K H (cutV vs lo hi) (cutD ds lo hi) := by
  unfold cutV cutD
  rw [h.length]
  exact (h.drop _).take _
abbrev GTO := Ro → Gp → (Option Int → Gp → Prop) → Prop
def upO (P : Program) (w : World) (K : PySem.W.Frag) (t : GTO) : TO := fun σ H Q => ∃ ρ G R, RS K H σ ρ ∧ GH P w K G H ∧ t ρ G R ∧ ∀ b H' G', TK H H' → GH P w K G' H' → R b G' → Q b H'
def GPO (X : Cx) (e : Option Expr) (t : GTO) : Prop := PO X e (upO X.prog X.w X.K t)
theorem PO.weak {X : Cx} {e : Option Expr} {t u : TO} (h : PO X e t) (f : ∀ σ H Q, u σ H Q → t σ H Q) : PO X e u := ⟨fun pins s σ H Q I q => h.run pins s σ H Q I (f _ _ _ q)⟩
@[simp] def gNoPart : GTO := fun _ G Q => Q none G
@[simp] def gPart (t : GTE) : GTO := fun ρ G Q => t ρ G fun x G1 => ∃ i, x = .int i ∧ Q (some i) G1
theorem go_none : GPO X none gNoPart := PO.weak po_none fun σ H Q ⟨ρ, G, R, rs, g, q, k⟩ => k none H G TK.refl g q
theorem go_some {e : Expr} {t : GTE} (h : GE X e t) : GPO X (some e) (gPart t) := PO.weak (po_some h) fun σ H Q ⟨ρ, G, R, rs, g, q, k⟩ =>
  ⟨ρ, G, _, rs, g, q, fun v H1 d G1 k1 g1 h1 ⟨i, e, q1⟩ => by subst e; exact ⟨i, dat_int h1, k _ H1 G1 k1 g1 q1⟩⟩
@[simp] def gSliceL (te : GTE) (tl th : GTO) : GTE := fun ρ G Q => te ρ G fun x G1 => tl ρ G1 fun l G2 => th ρ G2 fun u G3 => ∃ a ds, x = .ref a ∧ G3 a = some (.lst ds) ∧ ∀ p, G3 p = none → Q (.ref p) (gup G3 p (.lst (cutD ds l u)))
theorem ge_sliceL {e : Expr} {lo hi : Option Expr} {te : GTE} {tl th : GTO} {p2 : Pos} (he : GE X e te) (hl : GPO X lo tl) (hu : GPO X hi th) : GE X (.Subscript e (.Slice lo hi none p2) pos) (gSliceL te tl th) :=
  ge_of (pe_slice sl_list he hl hu) fun σ H ρ G R Q rs g q k => by
    refine ⟨ρ, G, _, rs, g, q, fun v H1 d G1 k1 g1 h1 q1 => ⟨ρ, G1, _, rs.mono k1, g1, q1, fun l H2 G2 k2 g2 q2 => ⟨ρ, G2, _, (rs.mono k1).mono k2, g2, q2, fun u H3 G3 k3 g3 ⟨a, ds, e, ha, q3⟩ => ?_⟩⟩⟩
    subst e
    obtain ⟨vs, ev, dv⟩ := list_of g3 ha
    obtain ⟨z, _⟩ := g3 a _ ha
    refine ⟨a, vs, dat_ref h1, SqL.of ev, fun p hp => k _ _ _ _ (((k1.trans k2).trans k3).trans (TK.new hp)) (g3.new hp (gok_lst ?_ ((cut_dat dv l u).mono (TK.new hp)) upd_same)) (.ref p) (q3 p (g3.ne hp))⟩
    unfold cutD
    exact Nat.le_trans (List.length_take_le' ..) (by rw [List.length_drop]; omega)
@[simp] def gSliceT (te : GTE) (tl th : GTO) : GTE := fun ρ G Q => te ρ G fun x G1 => tl ρ G1 fun l G2 => th ρ G2 fun u G3 => ∃ ds, x = .tup ds ∧ Q (.tup (cutD ds l u)) G3
theorem ge_sliceT {e : Expr} {lo hi : Option Expr} {te : GTE} {tl th : GTO} {p2 : Pos} (he : GE X e te) (hl : GPO X lo tl) (hu : GPO X hi th) : GE X (.Subscript e (.Slice lo hi none p2) pos) (gSliceT te tl th) :=
  ge_of (pe_slice sl_tupA he hl hu) fun σ H ρ G R Q rs g q k => by
    refine ⟨ρ, G, _, rs, g, q, fun v H1 d G1 k1 g1 h1 q1 => ⟨ρ, G1, _, rs.mono k1, g1, q1, fun l H2 G2 k2 g2 q2 => ⟨ρ, G2, _, (rs.mono k1).mono k2, g2, q2, fun u H3 G3 k3 g3 ⟨ds, e, q3⟩ => ?_⟩⟩⟩
    subst e
    obtain ⟨a, vs, rfl, ev, dv⟩ := dat_tup ((h1.mono k2).mono k3)
    have k4 := (k1.trans k2).trans k3
    refine ⟨a, vs, rfl, ev, fun hw => k _ _ _ _ k4 g3 (.tup ev ?_) q3, fun hw p hp => k _ _ _ _ (k4.trans (TK.new hp)) (g3.grow hp) (.tup (SqT.of upd_same) ((cut_dat dv l u).mono (TK.new hp))) q3⟩
    have e : cutD ds l u = ds := by
      unfold cutD
      rw [← dv.length, hw.1, hw.2, List.drop_zero, Nat.sub_zero, dv.length, List.take_length]
    rw [e]
    exact dv
/-! + and * of lists -/
@[simp] def rCatL : GR2 := fun d e G Q => ∃ a b ds es, d = .ref a ∧ e = .ref b ∧ G a = some (.lst ds) ∧ G b = some (.lst es) ∧ ds.length + es.length ≤ sizeLine ∧ ∀ p, G p = none → Q (.ref p) (gup G p (.lst (ds ++ es)))
theorem gcat : GOp X (binaryOp .Add) rCatL :=
  OpR.weak op_cat fun x y H Q ⟨G, R, d, e, gh, hx, hy, ⟨a, b, ds, es, ed, ee, ha, hb, z, q⟩, k⟩ => by
    subst ed ee
    obtain ⟨vs, ev, dv⟩ := list_of gh ha
    obtain ⟨ws, ew, dw⟩ := list_of gh hb
    exact ⟨a, b, vs, ws, dat_ref hx, dat_ref hy, ev, ew, by rw [dv.length, dw.length]; exact z, fun p hp => k _ _ _ _ (TK.new hp) (gh.new hp (gok_lst (by rw [List.length_append]; exact z) ((dv.append dw).mono (TK.new hp)) upd_same)) (.ref p) (q p (gh.ne hp))⟩
@[simp] def rRepL : GR2 := fun d e G Q => ∃ a n ds, d = .ref a ∧ e = .int n ∧ G a = some (.lst ds) ∧ (-(2 ^ 63) ≤ n ∧ n < 2 ^ 63) ∧ ds.length * n.toNat ≤ sizeLine ∧ ∀ p, G p = none → Q (.ref p) (gup G p (.lst (List.replicate n.toNat ds).flatten))
theorem grep : GOp X (binaryOp .Mult) rRepL :=
  OpR.weak op_rep fun x y H Q ⟨G, R, d, e, gh, hx, hy, ⟨a, n, ds, ed, ee, ha, ⟨n1, n2⟩, z, q⟩, k⟩ => by
    subst ed ee
    obtain ⟨vs, ev, dv⟩ := list_of gh ha
    refine ⟨a, n, vs, dat_ref hx, dat_int hy, ev, n1, n2, by rw [dv.length]; exact z, fun p hp => k _ _ _ _ (TK.new hp) (gh.new hp (gok_lst ?_ ((dv.rep _).mono (TK.new hp)) upd_same)) (.ref p) (q p (gh.ne hp))⟩
    rw [List.length_flatten, List.map_replicate, List.sum_replicate_nat, Nat.mul_comm]
    exact z
end

/-! methods of lists -/
def GMt (X : Cx) (id : String) (r : D → List D → Gp → GK → Prop) : Prop := MtR X id (upM X.prog X.w X.K r)
theorem MtR.weak {X : Cx} {id : String} {r u : V → List V → Hp → VK → Prop} (h : MtR X id r) (k : ∀ x xs H Q, u x xs H Q → r x xs H Q) : MtR X id u := fun pins s σ H x xs v us Q I rx rs q => h pins s σ H x xs v us Q I rx rs (k _ _ _ _ q)
@[simp] def isL (d : D) (G : Gp) : Prop := ∃ a ds, d = .ref a ∧ G a = some (.lst ds)
@[simp] def gBM (r : D → List D → Gp → GK → Prop) (to : GTE) (ts : List GTE) : GTE := fun ρ G Q => to ρ G fun x G1 => isL x G1 ∧ gArgs ts ρ G1 fun xs G2 => r x xs G2 Q
section
variable {X : Cx} {o e : Expr} {es : List Expr} {to : GTE} {ts : List GTE} {name : Str} {apos cpos : Pos} {id : String} {r : D → List D → Gp → GK → Prop}
theorem tyL {P : Program} {w : World} {K : PySem.W.Frag} {H : Hp} {G : Gp} {d : D} {v : V} (g : GH P w K G H) (h : isL d G) (hd : Dat K H v d) : tyV K "list" v H := by
  obtain ⟨a, ds, rfl, ha⟩ := h
  cases dat_ref hd
  obtain ⟨vs, ev, _⟩ := list_of g ha
  exact .inl ⟨rfl, vs, SqL.of ev⟩
theorem ge_bm0 (slot : Slot "list" name id) (hty : typeOf (.builtin id) = pure (.type "method_descriptor")) (hm : GMt X id r) (ho : GE X o to)
    (hbase : attributeBase o name X.env (eval o X.env) = eval o X.env := by rfl) (hline : (apos.endLine == cpos.line) = true := by rfl) : GE X (.Call (.Attribute o name apos) [] [] cpos) (gBM r to []) :=
  ge_of (pe_bm0 PySem.F.plainAttrs_list slot hty hm ho hbase hline) fun σ H ρ G R Q rs g q k => by
    refine ⟨ρ, G, _, rs, g, q, fun v H1 d G1 k1 g1 h1 ⟨il, q1⟩ => ⟨tyL g1 il h1, G1, _, d, [], g1, h1, .nil, q1, fun v H' d G' k2 => k v H' d G' (k1.trans k2)⟩⟩
theorem ge_bm (slot : Slot "list" name id) (hty : typeOf (.builtin id) = pure (.type "method_descriptor")) (hm : GMt X id r) (ho : GE X o to) (ha : GA X (e :: es) ts)
    (hbase : attributeBase o name X.env (eval o X.env) = eval o X.env := by rfl)
    (hfew : ((backTo cpos (starEach (e :: es) X.env)).all (fun x => !x.1) && (backToKw cpos (keywordEach [] X.env)).all (fun x => x.1.isSome)
      && decide ((e :: es).length + ([] : List Keyword).length + (if ([] : List Keyword).isEmpty then 0 else 1) < 30)) = true := by rfl)
    (hline : (apos.endLine == cpos.line) = true := by rfl) (hs : starEach (e :: es) X.env = (false, eval e X.env) :: starEach es X.env := by rfl) (hplain : (backTo cpos (starEach es X.env)).any (·.1) = false := by rfl) :
    GE X (.Call (.Attribute o name apos) (e :: es) [] cpos) (gBM r to ts) :=
  ge_of (pe_bm PySem.F.plainAttrs_list slot hty hm ho ha hbase hfew hline hs hplain) fun σ H ρ G R Q rs g q k => by
    refine ⟨ρ, G, _, rs, g, q, fun v H1 d G1 k1 g1 h1 ⟨il, q1⟩ => ⟨tyL g1 il h1, args_up ts (rs.mono k1) g1 q1 fun vs H2 ds G2 k2 g2 h2 l q2 => ?_⟩⟩
    exact ⟨G2, _, d, ds, g2, h1.mono k2, h2, q2, fun v H' d G' k3 => k v H' d G' ((k1.trans k2).trans k3)⟩
/-- xs.append(y) -/
@[simp] def rApp : D → List D → Gp → GK → Prop := fun d ds G Q => ∃ a xs y, d = .ref a ∧ ds = [y] ∧ G a = some (.lst xs) ∧ xs.length < sizeLine ∧ Q .non (gup G a (.lst (xs ++ [y])))
theorem mapp : GMt X "list.append" rApp :=
  MtR.weak mt_append fun x us H Q ⟨G, R, d, ds, gh, hx, hs, ⟨a, xs, y, ed, es, ha, z, q⟩, k⟩ => by
    subst ed es
    obtain ⟨vs, ev, dv⟩ := list_of gh ha
    cases hs with
    | cons hy t =>
      cases t
      exact ⟨a, vs, _, dat_ref hx, rfl, ev, by rw [dv.length]; exact z, k _ _ _ _ (gh.tkset ha _) (gh.set ha (gok_lst (by rw [List.length_append]; exact z) ((dv.append (.cons hy .nil)).mono (gh.tkset ha _)) upd_same)) .non q⟩
/-- xs.pop() -/
def rPopL : D → List D → Gp → GK → Prop := fun d ds G Q => ∃ a xs y, d = .ref a ∧ ds = [] ∧ G a = some (.lst (xs ++ [y])) ∧ Q y (gup G a (.lst xs))
theorem mpop : GMt X "list.pop" rPopL :=
  MtR.weak mt_pop fun x us H Q ⟨G, R, d, ds, gh, hx, hs, ⟨a, xs, y, ed, es, ha, q⟩, k⟩ => by
    subst ed es
    obtain ⟨vs, ev, dv⟩ := list_of gh ha
    cases hs
    have hl : vs.length = xs.length + 1 := by rw [dv.length, List.length_append]; rfl
    obtain ⟨v, e1, e2⟩ := dv.get' (i := vs.length - 1) (d := y) (by rw [hl, Nat.add_sub_cancel, List.getElem?_concat_length])
    have z := (gh a _ ha).1
    rw [List.length_append] at z
    have dd := dv.dropLast
    rw [List.dropLast_concat] at dd
    exact ⟨a, vs, v, dat_ref hx, rfl, ev, e1, k _ _ _ _ (gh.tkset ha _) (gh.set ha (gok_lst (Nat.le_of_succ_le z) (dd.mono (gh.tkset ha _)) upd_same)) (e2.mono (gh.tkset ha _)) q⟩
/-- xs.pop(i), i from 0 on -/
@[simp] def rPopAtL : D → List D → Gp → GK → Prop := fun d ds G Q => ∃ (a : Addr) (xs : List D) (i : Nat) (y : D), d = .ref a ∧ ds = [.int i] ∧ G a = some (.lst xs) ∧ xs[i]? = some y ∧ Q y (gup G a (.lst (xs.eraseIdx i)))
theorem mpopAt : GMt X "list.pop" rPopAtL :=
  MtR.weak mt_popAt fun x us H Q ⟨G, R, d, ds, gh, hx, hs, ⟨a, xs, i, y, ed, es, ha, hy, q⟩, k⟩ => by
    subst ed es
    obtain ⟨vs, ev, dv⟩ := list_of gh ha
    cases hs with
    | cons hi t =>
      cases t
      cases dat_int hi
      obtain ⟨v, e1, e2⟩ := dv.get' hy
      have hlt := (List.getElem?_eq_some_iff.mp hy).1
      have z := (gh a _ ha).1
      have hz := sizeLine_eq
      refine ⟨a, vs, (i : Int), i, v, dat_ref hx, rfl, ev, by omega, by omega, ?_, e1, k _ _ _ _ (gh.tkset ha _) (gh.set ha (gok_lst ?_ ((dv.eraseIdx i).mono (gh.tkset ha _)) upd_same)) (e2.mono (gh.tkset ha _)) q⟩
      · exact (ixN_seq (n := vs.length) (i := (i : Int)) (j := i) (by unfold ixN; rw [dv.length, if_pos (by omega), if_pos (by omega)]; simp)).1
      · exact Nat.le_trans (len_erase xs i) z
end
end G
set_option Elab.async false
set_option linter.all false
set_option maxRecDepth 100000
set_option maxHeartbeats 4000000
namespace G
open PySem PySem.Spec PyProof.Rows L2

/-! ### dicts with tuple keys -/
def dget (kvs : List (D × D)) (k : D) : Option D := (kvs.find? fun p => decide (p.1 = k)).map (·.2)
def dput (kvs : List (D × D)) (k v : D) : List (D × D) := if (dget kvs k).isSome then kvs.map (fun p => if p.1 = k then (p.1, v) else p) else kvs ++ [(k, v)]
def ddel (kvs : List (D × D)) (k : D) : List (D × D) := kvs.filter fun p => decide (p.1 ≠ k)
def dputs (kvs more : List (D × D)) : List (D × D) := more.foldl (fun acc p => dput acc p.1 p.2) kvs
/-- a key: a tuple of pure data -/
def isKey (d : D) : Prop := okey 8 d = true ∧ ∃ xs, d = .tup xs
theorem nk_eq {a b : D} (ha : okey 8 a = true) (hb : okey 8 b = true) : (nk a = nk b) ↔ (a = b) := ⟨nk_inj ha hb, fun e => by rw [e]⟩
section
variable {K : PySem.W.Frag} {H : Hp}
theorem ent_find {k : D} (hk : okey 8 k = true) : ∀ {kvs : List (D × D)} {xs : List (NestedKey × Addr × Value)}, Paired (EntOk K H) kvs xs →
    (dget kvs k = none ∧ atKey xs (nk k) = none) ∨ ∃ v d p, dget kvs k = some d ∧ atKey xs (nk k) = some p ∧ RelV v p.2 ∧ Dat K H v d
  | _, _, .nil => .inl ⟨rfl, rfl⟩
  | p :: kvs, q :: xs, .cons h t => by
    obtain ⟨h1, h2, h3, v, h4, h5⟩ := h
    by_cases e : p.1 = k
    · have e2 : q.1 = nk k := by rw [h2, e]
      exact .inr ⟨v, p.2, q.2, by simp [dget, e], by simp [atKey, e2], h4, h5⟩
    · have e2 : ¬ q.1 = nk k := fun z => e ((nk_eq h1 hk).mp (h2.symm.trans z))
      rcases ent_find hk t with ⟨z1, z2⟩ | ⟨v, d, p', z1, z2, z3⟩
      · exact .inl ⟨by simpa [dget, e] using z1, by simpa [atKey, e2] using z2⟩
      · exact .inr ⟨v, d, p', by simpa [dget, e] using z1, by simpa [atKey, e2] using z2, z3⟩
theorem ent_put {k d : D} {v : V} {u : Value} {b : Addr} (hk : okey 8 k = true) (hb : Dat K H (.ref b) k) (r : RelV v u) (hd : Dat K H v d) {kvs : List (D × D)} {xs : List (NestedKey × Addr × Value)} (h : Paired (EntOk K H) kvs xs) :
    Paired (EntOk K H) (dput kvs k d) (storedH xs (nk k) b u) := by
  rcases ent_find hk h with ⟨z1, z2⟩ | ⟨v', d', p, z1, z2, z3⟩
  · rw [storedH_new z2]
    unfold dput
    rw [z1, if_neg (by simp)]
    clear z1 z2
    induction h with
    | nil => exact .cons ⟨hk, rfl, hb, v, r, hd⟩ .nil
    | cons h t ih => exact .cons h ih
  · rw [storedH_old z2]
    unfold dput
    rw [z1, if_pos (show (some d').isSome = true from rfl)]
    clear z1 z2
    induction h with
    | nil => exact .nil
    | @cons p q ps qs h t ih =>
      refine .cons ?_ ih
      obtain ⟨h1, h2, h3, v2, h4, h5⟩ := h
      by_cases e : p.1 = k
      · have e2 : q.1 = nk k := by rw [h2, e]
        show EntOk K H (if p.1 = k then (p.1, d) else p) _
        rw [if_pos e, putAt, if_pos e2]
        exact ⟨h1, h2, h3, v, r, hd⟩
      · have e2 : ¬ q.1 = nk k := fun z => e ((nk_eq h1 hk).mp (h2.symm.trans z))
        show EntOk K H (if p.1 = k then (p.1, d) else p) _
        rw [if_neg e, putAt, if_neg e2]
        exact ⟨h1, h2, h3, v2, h4, h5⟩
theorem ent_del {k : D} (hk : okey 8 k = true) {kvs : List (D × D)} {xs : List (NestedKey × Addr × Value)} (h : Paired (EntOk K H) kvs xs) : Paired (EntOk K H) (ddel kvs k) (withoutH xs (nk k)) := by
  induction h with
  | nil => exact .nil
  | @cons p q ps qs h t ih =>
    unfold ddel withoutH at ih ⊢
    obtain ⟨h1, h2, h3⟩ := id h
    by_cases e : p.1 = k
    · have e2 : q.1 = nk k := by rw [h2, e]
      rw [List.filter_cons_of_neg (by simpa using e), List.filter_cons_of_neg (by simpa using e2)]
      exact ih
    · have e2 : ¬ q.1 = nk k := fun z => e ((nk_eq h1 hk).mp (h2.symm.trans z))
      rw [List.filter_cons_of_pos (by simpa using e), List.filter_cons_of_pos (by simpa using e2)]
      exact .cons h ih
theorem ent_puts {more : List (D × D)} {ps : List (NestedKey × Addr × Value)} (h2 : Paired (EntOk K H) more ps) : ∀ {kvs : List (D × D)} {xs : List (NestedKey × Addr × Value)}, Paired (EntOk K H) kvs xs → Paired (EntOk K H) (dputs kvs more) (storedAllH xs ps) := by
  induction h2 with
  | nil => intro kvs xs h; exact h
  | @cons p q ps qs h t ih =>
    intro kvs xs h1
    obtain ⟨a1, a2, a3, v, a4, a5⟩ := h
    show Paired (EntOk K H) (dputs (dput kvs p.1 p.2) ps) (storedAllH (storedH xs q.1 q.2.1 q.2.2) qs)
    rw [a2]
    exact ih (ent_put a1 a3 a4 a5 h1)
end
theorem dput_len (kvs : List (D × D)) (k v : D) : (dput kvs k v).length ≤ kvs.length + 1 := by
  unfold dput
  split
  · rw [List.length_map]; omega
  · rw [List.length_append]; exact Nat.le_refl _
theorem dputs_len (more : List (D × D)) : ∀ kvs : List (D × D), (dputs kvs more).length ≤ kvs.length + more.length := by
  induction more with
  | nil => intro kvs; exact Nat.le_refl _
  | cons p r ih =>
    intro kvs
    have h1 := ih (dput kvs p.1 p.2)
    have h2 := dput_len kvs p.1 p.2
    show (dputs (dput kvs p.1 p.2) r).length ≤ _
    rw [List.length_cons]; omega
section
variable {X : Cx} {pins : List (Addr × Obj)} {σ : L2.St} {H : Hp} {s : Shared} {G : Gp} {a : Addr} {kvs : List (D × D)}
/-- what stands at a dict's address -/
theorem dct_at (I : Inv X pins σ H s) (g : GH X.prog X.w X.K G H) (h : G a = some (.dct kvs)) : kvs.length ≤ sizeLine ∧ ∃ xs, H a = some (dO X.prog X.w a xs) ∧ Paired (EntOk X.K H) kvs xs ∧ (a == sysModules) = false ∧ s.heap.DictOfH (nestedKind X.prog X.w) a xs := by
  obtain ⟨z, xs, e, p⟩ := g a _ h
  obtain ⟨⟨sy, o, es, ep, e1, e2, e3, e4, e5⟩, w1⟩ := I.hok a _ e
  refine ⟨z, xs, e, p, sy, o, es, ep, e1, e2, e3, e4, ?_, e5⟩
  clear e e1 e3 e4 e5 h z w1
  intro x hx
  induction p with
  | nil => cases hx
  | @cons p q ps qs h t ih =>
    rcases List.mem_cons.mp hx with rfl | hx
    · obtain ⟨h1, h2, h3, _⟩ := h
      rw [h2]
      exact ⟨Dat.nested I 8 _ _ _ h1 h3 rfl, nk_depth h1⟩
    · exact ih hx
/-- a dict, locked or not -/
@[simp] def dctAt (G : Gp) (a : Addr) (kvs : List (D × D)) : Prop := G a = some (.dct kvs) ∨ G a = some (.frd kvs)
theorem dct_rd (I : Inv X pins σ H s) (g : GH X.prog X.w X.K G H) (h : dctAt G a kvs) : kvs.length ≤ sizeLine ∧ ∃ xs, Paired (EntOk X.K H) kvs xs ∧ (a == sysModules) = false ∧ s.heap.DictOfH (nestedKind X.prog X.w) a xs := by
  rcases h with h | h
  · obtain ⟨z, xs, _, r⟩ := dct_at I g h
    exact ⟨z, xs, r⟩
  · obtain ⟨z, o', xs, e, p⟩ := g a _ h
    obtain ⟨_, ⟨sy, o, es, ep, e1, e2, e3, e4, e5⟩, w1⟩ := I.hok a _ e
    refine ⟨z, xs, p, sy, o, es, ep, e1, e2, e3, e4, ?_, e5⟩
    clear e e1 e3 e4 e5 h z w1
    intro x hx
    induction p with
    | nil => cases hx
    | @cons p q ps qs h t ih =>
      rcases List.mem_cons.mp hx with rfl | hx
      · obtain ⟨h1, h2, h3, _⟩ := h
        rw [h2]
        exact ⟨Dat.nested I 8 _ _ _ h1 h3 rfl, nk_depth h1⟩
      · exact ih hx
theorem key_at (I : Inv X pins σ H s) {k : D} {v : V} {u : Value} (hk : isKey k) (hd : Dat X.K H v k) (r : RelV v u) : ∃ b, v = .ref b ∧ u = .ref b ∧ (nestedKind X.prog X.w).is s.heap (nk k) b := by
  obtain ⟨h1, xs, rfl⟩ := hk
  obtain ⟨b, vs, rfl, _, _⟩ := dat_tup hd
  cases r
  exact ⟨b, rfl, rfl, Dat.nested I 8 _ _ _ h1 hd rfl, nk_depth h1⟩
/-- the dict was written -/
theorem dct_put {h' : Heap} {t' : Nat} {xs ys : List (NestedKey × Addr × Value)} {kvs' : List (D × D)} (I : Inv X pins σ H s) (g : GH X.prog X.w X.K G H) (h : G a = some (.dct kvs)) (e : H a = some (dO X.prog X.w a xs)) (hm : h'.DictOfH (nestedKind X.prog X.w) a ys) (hs : Heap.SameBut a s.heap h')
    (p : Paired (EntOk X.K H) kvs' ys) (sy : (a == sysModules) = false) (z : kvs'.length ≤ sizeLine) :
    Inv X pins σ (upd H a (dO X.prog X.w a ys)) { s with heap := h', toks := t' } ∧ TK H (upd H a (dO X.prog X.w a ys)) ∧ GH X.prog X.w X.K (gup G a (.dct kvs')) (upd H a (dO X.prog X.w a ys)) := by
  obtain ⟨o, es, ep, e1, e2, e3, e4, _, e5⟩ := hm
  have tk := g.tkset h (dO X.prog X.w a ys)
  exact ⟨d_write I (by rw [e]; exact True.intro) hs ⟨o, e1⟩ (dO_new ⟨sy, o, es, ep, e1, e2, e3, e4, e5⟩), tk, g.set h ⟨z, ys, upd_same, Paired.mapP p fun _ _ q => q.mono tk⟩⟩
end
section
variable {X : Cx}
theorem room8 {A : Around} (hr : A.units + 64 < cLine) : A.in1.units + 8 < cLine := by
  show A.units + 1 + 8 < cLine
  omega
/-- k in d -/
@[simp] def rInD (neg : Bool) : GR2 := fun d e G Q => ∃ a kvs, e = .ref a ∧ dctAt G a kvs ∧ isKey d ∧ Q (.bl (if neg then !(dget kvs d).isSome else (dget kvs d).isSome)) G
theorem op_inD (hr : X.A.units + 64 < cLine) : GOp X (compareOp .In) (rInD false) := by
  intro pins s σ H x y v u Q I rx ry h
  obtain ⟨G, R, d, e, g, hx, hy, ⟨a, kvs, rfl, ha, hk, q⟩, k⟩ := h
  cases dat_ref hy
  cases ry
  obtain ⟨z, xs, p, sy, hm⟩ := dct_rd I g ha
  obtain ⟨b, rfl, rfl, kb⟩ := key_at I hk hx rx
  refine wpAny_in_heap (knd := nestedKind X.prog X.w) (room8 hr) kb sy hm ⟨.bl _, H, I.tok _, rfl, k _ H _ G TK.refl g (.bl _) ?_⟩
  have e2 : (atKey xs (nk d)).isSome = (dget kvs d).isSome := by
    rcases ent_find hk.1 p with ⟨z1, z2⟩ | ⟨v, d', p, z1, z2, z3⟩ <;> simp [z1, z2]
  rw [e2]
  exact q
theorem op_notinD (hr : X.A.units + 64 < cLine) : GOp X (compareOp .NotIn) (rInD true) := by
  intro pins s σ H x y v u Q I rx ry h
  obtain ⟨G, R, d, e, g, hx, hy, ⟨a, kvs, rfl, ha, hk, q⟩, k⟩ := h
  cases dat_ref hy
  cases ry
  obtain ⟨z, xs, p, sy, hm⟩ := dct_rd I g ha
  obtain ⟨b, rfl, rfl, kb⟩ := key_at I hk hx rx
  have e2 : (atKey xs (nk d)).isSome = (dget kvs d).isSome := by
    rcases ent_find hk.1 p with ⟨z1, z2⟩ | ⟨v, d', p, z1, z2, z3⟩ <;> simp [z1, z2]
  show wpAny _ _ (contains (Value.ref a) (Value.ref b) >>= fun z => pure (Value.bool (!z))) _ _ s
  refine wpAny_bind (wpAny_contains_heap (knd := nestedKind X.prog X.w) (room8 hr) kb sy hm (wpAny_pure ⟨.bl _, H, I.tok _, rfl, k _ H _ G TK.refl g (.bl _) ?_⟩))
  rw [e2]
  exact q
/-- d[k] -/
@[simp] def rGetD : GR2 := fun d e G Q => ∃ a kvs x, d = .ref a ∧ dctAt G a kvs ∧ isKey e ∧ dget kvs e = some x ∧ Q x G
theorem getD_raw (hr : X.A.units + 64 < cLine) {pins : List (Addr × Obj)} {s : Shared} {σ : L2.St} {H : Hp} {x y : V} {v u : Value} {Q : VK} (I : Inv X pins σ H s) (rx : RelV x v) (ry : RelV y u) (h : upR X.prog X.w X.K rGetD x y H Q) :
    wpAny (model X.prog X.w) X.A (getItem v u) (EP X pins σ Q) X.xe s := by
  obtain ⟨G, R, d, e, g, hx, hy, ⟨a, kvs, x, rfl, ha, hk, hg, q⟩, k⟩ := h
  cases dat_ref hx
  cases rx
  obtain ⟨z, xs, p, sy, hm⟩ := dct_rd I g ha
  obtain ⟨b, rfl, rfl, kb⟩ := key_at I hk hy ry
  rcases ent_find hk.1 p with ⟨z1, z2⟩ | ⟨v', d', p, z1, z2, z3, z4⟩
  · rw [hg] at z1; cases z1
  · rw [hg] at z1
    cases z1
    exact wpAny_getItem_heap (knd := nestedKind X.prog X.w) (room8 hr) kb hm z2 ⟨v', H, I.tok _, z3, k _ H _ G TK.refl g z4 q⟩
theorem ge_getD {pos : Pos} {a b : Expr} {ta tb : GTE} (hr : X.A.units + 64 < cLine) (ha : GE X a ta) (hb : GE X b tb) (hs : NoSl b := by exact fun _ _ => rfl) : GE X (.Subscript a b pos) (gOp rGetD ta tb) := by
  refine ⟨fun pins s σ H Q I h => ?_⟩
  have h' := up_op h
  refine subD_of PySem.F.slot_dict_getitem.lookup hs (thn (ha.run pins s σ H _ I h') fun u s1 ⟨x, H1, I1, rx, q1⟩ => thn (hb.run pins s1 σ H1 _ I1 q1) fun iv s2 ⟨y, H2, I2, ry, q2⟩ => ?_)
  obtain ⟨G2, R, d, e, g2, hx, hy, ⟨p, kvs, z, rfl, hp, r⟩, k⟩ := id q2
  cases dat_ref hx
  cases rx
  obtain ⟨_, xs, pp, sy, hm⟩ := dct_rd I2 g2 hp
  exact ⟨hm.typeIs, getD_raw (x := .ref p) hr I2 rfl ry q2⟩
/-- d[k] = v -/
@[simp] def rSetD : D → D → D → Gp → (Gp → Prop) → Prop := fun o i v G Q => ∃ a kvs, o = .ref a ∧ G a = some (.dct kvs) ∧ isKey i ∧ kvs.length < sizeLine ∧ Q (gup G a (.dct (dput kvs i v)))
theorem setD (hr : X.A.units + 64 < cLine) : GSet X rSetD := by
  intro pins s σ H o i v ov iv u Q I ro ri rv h
  obtain ⟨G, R, da, db, dc, g, ho, hi, hv, ⟨a, kvs, rfl, ha, hk, hz, q⟩, k⟩ := h
  cases dat_ref ho
  cases ro
  obtain ⟨z, xs, e, p, sy, hm⟩ := dct_at I g ha
  obtain ⟨b, rfl, rfl, kb⟩ := key_at I hk hi ri
  have hl : xs.length = kvs.length := p.length.symm
  refine wpAny_setItem_heap (knd := nestedKind X.prog X.w) (hsz := by rw [hl]; exact z) (room8 hr) kb hm fun h' hm' hs => ?_
  obtain ⟨I2, tk, g2⟩ := dct_put (t' := s.toks + (nestedKind X.prog X.w).draws (nk db)) I g ha e hm' hs (ent_put hk.1 hi rv hv p) sy (by have := dput_len kvs db dc; omega)
  exact ⟨_, I2, k _ _ tk g2 q⟩
/-- {} -/
@[simp] def gNewD : GTE := fun _ G Q => ∀ p, G p = none → Q (.ref p) (gup G p (.dct []))
theorem ge_newD {pos : Pos} : GE X (.Dict [] [] pos) gNewD := by
  refine ⟨fun pins s σ H Q I ⟨ρ, G, R, rs, g, q, k⟩ => wpAny_Dict_empty ?_⟩
  have hn := I.hok.fresh (Nat.le_refl s.heap.objs.size)
  refine ⟨.ref s.heap.objs.size, upd H s.heap.objs.size (dO X.prog X.w s.heap.objs.size []), I.laid (t' := s.toks) (fun _ _ q => Heap.get?_push_of_some _ q) (Nat.le_refl _) (dO_new ⟨beq_eq_false_iff_ne.mpr (Ne.symm (Nat.ne_of_lt I.big)), _, #[], 0, Heap.get?_push_size _ rfl, ⟨rfl, rfl, rfl⟩, rfl, rfl, List.nodup_nil⟩), rfl, ?_⟩
  exact k _ _ _ _ (TK.new hn) (g.new (o := .dct []) hn ⟨Nat.zero_le _, [], upd_same, .nil⟩) (.ref _) (q _ (g.ne hn))
@[simp] def gNewS : GTE := fun _ G Q => ∀ p, G p = none → Q (.ref p) (gup G p (.dks []))
theorem ge_newS {pos : Pos} : GE X (.Dict [] [] pos) gNewS :=
  ge_of pe_dnewK fun σ H ρ G R Q rs g q k p hp => k _ _ _ _ (TK.new hp) (g.new (o := .dks []) hp ⟨Nat.zero_le _, [], upd_same, .nil⟩) (.ref p) (q p (g.ne hp))
/-! ### methods of dicts -/
@[simp] def isD (d : D) (G : Gp) : Prop := ∃ a kvs, d = .ref a ∧ dctAt G a kvs
@[simp] def gDM (r : D → List D → Gp → GK → Prop) (to : GTE) (ts : List GTE) : GTE := fun ρ G Q => to ρ G fun x G1 => isD x G1 ∧ gArgs ts ρ G1 fun xs G2 => r x xs G2 Q
theorem ty_dct {pins : List (Addr × Obj)} {σ : L2.St} {H : Hp} {s : Shared} {G : Gp} {d : D} {v : V} {u : Value} (I : Inv X pins σ H s) (g : GH X.prog X.w X.K G H) (h : isD d G) (hd : Dat X.K H v d) (r : RelV v u) :
    s.TypeIs u "dict" ∧ ∀ a, u = .ref a → ∃ ob, s.heap.get? a = some ob ∧ ob.dict = none := by
  obtain ⟨a, kvs, rfl, ha⟩ := h
  cases dat_ref hd
  cases r
  obtain ⟨z, xs, p, sy, hm⟩ := dct_rd I g ha
  refine ⟨hm.typeIs, fun b eb => ?_⟩
  cases eb
  obtain ⟨o, es, ep, e1, e2, _⟩ := hm
  exact ⟨o, e1, e2.2.1⟩
theorem ge_dm0 {o : Expr} {to : GTE} {name : Str} {apos cpos : Pos} {id : String} {r : D → List D → Gp → GK → Prop} (slot : Slot "dict" name id) (hty : typeOf (.builtin id) = pure (.type "method_descriptor")) (hm : GMt X id r) (ho : GE X o to)
    (hbase : attributeBase o name X.env (eval o X.env) = eval o X.env := by rfl) (hline : (apos.endLine == cpos.line) = true := by rfl) : GE X (.Call (.Attribute o name apos) [] [] cpos) (gDM r to []) := by
  refine ⟨fun pins s σ H Q I ⟨ρ, G, R, rs, g, q, k⟩ => ?_⟩
  refine wpAny_Call_method0_late hbase hline (thn (PE.run ho pins s σ H (fun x H1 => ∃ d G1, TK H H1 ∧ GH X.prog X.w X.K G1 H1 ∧ Dat X.K H1 x d ∧ isD d G1 ∧ gArgs [] ρ G1 fun xs G2 => r d xs G2 R) I ⟨ρ, G, _, rs, g, q, fun v H1 d G1 k1 g1 h1 q1 => ⟨d, G1, k1, g1, h1, q1⟩⟩) fun v s1 ⟨x, H1, I1, r1, d, G1, k1, g1, h1, id1, q1⟩ => ?_)
  obtain ⟨t1, t2⟩ := ty_dct I1 g1 id1 h1 r1
  exact ⟨"dict", id, PySem.F.plainAttrs_dict, slot, hty, t1, t2, Calls.callWith_builtin rfl (PySem.evalArgs_none (hm pins s1 σ H1 x [] v [] Q I1 r1 .nil ⟨G1, _, d, [], g1, h1, .nil, q1, fun v H' d G' k2 => k v H' d G' (k1.trans k2)⟩))⟩
theorem ge_dm {o e : Expr} {es : List Expr} {to : GTE} {ts : List GTE} {name : Str} {apos cpos : Pos} {id : String} {r : D → List D → Gp → GK → Prop} (slot : Slot "dict" name id) (hty : typeOf (.builtin id) = pure (.type "method_descriptor")) (hm : GMt X id r) (ho : GE X o to) (ha : GA X (e :: es) ts)
    (hbase : attributeBase o name X.env (eval o X.env) = eval o X.env := by rfl)
    (hfew : ((backTo cpos (starEach (e :: es) X.env)).all (fun x => !x.1) && (backToKw cpos (keywordEach [] X.env)).all (fun x => x.1.isSome)
      && decide ((e :: es).length + ([] : List Keyword).length + (if ([] : List Keyword).isEmpty then 0 else 1) < 30)) = true := by rfl)
    (hline : (apos.endLine == cpos.line) = true := by rfl) (hs : starEach (e :: es) X.env = (false, eval e X.env) :: starEach es X.env := by rfl) (hplain : (backTo cpos (starEach es X.env)).any (·.1) = false := by rfl) :
    GE X (.Call (.Attribute o name apos) (e :: es) [] cpos) (gDM r to ts) := by
  refine ⟨fun pins s σ H Q I ⟨ρ, G, R, rs, g, q, k⟩ => ?_⟩
  refine wpAny_Call_method_late hbase hfew hline rfl (thn (PE.run ho pins s σ H (fun x H1 => ∃ d G1, TK H H1 ∧ GH X.prog X.w X.K G1 H1 ∧ Dat X.K H1 x d ∧ isD d G1 ∧ gArgs ts ρ G1 fun xs G2 => r d xs G2 R) I ⟨ρ, G, _, rs, g, q, fun v H1 d G1 k1 g1 h1 q1 => ⟨d, G1, k1, g1, h1, q1⟩⟩) fun v s1 ⟨x, H1, I1, r1, d, G1, k1, g1, h1, id1, q1⟩ => ?_)
  obtain ⟨t1, t2⟩ := ty_dct I1 g1 id1 h1 r1
  refine ⟨"dict", id, PySem.F.plainAttrs_dict, slot, hty, t1, t2, ?_⟩
  have hA := PA.run ha cpos pins s1 σ H1 (fun vs H2 => upM X.prog X.w X.K r x vs H2 Q) I1 (args_up ts (rs.mono k1) g1 q1 fun vs H2 ds G2 k2 g2 h2 l q2 => ⟨G2, R, d, ds, g2, h1.mono k2, h2, q2, fun v H' d G' k3 => k v H' d G' ((k1.trans k2).trans k3)⟩)
  rw [hs] at hA ⊢
  refine Calls.callWith_builtin (by show (false || (backTo cpos (starEach es X.env)).any (·.1)) = false; rw [hplain] <;> rfl) (Calls.evalArgs_plain ?_)
  exact thn hA fun us s2 ⟨vs, H2, I2, r2, q2⟩ => hm pins s2 σ H2 x vs v us Q I2 r1 r2 q2
/-- d.pop(k), the key there -/
@[simp] def rPopD : D → List D → Gp → GK → Prop := fun d ds G Q => ∃ a kvs k x, d = .ref a ∧ ds = [k] ∧ G a = some (.dct kvs) ∧ isKey k ∧ dget kvs k = some x ∧ Q x (gup G a (.dct (ddel kvs k)))
theorem ddel_len (kvs : List (D × D)) (k : D) : (ddel kvs k).length ≤ kvs.length := List.length_filter_le _ _
theorem mpopD (hr : X.A.units + 64 < cLine) : GMt X "dict.pop" rPopD := by
  intro pins s σ H x vs v us Q I rx rv h
  obtain ⟨G, R, d, ds, g, hx, hs, ⟨a, kvs, kk, y, rfl, rfl, ha, hk, hg, q⟩, k⟩ := h
  cases dat_ref hx
  cases rx
  cases hs with
  | cons hkd t =>
    cases t
    obtain ⟨u, rfl, ru⟩ := rv.one
    obtain ⟨z, xs, e, p, sy, hm⟩ := dct_at I g ha
    obtain ⟨b, rfl, rfl, kb⟩ := key_at I hk hkd ru
    have hl : xs.length = kvs.length := p.length.symm
    rcases ent_find hk.1 p with ⟨z1, z2⟩ | ⟨v', d', p', z1, z2, z3, z4⟩
    · rw [hg] at z1; cases z1
    · rw [hg] at z1
      cases z1
      refine call_pop_heap (knd := nestedKind X.prog X.w) (more := []) (hsz := by rw [hl]; exact z) (.inl rfl) (PySem.F.args_dict_pop_2 _ _) (room8 hr) kb sy hm z2 fun h' hm' hs' => ?_
      obtain ⟨I2, tk, g2⟩ := dct_put (t' := s.toks + (nestedKind X.prog X.w).draws (nk kk)) I g ha e hm' hs' (ent_del hk.1 p) sy (by have := ddel_len kvs kk; omega)
      exact ⟨v', _, I2, z3, k _ _ _ _ tk g2 (z4.mono tk) q⟩
/-- d.get(k, x) -/
@[simp] def rGetOrD : D → List D → Gp → GK → Prop := fun d ds G Q => ∃ a kvs k x, d = .ref a ∧ ds = [k, x] ∧ dctAt G a kvs ∧ isKey k ∧ Q ((dget kvs k).getD x) G
theorem mgetOrD (hr : X.A.units + 64 < cLine) : GMt X "dict.get" rGetOrD := by
  intro pins s σ H x vs v us Q I rx rv h
  obtain ⟨G, R, d, ds, g, hx, hs, ⟨a, kvs, kk, y, rfl, rfl, ha, hk, q⟩, k⟩ := h
  cases dat_ref hx
  cases rx
  cases hs with
  | cons hkd t =>
    cases t with
    | cons hyd t =>
      cases t
      obtain ⟨u, w', rfl, ru, rw'⟩ := rv.two
      obtain ⟨z, xs, p, sy, hm⟩ := dct_rd I g ha
      obtain ⟨b, rfl, rfl, kb⟩ := key_at I hk hkd ru
      refine call_meetsIn PySem.F.slot_dict_get hm.typeIs PySem.F.entry_dict_get (PySem.F.args_dict_get_3 _ _ _) (meetsH_dict_get_default (nestedKind X.prog X.w) a b sy w') ⟨room8 hr, nk kk, xs, kb, hm, ?_⟩
      rcases ent_find hk.1 p with ⟨z1, z2⟩ | ⟨v', d', p', z1, z2, z3, z4⟩
      · rw [z1] at q
        rw [z2]
        exact ⟨_, H, I.tok _, rw', k _ H _ G TK.refl g hyd q⟩
      · rw [z1] at q
        rw [z2]
        exact ⟨v', H, I.tok _, z3, k _ H _ G TK.refl g z4 q⟩
/-- d.setdefault(k, x) -/
@[simp] def rSetDf : D → List D → Gp → GK → Prop := fun d ds G Q => ∃ a kvs k x, d = .ref a ∧ ds = [k, x] ∧ G a = some (.dct kvs) ∧ isKey k ∧ kvs.length < sizeLine ∧ (∀ y, dget kvs k = some y → Q y G) ∧ (dget kvs k = none → Q x (gup G a (.dct (dput kvs k x))))
theorem msetDf (hr : X.A.units + 64 < cLine) : GMt X "dict.setdefault" rSetDf := by
  intro pins s σ H x vs v us Q I rx rv h
  obtain ⟨G, R, d, ds, g, hx, hs, ⟨a, kvs, kk, y, rfl, rfl, ha, hk, hz, q1, q2⟩, k⟩ := h
  cases dat_ref hx
  cases rx
  cases hs with
  | cons hkd t =>
    cases t with
    | cons hyd t =>
      cases t
      obtain ⟨u, w', rfl, ru, rw'⟩ := rv.two
      obtain ⟨z, xs, e, p, sy, hm⟩ := dct_at I g ha
      obtain ⟨b, rfl, rfl, kb⟩ := key_at I hk hkd ru
      have hl : xs.length = kvs.length := p.length.symm
      refine call_setdefault_heap (knd := nestedKind X.prog X.w) (hsz := by rw [hl]; exact z) (room8 hr) kb sy hm (fun p' hp' => ?_) fun hn h' hm' hs' => ?_
      · rcases ent_find hk.1 p with ⟨z1, z2⟩ | ⟨v', d', p'', z1, z2, z3, z4⟩
        · rw [hp'] at z2; cases z2
        · rw [hp'] at z2; cases z2
          exact ⟨v', H, I.tok _, z3, k _ H _ G TK.refl g z4 (q1 _ z1)⟩
      · have z1 : dget kvs kk = none := by
          rcases ent_find hk.1 p with ⟨z1, z2⟩ | ⟨v', d', p'', z1, z2, z3, z4⟩
          · exact z1
          · rw [hn] at z2; cases z2
        obtain ⟨I2, tk, g2⟩ := dct_put (t' := s.toks + (nestedKind X.prog X.w).draws (nk kk)) I g ha e hm' hs' (ent_put hk.1 hkd rw' hyd p) sy (by have := dput_len kvs kk y; omega)
        exact ⟨_, _, I2, rw', k _ _ _ _ tk g2 (hyd.mono tk) (q2 z1)⟩
/-- d.update(d2) of dicts: no two keys of d2 hash alike (or d is not empty) -/
def rUpdD (w : World) : D → List D → Gp → GK → Prop := fun d ds G Q => ∃ a b kvs more, d = .ref a ∧ ds = [.ref b] ∧ a ≠ b ∧ G a = some (.dct kvs) ∧ G b = some (.dct more) ∧ (∀ p ∈ more, isKey p.1) ∧
  (kvs ≠ [] ∨ (more.map fun p => (nk p.1).hash w).Nodup) ∧ kvs.length + more.length ≤ sizeLine ∧ Q .non (gup G a (.dct (dputs kvs more)))
theorem mupdD (hr : X.A.units + 64 < cLine) : GMt X "dict.update" (rUpdD X.w) := by
  intro pins s σ H x vs v us Q I rx rv h
  obtain ⟨G, R, d, ds, g, hx, hs, ⟨a, b, kvs, more, rfl, rfl, hab, ha, hb, hkk, hn, hz, q⟩, k⟩ := h
  cases dat_ref hx
  cases rx
  cases hs with
  | cons hbd t =>
    cases t
    cases dat_ref hbd
    obtain ⟨u, rfl, ru⟩ := rv.one
    cases ru
    obtain ⟨z, xs, e, p, sy, hm⟩ := dct_at I g ha
    obtain ⟨z', ys, e', p', sy', hm'⟩ := dct_at I g hb
    have hl : xs.length = kvs.length := p.length.symm
    have hl' : ys.length = more.length := p'.length.symm
    refine call_update_dictH (knd := nestedKind X.prog X.w) (room8 hr) hab sy' hm hm' ?_ (by rw [hl, hl']; exact hz) fun h' hm2 _ hs' => ?_
    · rcases hn with hn | hn
      · refine .inl fun ez => hn ?_
        rw [ez] at hl
        exact List.length_eq_zero_iff.mp hl.symm
      · refine .inr ⟨fun y hy => by
        obtain ⟨_, _, _, _, _, _, _, hi, _⟩ := hm'
        exact nestedKind_stays.tuple (hi y hy), ?_⟩
        have e3 : (ys.map fun x => (nestedKind X.prog X.w).hash x.1) = more.map fun p => (nk p.1).hash X.w := by
          clear e' hm' hb hn hz hl' hkk q z'
          induction p' with
          | nil => rfl
          | @cons p q ps qs h t ih =>
            rw [List.map_cons, List.map_cons, ih, h.2.1]
            rfl
        rw [e3]
        exact hn
    · obtain ⟨I2, tk, g2⟩ := dct_put (t' := s.toks) I g ha e hm2 hs' (ent_puts p' p) sy (by have := dputs_len more kvs; omega)
      exact ⟨.non, _, I2, rfl, k _ _ _ _ tk g2 .non q⟩
end
end G
set_option Elab.async false
set_option linter.all false
set_option maxRecDepth 100000
set_option maxHeartbeats 4000000
namespace G
open PySem PySem.Spec PyProof.Rows L2

/-! ### dicts with text keys -/
def sget (kvs : List (Str × D)) (k : Str) : Option D := (kvs.find? fun p => decide (p.1 = k)).map (·.2)
def sput (kvs : List (Str × D)) (k : Str) (v : D) : List (Str × D) := if (kvs.any fun p => decide (p.1 = k)) = true then kvs.map (fun p => if p.1 = k then (p.1, v) else p) else kvs ++ [(k, v)]
abbrev SEnt (K : PySem.W.Frag) (H : Hp) (p : Str × D) (q : Key × V) : Prop := q.1 = .inr p.1 ∧ Dat K H q.2 p.2
theorem inr_iff {a b : Str} : ((Sum.inr a : Key) = .inr b) ↔ a = b := ⟨fun e => Sum.inr.inj e, fun e => by rw [e]⟩
section
variable {K : PySem.W.Frag} {H : Hp}
theorem sent_get (k : Str) : ∀ {kvs : List (Str × D)} {xs : List (Key × V)}, Paired (SEnt K H) kvs xs →
    (sget kvs k = none ∧ valV xs (Sum.inr k) = none) ∨ ∃ v d, sget kvs k = some d ∧ valV xs (Sum.inr k) = some v ∧ Dat K H v d
  | _, _, .nil => .inl ⟨rfl, rfl⟩
  | p :: kvs, q :: xs, .cons h t => by
    obtain ⟨h1, h2⟩ := h
    by_cases e : p.1 = k
    · exact .inr ⟨q.2, p.2, by simp [sget, e], by simp [valV, h1, e], h2⟩
    · have e2 : ¬ q.1 = Sum.inr k := fun z => e (Sum.inr.inj (h1.symm.trans z))
      rcases sent_get k t with ⟨z1, z2⟩ | ⟨v, d, z1, z2, z3⟩
      · exact .inl ⟨by simpa [sget, e] using z1, by simpa [valV, e2] using z2⟩
      · exact .inr ⟨v, d, by simpa [sget, e] using z1, by simpa [valV, e2] using z2, z3⟩
theorem sent_put (k : Str) {v : V} {d : D} (hd : Dat K H v d) {kvs : List (Str × D)} {xs : List (Key × V)} (h : Paired (SEnt K H) kvs xs) : Paired (SEnt K H) (sput kvs k d) (putK xs (Sum.inr k) v) := by
  have e : (xs.any fun kv => decide (kv.1 = Sum.inr k)) = (kvs.any fun p => decide (p.1 = k)) := by
    induction h with
    | nil => rfl
    | @cons p q ps qs h t ih =>
      rw [List.any_cons, List.any_cons, ih, h.1]
      by_cases e : p.1 = k
      · simp [e]
      · simp [e]
  unfold sput putK
  rw [e]
  split
  · clear e
    rename_i e
    clear e
    induction h with
    | nil => exact .nil
    | @cons p q ps qs h t ih =>
      refine .cons ?_ ih
      obtain ⟨h1, h2⟩ := h
      by_cases e : p.1 = k
      · have e2 : q.1 = Sum.inr k := by rw [h1, e]
        show SEnt K H (if p.1 = k then (p.1, d) else p) (if q.1 = Sum.inr k then (q.1, v) else q)
        rw [if_pos e, if_pos e2]
        exact ⟨h1, hd⟩
      · have e2 : ¬ q.1 = Sum.inr k := fun z => e (Sum.inr.inj (h1.symm.trans z))
        show SEnt K H (if p.1 = k then (p.1, d) else p) (if q.1 = Sum.inr k then (q.1, v) else q)
        rw [if_neg e, if_neg e2]
        exact ⟨h1, h2⟩
  · clear e
    rename_i e
    clear e
    induction h with
    | nil => exact .cons ⟨rfl, hd⟩ .nil
    | cons h t ih => exact .cons h ih
end
theorem sput_len (kvs : List (Str × D)) (k : Str) (v : D) : (sput kvs k v).length ≤ kvs.length + 1 := by
  unfold sput
  split
  · rw [List.length_map]; omega
  · rw [List.length_append]; exact Nat.le_refl _
section
variable {X : Cx} {pos : Pos}
@[simp] def rGetS : GR2 := fun d e G Q => ∃ a kvs k x, d = .ref a ∧ e = .str k ∧ G a = some (.dks kvs) ∧ sget kvs k = some x ∧ Q x G
theorem ge_getS {a b : Expr} {ta tb : GTE} (hr : X.A.units + 64 < cLine) (ha : GE X a ta) (hb : GE X b tb) (hs : NoSl b := by exact fun _ _ => rfl) : GE X (.Subscript a b pos) (gOp rGetS ta tb) :=
  PE.weak (pe_dget (by omega) ha hb hs) fun σ H Q ⟨ρ, G, R, rs, g, q, k⟩ => by
    refine ⟨ρ, G, _, rs, g, q, fun v H1 d G1 k1 g1 h1 q1 => ⟨ρ, G1, _, rs.mono k1, g1, q1, fun v2 H2 e G2 k2 g2 h2 ⟨p, kvs, kk, x, ed, ee, hp, hx, q2⟩ => ?_⟩⟩
    subst ed ee
    obtain ⟨z, kv, e, pp⟩ := g2 p _ hp
    rcases sent_get kk pp with ⟨z1, z2⟩ | ⟨v', d', z1, z2, z3⟩
    · rw [hx] at z1; cases z1
    · rw [hx] at z1
      cases z1
      refine ⟨p, v', dat_ref h1, ?_, k v' H2 x G2 (k1.trans k2) g2 z3 q2⟩
      rw [dat_str h2, ← z2]
      exact DGet.k (k := Sum.inr kk) e
@[simp] def rInS (neg : Bool) : GR2 := fun d e G Q => ∃ a kvs k, e = .ref a ∧ d = .str k ∧ G a = some (.dks kvs) ∧ Q (.bl (if neg then !(sget kvs k).isSome else (sget kvs k).isSome)) G
theorem ge_inS {a b : Expr} {ta tb : GTE} (hr : X.A.units + 64 < cLine) (ha : GE X a ta) (hb : GE X b tb) (hm : behindInMarks .In b = false := by rfl) : GE X (.Compare a [.In] [b] pos) (gOp (rInS false) ta tb) :=
  PE.weak (pe_cmp (pc_din (by omega) ha hb) hm) fun σ H Q ⟨ρ, G, R, rs, g, q, k⟩ => by
    refine ⟨ρ, G, _, rs, g, q, fun v H1 d G1 k1 g1 h1 q1 => ⟨ρ, G1, _, rs.mono k1, g1, q1, fun v2 H2 e G2 k2 g2 h2 ⟨p, kvs, kk, ed, ee, hp, q2⟩ => ?_⟩⟩
    subst ed ee
    obtain ⟨z, kv, e, pp⟩ := g2 p _ hp
    refine ⟨p, valV kv (Sum.inr kk), dat_ref h2, ?_, ?_⟩
    · rw [dat_str h1]
      exact DGet.k (k := Sum.inr kk) e
    · have e2 : (valV kv (Sum.inr kk)).isSome = (sget kvs kk).isSome := by
        rcases sent_get kk pp with ⟨z1, z2⟩ | ⟨v', d', z1, z2, z3⟩ <;> simp [z1, z2]
      rw [e2]
      exact k _ H2 _ G2 (k1.trans k2) g2 (.bl _) q2
@[simp] def rSetS : D → D → D → Gp → (Gp → Prop) → Prop := fun o i v G Q => ∃ a kvs k, o = .ref a ∧ i = .str k ∧ G a = some (.dks kvs) ∧ kvs.length < sizeLine ∧ Q (gup G a (.dks (sput kvs k v)))
theorem setS (hr : X.A.units + 64 < cLine) : GSet X rSetS := by
  intro pins s σ H o i v ov iv u Q I ro ri rv h
  obtain ⟨G, R, da, db, dc, g, ho, hi, hv, ⟨a, kvs, kk, rfl, rfl, ha, hz, q⟩, k⟩ := h
  cases dat_ref ho
  cases ro
  cases dat_str hi
  obtain ⟨z, kv, e, pp⟩ := g a _ ha
  have hl : kv.length = kvs.length := pp.length.symm
  refine d_setItem (H' := upd H a (.dK (putK kv (Sum.inr kk) v))) (by omega) I (DPut.k (k := Sum.inr kk) e (by omega)) ri rv fun s' I' => ?_
  have tk := g.tkset ha (.dK (putK kv (Sum.inr kk) v))
  refine ⟨_, I', k _ _ tk (g.set (o' := .dks (sput kvs kk dc)) ha ⟨by have := sput_len kvs kk dc; omega, _, upd_same, ?_⟩) q⟩
  exact Paired.mapP (sent_put kk hv pp) fun _ _ z => ⟨z.1, z.2.mono tk⟩
/-! displays -/
/-- {'a': e, ..}: texts -/
def GPs (X : Cx) (pos : Pos) (keys : List (Option Expr)) (values : List Expr) (ks : List Str) (ts : List GTE) : Prop := PPs X pos keys values ((ks.zip ts).map fun p => (tC (.str p.1), up X.prog X.w X.K p.2))
theorem gps_nil : GPs X pos [] [] [] [] := pps_nil
theorem gps_cons {k : Str} {j : Nat} {p : Pos} {v : Expr} {keys : List (Option Expr)} {vs : List Expr} {ks : List Str} {te : GTE} {ts : List GTE} (hv : GE X v te) (hr : GPs X pos keys vs ks ts) : GPs X pos (some (.Constant (.str k) j p) :: keys) (v :: vs) (k :: ks) (te :: ts) := pps_cons pe_str hv hr
theorem pairs_up {P : Program} {w : World} {K : PySem.W.Frag} {σ : L2.St} {ρ : Ro} : ∀ (ks : List Str) (ts : List GTE) {H : Hp} {G : Gp} {R : List D → Gp → Prop} {Q : List (V × V) → Hp → Prop}, ks.length = ts.length → RS K H σ ρ → GH P w K G H → gArgs ts ρ G R →
    (∀ vs H' ds G', TK H H' → GH P w K G' H' → DatL K H' vs ds → vs.length = ks.length → R ds G' → Q ((ks.zip vs).map fun p => (V.str p.1, p.2)) H') → tPairs ((ks.zip ts).map fun p => (tC (.str p.1), up P w K p.2)) σ H Q
  | [], [], H, G, R, Q, hl, rs, g, q, k => k [] H [] G TK.refl g .nil rfl q
  | x :: ks, t :: ts, H, G, R, Q, hl, rs, g, q, k => by
    refine ⟨ρ, G, _, rs, g, q, fun v H1 d G1 k1 g1 h1 q1 => ?_⟩
    exact pairs_up ks ts (by simpa using hl) (rs.mono k1) g1 q1 fun vs H2 ds G2 k2 g2 h2 l q2 => k (v :: vs) H2 (d :: ds) G2 (k1.trans k2) g2 (.cons (h1.mono k2) h2) (by rw [List.length_cons, List.length_cons, l]) q2
  | [], _ :: _, _, _, _, _, hl, _, _, _, _ => by cases hl
  | _ :: _, [], _, _, _, _, hl, _, _, _, _ => by cases hl
theorem mergeK_nodup : ∀ (more acc : List (Key × V)), ((acc ++ more).map (·.1)).Nodup → mergeK acc more = acc ++ more
  | [], acc, _ => (List.append_nil _).symm
  | p :: more, acc, h => by
    have h1 : valV acc p.1 = none := by
      cases e : valV acc p.1 with
      | none => rfl
      | some v =>
        have hm : p.1 ∈ acc.map (·.1) := by
          unfold valV at e
          obtain ⟨q, hq, _⟩ := Option.map_eq_some_iff.mp e
          have h3 := List.find?_some hq
          have h4 : q.1 = p.1 := of_decide_eq_true h3
          rw [← h4]
          exact List.mem_map.mpr ⟨q, List.mem_of_find?_eq_some hq, rfl⟩
        rw [List.map_append, List.nodup_append] at h
        exact absurd rfl (h.2.2 p.1 hm p.1 (by simp))
    show mergeK (putK acc p.1 p.2) more = _
    rw [putK_new p.2 h1, mergeK_nodup more _ (by simpa using h), List.append_assoc]
    rfl
theorem zip_sent {K : PySem.W.Frag} {H : Hp} : ∀ (ks : List Str) {vs : List V} {ds : List D}, DatL K H vs ds → Paired (SEnt K H) (ks.zip ds) ((ks.zip vs).map fun p => ((Sum.inr p.1 : Key), p.2))
  | [], _, _, _ => .nil
  | x :: ks, _, _, .nil => .nil
  | x :: ks, _, _, .cons r t => .cons ⟨rfl, r⟩ (zip_sent ks t)
@[simp] def gDispS (ks : List Str) (ts : List GTE) : GTE := fun ρ G Q => ∀ p, G p = none → gArgs ts ρ (gup G p (.dks [])) fun ds G2 => G2 p = some (.dks []) ∧ Q (.ref p) (gup G2 p (.dks (ks.zip ds)))
theorem ge_dispS {keys : List (Option Expr)} {values : List Expr} {ks : List Str} {ts : List GTE} (h : GPs X pos keys values ks ts) (hall : keys.all (·.isSome) = true := by rfl) (hl : keys.length = values.length := by rfl) (h0 : keys ≠ [] := by simp)
    (h15 : keys.length ≤ 15 := by decide) (hkt : ks.length = ts.length := by rfl) (hk : keys.length = ks.length := by rfl) (hnd : ks.Nodup := by decide) : GE X (.Dict keys values pos) (gDispS ks ts) :=
  ge_of (pe_disp h hall hl h0 h15) fun σ H ρ G R Q rs g q k p hp => by
    have g0 : GH X.prog X.w X.K (gup G p (.dks [])) (upd H p (.dK [])) := g.new (o := .dks []) hp ⟨Nat.zero_le _, [], upd_same, .nil⟩
    refine pairs_up ks ts hkt (rs.mono (TK.new hp)) g0 (q p (g.ne hp)) fun vs H2 ds G2 k2 g2 h2 l ⟨gp, q2⟩ => ?_
    obtain ⟨_, kv, e, pp⟩ := g2 p _ gp
    cases pp
    have kk : ((ks.zip vs).map fun p => ((Sum.inr p.1 : Key), p.2)).map (·.1) = ks.map Sum.inr := by
      rw [List.map_map]
      show (ks.zip vs).map (fun p => (Sum.inr p.1 : Key)) = _
      have : (ks.zip vs).map (fun p => (Sum.inr p.1 : Key)) = ((ks.zip vs).map Prod.fst).map Sum.inr := by rw [List.map_map]; rfl
      rw [this, List.map_fst_zip (by omega)]
    refine ⟨e, (ks.zip vs).map (fun p => ((Sum.inr p.1 : Key), p.2)), ?_, ?_, ?_⟩
    · rw [List.map_map]
      rfl
    · rw [List.length_map, List.length_zip]
      omega
    · rw [mergeK_nodup _ [] (by
        rw [List.nil_append, kk]
        exact List.Pairwise.map _ (fun a b hab z => hab (Sum.inr.inj z)) hnd), List.nil_append]
      have tk := g2.tkset gp (.dK ((ks.zip vs).map fun p => ((Sum.inr p.1 : Key), p.2)))
      refine k _ _ _ _ (((TK.new hp).trans k2).trans tk) (g2.set (o' := .dks (ks.zip ds)) gp ⟨?_, _, upd_same, ?_⟩) (.ref p) q2
      · rw [List.length_zip, sizeLine_eq]
        omega
      · exact zip_sent ks (h2.mono tk)
/-- {k: v} with a tuple key -/
@[simp] def gDisp1 (tk tv : GTE) : GTE := fun ρ G Q => ∀ p, G p = none → tk ρ (gup G p (.dct [])) fun d G1 => tv ρ G1 fun e G2 => G2 p = some (.dct []) ∧ isKey d ∧ Q (.ref p) (gup G2 p (.dct [(d, e)]))
theorem ge_disp1 {ke ve : Expr} {tk tv : GTE} (hr : X.A.units + 64 < cLine) (hk : GE X ke tk) (hv : GE X ve tv) : GE X (.Dict [some ke] [ve] pos) (gDisp1 tk tv) := by
  refine ⟨fun pins s σ H Q I ⟨ρ, G, R, rs, g, q, k⟩ => ?_⟩
  have hn := I.hok.fresh (Nat.le_refl s.heap.objs.size)
  have I1 := I.laid (a := s.heap.objs.size) (o := dO X.prog X.w s.heap.objs.size []) (h' := s.heap.push { cls := .type "dict", data := .dict #[] }) (t' := s.toks) (fun _ _ q => Heap.get?_push_of_some _ q) (Nat.le_refl _)
    (dO_new ⟨beq_eq_false_iff_ne.mpr (Ne.symm (Nat.ne_of_lt I.big)), _, #[], 0, Heap.get?_push_size _ rfl, ⟨rfl, rfl, rfl⟩, rfl, rfl, List.nodup_nil⟩)
  have g0 : GH X.prog X.w X.K (gup G s.heap.objs.size (.dct [])) (upd H s.heap.objs.size (dO X.prog X.w s.heap.objs.size [])) := g.new (o := .dct []) hn ⟨Nat.zero_le _, [], upd_same, .nil⟩
  have tk0 : TK H (upd H s.heap.objs.size (dO X.prog X.w s.heap.objs.size [])) := TK.new hn
  have fin : ∀ (Q' : Addr → Shared → Prop), (∀ d s', Q' d s' → EP X pins σ Q (.ref d) s') → wpAny (model X.prog X.w) X.A (subDict (pairTrees [some ke] [ve] X.env pos)) Q' X.xe s → wpAny (model X.prog X.w) X.A (eval (.Dict [some ke] [ve] pos) X.env) (EP X pins σ Q) X.xe s := fun Q' hQ h => by
    rw [arm_eval_Dict, show (evalEachOpt [some ke] X.env).zip ((evalEach [ve] X.env).map fun v => do let x ← v; standAt pos; pure x) = (pairTrees [some ke] [ve] X.env pos).map (fun p => (some p.1, p.2)) from rfl, dictDisplay_pairs _ (by intro z; cases z) (by show 1 < 17; omega)]
    exact wpAny_bind (wpAny_standAt (wpAny_bind (thn h fun d s' q => wpAny_pure (hQ d s' q))))
  refine fin (fun d s' => EP X pins σ Q (.ref d) s') (fun _ _ z => z) (wpAny_subDictH (knd := nestedKind X.prog X.w) (by show X.A.units + 8 < cLine; omega) (by show 1 ≤ 15; omega) (pairTrees_cons_walk ?_))
  refine thn (PE.run hk pins _ σ _ (fun x H1 => ∃ d G1, TK H H1 ∧ GH X.prog X.w X.K G1 H1 ∧ Dat X.K H1 x d ∧ tv ρ G1 fun e G2 => G2 s.heap.objs.size = some (.dct []) ∧ isKey d ∧ R (.ref s.heap.objs.size) (gup G2 s.heap.objs.size (.dct [(d, e)]))) I1
    ⟨ρ, _, _, rs.mono tk0, g0, q _ (g.ne hn), fun v H1 d G1 k1 g1 h1 q1 => ⟨d, G1, tk0.trans k1, g1, h1, q1⟩⟩) fun u s1 ⟨x, H1, I1, r1, d, G1, k1, g1, h1, q1⟩ => ?_
  refine thn (PE.run hv pins s1 σ H1 (fun y H2 => ∃ e G2, TK H1 H2 ∧ GH X.prog X.w X.K G2 H2 ∧ Dat X.K H2 y e ∧ G2 s.heap.objs.size = some (.dct []) ∧ isKey d ∧ R (.ref s.heap.objs.size) (gup G2 s.heap.objs.size (.dct [(d, e)]))) I1
    ⟨ρ, G1, _, rs.mono k1, g1, q1, fun v H2 e G2 k2 g2 h2 q2 => ⟨e, G2, k2, g2, h2, q2⟩⟩) fun u2 s2 ⟨y, H2, I2, r2, e, G2, k2, g2, h2, gp, ik, q2⟩ => ?_
  refine pairTrees_nil_walk ?_
  obtain ⟨z, xs, ex, p, sy, hm⟩ := dct_at I2 g2 gp
  cases p
  obtain ⟨b, rfl, rfl, kb⟩ := key_at I2 ik (h1.mono k2) r1
  refine ⟨[(nk d, b, u2)], ⟨rfl, rfl, kb, trivial⟩, hm, fun h' t' hm' hs => ?_⟩
  obtain ⟨I3, tk, g3⟩ := dct_put (t' := t') (kvs' := [(d, e)]) I2 g2 gp ex hm' hs (.cons ⟨ik.1, rfl, h1.mono k2, y, r2, h2⟩ .nil) sy (by rw [sizeLine_eq]; show 1 ≤ _; omega)
  exact ⟨.ref s.heap.objs.size, _, I3, rfl, k _ _ _ _ ((k1.trans k2).trans tk) g3 (.ref _) q2⟩
end
end G
set_option Elab.async false
set_option linter.all false
set_option maxRecDepth 100000
set_option maxHeartbeats 4000000
namespace G
open PySem PySem.Spec PyProof.Rows L2

theorem datL_one {K : PySem.W.Frag} {H : Hp} {xs : List V} {d : D} (h : DatL K H xs [d]) : ∃ v, xs = [v] ∧ Dat K H v d := by
  cases h with
  | cons h t => cases t; exact ⟨_, rfl, h⟩
theorem datL_two {K : PySem.W.Frag} {H : Hp} {xs : List V} {d e : D} (h : DatL K H xs [d, e]) : ∃ v w, xs = [v, w] ∧ Dat K H v d ∧ Dat K H w e := by
  cases h with
  | cons h t =>
    obtain ⟨w, rfl, h2⟩ := datL_one t
    exact ⟨_, _, rfl, h, h2⟩
section
variable {X : Cx}
/-- tuple(xs), tuple(t) -/
@[simp] def rTuple : List D → Gp → GK → Prop := fun ds G Q => ∃ xs, (ds = [.tup xs] ∨ ∃ a, ds = [.ref a] ∧ G a = some (.lst xs)) ∧ Q (.tup xs) G
theorem cTuple : GCall X (.type "tuple") rTuple :=
  CallR.weak call_tuple_of fun us H Q ⟨G, R, ds, g, h, ⟨xs, c, q⟩, k⟩ => by
    rcases c with rfl | ⟨a, rfl, ha⟩
    · obtain ⟨v, rfl, hv⟩ := datL_one h
      obtain ⟨p, vs, rfl, hs, hd⟩ := dat_tup hv
      exact ⟨p, vs, rfl, .inr ⟨hs, k _ H _ G TK.refl g hv q⟩⟩
    · obtain ⟨v, rfl, hv⟩ := datL_one h
      cases dat_ref hv
      obtain ⟨vs, ev, dv⟩ := list_of g ha
      exact ⟨a, vs, rfl, .inl ⟨SqL.of ev, fun p hp => k _ _ _ G (TK.new hp) (g.grow hp) (.tup (SqT.of upd_same) (dv.mono (TK.new hp))) q⟩⟩
/-- list(xs), list(t) -/
@[simp] def rList : List D → Gp → GK → Prop := fun ds G Q => ∃ xs, ((ds = [.tup xs] ∧ xs.length ≤ sizeLine) ∨ ∃ a, ds = [.ref a] ∧ G a = some (.lst xs)) ∧ ∀ p, G p = none → Q (.ref p) (gup G p (.lst xs))
theorem cList : GCall X (.type "list") rList :=
  CallR.weak call_list_of fun us H Q ⟨G, R, ds, g, h, ⟨xs, c, q⟩, k⟩ => by
    rcases c with ⟨rfl, hz⟩ | ⟨a, rfl, ha⟩
    · obtain ⟨v, rfl, hv⟩ := datL_one h
      obtain ⟨p, vs, rfl, hs, hd⟩ := dat_tup hv
      exact ⟨p, vs, rfl, .inr hs, fun l hl => k _ _ _ _ (TK.new hl) (g.new hl (gok_lst hz (hd.mono (TK.new hl)) upd_same)) (.ref l) (q l (g.ne hl))⟩
    · obtain ⟨v, rfl, hv⟩ := datL_one h
      cases dat_ref hv
      obtain ⟨vs, ev, dv⟩ := list_of g ha
      obtain ⟨z, _⟩ := g a _ ha
      exact ⟨a, vs, rfl, .inl (SqL.of ev), fun l hl => k _ _ _ _ (TK.new hl) (g.new hl (gok_lst z (dv.mono (TK.new hl)) upd_same)) (.ref l) (q l (g.ne hl))⟩
/-- len -/
@[simp] def rLen : List D → Gp → GK → Prop := fun ds G Q => ∃ n : Nat, ((∃ xs, ds = [.tup xs] ∧ n = xs.length) ∨ (∃ a xs, ds = [.ref a] ∧ G a = some (.lst xs) ∧ n = xs.length) ∨ ∃ x : Str, ds = [.str x] ∧ x.length ≤ sizeLine ∧ n = x.length) ∧ Q (.int n) G
theorem cLen : GCall X (.builtin "len") rLen :=
  CallR.weak call_len fun us H Q ⟨G, R, ds, g, h, ⟨n, c, q⟩, k⟩ => by
    rcases c with ⟨xs, rfl, rfl⟩ | ⟨a, xs, rfl, ha, rfl⟩ | ⟨x, rfl, hz, rfl⟩
    · obtain ⟨v, rfl, hv⟩ := datL_one h
      obtain ⟨p, vs, rfl, hs, hd⟩ := dat_tup hv
      exact ⟨.ref p, xs.length, rfl, .inr ⟨vs, hs, hd.length.symm⟩, k _ H _ G TK.refl g (.int _) q⟩
    · obtain ⟨v, rfl, hv⟩ := datL_one h
      cases dat_ref hv
      obtain ⟨vs, ev, dv⟩ := list_of g ha
      exact ⟨.ref a, xs.length, rfl, .inl ⟨vs, SqL.of ev, dv.length.symm⟩, k _ H _ G TK.refl g (.int _) q⟩
    · obtain ⟨v, rfl, hv⟩ := datL_one h
      cases dat_str hv
      exact ⟨.str x, x.length, rfl, ⟨hz, rfl⟩, k _ H _ G TK.refl g (.int _) q⟩
theorem datL_map {α : Type} {K : PySem.W.Frag} {H : Hp} {f : α → V} {f' : α → D} (h : ∀ {v a}, Dat K H v (f' a) → v = f a) : ∀ {as : List α} {vs : List V}, DatL K H vs (as.map f') → vs = as.map f
  | [], vs, q => by cases q; rfl
  | a :: as, vs, q => by
    cases q with
    | cons r t => rw [h r, datL_map h t]; rfl
mutual
theorem reads_nil {h : Heap} : ∀ {d : D} {u : Value} {as : List Addr}, Reads h u (toP d) as → as = []
  | .non, _, _, r => by cases r; rfl
  | .bl _, _, _, r => by cases r; rfl
  | .int _, _, _, r => by cases r; rfl
  | .str _, _, _, r => by cases r; rfl
  | .tup ds, _, _, r => by
    rw [toP] at r
    cases r with
    | tuple h1 h2 h3 h4 => exact readsAll_nil h4
  | .ref _, _, _, r => by cases r; rfl
  | .frl _, _, _, r => by cases r; rfl
theorem readsAll_nil {h : Heap} : ∀ {ds : List D} {us : List Value} {as : List Addr}, ReadsAll h us (toPs ds) as → as = []
  | [], _, _, r => by cases r; rfl
  | d :: ds, _, _, r => by
    rw [toPs] at r
    cases r with
    | cons h1 h2 => rw [reads_nil h1, readsAll_nil h2]; rfl
end
/-- any, all of a list of truth values -/
@[simp] def rAnyG (f : List Bool → Bool) : List D → Gp → GK → Prop := fun ds G Q => ∃ (a : Addr) (bs : List Bool), ds = [.ref a] ∧ G a = some (.lst (bs.map D.bl)) ∧ Q (.bl (f bs)) G
theorem cAny (hc : X.calm = true) : GCall X (.builtin "any") (rAnyG fun bs => bs.any id) :=
  CallR.weak (cr_any hc) fun us H Q ⟨G, R, ds, g, h, ⟨a, bs, e, ha, q⟩, k⟩ => by
    subst e
    obtain ⟨v, rfl, hv⟩ := datL_one h
    cases dat_ref hv
    obtain ⟨vs, ev, dv⟩ := list_of g ha
    cases datL_map (f := V.bl) dat_bl dv
    exact ⟨a, bs, rfl, SqL.of ev, k _ H _ G TK.refl g (.bl _) q⟩
theorem cAll (hc : X.calm = true) : GCall X (.builtin "all") (rAnyG fun bs => bs.all id) :=
  CallR.weak (cr_all hc) fun us H Q ⟨G, R, ds, g, h, ⟨a, bs, e, ha, q⟩, k⟩ => by
    subst e
    obtain ⟨v, rfl, hv⟩ := datL_one h
    cases dat_ref hv
    obtain ⟨vs, ev, dv⟩ := list_of g ha
    cases datL_map (f := V.bl) dat_bl dv
    exact ⟨a, bs, rfl, SqL.of ev, k _ H _ G TK.refl g (.bl _) q⟩
/-- min, max of a list of ints -/
@[simp] def rMaxG : List D → Gp → GK → Prop := fun ds G Q => ∃ (a : Addr) (ns : List Int), ds = [.ref a] ∧ G a = some (.lst (ns.map D.int)) ∧ 0 < ns.length ∧ ∀ m, m ∈ ns → (∀ y ∈ ns, y ≤ m) → Q (.int m) G
@[simp] def rMinG : List D → Gp → GK → Prop := fun ds G Q => ∃ (a : Addr) (ns : List Int), ds = [.ref a] ∧ G a = some (.lst (ns.map D.int)) ∧ 0 < ns.length ∧ ∀ m, m ∈ ns → (∀ y ∈ ns, m ≤ y) → Q (.int m) G
theorem cMax (hc : X.calm = true) : GCall X (.builtin "max") rMaxG :=
  CallR.weak (cr_max hc) fun us H Q ⟨G, R, ds, g, h, ⟨a, bs, e, ha, h0, q⟩, k⟩ => by
    subst e
    obtain ⟨v, rfl, hv⟩ := datL_one h
    cases dat_ref hv
    obtain ⟨vs, ev, dv⟩ := list_of g ha
    cases datL_map (f := V.int) dat_int dv
    exact ⟨a, bs, rfl, SqL.of ev, h0, fun m h1 h2 => k _ H _ G TK.refl g (.int _) (q m h1 h2)⟩
theorem cMin (hc : X.calm = true) : GCall X (.builtin "min") rMinG :=
  CallR.weak (cr_min hc) fun us H Q ⟨G, R, ds, g, h, ⟨a, bs, e, ha, h0, q⟩, k⟩ => by
    subst e
    obtain ⟨v, rfl, hv⟩ := datL_one h
    cases dat_ref hv
    obtain ⟨vs, ev, dv⟩ := list_of g ha
    cases datL_map (f := V.int) dat_int dv
    exact ⟨a, bs, rfl, SqL.of ev, h0, fun m h1 h2 => k _ H _ G TK.refl g (.int _) (q m h1 h2)⟩
/-- of two ints -/
@[simp] def rTwoG (f : Int → Int → Int) : List D → Gp → GK → Prop := fun ds G Q => ∃ i j, ds = [.int i, .int j] ∧ Q (.int (f i j)) G
theorem cMax2 (hc : X.calm = true) : GCall X (.builtin "max") (rTwoG fun i j => if j > i then j else i) :=
  CallR.weak (call_max2 hc) fun us H Q ⟨G, R, ds, g, h, ⟨i, j, e, q⟩, k⟩ => by
    subst e
    obtain ⟨v, w, rfl, hv, hw⟩ := datL_two h
    cases dat_int hv
    cases dat_int hw
    exact ⟨i, j, rfl, k _ H _ G TK.refl g (.int _) q⟩
theorem cMin2 (hc : X.calm = true) : GCall X (.builtin "min") (rTwoG fun i j => if j < i then j else i) :=
  CallR.weak (call_min2 hc) fun us H Q ⟨G, R, ds, g, h, ⟨i, j, e, q⟩, k⟩ => by
    subst e
    obtain ⟨v, w, rfl, hv, hw⟩ := datL_two h
    cases dat_int hv
    cases dat_int hw
    exact ⟨i, j, rfl, k _ H _ G TK.refl g (.int _) q⟩
@[simp] def rAbs : List D → Gp → GK → Prop := fun ds G Q => ∃ i, ds = [.int i] ∧ Q (.int (if i < 0 then -i else i)) G
theorem cAbs : GCall X (.builtin "abs") rAbs :=
  CallR.weak call_abs fun us H Q ⟨G, R, ds, g, h, ⟨i, e, q⟩, k⟩ => by
    subst e
    obtain ⟨v, rfl, hv⟩ := datL_one h
    cases dat_int hv
    exact ⟨i, rfl, k _ H _ G TK.refl g (.int _) q⟩
@[simp] def rInt : List D → Gp → GK → Prop := fun ds G Q => (∃ i, ds = [.int i] ∧ Q (.int i) G) ∨ ∃ b, ds = [.bl b] ∧ Q (.int (if b then 1 else 0)) G
theorem cInt : GCall X (.type "int") rInt :=
  CallR.weak call_int1 fun us H Q ⟨G, R, ds, g, h, c, k⟩ => by
    rcases c with ⟨i, rfl, q⟩ | ⟨b, rfl, q⟩
    · obtain ⟨v, rfl, hv⟩ := datL_one h
      cases dat_int hv
      exact .inl ⟨i, rfl, k _ H _ G TK.refl g (.int _) q⟩
    · obtain ⟨v, rfl, hv⟩ := datL_one h
      cases dat_bl hv
      exact .inr ⟨b, rfl, k _ H _ G TK.refl g (.int _) q⟩
/-! ### sorted -/
def sortD (xs : List D) : List D := xs.mergeSort (PySem.W.dataLe false toP)
def CanSort (xs : List D) : Prop := okeyAll 8 xs = true ∧ PySem.W.AllAlike (xs.map toP) ∧ PySem.W.Sortable (xs.map toP)
theorem each_of {α : Type} {K : PySem.W.Frag} {H : Hp} : ∀ {us : List Value} {xs : List D}, PySem.W.EachIs (fun u d => ∃ v, RelV v u ∧ Dat K H v d) us xs → ∃ vs, Vals vs us ∧ DatL K H vs xs
  | _, _, .nil => ⟨[], .nil, .nil⟩
  | _, _, .cons ⟨v, h1, h2⟩ t => let ⟨vs, q1, q2⟩ := each_of (α := α) t; ⟨v :: vs, .cons h1 q1, .cons h2 q2⟩
theorem each_to {K : PySem.W.Frag} {H : Hp} : ∀ {vs : List V} {us : List Value} {xs : List D}, Vals vs us → DatL K H vs xs → PySem.W.EachIs (fun u d => ∃ v, RelV v u ∧ Dat K H v d) us xs
  | _, _, _, .nil, .nil => .nil
  | _, _, _, .cons h1 t1, .cons h2 t2 => .cons ⟨_, h1, h2⟩ (each_to t1 t2)
theorem each_reads {X : Cx} {pins : List (Addr × Obj)} {σ : L2.St} {H : Hp} {s : Shared} (I : Inv X pins σ H s) : ∀ {vs : List V} {us : List Value} {xs : List D}, Vals vs us → DatL X.K H vs xs → okeyAll 8 xs = true → PySem.W.EachIs (fun u d => ∃ as, Reads s.heap u (toP d) as) us xs
  | _, _, _, .nil, .nil, _ => .nil
  | _, _, _, .cons h1 t1, .cons h2 t2, ok => by
    simp only [okeyAll, Bool.and_eq_true] at ok
    exact .cons (Dat.reads I 8 _ _ _ ok.1 h2 h1) (each_reads I t1 t2 ok.2)
def rSort : List D → Gp → GK → Prop := fun ds G Q => ∃ xs, CanSort xs ∧ (∃ a, ds = [.ref a] ∧ (G a = some (.lst xs) ∨ ∃ kvs, G a = some (.dct kvs) ∧ kvs.map (·.1) = xs)) ∧ ∀ p, G p = none → Q (.ref p) (gup G p (.lst (sortD xs)))
theorem sortD_len (xs : List D) : (sortD xs).length = xs.length := by unfold sortD; rw [List.length_mergeSort]
theorem ents_keys {K : PySem.W.Frag} {H : Hp} {kvs : List (D × D)} {xs : List (NestedKey × Addr × Value)} (h : Paired (EntOk K H) kvs xs) : DatL K H (xs.map fun q => V.ref q.2.1) (kvs.map (·.1)) := by
  induction h with
  | nil => exact .nil
  | cons h t ih => exact .cons h.2.2.1 ih
theorem ents_vals {K : PySem.W.Frag} {H : Hp} {kvs : List (D × D)} {xs : List (NestedKey × Addr × Value)} (h : Paired (EntOk K H) kvs xs) : ∃ vs, Vals vs (xs.map fun q => q.2.2) ∧ DatL K H vs (kvs.map (·.2)) := by
  induction h with
  | nil => exact ⟨[], .nil, .nil⟩
  | cons h t ih =>
    obtain ⟨vs, h1, h2⟩ := ih
    obtain ⟨_, _, _, v, r, d⟩ := h
    exact ⟨v :: vs, .cons r h1, .cons d h2⟩
theorem vals_refs (as : List Addr) : Vals (as.map V.ref) (as.map Value.ref) := by
  induction as with
  | nil => exact .nil
  | cons a as ih => exact .cons rfl ih
/-- the keys of a dict as an iterator gives them -/
theorem keys_acc {P : Program} {w : World} {h : Heap} {xs : List (NestedKey × Addr × Value)} {es : Array DictEntry} {acc : Array Value} (hs : es.size = xs.length) (he : ∀ i (hi : i < es.size), ∃ y, xs[i]? = some y ∧ es[i].key = .ref y.2.1 ∧ es[i].val = y.2.2 ∧ (nestedKind P w).is h y.1 y.2.1)
    (hl : acc.size = es.size) (ha : ∀ (i : Nat) v, acc[i]? = some v → ∃ hi : i < es.size, v = es[i].key) : acc.toList = xs.map fun q => Value.ref q.2.1 := by
  apply List.ext_getElem?
  intro i
  by_cases hi : i < es.size
  · obtain ⟨y, e1, e2, _⟩ := he i hi
    have hi2 : i < acc.size := by omega
    obtain ⟨hi3, e3⟩ := ha i acc[i] (Array.getElem?_eq_getElem hi2)
    rw [Array.getElem?_toList, Array.getElem?_eq_getElem hi2, e3, e2, List.getElem?_map, e1]
    rfl
  · rw [Array.getElem?_toList, Array.getElem?_eq_none (by omega), List.getElem?_eq_none (by rw [List.length_map]; omega)]
theorem cSort (hc : X.calm = true) (hr : X.A.units + 64 < cLine) : GCall X (.builtin "sorted") rSort := by
  intro pins s σ H us ws Q I r h
  obtain ⟨G, R, ds, g, hd, ⟨xs, ⟨ok, al, so⟩, ⟨a, rfl, c⟩, q⟩, k⟩ := h
  obtain ⟨v, rfl, hv⟩ := datL_one hd
  cases dat_ref hv
  obtain ⟨u, rfl, ru⟩ := vals1 r
  cases ru
  have hu : ∀ b, b ∈ xs → X.A.units + 2 + (toP b).depth < cLine := fun b hb => by
    have := depth_toP (of_okeyAll ok b hb)
    omega
  rcases c with ha | ⟨kvs, ha, rfl⟩
  · obtain ⟨vs, ev, dv⟩ := list_of g ha
    obtain ⟨z, _⟩ := g a _ ha
    obtain ⟨its, rv, hl, _⟩ := I.list (SqL.of ev)
    refine PySem.W.sorted_data (bs := xs) (enc := toP) (R := fun u d => ∃ v, RelV v u ∧ Dat X.K H v d) hl.isList (each_to rv dv) (each_reads I rv dv ok) al so z hu fun out ho eo => ?_
    obtain ⟨ws, w1, w2⟩ := each_of (α := Unit) eo
    obtain ⟨c', hc'⟩ := sortedAll_at s.heap its out.toArray
    have hn : H (s.heap.objs.size + 1) = none := I.hok.fresh (Nat.le_succ _)
    have zo : ws.length ≤ sizeLine := by rw [w2.length, List.length_mergeSort]; exact z
    refine ⟨.ref (s.heap.objs.size + 1), upd H (s.heap.objs.size + 1) (.lst ws), I.laid (t' := s.toks) (fun b o e => sortedAll_old e) (Nat.le_succ _) ⟨zo, out, c', w1, hc'⟩, rfl, ?_⟩
    exact k _ _ _ _ (TK.new hn) (g.new hn (gok_lst (ds := sortD xs) (by rw [sortD_len]; exact z) (w2.mono (TK.new hn)) upd_same)) (.ref _) (q _ (g.ne hn))
  · obtain ⟨z, ys, e, p, sy, hm⟩ := dct_at I g ha
    obtain ⟨es, ep, raw, hs, he⟩ := hm.raw
    have hl2 : ys.length = kvs.length := p.length.symm
    refine Calls.call_function_entry PyProof.Rows.kind_sorted PyProof.Rows.plain_sorted PyProof.Rows.entry_sorted (PyProof.Rows.args_sorted1 _) ?_
    unfold Builtin.«sorted»
    refine wpAny_bind (m := checkCount "sorted" 1 1 _) (wpAny_pure ?_)
    refine wpAny_bind (PySem.W.kdu_collect (A := X.A.in1) (KdlSrc.rawDict (es := es) (ep := ep) sy) (I.ok.hd hc) raw (by omega) fun h' tk acc hk hacc => ?_)
    have hacc2 : acc.toList = ys.map fun q => Value.ref q.2.1 := keys_acc (h := s.heap) hs he hacc.1 fun i v e => hacc.2 i v e
    have I1 : Inv X pins σ H { s with heap := h', toks := tk } := I.kept hk
    have rv : Vals (ys.map fun q => V.ref q.2.1) acc.toList := by
      rw [hacc2]
      have := vals_refs (ys.map fun q => q.2.1)
      rw [List.map_map, List.map_map] at this
      exact this
    have dv : DatL X.K H (ys.map fun q => V.ref q.2.1) (kvs.map (·.1)) := ents_keys p
    have zl : acc.toList.length ≤ sizeLine := by rw [hacc2, List.length_map, hl2]; exact z
    refine wpAny_bind (wpAny_newList ?_ zl)
    have hoL : (h'.push (seqObj "list" acc.toList.toArray 0)).get? h'.objs.size = some (seqObj "list" acc.toList.toArray 0) := Heap.get?_push_size _ rfl
    show wpAny _ _ _ _ _ { s with heap := h'.push (seqObj "list" acc.toList.toArray 0), toks := tk }
    have I2 : Inv X pins σ H { s with heap := h'.push (seqObj "list" acc.toList.toArray 0), toks := tk } := I1.kept (t' := tk) fun b o e => Heap.get?_push_of_some _ e
    have er : PySem.W.EachIs (fun u d => ∃ as, Reads (h'.push (seqObj "list" acc.toList.toArray 0)) u (toP d) as ∧ h'.objs.size ∉ as) acc.toList (kvs.map (·.1)) :=
      (each_reads I2 rv dv ok).mono fun u d ⟨as, r⟩ => ⟨as, r, by rw [reads_nil r]; simp⟩
    refine wpAny_bind (wpAny_holding (PySem.W.list_sort_data (s := { s with heap := h'.push (seqObj "list" acc.toList.toArray 0), toks := tk }) (bs := kvs.map (·.1)) (enc := toP) (R := fun u d => ∃ v, RelV v u ∧ Dat X.K H v d) hoL (each_to rv dv) er al so (by rw [List.length_map]; exact z) (fun b hb => by
      have := hu b hb
      show X.A.units + 1 + 1 + (toP b).depth < cLine
      omega) fun out ho eo => ?_))
    obtain ⟨ws, w1, w2⟩ := each_of (α := Unit) eo
    obtain ⟨e', he'⟩ := PyProof.Rows.sortedHeap_at (vs := acc.toList) (out := out.toArray) hoL
    have hn : H h'.objs.size = none := I1.hok.fresh (Nat.le_refl _)
    have zo : ws.length ≤ sizeLine := by rw [w2.length, List.length_mergeSort, List.length_map]; exact z
    refine wpAny_pure ⟨_, rfl, .ref h'.objs.size, upd H h'.objs.size (.lst ws), I1.laid (t' := tk) (fun b u e => ?_) (Nat.le_refl _) ⟨zo, out, e', w1, he'⟩, rfl, ?_⟩
    · have hb : b < h'.objs.size := Heap.lt_size e
      rw [PyProof.Rows.sortedHeap_old (Nat.ne_of_lt hb) (by rw [size_push']; exact Nat.lt_succ_of_lt hb)]
      exact Heap.get?_push_of_some _ e
    · exact k _ _ _ _ (TK.new hn) (g.new hn (gok_lst (ds := sortD (kvs.map (·.1))) (by rw [sortD_len, List.length_map]; exact z) (w2.mono (TK.new hn)) upd_same)) (.ref _) (q _ (g.ne hn))
end
end G
set_option Elab.async false
set_option linter.all false
set_option maxRecDepth 100000
set_option maxHeartbeats 4000000
namespace G
open PySem PySem.Spec PyProof.Rows L2

/-! ### what a loop walks -/
abbrev GIR := Ro → Gp → (List D → (Gp → Prop) → Gp → Prop) → Prop
section
variable (P : Program) (w : World) (K : PySem.W.Frag)
def ItOk (J : It) (H1 : Hp) (ds : List D) (keep : Gp → Prop) : Prop := ∀ (i : Nat) H' G', i ≤ ds.length → TK H1 H' → GH P w K G' H' → keep G' →
  (ds.length ≤ i → J.stop i H') ∧ (i < ds.length → J.go i H' ∧ ∀ x H'', J.yld i H' x H'' → ∃ d, ds[i]? = some d ∧ TK H' H'' ∧ GH P w K G' H'' ∧ Dat K H'' x d)
def upI (t : GIR) : TI := fun σ H Kf => ∃ ρ G R, RS K H σ ρ ∧ GH P w K G H ∧ t ρ G R ∧ ∀ ds keep H1 G1 J, TK H H1 → GH P w K G1 H1 → R ds keep G1 → ItOk P w K J H1 ds keep → Kf J H1
end
def GI (X : Cx) (tg iter : Expr) (t : GIR) : Prop := PI X tg iter (upI X.prog X.w X.K t)
theorem PI.weak {X : Cx} {tg e : Expr} {t u : TI} (h : PI X tg e t) (f : ∀ σ H Q, u σ H Q → t σ H Q) : PI X tg e u := ⟨fun pins s σ H Q I q => h.run pins s σ H Q I (f _ _ _ q)⟩
section
variable {X : Cx} {tg e : Expr} {te : GTE}
@[simp] def gItL (te : GTE) : GIR := fun ρ G Q => te ρ G fun x G1 => ∃ a ds, x = .ref a ∧ G1 a = some (.lst ds) ∧ Q ds (fun G' => G' a = some (.lst ds)) G1
theorem gi_list (h : GE X e te) : GI X tg e (gItL te) :=
  PI.weak (pi_list h) fun σ H Kf ⟨ρ, G, R, rs, g, q, k⟩ => ⟨ρ, G, _, rs, g, q, fun v H1 d G1 k1 g1 h1 ⟨a, ds, ed, ha, q1⟩ => by
    subst ed
    obtain ⟨vs, ev, dv⟩ := list_of g1 ha
    refine ⟨a, dat_ref h1, ⟨vs, SqL.of ev⟩, k ds _ H1 G1 _ k1 g1 q1 fun i H' G' _ k2 g2 ha2 => ?_⟩
    obtain ⟨vs2, ev2, dv2⟩ := list_of g2 ha2
    refine ⟨fun hi => ⟨vs2, SqL.of ev2, by rw [dv2.length]; exact hi⟩, fun hi => ⟨⟨vs2, vs2[i]'(by rw [dv2.length]; exact hi), SqL.of ev2, by simp⟩, fun x H'' ⟨e, y⟩ => ?_⟩⟩
    subst e
    obtain ⟨d, ed, hd⟩ := dv2.get (y vs2 (SqL.of ev2))
    exact ⟨d, ed, TK.refl, g2, hd⟩⟩
@[simp] def gItT (te : GTE) : GIR := fun ρ G Q => te ρ G fun x G1 => ∃ ds, x = .tup ds ∧ Q ds (fun _ => True) G1
theorem gi_tup (h : GE X e te) : GI X tg e (gItT te) :=
  PI.weak (pi_tup h) fun σ H Kf ⟨ρ, G, R, rs, g, q, k⟩ => ⟨ρ, G, _, rs, g, q, fun v H1 d G1 k1 g1 h1 ⟨ds, ed, q1⟩ => by
    subst ed
    obtain ⟨a, vs, rfl, hs, dv⟩ := dat_tup h1
    refine ⟨a, rfl, ⟨vs, hs⟩, k ds _ H1 G1 _ k1 g1 q1 fun i H' G' _ k2 g2 _ => ?_⟩
    have hs2 := k2.sqT hs
    have dv2 := dv.mono k2
    refine ⟨fun hi => ⟨vs, hs2, by rw [dv.length]; exact hi⟩, fun hi => ⟨⟨vs, vs[i]'(by rw [dv.length]; exact hi), hs2, by simp⟩, fun x H'' ⟨e, y⟩ => ?_⟩⟩
    subst e
    obtain ⟨d, ed, hd⟩ := dv2.get (y vs hs2)
    exact ⟨d, ed, TK.refl, g2, hd⟩⟩
/-- the script -/
@[simp] def gItF (te : GTE) : GIR := fun ρ G Q => te ρ G fun x G1 => ∃ ns : List Int, x = .frl ns ∧ Q (ns.map D.int) (fun _ => True) G1
theorem gi_frl (h : GE X e te) : GI X tg e (gItF te) :=
  PI.weak (pi_list h) fun σ H Kf ⟨ρ, G, R, rs, g, q, k⟩ => ⟨ρ, G, _, rs, g, q, fun v H1 d G1 k1 g1 h1 ⟨ns, ed, q1⟩ => by
    subst ed
    cases h1 with
    | @frl a _ hf =>
      refine ⟨a, rfl, ⟨_, hf.sq⟩, k (ns.map D.int) _ H1 G1 _ k1 g1 q1 fun i H' G' _ k2 g2 _ => ?_⟩
      have hs2 := (k2.frL hf).sq
      refine ⟨fun hi => ⟨_, hs2, by simpa using hi⟩, fun hi => ⟨⟨_, (ns.map V.int)[i]'(by simpa using hi), hs2, by simp⟩, fun x H'' ⟨e, y⟩ => ?_⟩⟩
      subst e
      have y2 := y _ hs2
      rw [List.getElem?_map] at y2
      cases z : ns[i]? with
      | none => rw [z] at y2; cases y2
      | some n =>
        rw [z] at y2
        cases y2
        exact ⟨.int n, by rw [List.getElem?_map, z]; rfl, TK.refl, g2, .int n⟩⟩
def rngD (lo : Int) (n : Nat) : List D := (List.range n).map fun i => D.int (lo + (i : Nat))
theorem it_rng {P : Program} {w : World} {K : PySem.W.Frag} {H : Hp} (lo : Int) (n : Nat) (keep : Gp → Prop) : ItOk P w K (Itr lo n) H (rngD lo n) keep := fun i H' G' _ k g _ => by
  have hl : (rngD lo n).length = n := by simp [rngD]
  refine ⟨fun hi => by rw [hl] at hi; exact hi, fun hi => ⟨by rw [hl] at hi; exact hi, fun x H'' ⟨e, y⟩ => ?_⟩⟩
  subst e y
  rw [hl] at hi
  exact ⟨.int (lo + i), by simp [rngD, hi], TK.refl, g, .int _⟩
@[simp] def gItR (te : GTE) : GIR := fun ρ G Q => te ρ G fun x G1 => ∃ j : Int, x = .int j ∧ -(2 ^ 62) ≤ j ∧ j < 2 ^ 62 ∧ Q (rngD 0 j.toNat) (fun _ => True) G1
theorem gi_rng {a : Expr} {p pos : Pos} (hg : Gl X "range") (hm : X.mg "range" = none) (ha : GA X [a] [te]) (hs : starEach [a] X.env = [(false, eval a X.env)] := by rfl) : GI X tg (.Call (.Name "range" p) [a] [] pos) (gItR te) :=
  PI.weak (pi_range1 hg hm ha hs) fun σ H Kf ⟨ρ, G, R, rs, g, q, k⟩ => ⟨ρ, G, _, rs, g, q, fun v H1 d G1 k1 g1 h1 ⟨j, ed, j1, j2, q1⟩ => by
    subst ed
    cases dat_int h1
    exact ⟨j, rfl, j1, j2, k _ _ H1 G1 _ k1 g1 q1 (it_rng 0 _ _)⟩⟩
@[simp] def gItR2 (te tf : GTE) : GIR := fun ρ G Q => te ρ G fun x G1 => tf ρ G1 fun y G2 => ∃ i j : Int, x = .int i ∧ y = .int j ∧ (-(2 ^ 62) ≤ i ∧ i < 2 ^ 62 ∧ -(2 ^ 62) ≤ j ∧ j < 2 ^ 62) ∧ Q (rngD i (j - i).toNat) (fun _ => True) G2
theorem gi_rng2 {a b : Expr} {tf : GTE} {p pos : Pos} (hg : Gl X "range") (hm : X.mg "range" = none) (ha : GA X [a, b] [te, tf]) (hs : starEach [a, b] X.env = [(false, eval a X.env), (false, eval b X.env)] := by rfl) (hs2 : starEach [b] X.env = [(false, eval b X.env)] := by rfl) :
    GI X tg (.Call (.Name "range" p) [a, b] [] pos) (gItR2 te tf) :=
  PI.weak (pi_range2 hg hm ha hs hs2) fun σ H Kf ⟨ρ, G, R, rs, g, q, k⟩ => ⟨ρ, G, _, rs, g, q, fun v H1 d G1 k1 g1 h1 q1 => ⟨ρ, G1, _, rs.mono k1, g1, q1, fun v2 H2 d2 G2 k2 g2 h2 ⟨i, j, e1, e2, bd, q2⟩ => by
    subst e1 e2
    cases dat_int h1
    cases dat_int h2
    exact ⟨i, j, rfl, bd, k _ _ H2 G2 _ (k1.trans k2) g2 q2 (it_rng i _ _)⟩⟩⟩
def strD (x : Str) : List D := x.cps.toList.map fun c => D.str ⟨#[c]⟩
@[simp] def gItS (te : GTE) : GIR := fun ρ G Q => te ρ G fun x G1 => ∃ s : Str, x = .str s ∧ Q (strD s) (fun _ => True) G1
theorem gi_str (h : GE X e te) : GI X tg e (gItS te) :=
  PI.weak (pi_str h) fun σ H Kf ⟨ρ, G, R, rs, g, q, k⟩ => ⟨ρ, G, _, rs, g, q, fun v H1 d G1 k1 g1 h1 ⟨x, ed, q1⟩ => by
    subst ed
    cases dat_str h1
    refine ⟨x, rfl, k _ _ H1 G1 _ k1 g1 q1 fun i H' G' _ k2 g2 _ => ?_⟩
    have hl : (strD x).length = x.cps.size := by simp [strD]
    refine ⟨fun hi => by rw [hl] at hi; exact hi, fun hi => ⟨by rw [hl] at hi; exact hi, fun z H'' ⟨e, c, hc, y⟩ => ?_⟩⟩
    subst e y
    exact ⟨.str ⟨#[c]⟩, by simp [strD, hc], TK.refl, g2, .str _⟩⟩
end

/-! ### the block's names -/
@[simp] def gwipe (ρ : Ro) : List Nat → Ro
  | [] => ρ
  | v :: vs => (gwipe ρ vs).set v none
theorem RS.wipe {K : PySem.W.Frag} {H : Hp} {σ : L2.St} {ρ : Ro} (r : RS K H σ ρ) : ∀ vs, RS K H (L2.wipe σ vs) (gwipe ρ vs)
  | [] => r
  | v :: vs => by
    have h := RS.wipe r vs
    refine ⟨by simp [gwipe, L2.wipe, h.len], fun i d e => ?_⟩
    unfold gwipe at e
    unfold L2.wipe
    by_cases hi : v = i
    · subst hi
      by_cases hv : v < (gwipe ρ vs).length
      · rw [List.getElem?_set_self hv] at e; cases e
      · rw [List.getElem?_eq_none (by simpa using hv)] at e; cases e
    · rw [List.getElem?_set_ne hi] at e ⊢
      exact h.at_ i d e
theorem wipe_set {i : Nat} {x : Option V} : ∀ {vs : List Nat} {σ : L2.St}, i ∈ vs → L2.wipe (σ.set i x) vs = L2.wipe σ vs
  | [], _, h => by cases h
  | v :: vs, σ, h => by
    by_cases hi : i ∈ vs
    · unfold L2.wipe; rw [wipe_set hi]
    · have e : i = v := by
        rcases List.mem_cons.mp h with e | e
        · exact e
        · exact absurd e hi
      subst e
      have key : ∀ (vs : List Nat) (σ : L2.St), i ∉ vs → L2.wipe (σ.set i x) vs = (L2.wipe σ vs).set i x := by
        intro vs
        induction vs with
        | nil => intro σ _; rfl
        | cons u vs ih =>
          intro σ hn
          simp only [List.mem_cons, not_or] at hn
          unfold L2.wipe
          rw [ih σ hn.2, List.set_comm _ _ (Ne.symm hn.1)]
      unfold L2.wipe
      rw [key vs σ hi, List.set_set]
theorem wipe_wipe : ∀ (vs : List Nat) (σ : L2.St), L2.wipe (L2.wipe σ vs) vs = L2.wipe σ vs
  | [], σ => rfl
  | v :: vs, σ => by
    show L2.wipe ((L2.wipe σ vs).set v none) (v :: vs) = _
    rw [wipe_set List.mem_cons_self]
    show (L2.wipe (L2.wipe σ vs) vs).set v none = _
    rw [wipe_wipe vs σ]
    rfl
section
variable (P : Program) (w : World) (K : PySem.W.Frag)
def upGw (vs : List Nat) (g : GTG) : TG := fun v σ H Q => ∃ ρ G R d, RS K H σ ρ ∧ GH P w K G H ∧ Dat K H v d ∧ g d ρ G R ∧ ∀ σ' H' ρ' G', TK H H' → RS K H' σ' ρ' → GH P w K G' H' → L2.wipe σ' vs = L2.wipe σ vs → R ρ' G' → Q σ' H'
end
def GW1 (X : Cx) (vs : List Nat) (tg : Expr) (g : GTG) : Prop := PG X tg (upGw X.prog X.w X.K vs g)
section
variable {X : Cx} {pos : Pos} {vs : List Nat}
theorem gw_name {i : Nat} {x : Str} (hN : X.N.Nodup) (hi : X.N[i]? = some x := by rfl) (hx : Loc X.env.scope x := by first | exact Or.inl rfl | exact Or.inr rfl) (hv : i ∈ vs := by decide)
    (hf : X.fn x = true ∨ X.env.scope.names.lookup x = some .local := by first | exact .inl rfl | exact .inr rfl) : GW1 X vs (.Name x pos) (gName i) :=
  PG.weak (pg_name hN hi hx hf) fun v σ H Q ⟨ρ, G, R, d, rs, g, h, q, k⟩ => k _ H _ G TK.refl (rs.set h i) g (wipe_set hv) q
def vTgsW (P : Program) (w : World) (K : PySem.W.Frag) (vs : List Nat) : List GTG → TGs
  | [] => gNil
  | t :: ts => L2.gCons (upGw P w K vs t) (vTgsW P w K vs ts)
def GW1s (X : Cx) (vs : List Nat) (es : List Expr) (ts : List GTG) : Prop := PGs X es (vTgsW X.prog X.w X.K vs ts)
theorem gws_nil : GW1s X vs [] [] := pgs_nil
theorem gws_cons {e : Expr} {g : GTG} {gs : List GTG} {es : List Expr} (h1 : GW1 X vs e g) (h2 : GW1s X vs es gs) (hs : (assignEach (e :: es) X.env).map (·.2) = assign e X.env :: (assignEach es X.env).map (·.2) := by rfl) : GW1s X vs (e :: es) (g :: gs) := pgs_cons h1 h2 hs
theorem tgs_upW {P : Program} {w : World} {K : PySem.W.Frag} {vs : List Nat} : ∀ (ts : List GTG) {us : List V} {ds : List D} {σ : L2.St} {ρ : Ro} {H : Hp} {G : Gp} {R : Ro → Gp → Prop} {Q : L2.St → Hp → Prop}, RS K H σ ρ → GH P w K G H → DatL K H us ds → gTgs ts ds ρ G R →
    (∀ σ' H' ρ' G', TK H H' → RS K H' σ' ρ' → GH P w K G' H' → L2.wipe σ' vs = L2.wipe σ vs → R ρ' G' → Q σ' H') → vTgsW P w K vs ts us σ H Q
  | [], us, ds, σ, ρ, H, G, R, Q, rs, g, h, q, k => by
    obtain ⟨rfl, q⟩ := q
    cases h
    exact ⟨rfl, k σ H ρ G TK.refl rs g rfl q⟩
  | t :: ts, us, ds, σ, ρ, H, G, R, Q, rs, g, h, q, k => by
    obtain ⟨d, r, rfl, q⟩ := q
    cases h with
    | cons h1 h2 =>
      refine ⟨_, _, rfl, ρ, G, _, d, rs, g, h1, q, fun σ1 H1 ρ1 G1 k1 rs1 g1 w1 q1 => ?_⟩
      exact tgs_upW ts rs1 g1 (h2.mono k1) q1 fun σ2 H2 ρ2 G2 k2 rs2 g2 w2 => k σ2 H2 ρ2 G2 (k1.trans k2) rs2 g2 (w2.trans w1)
theorem gw_tup {es : List Expr} {k : Nat} {ts : List GTG} {n : Nat} (h : GW1s X vs es ts) (hc : X.calm = true := by rfl) (hn : (assignEach es X.env).length = n := by rfl) (hst : (assignEach es X.env).findIdx? (·.1) = none := by rfl) :
    GW1 X vs (.Tuple es k pos) (gUnp n ts) :=
  PG.weak (pg_tup hc h hn hst) fun v σ H Q ⟨ρ, G, R, d, rs, g, h, ⟨ds, e, l, q⟩, k⟩ => by
    subst e
    obtain ⟨a, us, rfl, hs, hd⟩ := dat_tup h
    exact ⟨a, us, rfl, hs, by rw [hd.length]; exact l, tgs_upW ts rs g hd q k⟩
/-! tests -/
def GTs (X : Cx) (ifs : List Expr) (t : GTT) : Prop := PTs X ifs (upT X.prog X.w X.K t)
theorem PTs.weak {X : Cx} {e : List Expr} {t u : TT} (h : PTs X e t) (f : ∀ σ H Q, u σ H Q → t σ H Q) : PTs X e u := ⟨fun pins s σ H Q I q => h.run pins s σ H Q I (f _ _ _ q)⟩
@[simp] def gYes : GTT := fun _ G Q => Q true G
theorem gts_nil : GTs X [] gYes := PTs.weak pts_nil fun σ H Q ⟨ρ, G, R, rs, g, q, k⟩ => k true H G TK.refl g q
theorem gts_one {c : Expr} {t : GTT} (h : GT X c t) : GTs X [c] t := pts_one h
end

/-! ### list comprehensions -/
def LcI (g : GTG) (tt : GTT) (te : GTE) (vs : List Nat) (ρ : Ro) (Q : GK) : List D → (Gp → Prop) → Gp → Prop := fun ds keep G0 => ∀ p, G0 p = none → ∃ W : Nat → List D → Gp → Prop, W 0 [] (gup G0 p (.lst [])) ∧
  (∀ i acc G, i ≤ ds.length → W i acc G → keep G ∧ G p = some (.lst acc)) ∧
  (∀ i acc d G, ds[i]? = some d → W i acc G → g d (gwipe ρ vs) G fun ρ2 G2 => tt ρ2 G2 fun b G3 =>
    if b = true then te ρ2 G3 fun y G4 => G4 p = some (.lst acc) ∧ acc.length < sizeLine ∧ W (i + 1) (acc ++ [y]) (gup G4 p (.lst (acc ++ [y]))) else W (i + 1) acc G3) ∧
  ∀ acc G, W ds.length acc G → Q (.ref p) G
@[simp] def gLc (ti : GIR) (g : GTG) (tt : GTT) (te : GTE) (vs : List Nat) : GTE := fun ρ G Q => ti ρ G (LcI g tt te vs ρ Q)
section
variable {X : Cx}
theorem lc_up {ti : GIR} {g : GTG} {tt : GTT} {te : GTE} {vs : List Nat} {σ : L2.St} {H : Hp} {Q : VK} (h : up X.prog X.w X.K (gLc ti g tt te vs) σ H Q) :
    tLc (upI X.prog X.w X.K ti) (upGw X.prog X.w X.K vs g) (upT X.prog X.w X.K tt) (up X.prog X.w X.K te) vs σ H Q := by
  obtain ⟨ρ, G, R, rs, g0, q, k⟩ := h
  refine ⟨ρ, G, _, rs, g0, q, fun ds keep H1 G1 J k1 g1 q1 ok p hp => ?_⟩
  obtain ⟨W, w0, hw, turn, fin⟩ := q1 p (g1.ne hp)
  have tk0 : TK H1 (upd H1 p (.lst [])) := TK.new hp
  refine ⟨fun i m H' => ∃ acc G', m = ds.length - i ∧ i ≤ ds.length ∧ TK (upd H1 p (.lst [])) H' ∧ GH X.prog X.w X.K G' H' ∧ W i acc G', ⟨ds.length, [], _, by simp, Nat.zero_le _, TK.refl, g1.new hp (gok_lst (ds := []) (Nat.zero_le _) .nil upd_same), w0⟩, ?_⟩
  rintro i m H2 ⟨acc, G2, rfl, hi2, k2, g2, w2⟩
  obtain ⟨kp, hap⟩ := hw i acc G2 hi2 w2
  obtain ⟨o1, o2⟩ := ok i H2 G2 hi2 (tk0.trans k2) g2 kp
  by_cases hlt : i < ds.length
  · obtain ⟨go, yld⟩ := o2 hlt
    refine .inr ⟨go, fun H' => ∃ acc G', TK (upd H1 p (.lst [])) H' ∧ GH X.prog X.w X.K G' H' ∧ W (i + 1) acc G', fun H' ⟨acc, G', r⟩ => ⟨ds.length - (i + 1), by omega, acc, G', rfl, hlt, r⟩, fun x H' y => ?_⟩
    obtain ⟨d, ed, k3, g3, hd⟩ := yld x H' y
    refine ⟨gwipe ρ vs, G2, _, d, (rs.mono ((k1.trans tk0).trans (k2.trans k3))).wipe vs, g3, hd, turn i acc d G2 ed w2, fun σ4 H4 ρ4 G4 k4 rs4 g4 w4 q4 => ⟨w4.trans (wipe_wipe vs σ), ρ4, G4, _, rs4, g4, q4, fun b H5 G5 k5 g5 q5 => ?_⟩⟩
    · have k25 := k2.trans (k3.trans (k4.trans k5))
      cases b with
      | false => exact ⟨acc, G5, k25, g5, q5⟩
      | true =>
        rw [if_pos rfl] at q5
        show up X.prog X.w X.K te σ4 H5 _
        refine ⟨ρ4, G5, _, rs4.mono k5, g5, q5, fun v H6 d6 G6 k6 g6 h6 ⟨hp6, hz, w6⟩ => ?_⟩
        obtain ⟨z, us, eu, du⟩ := g6 p _ hp6
        have tk6 := g6.tkset hp6 (.lst (us ++ [v]))
        refine ⟨us, eu, by rw [du.length]; exact hz, acc ++ [d6], _, (k25.trans k6).trans tk6, g6.set hp6 (gok_lst (by rw [List.length_append]; exact hz) ((du.append (.cons h6 .nil)).mono tk6) upd_same), w6⟩
  · have e : i = ds.length := by omega
    subst e
    exact .inl ⟨o1 (Nat.le_refl _), k _ H2 _ G2 ((k1.trans tk0).trans k2) g2 (.ref p) (fin acc G2 w2)⟩
/-- as a value -/
theorem ge_lc {elt tg iter : Expr} {ifs : List Expr} {scope : Scope} (own : List (Str × Nat)) {pos : Pos} {ti : GIR} {g : GTG} {tt : GTT} {te : GTE} (hN : X.N.Nodup) (hi : GI X tg iter ti) (ok : BlkOk X.N X.env.scope scope own)
    (hg : ∀ (s : Shared) (H : Hp) (C : Addr) (cl : List (Str × Addr)) (fp : List Addr), GW1 (X.blk s H scope (compEnvC scope cl C X.env) fp) (own.map (·.2)) tg g) (ht : ∀ (s : Shared) (H : Hp) (C : Addr) (cl : List (Str × Addr)) (fp : List Addr), GTs (X.blk s H scope (compEnvC scope cl C X.env) fp) ifs tt)
    (he : ∀ (s : Shared) (H : Hp) (C : Addr) (cl : List (Str × Addr)) (fp : List Addr), GE (X.blk s H scope (compEnvC scope cl C X.env) fp) elt te) (hc : X.calm = true := by rfl) (hs : ∀ x, foldedSetIterable iter X.env x = pure x := by intro _; rfl) :
    GE X (.ListComp elt [⟨tg, iter, ifs, 0⟩] scope pos) (gLc ti g tt te (own.map (·.2))) :=
  PE.weak (pe_lc (own := own) (g := upGw X.prog X.w X.K (own.map fun x : Str × Nat => x.2) g) (tt := upT X.prog X.w X.K tt) (te := up X.prog X.w X.K te) hc hN hi ok hg ht he hs) fun σ H Q h => lc_up h
/-- name = [..] on one line -/
theorem gs_setLc {i : Nat} {y : Str} {py : Pos} {elt tg iter : Expr} {ifs : List Expr} {scope : Scope} (own : List (Str × Nat)) {pos spos : Pos} {ti : GIR} {g : GTG} {tt : GTT} {te : GTE} (hN : X.N.Nodup) (hi : GI X tg iter ti) (ok : BlkOk X.N X.env.scope scope own)
    (hg : ∀ (s : Shared) (H : Hp) (C : Addr) (cl : List (Str × Addr)) (fp : List Addr), GW1 (X.blk s H scope (compEnvC scope cl C X.env) fp) (own.map (·.2)) tg g) (ht : ∀ (s : Shared) (H : Hp) (C : Addr) (cl : List (Str × Addr)) (fp : List Addr), GTs (X.blk s H scope (compEnvC scope cl C X.env) fp) ifs tt)
    (he : ∀ (s : Shared) (H : Hp) (C : Addr) (cl : List (Str × Addr)) (fp : List Addr), GE (X.blk s H scope (compEnvC scope cl C X.env) fp) elt te) (hy : X.N[i]? = some y := by rfl) (hyl : X.env.scope.names.lookup y = some .local := by rfl)
    (hsw : swapsWith (.ListComp elt [⟨tg, iter, ifs, 0⟩] scope pos) (some (.Name y py)) spos.line X.env = pure true := by exact sw_true rfl rfl rfl rfl) (hc : X.calm = true := by rfl) (hs : ∀ x, foldedSetIterable iter X.env x = pure x := by intro _; rfl) :
    GS X (.Assign [.Name y py] (.ListComp elt [⟨tg, iter, ifs, 0⟩] scope pos) spos) (gAsg (gLc ti g tt te (own.map (·.2))) (gName i)) :=
  PS.weak (ps_setLc (own := own) (g := upGw X.prog X.w X.K (own.map fun x : Str × Nat => x.2) g) (tt := upT X.prog X.w X.K tt) (te := up X.prog X.w X.K te) hc hN hy hyl hsw hi ok hg ht he hs) fun E σ H ⟨ρ, G, Z, rs, g, q, l⟩ =>
    lc_up ⟨ρ, G, _, rs, g, q, fun v H1 d G1 k1 g1 h1 q1 => l.nx _ H1 _ G1 k1 ((rs.mono k1).set h1 i) g1 q1⟩
end
/-! the form for plain uses: the items are computed, things may be laid -/
theorem lc_fm {g : GTG} {tt : GTT} {te : GTE} {vs : List Nat} {ρ : Ro} {G0 : Gp} {Q : GK} (ds : List D) (keep : Gp → Prop) (f : D → Option D) (hz : ds.length ≤ 1000000) (hk : ∀ G, Sub G0 G → keep G)
    (step : ∀ d ∈ ds, ∀ G, Sub G0 G → ∀ R : Option D → Gp → Prop, (∀ G', Sub G G' → R (f d) G') → g d (gwipe ρ vs) G fun ρ2 G2 => tt ρ2 G2 fun b G3 => if b = true then te ρ2 G3 fun y G4 => R (some y) G4 else R none G3)
    (fin : ∀ p G', G0 p = none → Sub G0 G' → G' p = some (.lst (ds.filterMap f)) → Q (.ref p) G') :
    LcI g tt te vs ρ Q ds keep G0 := by
  intro p hp
  refine ⟨fun i acc G => Sub G0 G ∧ G p = some (.lst acc) ∧ acc = (ds.take i).filterMap f, ⟨Sub.new hp, gup_same, rfl⟩, fun i acc G _ h => ⟨hk G h.1, h.2.1⟩, ?_, fun acc G ⟨h1, h2, h3⟩ => fin p G hp h1 (by rw [h2, h3, List.take_length])⟩
  rintro i acc d G ed ⟨h1, h2, h3⟩
  have hlt := (List.getElem?_eq_some_iff.mp ed).1
  have tk : ds.take (i + 1) = ds.take i ++ [d] := by rw [List.take_succ, ed]; rfl
  have hal : acc.length ≤ i := by
    rw [h3]
    exact Nat.le_trans (List.length_filterMap_le f _) (List.length_take_le _ _)
  refine step d (List.mem_of_getElem? ed) G h1 (fun o G' => match o with
    | some y => G' p = some (.lst acc) ∧ acc.length < sizeLine ∧ Sub G0 (gup G' p (.lst (acc ++ [y]))) ∧ gup G' p (.lst (acc ++ [y])) p = some (.lst (acc ++ [y])) ∧ acc ++ [y] = (ds.take (i + 1)).filterMap f
    | none => Sub G0 G' ∧ G' p = some (.lst acc) ∧ acc = (ds.take (i + 1)).filterMap f) fun G' s => ?_
  cases hf : f d with
  | none => exact ⟨h1.trans s, s p _ h2, by rw [tk, List.filterMap_append, ← h3]; simp [hf]⟩
  | some y =>
    refine ⟨s p _ h2, by rw [sizeLine_eq]; omega, fun a o e => ?_, gup_same, by rw [tk, List.filterMap_append, ← h3]; simp [hf]⟩
    rw [gup_ne (by rintro rfl; rw [hp] at e; cases e)]
    exact s a o (h1 a o e)
end G
set_option Elab.async false
set_option linter.all false
set_option maxRecDepth 100000
set_option maxHeartbeats 4000000
namespace G
open PySem PySem.Spec PyProof.Rows L2

/-! ### dict comprehensions, the keys tuples -/
/-- a store into the new dict, in whatever block -/
def DSt (X : Cx) (d : Addr) (y z : V) (H : Hp) (Nx : Hp → Prop) : Prop := ∀ (X' : Cx), X'.prog = X.prog → X'.w = X.w → X'.K = X.K → X'.A = X.A → ∀ pins (s : Shared) σ u r (E : Value → Shared → Prop), Inv X' pins σ H s → RelV y u → RelV z r →
  wpAny (model X'.prog X'.w) X'.A (dictSet d u r) (fun _ s' => ∃ H', Inv X' pins σ H' s' ∧ Nx H') E s
theorem dst_of {X : Cx} (hr : X.A.units + 64 < cLine) {d : Addr} {y z : V} {H : Hp} {Nx : Hp → Prop} {G : Gp} {k v : D} {kvs : List (D × D)} (g : GH X.prog X.w X.K G H) (hy : Dat X.K H y k) (hz : Dat X.K H z v) (ha : G d = some (.dct kvs)) (hk : isKey k) (hs : kvs.length < sizeLine)
    (n : ∀ H', TK H H' → GH X.prog X.w X.K (gup G d (.dct (dput kvs k v))) H' → Nx H') : DSt X d y z H Nx := by
  intro X' e1 e2 e3 e4 pins s σ u r E I ry rz
  rw [← e1, ← e2, ← e3] at g n
  rw [← e3] at hy hz
  obtain ⟨zz, xs, e, p, sy, hm⟩ := dct_at I g ha
  obtain ⟨b, rfl, rfl, kb⟩ := key_at I hk hy ry
  have hl : xs.length = kvs.length := p.length.symm
  refine wpAny_dictSet_heap (knd := nestedKind X'.prog X'.w) (hsz := by rw [hl]; exact zz) (by show X'.A.units + 8 < cLine; rw [e4]; omega) kb hm fun h' hm' hs' => ?_
  obtain ⟨I2, tk, g2⟩ := dct_put (t' := s.toks + (nestedKind X'.prog X'.w).draws (nk k)) I g ha e hm' hs' (ent_put hk.1 hy rz hz p) sy (by have := dput_len kvs k v; omega)
  exact ⟨_, I2, n _ tk g2⟩

theorem turnD_out (kx vx t0 i0 t1 i1 : Expr) (ifs0 ifs1 : List Expr) (scope : Scope) (pos : Pos) (it acc : Value) (env : Env) :
    compTurn (.DictComp kx vx [⟨t0, i0, ifs0, 0⟩, ⟨t1, i1, ifs1, 0⟩] scope pos) 0 it acc env = (do
      standAt i0.pos
      match ← pyNext it with
      | none => pure (.done .next)
      | some v =>
        letOwnedTupleGo t0 it v
        assign t0 env v
        let mut ok := true
        for c in ifs0 do
          if ok then ok ← isTrue c env (eval c env)
        if ok then
          let x ← eval i1 env
          standAt i1.pos
          let x ← foldedSetIterable i1 env x
          let _ ← runOwn (.compStart (.DictComp kx vx [⟨t0, i0, ifs0, 0⟩, ⟨t1, i1, ifs1, 0⟩] scope pos) 1 (← holding [x] (pyIter x)) acc env) env
        again (.compLoop (.DictComp kx vx [⟨t0, i0, ifs0, 0⟩, ⟨t1, i1, ifs1, 0⟩] scope pos) 0 it acc env)) := by rfl
theorem turnD_in (kx vx t0 i0 t1 i1 : Expr) (ifs0 ifs1 : List Expr) (scope : Scope) (pos : Pos) (it : Value) (d : Addr) (env : Env) :
    compTurn (.DictComp kx vx [⟨t0, i0, ifs0, 0⟩, ⟨t1, i1, ifs1, 0⟩] scope pos) 1 it (.ref d) env = (do
      standAt i1.pos
      match ← pyNext it with
      | none => pure (.done .next)
      | some v =>
        letOwnedTupleGo t1 it v
        assign t1 env v
        let mut ok := true
        for c in ifs1 do
          if ok then ok ← isTrue c env (eval c env)
        if ok then
          (do
            let kv ← eval kx env
            let vv ← holding [kv] (eval vx env)
            standAt { kx.pos with endLine := vx.pos.endLine, endCol := vx.pos.endCol }
            holding [kv, vv] (dictSet d kv vv))
        again (.compLoop (.DictComp kx vx [⟨t0, i0, ifs0, 0⟩, ⟨t1, i1, ifs1, 0⟩] scope pos) 1 it (.ref d) env)) := by rfl
section
variable {prog : Program} {w : World} {A : Around} {R : Result → Shared → Prop} {s : Shared} {kx vx t0 i0 t1 i1 : Expr} {ifs0 ifs1 : List Expr} {scope : Scope} {pos : Pos} {it : Value} {d : Addr} {env : Env}
theorem loopD_out (hs : ∀ x, foldedSetIterable i1 env x = pure x) (I : Nat → Shared → Prop)
    (turn : ∀ n s, I n s → wpAny (model prog w) A (pyNext it) (fun r s₁ => match r with
      | none => R (.ok .next) s₁
      | some v => wpAny (model prog w) A (letOwnedTupleGo t0 it v) (fun _ s₁' => wpAny (model prog w) A (assign t0 env v) (fun _ s₂ =>
          wpAny (model prog w) A (forIn ifs0 true fun c r => if r = true then do let ok ← isTrue c env (eval c env); pure (ForInStep.yield ok) else pure (ForInStep.yield r)) (fun ok s₃ =>
            if ok = true then wpAny (model prog w) A (eval i1 env) (fun x s₄ => wpAny (model prog w) A (pyIter x) (fun it1 s₅ =>
              codeAny (model prog w) A (.compStart (.DictComp kx vx [⟨t0, i0, ifs0, 0⟩, ⟨t1, i1, ifs1, 0⟩] scope pos) 1 it1 (.ref d) env) (fun r s' => match r with
                | .ok _ => ∃ m, m < n ∧ I m s'
                | .error _ => False) s₅) (notedBy (model prog w) A env fun e s' => R (.error e) s') s₄) (notedBy (model prog w) A env fun e s' => R (.error e) s') s₃
            else ∃ m, m < n ∧ I m s₃) (notedBy (model prog w) A env fun e s' => R (.error e) s') s₂) (notedBy (model prog w) A env fun e s' => R (.error e) s') s₁') (notedBy (model prog w) A env fun e s' => R (.error e) s') s₁) (notedBy (model prog w) A env fun e s' => R (.error e) s') s)
    (n : Nat) (h : I n s) :
    codeAny (model prog w) A (.compLoop (.DictComp kx vx [⟨t0, i0, ifs0, 0⟩, ⟨t1, i1, ifs1, 0⟩] scope pos) 0 it (.ref d) env) R s := by
  refine codeAny_loop rfl I (fun n s hI => ?_) n h
  show wpAny _ A ((compTurn (.DictComp kx vx [⟨t0, i0, ifs0, 0⟩, ⟨t1, i1, ifs1, 0⟩] scope pos) 0 it (.ref d) env).onRaise (fun x => do noteFrame x env; theTreesLotGoes x)) _ _ s
  refine wpAny_noted ?_
  rw [turnD_out]
  refine wpAny_bind (wpAny_standAt (wpAny_bind (wpAny_mono (turn n s hI) (fun r s₁ h₁ => ?_) fun _ _ h' => h')))
  cases r with
  | none => exact wpAny_pure h₁
  | some v =>
    refine wpAny_bind (wpAny_mono h₁ (fun _ s₁' h₁' => ?_) fun _ _ h' => h')
    refine wpAny_bind (wpAny_mono h₁' (fun _ s₂ h₂ => wpAny_bind (wpAny_mono h₂ (fun ok s₃ h₃ => ?_) fun _ _ h' => h')) fun _ _ h' => h')
    cases ok with
    | false => exact wpAny_pure ⟨rfl, h₃⟩
    | true =>
      refine wpAny_bind (wpAny_mono h₃ (fun x s₄ h₄ => ?_) fun _ _ h' => h')
      refine wpAny_bind (wpAny_standAt (wpAny_bind (wpAny_of_eq (hs x) (wpAny_bind (wpAny_holding (wpAny_mono h₄ (fun it1 s₅ h₅ => ?_) fun _ _ h' => h'))))))
      refine wpAny_bind (wpAny_runOwn ?_)
      rw [Around.mark_none]
      refine codeAny_mono h₅ fun r s' hr => ?_
      cases r with
      | ok f =>
        first
          | exact wpAny_pure ⟨rfl, hr⟩
          | exact wpAny_bind (wpAny_pure (wpAny_pure ⟨rfl, hr⟩))
      | error e => exact hr.elim
theorem loopD_in (I : Nat → Shared → Prop)
    (turn : ∀ n s, I n s → wpAny (model prog w) A (pyNext it) (fun r s₁ => match r with
      | none => R (.ok .next) s₁
      | some v => wpAny (model prog w) A (letOwnedTupleGo t1 it v) (fun _ s₁' => wpAny (model prog w) A (assign t1 env v) (fun _ s₂ =>
          wpAny (model prog w) A (forIn ifs1 true fun c r => if r = true then do let ok ← isTrue c env (eval c env); pure (ForInStep.yield ok) else pure (ForInStep.yield r)) (fun ok s₃ =>
            if ok = true then wpAny (model prog w) A (eval kx env) (fun kv s₄ => wpAny (model prog w) A (eval vx env) (fun vv s₅ =>
              wpAny (model prog w) A (dictSet d kv vv) (fun _ s₆ => ∃ m, m < n ∧ I m s₆) (notedBy (model prog w) A env fun e s' => R (.error e) s') s₅) (notedBy (model prog w) A env fun e s' => R (.error e) s') s₄) (notedBy (model prog w) A env fun e s' => R (.error e) s') s₃
            else ∃ m, m < n ∧ I m s₃) (notedBy (model prog w) A env fun e s' => R (.error e) s') s₂) (notedBy (model prog w) A env fun e s' => R (.error e) s') s₁') (notedBy (model prog w) A env fun e s' => R (.error e) s') s₁) (notedBy (model prog w) A env fun e s' => R (.error e) s') s)
    (n : Nat) (h : I n s) :
    codeAny (model prog w) A (.compLoop (.DictComp kx vx [⟨t0, i0, ifs0, 0⟩, ⟨t1, i1, ifs1, 0⟩] scope pos) 1 it (.ref d) env) R s := by
  refine codeAny_loop rfl I (fun n s hI => ?_) n h
  show wpAny _ A ((compTurn (.DictComp kx vx [⟨t0, i0, ifs0, 0⟩, ⟨t1, i1, ifs1, 0⟩] scope pos) 1 it (.ref d) env).onRaise (fun x => do noteFrame x env; theTreesLotGoes x)) _ _ s
  refine wpAny_noted ?_
  rw [turnD_in]
  refine wpAny_bind (wpAny_standAt (wpAny_bind (wpAny_mono (turn n s hI) (fun r s₁ h₁ => ?_) fun _ _ h' => h')))
  cases r with
  | none => exact wpAny_pure h₁
  | some v =>
    refine wpAny_bind (wpAny_mono h₁ (fun _ s₁' h₁' => ?_) fun _ _ h' => h')
    refine wpAny_bind (wpAny_mono h₁' (fun _ s₂ h₂ => wpAny_bind (wpAny_mono h₂ (fun ok s₃ h₃ => ?_) fun _ _ h' => h')) fun _ _ h' => h')
    cases ok with
    | false => exact wpAny_pure ⟨rfl, h₃⟩
    | true =>
      exact wpAny_bind (wpAny_bind (wpAny_mono h₃ (fun kv s₄ h₄ => wpAny_bind (wpAny_holding (wpAny_mono h₄ (fun vv s₅ h₅ => wpAny_bind (wpAny_standAt (wpAny_holding (wpAny_mono h₅ (fun _ s₆ h₆ => wpAny_pure ⟨rfl, h₆⟩) fun _ _ h' => h')))) fun _ _ h' => h'))) fun _ _ h' => h'))
theorem startD1_ok (h0 : codeAny (model prog w) A (.compLoop (.DictComp kx vx [⟨t0, i0, ifs0, 0⟩, ⟨t1, i1, ifs1, 0⟩] scope pos) 1 it (.ref d) env) R s)
    (h : wpAny (model prog w) A (pyIter it) (fun it' s' => codeAny (model prog w) A (.compLoop (.DictComp kx vx [⟨t0, i0, ifs0, 0⟩, ⟨t1, i1, ifs1, 0⟩] scope pos) 1 it' (.ref d) env) R s')
      (notedBy (model prog w) A env fun x s' => R (.error x) s') s) :
    codeAny (model prog w) A (.compStart (.DictComp kx vx [⟨t0, i0, ifs0, 0⟩, ⟨t1, i1, ifs1, 0⟩] scope pos) 1 it (.ref d) env) R s := by
  refine codeAny_of_tree ?_
  show wpAny _ _ ((compStart (.DictComp kx vx [⟨t0, i0, ifs0, 0⟩, ⟨t1, i1, ifs1, 0⟩] scope pos) 1 it (.ref d) env).onRaise (fun x => do noteFrame x env; standAt theWindowsPlace)) _ _ s
  refine wpAny_notedAt ?_
  unfold compStart
  show wpAny _ _ (ask >>= _) _ _ s
  refine wpAny_bind (wpAny_askSetting (wpAny_ite ?_))
  split
  · first
      | exact wpAny_bind (wpAny_pure (wpAny_pure (And.intro rfl h0)))
      | exact wpAny_pure (And.intro rfl h0)
  · first
      | exact wpAny_bind (wpAny_rule (wpAny_bind (wpAny_standAt (wpAny_bind (wpAny_mono h (fun it' s' h' => wpAny_pure (And.intro rfl h')) fun _ _ x => x)))))
      | (refine wpAny_bind (wpAny_rule ?_); show wpAny _ _ (standAt i1.pos >>= _) _ _ s; exact wpAny_bind (wpAny_standAt (wpAny_bind (wpAny_mono h (fun it' s' h' => wpAny_pure (And.intro rfl h')) fun _ _ x => x))))
end
end G
set_option Elab.async false
set_option linter.all false
set_option maxRecDepth 100000
set_option maxHeartbeats 4000000
namespace G
open PySem PySem.Spec PyProof.Rows L2

/-- what one turn does behind the first clause's tests -/
abbrev Bod := Around → Env → Addr → (Shared → Prop) → (Value → Shared → Prop) → Shared → Prop
def bod1 (prog : Program) (w : World) (kx vx : Expr) : Bod := fun A env d post E s =>
  wpAny (model prog w) A (eval kx env) (fun kv s4 => wpAny (model prog w) A (eval vx env) (fun vv s5 => wpAny (model prog w) A (dictSet d kv vv) (fun _ s6 => post s6) E s5) E s4) E s
def bod2 (prog : Program) (w : World) (kx vx : Expr) (t0 i0 : Expr) (ifs0 : List Expr) (t1 i1 : Expr) (ifs1 : List Expr) (scope : Scope) (pos : Pos) : Bod := fun A env d post E s =>
  wpAny (model prog w) A (eval i1 env) (fun x s4 => wpAny (model prog w) A (pyIter x) (fun it1 s5 =>
    codeAny (model prog w) A (.compStart (.DictComp kx vx [⟨t0, i0, ifs0, 0⟩, ⟨t1, i1, ifs1, 0⟩] scope pos) 1 it1 (.ref d) env) (fun r s' => match r with
      | .ok _ => post s'
      | .error _ => False) s5) E s4) E s
/-- the rule of the first clause's loop -/
def LoopR (prog : Program) (w : World) (kx vx tg iter : Expr) (ifs : List Expr) (rest : List Comprehension) (scope : Scope) (pos : Pos) (B : Bod) : Prop :=
  ∀ (A : Around) (R : Result → Shared → Prop) (s : Shared) (it : Value) (d : Addr) (env : Env) (I : Nat → Shared → Prop),
    (∀ n s, I n s → wpAny (model prog w) A (pyNext it) (fun r s₁ => match r with
      | none => R (.ok .next) s₁
      | some v => wpAny (model prog w) A (letOwnedTupleGo tg it v) (fun _ s₁' => wpAny (model prog w) A (assign tg env v) (fun _ s₂ =>
          wpAny (model prog w) A (forIn ifs true fun c r => if r = true then do let ok ← isTrue c env (eval c env); pure (ForInStep.yield ok) else pure (ForInStep.yield r)) (fun ok s₃ =>
            if ok = true then B A env d (fun s' => ∃ m, m < n ∧ I m s') (notedBy (model prog w) A env fun e s' => R (.error e) s') s₃
            else ∃ m, m < n ∧ I m s₃) (notedBy (model prog w) A env fun e s' => R (.error e) s') s₂) (notedBy (model prog w) A env fun e s' => R (.error e) s') s₁') (notedBy (model prog w) A env fun e s' => R (.error e) s') s₁) (notedBy (model prog w) A env fun e s' => R (.error e) s') s) →
    ∀ n, I n s → codeAny (model prog w) A (.compLoop (.DictComp kx vx (⟨tg, iter, ifs, 0⟩ :: rest) scope pos) 0 it (.ref d) env) R s
theorem loopR1 {prog : Program} {w : World} {kx vx tg iter : Expr} {ifs : List Expr} {scope : Scope} {pos : Pos} : LoopR prog w kx vx tg iter ifs [] scope pos (bod1 prog w kx vx) := fun A R s it d env I turn n h => compLoop_anyD I turn n h
theorem loopR2 {prog : Program} {w : World} {kx vx tg iter t1 i1 : Expr} {ifs ifs1 : List Expr} {scope : Scope} {pos : Pos} (hs : ∀ env x, foldedSetIterable i1 env x = pure x) : LoopR prog w kx vx tg iter ifs [⟨t1, i1, ifs1, 0⟩] scope pos (bod2 prog w kx vx tg iter ifs t1 i1 ifs1 scope pos) :=
  fun A R s it d env I turn n h => loopD_out (hs env) I turn n h
/-- the turn's own proof -/
def PB (X : Cx) (vs : List Nat) (B : Bod) (tb : Addr → L2.St → Hp → (Hp → Prop) → Prop) : Prop := ∀ pins (s : Shared) σ H d (Nx : Hp → Prop) (post : Shared → Prop) (E : Value → Shared → Prop), Inv X pins σ H s → tb d σ H Nx →
  (∀ s' σ' H', Inv X pins σ' H' s' → σ'.length = σ.length → (∀ (j : Nat) v, (L2.wipe σ vs)[j]? = some (some v) → σ'[j]? = some (some v)) → Nx H' → post s') → B X.A X.env d post E s
def tDg (P : Program) (w : World) (wi : TI) (g : TG) (tt : TT) (tb : Addr → L2.St → Hp → (Hp → Prop) → Prop) (vs : List Nat) : TE := fun σ H Q => wi σ H fun J H1 => ∀ d, H1 d = none → ∃ W : Nat → Nat → Hp → Prop, (∃ m, W 0 m (upd H1 d (dO P w d []))) ∧ ∀ i m H, W i m H →
  (J.stop i H ∧ Q (.ref d) H) ∨ (J.go i H ∧ ∃ Nx : Hp → Prop, (∀ H', Nx H' → ∃ m', m' < m ∧ W (i + 1) m' H') ∧ ∀ x H', J.yld i H x H' → g x (L2.wipe σ vs) H' fun σ2 H2 => L2.wipe σ2 vs = L2.wipe σ vs ∧ tt σ2 H2 fun b H3 =>
    if b = true then tb d σ2 H3 Nx else Nx H3)
section
variable {X : Cx}
theorem dg_core {pins : List (Addr × Obj)} {s : Shared} {σ : L2.St} {H : Hp} {Q : VK} {use : Option (Value → Sem Unit)} {Qf : Value → Shared → Prop} {pos0 : Pos} {kx vx tg iter : Expr} {ifs : List Expr} {rest : List Comprehension} {scope : Scope} (own : List (Str × Nat)) {pos : Pos} {wi : TI} {g : TG} {tt : TT} {tb : Addr → L2.St → Hp → (Hp → Prop) → Prop} {B : Bod}
    (hc : X.calm = true) (hN : X.N.Nodup) (I : Inv X pins σ H s) (hi : PI X tg iter wi) (ok : BlkOk X.N X.env.scope scope own) (hL : LoopR X.prog X.w kx vx tg iter ifs rest scope pos B)
    (hg : ∀ (s : Shared) (H : Hp) (C : Addr) (cl : List (Str × Addr)) (fp : List Addr), PG (X.blk s H scope (compEnvC scope cl C X.env) fp) tg g) (ht : ∀ (s : Shared) (H : Hp) (C : Addr) (cl : List (Str × Addr)) (fp : List Addr), PTs (X.blk s H scope (compEnvC scope cl C X.env) fp) ifs tt)
    (hb : ∀ (s : Shared) (H : Hp) (C : Addr) (cl : List (Str × Addr)) (fp : List Addr), PB (X.blk s H scope (compEnvC scope cl C X.env) fp) (own.map fun x : Str × Nat => x.2) B tb) (hs : ∀ x, foldedSetIterable iter X.env x = pure x)
    (h : tDg X.prog X.w wi g tt tb (own.map fun x : Str × Nat => x.2) σ H Q)
    (hRR : ∀ d C s' m H', Inv X pins σ H' s' → Q (.ref d) H' → s'.heap.Ns C m → FpOk X pins H' C → compPost (model X.prog X.w) X.A X.xe use Qf (.ref d) C (.ok .next) s') :
    wpAny (model X.prog X.w) X.A (comprehension (.DictComp kx vx (⟨tg, iter, ifs, 0⟩ :: rest) scope pos) scope X.env pos0 newDict false (eval iter X.env) use) Qf X.xe s := by
  generalize hvs : (own.map fun x : Str × Nat => x.2) = vs at hb h
  have hfree : ∀ y ∈ scope.names, y.2 = .free → ∃ c, X.env.cells.lookup y.1 = some c := fun y hy e => (ok.free y hy e).elim (fun k => I.ok.has _ (.inl k)) (fun k => I.ok.has _ (.inr k))
  refine wpAny_comprehension_free (use := use) rfl hs (closure_ok hfree) ok.kind (fun y hy e => by rw [ok.uniq y hy, e])
    (thn (hi.run pins s σ H _ I h) fun xv s1 hx => thn hx fun itv s2 h2 => ?_)
  obtain ⟨it, fp, tn, J, H2, e, I2, T, st2, f2, q⟩ := h2
  subst e
  refine wpAny_newObj_type (newEnv_comp ?_)
  generalize hD : s2.heap.objs.size = d
  obtain ⟨W, ⟨m0, w0⟩, turn⟩ := q d (I2.hok.fresh (Nat.le_of_eq hD))
  generalize hs3 : ({ s2 with heap := s2.heap.push { cls := .type "dict", data := .dict #[] } } : Shared) = s3
  have I3 : Inv X pins σ (upd H2 d (dO X.prog X.w d [])) s3 := by
    rw [← hs3]
    refine I2.laid (t' := s2.toks) (fun b o e => Heap.get?_push_of_some _ e) (Nat.le_of_eq hD) ?_
    rw [← hD]
    exact dO_new ⟨beq_eq_false_iff_ne.mpr (Ne.symm (Nat.ne_of_lt I2.big)), _, #[], 0, Heap.get?_push_size _ rfl, ⟨rfl, rfl, rfl⟩, rfl, rfl, List.nodup_nil⟩
  have h3 : s3.heap = s2.heap.push { cls := .type "dict", data := .dict #[] } := by rw [← hs3]
  have f3 : ∀ b ∈ fp, FpOk X pins (upd H2 d (dO X.prog X.w d [])) b ∧ b < s3.heap.objs.size := fun b hb => by
    obtain ⟨o, e, _⟩ := T.obj _ _ st2 b hb
    have hlt := Heap.lt_size e
    refine ⟨⟨?_, (f2 b hb).2⟩, by rw [h3, Heap.size_push]; exact Nat.lt_succ_of_lt hlt⟩
    rw [upd_ne (by rw [← hD]; exact Nat.ne_of_lt hlt)]
    exact (f2 b hb).1
  generalize hH3 : upd H2 d (dO X.prog X.w d []) = H3 at I3 f3 w0
  have I4 := block_start I3 ok hN f3
  have pg := hg s3 H3 s3.heap.objs.size (cellsFrom (s3.heap.objs.size + 1) scope.names (cloFrom X.env.cells scope.names [])) fp
  have pt := ht s3 H3 s3.heap.objs.size (cellsFrom (s3.heap.objs.size + 1) scope.names (cloFrom X.env.cells scope.names [])) fp
  have pb := hb s3 H3 s3.heap.objs.size (cellsFrom (s3.heap.objs.size + 1) scope.names (cloFrom X.env.cells scope.names [])) fp
  show codeAny _ _ (.compStart (.DictComp kx vx (⟨tg, iter, ifs, 0⟩ :: rest) scope pos) 0 (.ref it) (.ref d) (compEnvC scope (cellsFrom (s3.heap.objs.size + 1) scope.names (cloFrom X.env.cells scope.names [])) s3.heap.objs.size X.env)) (compPost (model X.prog X.w) X.A X.xe use Qf (.ref d) s3.heap.objs.size) { s3 with heap := pushCells (s3.heap.push { cls := .type "dict", data := .dict #[] }) scope.names }
  generalize hce : compEnvC scope (cellsFrom (s3.heap.objs.size + 1) scope.names (cloFrom X.env.cells scope.names [])) s3.heap.objs.size X.env = ce at I4 pg pt pb ⊢
  have cL : ce.locals = s3.heap.objs.size := by subst hce; rfl
  generalize hs4 : ({ s3 with heap := pushCells (s3.heap.push { cls := .type "dict", data := .dict #[] }) scope.names } : Shared) = s4 at I4 ⊢
  rw [hvs] at I4
  have st4 : tn 0 s4.heap := T.keep _ _ _ st2 fun b _ o e => by rw [← hs4]; exact pushCells_keeps _ _ _ _ (Heap.get?_push_of_some _ (by rw [h3]; exact Heap.get?_push_of_some _ e))
  have stat : ∀ {σ' : L2.St} {H' : Hp} {s' : Shared}, Inv (X.blk s3 H3 scope ce fp) [] σ' H' s' → (∀ b ∈ fp, H' b = none) → ∀ b ∈ fp, FpOk (X.blk s3 H3 scope ce fp) [] H' b := fun {σ' H' s'} I' hn b hb =>
    ⟨hn b hb, (I'.ok.exf b hb).1, I'.ok.exfs b hb, .inl hb, fun x c e => (I'.ok.exf b hb).2 x c e, fun p hp => absurd (show p ∈ ([] : List (Addr × Obj)) ++ [] from hp) (by simp)⟩
  have loop : codeAny (model X.prog X.w) X.A (.compLoop (.DictComp kx vx (⟨tg, iter, ifs, 0⟩ :: rest) scope pos) 0 (.ref it) (.ref d) ce) (compPost (model X.prog X.w) X.A X.xe use Qf (.ref d) s3.heap.objs.size) s4 := by
    refine hL X.A _ s4 (.ref it) d ce (fun n s' => ∃ i H', Inv (X.blk s3 H3 scope ce fp) [] (L2.wipe σ vs) H' s' ∧ tn i s'.heap ∧ (∀ b ∈ fp, H' b = none) ∧ W i n H') ?_ m0 ⟨0, H3, I4, st4, fun b hb => (f3 b hb).1.1, w0⟩
    rintro n s5 ⟨i, H5, I5, st5, n5, w5⟩
    rcases turn i n H5 w5 with ⟨stop, qq⟩ | ⟨go, Nx, hNx, step⟩
    · refine thnF (T.done (X.blk s3 H3 scope ce fp) rfl rfl rfl hc i [] s5 _ H5 (fun _ _ => False) I5 (stat I5 n5) st5 stop) fun r s6 ⟨hr, I6⟩ => ?_
      subst hr
      have I7 : Inv X pins σ H5 s6 := I3.call' (ch := fp) I6.os I6.base I6.hok I6.bare fun b hb => ⟨(f3 b hb).1.2.2.2.1, (f3 b hb).1.2.1, (f3 b hb).1.2.2.2.2.1, (f3 b hb).1.2.2.2.2.2⟩
      have nC : H5 s3.heap.objs.size = none := by
        have z : H5 ce.locals = none := I6.free
        rw [cL] at z
        exact z
      obtain ⟨m, hn, _⟩ := I6.loc
      have hn : s6.heap.Ns ce.locals m := hn
      rw [cL] at hn
      exact hRR d s3.heap.objs.size s6 m H5 I7 qq hn (I3.fpOk (Nat.le_refl _) nC)
    · refine thnF (T.item (X.blk s3 H3 scope ce fp) rfl rfl rfl hc i [] s5 _ H5 (fun _ _ => False) I5 (stat I5 n5) st5 go) fun r s6 ⟨u, hr, h6⟩ => ?_
      subst hr
      refine thnF h6 fun _ s7 ⟨x, H7, I7, r7, y7, st7, n7⟩ => ?_
      have I7' := I7.pinned (stat I7 n7) (T.obj _ _ st7)
      refine thnF (pg.run _ s7 _ H7 x u _ I7' r7 (step x H7 y7)) fun _ s8 ⟨σ8, H8, I8, hw8, q8⟩ => ?_
      refine thnF (pt.run _ s8 σ8 H8 _ I8 q8) fun b s9 ⟨H9, I9, q9⟩ => ?_
      have hl8 : (L2.wipe σ vs).length = σ8.length := by rw [← hw8, wipe_length]
      have fin : ∀ (s' : Shared) (σ9 : L2.St) (H' : Hp), Inv (X.blk s3 H3 scope ce fp) ([] ++ pinsAt fp s7.heap) σ9 H' s' → σ9.length = σ8.length → (∀ (j : Nat) v, (L2.wipe σ8 vs)[j]? = some (some v) → σ9[j]? = some (some v)) → Nx H' →
          ∃ m, m < n ∧ ∃ i H', Inv (X.blk s3 H3 scope ce fp) [] (L2.wipe σ vs) H' s' ∧ tn i s'.heap ∧ (∀ b ∈ fp, H' b = none) ∧ W i m H' := fun s' σ9 H' I' hl hk nx => by
        obtain ⟨m', hm, w'⟩ := hNx H' nx
        have pin' : ∀ b ∈ fp, ∀ o, s7.heap.get? b = some o → s'.heap.get? b = some o ∧ H' b = none := fun b hb o e =>
          let z := I'.pin (b, o) (List.mem_append_right _ (List.mem_append_right _ (mem_pinsAt hb e)))
          ⟨z.1, z.2.1⟩
        refine ⟨m', hm, i + 1, H', (I'.unpinned (pins := [])).weak (hl8.trans hl.symm) (fun j v e => hk j v (by rw [hw8]; exact e)), T.keep _ _ _ st7 fun b hb o e => (pin' b hb o e).1, fun b hb => ?_, w'⟩
        obtain ⟨o, e, _⟩ := T.obj _ _ st7 b hb
        exact (pin' b hb o e).2
      cases b with
      | false =>
        exact fin s9 σ8 H9 I9 rfl (fun j v e => (wipe_some e).1) q9
      | true => exact pb _ s9 σ8 H9 d Nx _ _ I9 q9 fun s' σ' H' => fin s' σ' H'
  exact codeAny_compStart_dict loop (T.self X.A 0 _ _ _ st4 loop)
/-- the turn of a single clause -/
theorem pe_dg {kx vx tg iter : Expr} {ifs : List Expr} {rest : List Comprehension} {scope : Scope} (own : List (Str × Nat)) {pos : Pos} {wi : TI} {g : TG} {tt : TT} {tb : Addr → L2.St → Hp → (Hp → Prop) → Prop} {B : Bod}
    (hc : X.calm = true) (hN : X.N.Nodup) (hi : PI X tg iter wi) (ok : BlkOk X.N X.env.scope scope own) (hL : LoopR X.prog X.w kx vx tg iter ifs rest scope pos B)
    (hev : eval (.DictComp kx vx (⟨tg, iter, ifs, 0⟩ :: rest) scope pos) X.env = comprehension (.DictComp kx vx (⟨tg, iter, ifs, 0⟩ :: rest) scope pos) scope X.env (firstIterPos (⟨tg, iter, ifs, 0⟩ :: rest) pos) newDict false (eval iter X.env))
    (hg : ∀ (s : Shared) (H : Hp) (C : Addr) (cl : List (Str × Addr)) (fp : List Addr), PG (X.blk s H scope (compEnvC scope cl C X.env) fp) tg g) (ht : ∀ (s : Shared) (H : Hp) (C : Addr) (cl : List (Str × Addr)) (fp : List Addr), PTs (X.blk s H scope (compEnvC scope cl C X.env) fp) ifs tt)
    (hb : ∀ (s : Shared) (H : Hp) (C : Addr) (cl : List (Str × Addr)) (fp : List Addr), PB (X.blk s H scope (compEnvC scope cl C X.env) fp) (own.map fun x : Str × Nat => x.2) B tb) (hs : ∀ x, foldedSetIterable iter X.env x = pure x) :
    PE X (.DictComp kx vx (⟨tg, iter, ifs, 0⟩ :: rest) scope pos) (tDg X.prog X.w wi g tt tb (own.map fun x : Str × Nat => x.2)) := by
  refine ⟨fun pins s σ H Q I h => ?_⟩
  rw [hev]
  refine dg_core own hc hN I hi ok hL hg ht hb hs h fun d C s' m H' I' q hn f => ⟨m, hn, fun h'' sb => ?_⟩
  obtain ⟨f0, f1, f2, f3, f4, f5⟩ := f
  exact ⟨.ref d, H', I'.turned (t' := s'.toks) (fun b o hb e => (sb.2 b hb).trans e) f0 f1 f3 f4 f5, rfl, q⟩
theorem ps_setDg {i : Nat} {y : Str} {py spos : Pos} {kx vx tg iter : Expr} {ifs : List Expr} {scope : Scope} (own : List (Str × Nat)) {pos : Pos} {wi : TI} {g : TG} {tt : TT} {tb : Addr → L2.St → Hp → (Hp → Prop) → Prop} {B : Bod}
    (hc : X.calm = true) (hN : X.N.Nodup) (hy : X.N[i]? = some y) (hyl : X.env.scope.names.lookup y = some .local) (hsw : swapsWith (.DictComp kx vx [⟨tg, iter, ifs, 0⟩] scope pos) (some (.Name y py)) spos.line X.env = pure true)
    (hi : PI X tg iter wi) (ok : BlkOk X.N X.env.scope scope own) (hL : LoopR X.prog X.w kx vx tg iter ifs [] scope pos B)
    (hg : ∀ (s : Shared) (H : Hp) (C : Addr) (cl : List (Str × Addr)) (fp : List Addr), PG (X.blk s H scope (compEnvC scope cl C X.env) fp) tg g) (ht : ∀ (s : Shared) (H : Hp) (C : Addr) (cl : List (Str × Addr)) (fp : List Addr), PTs (X.blk s H scope (compEnvC scope cl C X.env) fp) ifs tt)
    (hb : ∀ (s : Shared) (H : Hp) (C : Addr) (cl : List (Str × Addr)) (fp : List Addr), PB (X.blk s H scope (compEnvC scope cl C X.env) fp) (own.map fun x : Str × Nat => x.2) B tb) (hs : ∀ x, foldedSetIterable iter X.env x = pure x) :
    PS X (.Assign [.Name y py] (.DictComp kx vx [⟨tg, iter, ifs, 0⟩] scope pos) spos) (tAsg (tDg X.prog X.w wi g tt tb (own.map fun x : Str × Nat => x.2)) (L2.gName i)) := by
  refine ⟨fun pins s σ H Z I h => ?_⟩
  rw [exec_Assign_Name_used _ _ _ _ hsw]
  refine wpAny_bind (wpAny_standAt (wpAny_bind ?_))
  show wpAny _ X.A (do let _ ← comprehension (.DictComp kx vx [⟨tg, iter, ifs, 0⟩] scope pos) scope X.env (firstIterPos [⟨tg, iter, ifs, 0⟩] pos) newDict false (eval iter X.env) (some (assign (.Name y py) X.env))) _ _ s
  have h : tDg X.prog X.w wi g tt tb (own.map fun x : Str × Nat => x.2) σ H (fun x H1 => L2.gName i x σ H1 Z.nx) := h
  refine wpAny_bind (thn (dg_core (Qf := fun _ s' => SP X pins Z .next s') own hc hN I hi ok hL hg ht hb hs h fun d C s' m H' I' q hn f => ?_) fun _ s' hq => wpAny_pure (wpAny_pure hq))
  show wpAny _ _ (assign (.Name y py) X.env (.ref d)) _ _ _
  refine wpAny_assign_Name (store_ok2 (v := V.ref d) I' hN hy (.inl hyl) rfl (fun s2 I2 ⟨a, sb, ha⟩ => ?_) (.inr hyl))
  obtain ⟨f0, f1, f2, f3, f4, f5⟩ := f
  have haC : C ≠ a := ha.elim (fun z => by rw [z]; exact f1) fun z e => f4 y a z e.symm
  refine ⟨m, hn.sameBut sb haC, fun h3 sb3 => ⟨_, H', I2.turned (t' := s2.toks) (fun b o hb e => (sb3.2 b hb).trans e) f0 f1 f3 f4 f5, q⟩⟩
theorem swD_true {kx vx : Expr} {gs : List Comprehension} {scope : Scope} {pos py : Pos} {y : Str} {l : Nat} {env : Env} (hk : env.scope.kind = .function) (hy : env.scope.names.lookup y = some .local) (hl : (py.line == pos.line) = true)
    (ha : (scope.names.any fun (n, k) => n == y && (k == .local || k == .cell)) = false) : swapsWith (.DictComp kx vx gs scope pos) (some (.Name y py)) l env = pure true := by
  have ky : env.kindOf y = some .local := hy
  have hb : env.blockKind = .function := by unfold Env.blockKind; rw [hk]; rfl
  unfold swapsWith
  simp only [hb, ky, ha, Expr.pos, hl]
  rfl
theorem pb_one {vs : List Nat} {kx vx : Expr} {tk tv : TE} (hk : PE X kx tk) (hv : PE X vx tv) (hx : X.xe = fun _ _ => False := by rfl) : PB X vs (bod1 X.prog X.w kx vx) fun d σ H Nx => tk σ H fun y H1 => tv σ H1 fun z H2 => DSt X d y z H2 Nx := by
  intro pins s σ H d Nx post E I q k
  have h1 := fun (Q : VK) (q : tk σ H Q) => hk.run pins s σ H Q I q
  have h2 := fun s (H : Hp) (Q : VK) (I : Inv X pins σ H s) (q : tv σ H Q) => hv.run pins s σ H Q I q
  rw [hx] at h1 h2
  refine thnF (h1 _ q) fun kv s1 ⟨y, H1, I1, r1, q1⟩ => ?_
  refine thnF (h2 s1 H1 _ I1 q1) fun vv s2 ⟨z, H2, I2, r2, q2⟩ => ?_
  exact wpAny_mono (q2 X rfl rfl rfl rfl pins s2 σ kv vv E I2 r1 r2) (fun _ s' ⟨H', I', n⟩ => k s' σ H' I' rfl (fun j v e => (wipe_some e).1) n) fun _ _ x => x
/-- the turn of two: vs1 the places of the second target -/
theorem pb_two {vs vs1 : List Nat} {kx vx tg iter t1 i1 : Expr} {ifs ifs1 : List Expr} {scope : Scope} {pos : Pos} {tk tv : TE} {wi1 : TI} {g1 : TG} {tt1 : TT} (hc : X.calm = true) (hvs : ∀ i ∈ vs1, i ∈ vs) (hi : PI X t1 i1 wi1) (hg : PG X t1 g1) (ht : PTs X ifs1 tt1) (hk : PE X kx tk) (hv : PE X vx tv) (hx : X.xe = fun _ _ => False := by rfl) :
    PB X vs (bod2 X.prog X.w kx vx tg iter ifs t1 i1 ifs1 scope pos) fun d σ H Nx => wi1 σ H fun J1 H4 => ∃ W1 : Nat → Nat → Hp → Prop, (∃ m, W1 0 m H4) ∧ ∀ j k H, W1 j k H →
      (J1.stop j H ∧ Nx H) ∨ (J1.go j H ∧ ∃ Nx1 : Hp → Prop, (∀ H', Nx1 H' → ∃ k', k' < k ∧ W1 (j + 1) k' H') ∧ ∀ x H', J1.yld j H x H' → g1 x (L2.wipe σ vs1) H' fun σ3 H5 => L2.wipe σ3 vs1 = L2.wipe σ vs1 ∧ tt1 σ3 H5 fun b H6 =>
        if b = true then tk σ3 H6 fun y H7 => tv σ3 H7 fun z H8 => DSt X d y z H8 Nx1 else Nx1 H6) := by
  intro pins s8 σ8 H8 d Nx post E I8 q8 k8
  have r1 := fun pins s σ H R I q => hi.run pins s σ H R I q
  have r2 := fun pins s σ H v u Q I r q => hg.run pins s σ H v u Q I r q
  have r3 := fun pins s σ H Q I q => ht.run pins s σ H Q I q
  have r4 := fun pins s σ H Q I q => hk.run pins s σ H Q I q
  have r5 := fun pins s σ H Q I q => hv.run pins s σ H Q I q
  rw [hx] at r1 r2 r3 r4 r5
  have hw9 : ∀ (j : Nat) v, (L2.wipe σ8 vs)[j]? = some (some v) → (L2.wipe σ8 vs1)[j]? = some (some v) := fun j v e => by
    obtain ⟨e1, e2⟩ := wipe_some e
    rw [wipe_out fun z => e2 (hvs j z)]
    exact e1
  refine thnF (r1 pins s8 σ8 H8 _ I8 q8) fun xv s10 hx10 => thnF hx10 fun itv s11 h11 => ?_
  obtain ⟨it1, fp1, tn1, J1, H11, e1, I11, T1, st11, f11, W1, ⟨m1, w1⟩, turn1⟩ := h11
  subst e1
  have stat1 : ∀ {H' : Hp}, (∀ b ∈ fp1, H' b = none) → ∀ b ∈ fp1, FpOk X pins H' b := fun hn b hb => ⟨hn b hb, (f11 b hb).2⟩
  have loop1 : codeAny (model X.prog X.w) X.A (.compLoop (.DictComp kx vx [⟨tg, iter, ifs, 0⟩, ⟨t1, i1, ifs1, 0⟩] scope pos) 1 (.ref it1) (.ref d) X.env)
      (fun r s' => match r with
        | .ok _ => post s'
        | .error _ => False) s11 := by
    refine loopD_in (fun k s' => ∃ j H', Inv X pins (L2.wipe σ8 vs1) H' s' ∧ tn1 j s'.heap ∧ (∀ b ∈ fp1, H' b = none) ∧ W1 j k H') ?_ m1 ⟨0, H11, I11.weak (wipe_length _ _) (fun j v e => (wipe_some e).1), st11, fun b hb => (f11 b hb).1, w1⟩
    rintro k s12 ⟨j, H12, I12, st12, n12, w12⟩
    rcases turn1 j k H12 w12 with ⟨stop1, nx1⟩ | ⟨go1, Nx1, hNx1, step1⟩
    · refine thnF (T1.done X rfl rfl rfl hc j _ s12 (L2.wipe σ8 vs1) H12 (fun _ _ => False) I12 (stat1 n12) st12 stop1) fun r s13 ⟨hr, I13⟩ => ?_
      subst hr
      exact k8 s13 _ H12 I13 (wipe_length σ8 vs1) hw9 nx1
    · refine thnF (T1.item X rfl rfl rfl hc j _ s12 (L2.wipe σ8 vs1) H12 (fun _ _ => False) I12 (stat1 n12) st12 go1) fun r s13 ⟨u1, hr, h13⟩ => ?_
      subst hr
      refine thnF h13 fun _ s14 ⟨x1, H14, I14, r14, y14, st14, n14⟩ => ?_
      have I14' := I14.pinned (stat1 n14) (T1.obj _ _ st14)
      refine thnF (r2 _ s14 (L2.wipe σ8 vs1) H14 x1 u1 _ I14' r14 (step1 x1 H14 y14)) fun _ s15 ⟨σ15, H15, I15, hw15, q15⟩ => ?_
      refine thnF (r3 _ s15 σ15 H15 _ I15 q15) fun b1 s16 ⟨H16, I16, q16⟩ => ?_
      have fin1 : ∀ {s' : Shared} {H' : Hp}, Inv X (pins ++ pinsAt fp1 s14.heap) σ15 H' s' → Nx1 H' → ∃ m, m < k ∧ ∃ j H', Inv X pins (L2.wipe σ8 vs1) H' s' ∧ tn1 j s'.heap ∧ (∀ b ∈ fp1, H' b = none) ∧ W1 j m H' := fun {s' H'} I' nx => by
        obtain ⟨m', hm, w'⟩ := hNx1 H' nx
        have pin' : ∀ b ∈ fp1, ∀ o, s14.heap.get? b = some o → s'.heap.get? b = some o ∧ H' b = none := fun b hb o e =>
          let z := I'.pin (b, o) (List.mem_append_right _ (List.mem_append_right _ (mem_pinsAt hb e)))
          ⟨z.1, z.2.1⟩
        refine ⟨m', hm, j + 1, H', I'.unpinned.weak (by rw [← hw15, wipe_length]) (fun j v e => by rw [← hw15] at e; exact (wipe_some e).1), T1.keep _ _ _ st14 fun b hb o e => (pin' b hb o e).1, fun b hb => ?_, w'⟩
        obtain ⟨o, e, _⟩ := T1.obj _ _ st14 b hb
        exact (pin' b hb o e).2
      cases b1 with
      | false => exact fin1 I16 q16
      | true =>
        refine thnF (r4 _ s16 σ15 H16 _ I16 q16) fun kv s17 ⟨y, H17, I17, ry, q17⟩ => ?_
        refine thnF (r5 _ s17 σ15 H17 _ I17 q17) fun vv s18 ⟨z, H18, I18, rz, q18⟩ => ?_
        exact thnF (q18 X rfl rfl rfl rfl _ s18 σ15 kv vv (fun _ _ => False) I18 ry rz) fun _ s19 ⟨H19, I19, nx⟩ => fin1 I19 nx
  exact startD1_ok loop1 (T1.self X.A 0 _ _ _ st11 loop1)
end

/-! ### in the abstract heap -/
def DcI (g : GTG) (tt : GTT) (tk tv : GTE) (vs : List Nat) (ρ : Ro) (Q : GK) : List D → (Gp → Prop) → Gp → Prop := fun ds keep G0 => ∀ p, G0 p = none → ∃ W : Nat → Gp → Prop, W 0 (gup G0 p (.dct [])) ∧
  (∀ i G, i ≤ ds.length → W i G → keep G) ∧
  (∀ i d G, ds[i]? = some d → W i G → g d (gwipe ρ vs) G fun ρ2 G2 => tt ρ2 G2 fun b G3 =>
    if b = true then tk ρ2 G3 fun k G4 => tv ρ2 G4 fun v G5 => ∃ kvs, G5 p = some (.dct kvs) ∧ isKey k ∧ kvs.length < sizeLine ∧ W (i + 1) (gup G5 p (.dct (dput kvs k v))) else W (i + 1) G3) ∧
  ∀ G, W ds.length G → Q (.ref p) G
@[simp] def gDc (ti : GIR) (g : GTG) (tt : GTT) (tk tv : GTE) (vs : List Nat) : GTE := fun ρ G Q => ti ρ G (DcI g tt tk tv vs ρ Q)
def Dc2I (g : GTG) (tt : GTT) (ti1 : GIR) (g1 : GTG) (tt1 : GTT) (tk tv : GTE) (vs vs1 : List Nat) (ρ : Ro) (Q : GK) : List D → (Gp → Prop) → Gp → Prop := fun ds keep G0 => ∀ p, G0 p = none → ∃ W : Nat → Gp → Prop, W 0 (gup G0 p (.dct [])) ∧
  (∀ i G, i ≤ ds.length → W i G → keep G) ∧
  (∀ i d G, ds[i]? = some d → W i G → g d (gwipe ρ vs) G fun ρ2 G2 => tt ρ2 G2 fun b G3 =>
    if b = true then ti1 ρ2 G3 fun es keep1 G4 => ∃ W1 : Nat → Gp → Prop, W1 0 G4 ∧ (∀ j G, j ≤ es.length → W1 j G → keep1 G) ∧
      (∀ j e G, es[j]? = some e → W1 j G → g1 e (gwipe ρ2 vs1) G fun ρ3 G5 => tt1 ρ3 G5 fun b G6 =>
        if b = true then tk ρ3 G6 fun k G7 => tv ρ3 G7 fun v G8 => ∃ kvs, G8 p = some (.dct kvs) ∧ isKey k ∧ kvs.length < sizeLine ∧ W1 (j + 1) (gup G8 p (.dct (dput kvs k v))) else W1 (j + 1) G6) ∧
      ∀ G, W1 es.length G → W (i + 1) G
    else W (i + 1) G3) ∧
  ∀ G, W ds.length G → Q (.ref p) G
@[simp] def gDc2 (ti : GIR) (g : GTG) (tt : GTT) (ti1 : GIR) (g1 : GTG) (tt1 : GTT) (tk tv : GTE) (vs vs1 : List Nat) : GTE := fun ρ G Q => ti ρ G (Dc2I g tt ti1 g1 tt1 tk tv vs vs1 ρ Q)
section
variable {X : Cx}
theorem dc_up (hr : X.A.units + 64 < cLine) {ti : GIR} {g : GTG} {tt : GTT} {tk tv : GTE} {vs : List Nat} {σ : L2.St} {H : Hp} {Q : VK} (h : up X.prog X.w X.K (gDc ti g tt tk tv vs) σ H Q) :
    tDg X.prog X.w (upI X.prog X.w X.K ti) (upGw X.prog X.w X.K vs g) (upT X.prog X.w X.K tt) (fun d σ H Nx => up X.prog X.w X.K tk σ H fun y H1 => up X.prog X.w X.K tv σ H1 fun z H2 => DSt X d y z H2 Nx) vs σ H Q := by
  obtain ⟨ρ, G, R, rs, g0, q, k⟩ := h
  refine ⟨ρ, G, _, rs, g0, q, fun ds keep H1 G1 J k1 g1 q1 ok p hp => ?_⟩
  obtain ⟨W, w0, hw, turn, fin⟩ := q1 p (g1.ne hp)
  have tk0 : TK H1 (upd H1 p (dO X.prog X.w p [])) := TK.new hp
  refine ⟨fun i m H' => ∃ G', m = ds.length - i ∧ i ≤ ds.length ∧ TK (upd H1 p (dO X.prog X.w p [])) H' ∧ GH X.prog X.w X.K G' H' ∧ W i G', ⟨ds.length, _, by simp, Nat.zero_le _, TK.refl, g1.new (o := .dct []) hp ⟨Nat.zero_le _, [], upd_same, .nil⟩, w0⟩, ?_⟩
  rintro i m H2 ⟨G2, rfl, hi2, k2, g2, w2⟩
  obtain ⟨o1, o2⟩ := ok i H2 G2 hi2 (tk0.trans k2) g2 (hw i G2 hi2 w2)
  by_cases hlt : i < ds.length
  · obtain ⟨go, yld⟩ := o2 hlt
    refine .inr ⟨go, fun H' => ∃ G', TK (upd H1 p (dO X.prog X.w p [])) H' ∧ GH X.prog X.w X.K G' H' ∧ W (i + 1) G', fun H' ⟨G', r⟩ => ⟨ds.length - (i + 1), by omega, G', rfl, hlt, r⟩, fun x H' y => ?_⟩
    obtain ⟨d, ed, k3, g3, hd⟩ := yld x H' y
    refine ⟨gwipe ρ vs, G2, _, d, (rs.mono ((k1.trans tk0).trans (k2.trans k3))).wipe vs, g3, hd, turn i d G2 ed w2, fun σ4 H4 ρ4 G4 k4 rs4 g4 w4 q4 => ⟨w4.trans (wipe_wipe vs σ), ρ4, G4, _, rs4, g4, q4, fun b H5 G5 k5 g5 q5 => ?_⟩⟩
    have k25 := k2.trans (k3.trans (k4.trans k5))
    cases b with
    | false => exact ⟨G5, k25, g5, q5⟩
    | true =>
      rw [if_pos rfl] at q5
      show up X.prog X.w X.K tk σ4 H5 _
      refine ⟨ρ4, G5, _, rs4.mono k5, g5, q5, fun v H6 d6 G6 k6 g6 h6 q6 => ⟨ρ4, G6, _, (rs4.mono k5).mono k6, g6, q6, fun u H7 d7 G7 k7 g7 h7 ⟨kvs, hp7, ik, hz, w7⟩ => ?_⟩⟩
      exact dst_of hr g7 (h6.mono k7) h7 hp7 ik hz fun H8 k8 g8 => ⟨_, ((k25.trans k6).trans k7).trans k8, g8, w7⟩
  · have e : i = ds.length := by omega
    subst e
    exact .inl ⟨o1 (Nat.le_refl _), k _ H2 _ G2 ((k1.trans tk0).trans k2) g2 (.ref p) (fin G2 w2)⟩
theorem dc2_up (hr : X.A.units + 64 < cLine) {ti ti1 : GIR} {g g1 : GTG} {tt tt1 : GTT} {tk tv : GTE} {vs vs1 : List Nat} {σ : L2.St} {H : Hp} {Q : VK} (h : up X.prog X.w X.K (gDc2 ti g tt ti1 g1 tt1 tk tv vs vs1) σ H Q) :
    tDg X.prog X.w (upI X.prog X.w X.K ti) (upGw X.prog X.w X.K vs g) (upT X.prog X.w X.K tt) (fun d σ H Nx => upI X.prog X.w X.K ti1 σ H fun J1 H4 => ∃ W1 : Nat → Nat → Hp → Prop, (∃ m, W1 0 m H4) ∧ ∀ j k H, W1 j k H →
      (J1.stop j H ∧ Nx H) ∨ (J1.go j H ∧ ∃ Nx1 : Hp → Prop, (∀ H', Nx1 H' → ∃ k', k' < k ∧ W1 (j + 1) k' H') ∧ ∀ x H', J1.yld j H x H' → upGw X.prog X.w X.K vs1 g1 x (L2.wipe σ vs1) H' fun σ3 H5 => L2.wipe σ3 vs1 = L2.wipe σ vs1 ∧ upT X.prog X.w X.K tt1 σ3 H5 fun b H6 =>
        if b = true then up X.prog X.w X.K tk σ3 H6 fun y H7 => up X.prog X.w X.K tv σ3 H7 fun z H8 => DSt X d y z H8 Nx1 else Nx1 H6)) vs σ H Q := by
  obtain ⟨ρ, G, R, rs, g0, q, k⟩ := h
  refine ⟨ρ, G, _, rs, g0, q, fun ds keep H1 G1 J k1 g1 q1 ok p hp => ?_⟩
  obtain ⟨W, w0, hw, turn, fin⟩ := q1 p (g1.ne hp)
  have tk0 : TK H1 (upd H1 p (dO X.prog X.w p [])) := TK.new hp
  refine ⟨fun i m H' => ∃ G', m = ds.length - i ∧ i ≤ ds.length ∧ TK (upd H1 p (dO X.prog X.w p [])) H' ∧ GH X.prog X.w X.K G' H' ∧ W i G', ⟨ds.length, _, by simp, Nat.zero_le _, TK.refl, g1.new (o := .dct []) hp ⟨Nat.zero_le _, [], upd_same, .nil⟩, w0⟩, ?_⟩
  rintro i m H2 ⟨G2, rfl, hi2, k2, g2, w2⟩
  obtain ⟨o1, o2⟩ := ok i H2 G2 hi2 (tk0.trans k2) g2 (hw i G2 hi2 w2)
  by_cases hlt : i < ds.length
  · obtain ⟨go, yld⟩ := o2 hlt
    refine .inr ⟨go, fun H' => ∃ G', TK (upd H1 p (dO X.prog X.w p [])) H' ∧ GH X.prog X.w X.K G' H' ∧ W (i + 1) G', fun H' ⟨G', r⟩ => ⟨ds.length - (i + 1), by omega, G', rfl, hlt, r⟩, fun x H' y => ?_⟩
    obtain ⟨d, ed, k3, g3, hd⟩ := yld x H' y
    refine ⟨gwipe ρ vs, G2, _, d, (rs.mono ((k1.trans tk0).trans (k2.trans k3))).wipe vs, g3, hd, turn i d G2 ed w2, fun σ4 H4 ρ4 G4 k4 rs4 g4 w4 q4 => ⟨w4.trans (wipe_wipe vs σ), ρ4, G4, _, rs4, g4, q4, fun b H5 G5 k5 g5 q5 => ?_⟩⟩
    have k25 := k2.trans (k3.trans (k4.trans k5))
    cases b with
    | false => exact ⟨G5, k25, g5, q5⟩
    | true =>
      rw [if_pos rfl] at q5
      show upI X.prog X.w X.K ti1 σ4 H5 _
      have rs5 := rs4.mono k5
      refine ⟨ρ4, G5, _, rs5, g5, q5, fun es keep1 H6 G6 J1 k6 g6 q6 ok1 => ?_⟩
      obtain ⟨W1, w10, hw1, turn1, fin1⟩ := q6
      have rs6 := rs5.mono k6
      refine ⟨fun j m H' => ∃ G', m = es.length - j ∧ j ≤ es.length ∧ TK H6 H' ∧ GH X.prog X.w X.K G' H' ∧ W1 j G', ⟨es.length, _, by simp, Nat.zero_le _, TK.refl, g6, w10⟩, ?_⟩
      rintro j m H7 ⟨G7, rfl, hj, k7, g7, w7⟩
      obtain ⟨o3, o4⟩ := ok1 j H7 G7 hj k7 g7 (hw1 j G7 hj w7)
      by_cases hlt2 : j < es.length
      · obtain ⟨go1, yld1⟩ := o4 hlt2
        refine .inr ⟨go1, fun H' => ∃ G', TK H6 H' ∧ GH X.prog X.w X.K G' H' ∧ W1 (j + 1) G', fun H' ⟨G', r⟩ => ⟨es.length - (j + 1), by omega, G', rfl, hlt2, r⟩, fun x H' y => ?_⟩
        obtain ⟨e, ee, k8, g8, he⟩ := yld1 x H' y
        refine ⟨gwipe ρ4 vs1, G7, _, e, (rs6.mono (k7.trans k8)).wipe vs1, g8, he, turn1 j e G7 ee w7, fun σ9 H9 ρ9 G9 k9 rs9 g9 w9 q9 => ⟨w9.trans (wipe_wipe vs1 σ4), ρ9, G9, _, rs9, g9, q9, fun b H10 G10 k10 g10 q10 => ?_⟩⟩
        have k710 := k7.trans (k8.trans (k9.trans k10))
        cases b with
        | false => exact ⟨G10, k710, g10, q10⟩
        | true =>
          rw [if_pos rfl] at q10
          show up X.prog X.w X.K tk σ9 H10 _
          refine ⟨ρ9, G10, _, rs9.mono k10, g10, q10, fun v H11 d11 G11 k11 g11 h11 q11 => ⟨ρ9, G11, _, (rs9.mono k10).mono k11, g11, q11, fun u H12 d12 G12 k12 g12 h12 ⟨kvs, hp7, ik, hz, w12⟩ => ?_⟩⟩
          exact dst_of hr g12 (h11.mono k12) h12 hp7 ik hz fun H13 k13 g13 => ⟨_, ((k710.trans k11).trans k12).trans k13, g13, w12⟩
      · have e : j = es.length := by omega
        subst e
        exact .inl ⟨o3 (Nat.le_refl _), G7, k25.trans (k6.trans k7), g7, fin1 G7 w7⟩
  · have e : i = ds.length := by omega
    subst e
    exact .inl ⟨o1 (Nat.le_refl _), k _ H2 _ G2 ((k1.trans tk0).trans k2) g2 (.ref p) (fin G2 w2)⟩
/-- {k: v for target in iter if ..} -/
theorem ge_dc {kx vx tg iter : Expr} {ifs : List Expr} {scope : Scope} (own : List (Str × Nat)) {pos : Pos} {ti : GIR} {g : GTG} {tt : GTT} {tk tv : GTE} (hr : X.A.units + 64 < cLine) (hN : X.N.Nodup) (hi : GI X tg iter ti) (ok : BlkOk X.N X.env.scope scope own)
    (hg : ∀ (s : Shared) (H : Hp) (C : Addr) (cl : List (Str × Addr)) (fp : List Addr), GW1 (X.blk s H scope (compEnvC scope cl C X.env) fp) (own.map fun x : Str × Nat => x.2) tg g) (ht : ∀ (s : Shared) (H : Hp) (C : Addr) (cl : List (Str × Addr)) (fp : List Addr), GTs (X.blk s H scope (compEnvC scope cl C X.env) fp) ifs tt)
    (hk : ∀ (s : Shared) (H : Hp) (C : Addr) (cl : List (Str × Addr)) (fp : List Addr), GE (X.blk s H scope (compEnvC scope cl C X.env) fp) kx tk) (hv : ∀ (s : Shared) (H : Hp) (C : Addr) (cl : List (Str × Addr)) (fp : List Addr), GE (X.blk s H scope (compEnvC scope cl C X.env) fp) vx tv)
    (hc : X.calm = true := by rfl) (hs : ∀ x, foldedSetIterable iter X.env x = pure x := by intro _; rfl) :
    GE X (.DictComp kx vx [⟨tg, iter, ifs, 0⟩] scope pos) (gDc ti g tt tk tv (own.map fun x : Str × Nat => x.2)) :=
  PE.weak (pe_dg own (g := upGw X.prog X.w X.K (own.map fun x : Str × Nat => x.2) g) (tt := upT X.prog X.w X.K tt) (tb := fun d σ H Nx => up X.prog X.w X.K tk σ H fun y H1 => up X.prog X.w X.K tv σ H1 fun z H2 => DSt X d y z H2 Nx) hc hN hi ok loopR1 (arm_eval_DictComp ..) hg ht
    (fun s H C cl fp => by
      have := pb_one (vs := own.map fun x : Str × Nat => x.2) (hk s H C cl fp) (hv s H C cl fp)
      exact this) hs) fun σ H Q h => dc_up hr h
theorem gs_setDc {i : Nat} {y : Str} {py spos : Pos} {kx vx tg iter : Expr} {ifs : List Expr} {scope : Scope} (own : List (Str × Nat)) {pos : Pos} {ti : GIR} {g : GTG} {tt : GTT} {tk tv : GTE} (hr : X.A.units + 64 < cLine) (hN : X.N.Nodup) (hi : GI X tg iter ti) (ok : BlkOk X.N X.env.scope scope own)
    (hg : ∀ (s : Shared) (H : Hp) (C : Addr) (cl : List (Str × Addr)) (fp : List Addr), GW1 (X.blk s H scope (compEnvC scope cl C X.env) fp) (own.map fun x : Str × Nat => x.2) tg g) (ht : ∀ (s : Shared) (H : Hp) (C : Addr) (cl : List (Str × Addr)) (fp : List Addr), GTs (X.blk s H scope (compEnvC scope cl C X.env) fp) ifs tt)
    (hk : ∀ (s : Shared) (H : Hp) (C : Addr) (cl : List (Str × Addr)) (fp : List Addr), GE (X.blk s H scope (compEnvC scope cl C X.env) fp) kx tk) (hv : ∀ (s : Shared) (H : Hp) (C : Addr) (cl : List (Str × Addr)) (fp : List Addr), GE (X.blk s H scope (compEnvC scope cl C X.env) fp) vx tv)
    (hy : X.N[i]? = some y := by rfl) (hyl : X.env.scope.names.lookup y = some .local := by rfl) (hsw : swapsWith (.DictComp kx vx [⟨tg, iter, ifs, 0⟩] scope pos) (some (.Name y py)) spos.line X.env = pure true := by exact swD_true rfl rfl rfl rfl)
    (hc : X.calm = true := by rfl) (hs : ∀ x, foldedSetIterable iter X.env x = pure x := by intro _; rfl) :
    GS X (.Assign [.Name y py] (.DictComp kx vx [⟨tg, iter, ifs, 0⟩] scope pos) spos) (gAsg (gDc ti g tt tk tv (own.map fun x : Str × Nat => x.2)) (gName i)) :=
  PS.weak (ps_setDg own (g := upGw X.prog X.w X.K (own.map fun x : Str × Nat => x.2) g) (tt := upT X.prog X.w X.K tt) (tb := fun d σ H Nx => up X.prog X.w X.K tk σ H fun y H1 => up X.prog X.w X.K tv σ H1 fun z H2 => DSt X d y z H2 Nx) hc hN hy hyl hsw hi ok loopR1 hg ht
    (fun s H C cl fp => by
      have := pb_one (vs := own.map fun x : Str × Nat => x.2) (hk s H C cl fp) (hv s H C cl fp)
      exact this) hs) fun E σ H ⟨ρ, G, Z, rs, g0, q, l⟩ =>
    dc_up hr ⟨ρ, G, _, rs, g0, q, fun v H1 d G1 k1 g1 h1 q1 => l.nx _ H1 _ G1 k1 ((rs.mono k1).set h1 i) g1 q1⟩
end
end G
set_option Elab.async false
set_option linter.all false
set_option maxRecDepth 100000
set_option maxHeartbeats 4000000
namespace G
open PySem PySem.Spec PyProof.Rows L2
section
variable {X : Cx}
/-- {k: v for tg in iter if .. for t1 in i1 if ..} -/
theorem ge_dc2 {kx vx tg iter t1 i1 : Expr} {ifs ifs1 : List Expr} {scope : Scope} (own : List (Str × Nat)) (vs1 : List Nat) {pos : Pos} {ti ti1 : GIR} {g g1 : GTG} {tt tt1 : GTT} {tk tv : GTE} (hr : X.A.units + 64 < cLine) (hN : X.N.Nodup) (hi : GI X tg iter ti) (ok : BlkOk X.N X.env.scope scope own)
    (hg : ∀ (s : Shared) (H : Hp) (C : Addr) (cl : List (Str × Addr)) (fp : List Addr), GW1 (X.blk s H scope (compEnvC scope cl C X.env) fp) (own.map fun x : Str × Nat => x.2) tg g) (ht : ∀ (s : Shared) (H : Hp) (C : Addr) (cl : List (Str × Addr)) (fp : List Addr), GTs (X.blk s H scope (compEnvC scope cl C X.env) fp) ifs tt)
    (hi1 : ∀ (s : Shared) (H : Hp) (C : Addr) (cl : List (Str × Addr)) (fp : List Addr), GI (X.blk s H scope (compEnvC scope cl C X.env) fp) t1 i1 ti1)
    (hg1 : ∀ (s : Shared) (H : Hp) (C : Addr) (cl : List (Str × Addr)) (fp : List Addr), GW1 (X.blk s H scope (compEnvC scope cl C X.env) fp) vs1 t1 g1) (ht1 : ∀ (s : Shared) (H : Hp) (C : Addr) (cl : List (Str × Addr)) (fp : List Addr), GTs (X.blk s H scope (compEnvC scope cl C X.env) fp) ifs1 tt1)
    (hk : ∀ (s : Shared) (H : Hp) (C : Addr) (cl : List (Str × Addr)) (fp : List Addr), GE (X.blk s H scope (compEnvC scope cl C X.env) fp) kx tk) (hv : ∀ (s : Shared) (H : Hp) (C : Addr) (cl : List (Str × Addr)) (fp : List Addr), GE (X.blk s H scope (compEnvC scope cl C X.env) fp) vx tv)
    (hvs : ∀ i ∈ vs1, i ∈ own.map fun x : Str × Nat => x.2 := by decide) (hc : X.calm = true := by rfl) (hs : ∀ x, foldedSetIterable iter X.env x = pure x := by intro _; rfl) (hs1 : ∀ env x, foldedSetIterable i1 env x = pure x := by intro _ _; rfl) :
    GE X (.DictComp kx vx [⟨tg, iter, ifs, 0⟩, ⟨t1, i1, ifs1, 0⟩] scope pos) (gDc2 ti g tt ti1 g1 tt1 tk tv (own.map fun x : Str × Nat => x.2) vs1) :=
  PE.weak (pe_dg own (g := upGw X.prog X.w X.K (own.map fun x : Str × Nat => x.2) g) (tt := upT X.prog X.w X.K tt) (tb := fun d σ H Nx => upI X.prog X.w X.K ti1 σ H fun J1 H4 => ∃ W1 : Nat → Nat → Hp → Prop, (∃ m, W1 0 m H4) ∧ ∀ j k H, W1 j k H →
      (J1.stop j H ∧ Nx H) ∨ (J1.go j H ∧ ∃ Nx1 : Hp → Prop, (∀ H', Nx1 H' → ∃ k', k' < k ∧ W1 (j + 1) k' H') ∧ ∀ x H', J1.yld j H x H' → upGw X.prog X.w X.K vs1 g1 x (L2.wipe σ vs1) H' fun σ3 H5 => L2.wipe σ3 vs1 = L2.wipe σ vs1 ∧ upT X.prog X.w X.K tt1 σ3 H5 fun b H6 =>
        if b = true then up X.prog X.w X.K tk σ3 H6 fun y H7 => up X.prog X.w X.K tv σ3 H7 fun z H8 => DSt X d y z H8 Nx1 else Nx1 H6)) hc hN hi ok (loopR2 hs1) (arm_eval_DictComp ..) hg ht
    (fun s H C cl fp => by
      have := pb_two (X := X.blk s H scope (compEnvC scope cl C X.env) fp) (vs := own.map fun x : Str × Nat => x.2) (vs1 := vs1) (tg := tg) (iter := iter) (ifs := ifs) (scope := scope) (pos := pos) hc hvs (hi1 s H C cl fp) (hg1 s H C cl fp) (ht1 s H C cl fp) (hk s H C cl fp) (hv s H C cl fp)
      exact this) hs) fun σ H Q h => dc2_up hr h
end
theorem dputs_app (kvs a b : List (D × D)) : dputs kvs (a ++ b) = dputs (dputs kvs a) b := by unfold dputs; rw [List.foldl_append]
/-! plain uses -/
theorem dc_fm {g : GTG} {tt : GTT} {tk tv : GTE} {vs : List Nat} {ρ : Ro} {G0 : Gp} {Q : GK} (ds : List D) (keep : Gp → Prop) (f : D → Option (D × D)) (hz : ds.length ≤ 1000000) (hk : ∀ G, Sub G0 G → keep G) (hf : ∀ d ∈ ds, ∀ q, f d = some q → isKey q.1)
    (step : ∀ d ∈ ds, ∀ G, Sub G0 G → ∀ R : Option (D × D) → Gp → Prop, (∀ G', Sub G G' → R (f d) G') → g d (gwipe ρ vs) G fun ρ2 G2 => tt ρ2 G2 fun b G3 => if b = true then tk ρ2 G3 fun y G4 => tv ρ2 G4 fun z G5 => R (some (y, z)) G5 else R none G3)
    (fin : ∀ p G', G0 p = none → Sub G0 G' → G' p = some (.dct (dputs [] (ds.filterMap f))) → Q (.ref p) G') :
    DcI g tt tk tv vs ρ Q ds keep G0 := by
  intro p hp
  refine ⟨fun i G => Sub G0 G ∧ G p = some (.dct (dputs [] ((ds.take i).filterMap f))), ⟨Sub.new hp, gup_same⟩, fun i G _ h => hk G h.1, ?_, fun G ⟨h1, h2⟩ => fin p G hp h1 (by rw [h2, List.take_length])⟩
  rintro i d G ed ⟨h1, h2⟩
  have hlt := (List.getElem?_eq_some_iff.mp ed).1
  have tk' : ds.take (i + 1) = ds.take i ++ [d] := by rw [List.take_succ, ed]; rfl
  have hal : (dputs [] ((ds.take i).filterMap f)).length ≤ i := by
    have h3 := dputs_len ((ds.take i).filterMap f) []
    have h4 : ((ds.take i).filterMap f).length ≤ i := Nat.le_trans (List.length_filterMap_le f _) (List.length_take_le _ _)
    have h5 : ([] : List (D × D)).length = 0 := rfl
    omega
  refine step d (List.mem_of_getElem? ed) G h1 (fun o G' => match o with
    | some y => ∃ kvs, G' p = some (.dct kvs) ∧ isKey y.1 ∧ kvs.length < sizeLine ∧ (Sub G0 (gup G' p (.dct (dput kvs y.1 y.2))) ∧ gup G' p (.dct (dput kvs y.1 y.2)) p = some (.dct (dputs [] ((ds.take (i + 1)).filterMap f))))
    | none => Sub G0 G' ∧ G' p = some (.dct (dputs [] ((ds.take (i + 1)).filterMap f)))) fun G' s => ?_
  cases hfd : f d with
  | none => exact ⟨h1.trans s, by rw [s p _ h2, tk', List.filterMap_append]; simp [hfd]⟩
  | some y =>
    refine ⟨_, s p _ h2, hf d (List.mem_of_getElem? ed) y hfd, by rw [sizeLine_eq]; omega, fun a o e => ?_, ?_⟩
    · rw [gup_ne (by rintro rfl; rw [hp] at e; cases e)]
      exact s a o (h1 a o e)
    · rw [gup_same, tk', List.filterMap_append, dputs_app]
      simp [hfd, dputs]
/-- two clauses, no tests: the inner items of each outer item are told by es -/
theorem dc2_fm {ti1 : GIR} {g g1 : GTG} {tk tv : GTE} {vs vs1 : List Nat} {ρ : Ro} {G0 : Gp} {Q : GK} (ds : List D) (keep : Gp → Prop) (es : D → List D) (f : D → D → D × D) (n : Nat) (hz : ds.length * n ≤ 1000000) (hn : ∀ d ∈ ds, (es d).length ≤ n) (hk : ∀ G, Sub G0 G → keep G) (hf : ∀ d ∈ ds, ∀ e ∈ es d, isKey (f d e).1)
    (outer : ∀ d ∈ ds, ∀ G, Sub G0 G → ∀ R : Ro → List D → (Gp → Prop) → Gp → Prop,
      (∀ ρ2 keep1 G4, Sub G G4 → (∀ G', keep1 G') → (∀ e ∈ es d, ∀ G5, Sub G0 G5 → ∀ R5 : D × D → Gp → Prop, (∀ G6, Sub G5 G6 → R5 (f d e) G6) → g1 e (gwipe ρ2 vs1) G5 fun ρ3 G6 => tk ρ3 G6 fun k G7 => tv ρ3 G7 fun v G8 => R5 (k, v) G8) → R ρ2 (es d) keep1 G4) →
      g d (gwipe ρ vs) G fun ρ2 G2 => ti1 ρ2 G2 (R ρ2))
    (fin : ∀ p G', G0 p = none → Sub G0 G' → G' p = some (.dct (dputs [] (ds.flatMap fun d => (es d).map (f d)))) → Q (.ref p) G') :
    Dc2I g gYes ti1 g1 gYes tk tv vs vs1 ρ Q ds keep G0 := by
  intro p hp
  refine ⟨fun i G => Sub G0 G ∧ G p = some (.dct (dputs [] ((ds.take i).flatMap fun d => (es d).map (f d)))), ⟨Sub.new hp, gup_same⟩, fun i G _ h => hk G h.1, ?_, fun G ⟨h1, h2⟩ => fin p G hp h1 (by rw [h2, List.take_length])⟩
  rintro i d G ed ⟨h1, h2⟩
  have hd := List.mem_of_getElem? ed
  have hlt := (List.getElem?_eq_some_iff.mp ed).1
  have tk' : ds.take (i + 1) = ds.take i ++ [d] := by rw [List.take_succ, ed]; rfl
  have hfl : ∀ l : List D, (∀ d ∈ l, (es d).length ≤ n) → (l.flatMap fun d => (es d).map (f d)).length ≤ l.length * n := by
    intro l
    induction l with
    | nil => intro _; simp
    | cons a l ih =>
      intro h
      have h5 := ih fun d hd => h d (List.mem_cons_of_mem _ hd)
      have h6 := h a List.mem_cons_self
      rw [List.flatMap_cons, List.length_append, List.length_map, List.length_cons, Nat.add_mul]
      omega
  refine outer d hd G h1 (fun ρ2 es' keep1 G4 => ∃ W1 : Nat → Gp → Prop, W1 0 G4 ∧ (∀ j G, j ≤ es'.length → W1 j G → keep1 G) ∧
      (∀ j e G, es'[j]? = some e → W1 j G → g1 e (gwipe ρ2 vs1) G fun ρ3 G6 => tk ρ3 G6 fun k G7 => tv ρ3 G7 fun v G8 => ∃ kvs, G8 p = some (.dct kvs) ∧ isKey k ∧ kvs.length < sizeLine ∧ W1 (j + 1) (gup G8 p (.dct (dput kvs k v)))) ∧
      ∀ G, W1 es'.length G → Sub G0 G ∧ G p = some (.dct (dputs [] ((ds.take (i + 1)).flatMap fun d => (es d).map (f d))))) fun ρ2 keep1 G4 s4 hk1 inner => ?_
  have G4p : G4 p ≠ none := by rw [s4 p _ h2]; exact fun e => by cases e
  have h24 := s4 p _ h2
  refine ⟨fun j G => Sub G0 G ∧ G p = some (.dct (dputs [] (((ds.take i).flatMap fun d => (es d).map (f d)) ++ ((es d).take j).map (f d)))), ⟨h1.trans s4, by rw [h24]; simp⟩, fun j G _ _ => hk1 G, ?_, ?_⟩
  · rintro j e G5 ee ⟨a1, a2⟩
    have he := List.mem_of_getElem? ee
    have hlt2 := (List.getElem?_eq_some_iff.mp ee).1
    refine inner e he G5 a1 (fun q G' => ∃ kvs, G' p = some (.dct kvs) ∧ isKey q.1 ∧ kvs.length < sizeLine ∧ (Sub G0 (gup G' p (.dct (dput kvs q.1 q.2))) ∧ gup G' p (.dct (dput kvs q.1 q.2)) p = some (.dct (dputs [] (((ds.take i).flatMap fun d => (es d).map (f d)) ++ ((es d).take (j + 1)).map (f d)))))) fun G6 s6 => ?_
    have e1 : (es d).take (j + 1) = (es d).take j ++ [e] := by rw [List.take_succ, ee]; rfl
    refine ⟨_, s6 p _ a2, hf d hd e he, ?_, fun a o ea => ?_, ?_⟩
    · have b1 := dputs_len (((ds.take i).flatMap fun d => (es d).map (f d)) ++ ((es d).take j).map (f d)) []
      have b2 := hfl (ds.take i) fun d hd => hn d (List.mem_of_mem_take hd)
      have b3 : ((es d).take j).length ≤ n := Nat.le_trans (List.length_take_le' ..) (hn d hd)
      have b5 : ((ds.take i).length + 1) * n ≤ ds.length * n := Nat.mul_le_mul_right n (by rw [List.length_take]; omega)
      rw [List.length_append, List.length_map, List.length_nil] at b1
      rw [Nat.add_mul] at b5
      rw [sizeLine_eq]; omega
    · rw [gup_ne (by rintro rfl; rw [hp] at ea; cases ea)]
      exact s6 a o (a1 a o ea)
    · rw [gup_same, e1, List.map_append, ← List.append_assoc, dputs_app _ (_ ++ _)]
      rfl
  · intro G5 ⟨a1, a2⟩
    refine ⟨a1, ?_⟩
    rw [a2, tk', List.flatMap_append, List.take_length]
    simp
end G
set_option Elab.async false
set_option linter.all false
set_option maxRecDepth 100000
set_option maxHeartbeats 4000000
namespace G
open PySem PySem.Spec PyProof.Rows L2
section
variable {X : Cx} {pins : List (Addr × Obj)} {σ : L2.St} {H : Hp} {s : Shared}
theorem pairs_of (I : Inv X pins σ H s) : ∀ {kvs : List (D × D)} {vs : List V} {us : List Value}, (∀ q ∈ kvs, isKey q.1) → DatL X.K H vs (kvs.map fun q => D.tup [q.1, q.2]) → Vals vs us →
    ∃ L : List (Addr × NestedKey × Addr × Value), us = L.map (fun t => Value.ref t.1) ∧ (∀ t ∈ L, s.heap.IsTuple t.1 #[.ref t.2.2.1, t.2.2.2]) ∧ Paired (EntOk X.K H) kvs (L.map (·.2))
  | [], _, _, _, .nil, .nil => ⟨[], rfl, (by simp), .nil⟩
  | q :: kvs, _, _, hk, .cons h t, .cons r rs => by
    obtain ⟨a, ws, rfl, hs, hd⟩ := dat_tup h
    obtain ⟨v1, v2, rfl, d1, d2⟩ := datL_two hd
    cases r
    obtain ⟨its, rv, ht, _⟩ := I.tuple hs
    cases rv with
    | @cons _ u1 _ _ r1 rv =>
      cases rv with
      | @cons _ u2 _ _ r2 rv =>
        cases rv
        obtain ⟨b, rfl, rfl, kb⟩ := key_at I (hk q List.mem_cons_self) d1 r1
        obtain ⟨L, e1, e2, e3⟩ := pairs_of I (fun q hq => hk q (List.mem_cons_of_mem _ hq)) t rs
        have ht2 : s.heap.IsTuple a #[.ref b, u2] := ht
        refine ⟨(a, nk q.1, b, u2) :: L, by rw [e1]; rfl, fun t ht => ?_, .cons ⟨(hk q List.mem_cons_self).1, rfl, d1, v2, r2, d2⟩ e3⟩
        rcases List.mem_cons.mp ht with rfl | ht
        · exact ht2
        · exact e2 t ht
end
section
variable {X : Cx}
/-- dict([(k, v), ..]) -/
@[simp] def rDict : List D → Gp → GK → Prop := fun ds G Q => ∃ (a : Addr) (kvs : List (D × D)), ds = [.ref a] ∧ G a = some (.lst (kvs.map fun q => D.tup [q.1, q.2])) ∧ (∀ q ∈ kvs, isKey q.1) ∧ ∀ p, G p = none → Q (.ref p) (gup G p (.dct (dputs [] kvs)))
theorem cDict (hc : X.calm = true) (hr : X.A.units + 64 < cLine) : GCall X (.type "dict") rDict := by
  intro pins s σ H us ws Q I r h
  obtain ⟨G, R, ds, g, hd, ⟨a, kvs, rfl, ha, hk, q⟩, k⟩ := h
  obtain ⟨v, rfl, hv⟩ := datL_one hd
  cases dat_ref hv
  obtain ⟨u, rfl, ru⟩ := vals1 r
  cases ru
  obtain ⟨vs, ev, dv⟩ := list_of g ha
  obtain ⟨zz, zv⟩ := g a _ ha
  clear zv
  rw [List.length_map] at zz
  obtain ⟨its, rv, hl, _⟩ := I.list (SqL.of ev)
  obtain ⟨L, e1, e2, e3⟩ := pairs_of I hk dv rv
  subst e1
  have hlen : L.length = kvs.length := by have := e3.length; simpa using this.symm
  have PA := PairArg.list (prog := X.prog) (w := X.w) a (L.map fun t => Value.ref t.1).toArray (fun j => (L[j]?.getD (0, .none, 0, .none)).1) (L.map fun t => (Value.ref t.2.2.1, t.2.2.2))
  refine call_dict_pairsH (knd := nestedKind X.prog X.w) (ps := L.map (·.2)) PA (I.ok.hd hc) (by show X.A.units + 1 + 1 + 8 < cLine; omega) ⟨hl, ?_, fun j kk vv hj => ?_⟩ ⟨by simp, fun i key v hi => ?_⟩ ?_ (by rw [List.length_map, hlen]; exact zz) fun h' tk hm keep => ?_
  · simp
  · rw [List.getElem?_map] at hj
    cases hL : L[j]? with
    | none => rw [hL] at hj; cases hj
    | some t =>
      rw [hL] at hj
      cases hj
      refine ⟨by simp [hL], .inl ?_⟩
      simpa [hL] using e2 t (List.mem_of_getElem? hL)
  · simp only [PairRel, List.getElem?_map] at hi
    cases hL : L[i]? with
    | none => rw [hL] at hi; cases hi
    | some t =>
      rw [hL] at hi
      cases hi
      exact ⟨t.2.1, t.2.2.1, by simp [hL], rfl⟩
  · intro h2 hk2 x hx
    have hx3 : (nestedKind X.prog X.w).is s.heap x.1 x.2.1 := by
      clear PA hl rv hlen dv ev e2
      generalize hM : L.map (·.2) = M at e3 hx
      clear hM ha hk q zz
      induction e3 with
      | nil => cases hx
      | @cons p q ps qs h t ih =>
        rcases List.mem_cons.mp hx with rfl | hx
        · obtain ⟨h1, h2, h3, _⟩ := h
          rw [h2]
          exact ⟨Dat.nested I 8 _ _ _ h1 h3 rfl, nk_depth h1⟩
        · exact ih hx
    exact nestedKind_stays.stays (fun b o vs n e _ => hk2 b o (Nat.ne_of_lt (Heap.lt_size e)) (by simp) e) hx3
  · have hn : H s.heap.objs.size = none := I.hok.fresh (Nat.le_refl _)
    obtain ⟨o, es, ep, f1, f2, f3, f4, _, f5⟩ := hm
    have e4 : Paired (EntOk X.K H) (dputs [] kvs) (storedAllH [] (L.map (·.2))) := ent_puts e3 .nil
    have tk0 : TK H (upd H s.heap.objs.size (dO X.prog X.w s.heap.objs.size (storedAllH [] (L.map (·.2))))) := TK.new hn
    refine ⟨.ref s.heap.objs.size, upd H s.heap.objs.size (dO X.prog X.w s.heap.objs.size (storedAllH [] (L.map (·.2)))), I.laid (t' := tk) (fun b o e => keep b o (by simp) e) (Nat.le_refl _) (dO_new ⟨beq_eq_false_iff_ne.mpr (Ne.symm (Nat.ne_of_lt I.big)), o, es, ep, f1, f2, f3, f4, f5⟩), rfl, ?_⟩
    exact k _ _ _ _ tk0 (g.new (o := .dct (dputs [] kvs)) hn ⟨by have := dputs_len kvs []; simp at this; omega, _, upd_same, Paired.mapP e4 fun _ _ q => q.mono tk0⟩) (.ref _) (q _ (g.ne hn))
/-- list(d): the keys -/
@[simp] def rListD : List D → Gp → GK → Prop := fun ds G Q => ∃ (a : Addr) (kvs : List (D × D)), ds = [.ref a] ∧ G a = some (.dct kvs) ∧ ∀ p, G p = none → Q (.ref p) (gup G p (.lst (kvs.map (·.1))))
theorem cListD (hc : X.calm = true) : GCall X (.type "list") rListD := by
  intro pins s σ H us ws Q I r h
  obtain ⟨G, R, ds, g, hd, ⟨a, kvs, rfl, ha, q⟩, k⟩ := h
  obtain ⟨v, rfl, hv⟩ := datL_one hd
  cases dat_ref hv
  obtain ⟨u, rfl, ru⟩ := vals1 r
  cases ru
  obtain ⟨z, ys, e, p, sy, hm⟩ := dct_at I g ha
  obtain ⟨es, ep, raw, hs, he⟩ := hm.raw
  have hl2 : ys.length = kvs.length := p.length.symm
  refine PySem.W.kdl_call (KdlSrc.rawDict (es := es) (ep := ep) sy) (I.ok.hd hc) raw (by omega) fun h' tk acc c' hk ho hacc => ?_
  have hacc2 : acc.toList = ys.map fun q => Value.ref q.2.1 := keys_acc (h := s.heap) hs he hacc.1 fun i v e => hacc.2 i v e
  have rv : Vals (ys.map fun q => V.ref q.2.1) acc.toList := by
    rw [hacc2]
    have := vals_refs (ys.map fun q => q.2.1)
    rw [List.map_map, List.map_map] at this
    exact this
  have dv : DatL X.K H (ys.map fun q => V.ref q.2.1) (kvs.map (·.1)) := ents_keys p
  have hn : H s.heap.objs.size = none := I.hok.fresh (Nat.le_refl _)
  refine ⟨.ref s.heap.objs.size, upd H s.heap.objs.size (.lst (ys.map fun q => V.ref q.2.1)), I.laid (t' := tk) hk (Nat.le_refl _) ⟨by rw [List.length_map, hl2]; exact z, acc.toList, c', rv, by simpa using ho⟩, rfl, ?_⟩
  exact k _ _ _ _ (TK.new hn) (g.new hn (gok_lst (ds := kvs.map (·.1)) (by rw [List.length_map]; exact z) (dv.mono (TK.new hn)) upd_same)) (.ref _) (q _ (g.ne hn))
/-- len(d) -/
@[simp] def rLenD : List D → Gp → GK → Prop := fun ds G Q => ∃ (a : Addr) (kvs : List (D × D)), ds = [.ref a] ∧ G a = some (.dct kvs) ∧ Q (.int kvs.length) G
theorem cLenD : GCall X (.builtin "len") rLenD := by
  intro pins s σ H us ws Q I r h
  obtain ⟨G, R, ds, g, hd, ⟨a, kvs, rfl, ha, q⟩, k⟩ := h
  obtain ⟨v, rfl, hv⟩ := datL_one hd
  cases dat_ref hv
  obtain ⟨u, rfl, ru⟩ := vals1 r
  cases ru
  obtain ⟨z, ys, e, p, sy, hm⟩ := dct_at I g ha
  have hl2 : ys.length = kvs.length := p.length.symm
  refine call_len_dictH sy hm (by rw [hl2]; rw [sizeLine_eq] at z; omega) ?_
  rw [hl2]
  exact ⟨.int ((kvs.length : Nat) : Int), H, I.tok _, ⟨_, rfl⟩, k _ H _ G TK.refl g (.int _) q⟩
end
end G
set_option Elab.async false
set_option linter.all false
set_option maxRecDepth 100000
set_option maxHeartbeats 4000000
namespace G
open PySem PySem.Spec PyProof.Rows L2

/-- a def of the module that keeps its promise -/
structure FU (P : Program) (w : World) (K : PySem.W.Frag) (mg : Str → Option Value) (base : Heap) (k : Nat) (x : Str) (n : Nat) (sp : GSp) : Prop where
  ex : ∃ (f : Addr) (fd : FuncData) (ps : List Str), FnG P w K mg base k f fd ps sp ∧ mg x = some (.ref f) ∧ PySem.W.keepIn K (.ref f) = true ∧ Binds K fd ps [] ∧ ps.length = n
theorem FU.mono {P : Program} {w : World} {K : PySem.W.Frag} {mg : Str → Option Value} {base : Heap} {j k : Nat} {x : Str} {n : Nat} {sp : GSp} (F : FU P w K mg base j x n sp) (h : j ≤ k) : FU P w K mg base k x n sp :=
  let ⟨f, fd, ps, h1, h2⟩ := F.ex; ⟨f, fd, ps, FnOk.mono h1 h, h2⟩
/-- a weaker promise -/
theorem FU.imp {P : Program} {w : World} {K : PySem.W.Frag} {mg : Str → Option Value} {base : Heap} {k : Nat} {x : Str} {n : Nat} {sp sp' : GSp} (F : FU P w K mg base k x n sp) (h : ∀ ds G R, sp' ds G R → sp ds G R) : FU P w K mg base k x n sp' :=
  let ⟨f, fd, ps, h1, h2⟩ := F.ex; ⟨f, fd, ps, FnOk.imp h1 fun vs H Q E ⟨ds, G, R, a, b, c, d⟩ => ⟨ds, G, R, a, b, h ds G R c, d⟩, h2⟩
section
variable {X : Cx} {pos p : Pos} {e : Expr} {es : List Expr} {te : GTE} {ts : List GTE} {k n : Nat} {sp : GSp} {x : Str}
theorem ge_callU (F : FU X.prog X.w X.K X.mg X.base k x n sp) (hr : Room k X.A) (ha : GA X (e :: es) ts) (hg : Gl X x := by rfl) (hdb : (x == ("__debug__" : Str)) = false := by decide) (he : starEach (e :: es) X.env = (false, eval e X.env) :: starEach es X.env := by rfl) (hpl : (backTo pos (starEach es X.env)).any (·.1) = false := by rfl) :
    GE X (.Call (.Name x p) (e :: es) [] pos) (gCall sp ts) :=
  let ⟨_, _, _, h1, h2, h3, h4, _⟩ := F.ex; ge_call h1 hr h2 h3 h4 ha hg hdb he hpl
theorem ge_callU0 (F : FU X.prog X.w X.K X.mg X.base k x n sp) (hr : Room k X.A) (hg : Gl X x := by rfl) (hdb : (x == ("__debug__" : Str)) = false := by decide) : GE X (.Call (.Name x p) [] [] pos) (gCall sp []) :=
  let ⟨_, _, _, h1, h2, h3, h4, _⟩ := F.ex; ge_call0 h1 hr h2 h3 h4 hg hdb
/-- xs[::-1] -/
@[simp] def gRevL (te : GTE) : GTE := fun ρ G Q => te ρ G fun x G1 => ∃ a ds, x = .ref a ∧ G1 a = some (.lst ds) ∧ ∀ p, G1 p = none → Q (.ref p) (gup G1 p (.lst ds.reverse))
theorem ge_revL {j : Nat} {p1 p2 p3 : Pos} (he : GE X e te) : GE X (.Subscript e (.Slice none none (some (.UnaryOp .USub (.Constant (.int 1) j p1) p2)) p3) pos) (gRevL te) :=
  ge_of (pe_revL he) fun σ H ρ G R Q rs g q k => ⟨ρ, G, _, rs, g, q, fun v H1 d G1 k1 g1 h1 ⟨a, ds, e, ha, q1⟩ => by
    subst e
    obtain ⟨vs, ev, dv⟩ := list_of g1 ha
    obtain ⟨z, _⟩ := g1 a _ ha
    exact ⟨a, vs, dat_ref h1, SqL.of ev, fun p hp => k _ _ _ _ (k1.trans (TK.new hp)) (g1.new hp (gok_lst (by rw [List.length_reverse]; exact z) (dv.reverse.mono (TK.new hp)) upd_same)) (.ref p) (q1 p (g1.ne hp))⟩⟩
end
/-- the def's rule, with its place among the globals -/
theorem fu_of {P : Program} {w : World} {K : PySem.W.Frag} {mg : Str → Option Value} {base : Heap} {x : Str} {st : Stmt} {f : Addr} {fd : FuncData} {N ps : List Str} {k : Nat} {sp : GSp} {t : GTS}
    (F : FunD K x x (defArgs st) (defBody st) (defScope st) [] [] f fd) (hm : mg x = some (.ref f)) (hb : Binds K fd ps []) (S : FnScope N ps (defScope st)) (len : ∀ ds G R, sp ds G R → ds.length = ps.length)
    (hw : ∀ (cdv : Value) (A : Around) (outer : List Env) (s : Shared) (H : Hp) (E : XK), Room k (A.deeper (envOfC x (defScope st) s.heap.objs.size f cdv)) → GSs (cxOf CX0 P w K mg base N x (defScope st) f cdv A outer s H E).nox (defBody st) t)
    (body : ∀ ds G R H, sp ds G R → GH P w K G H → ∃ G1, GH P w K G1 H ∧ t { nx := fun _ G' => R .non G', rt := R } (ds.map some ++ List.replicate (N.length - ds.length) none) G1) :
    FU P w K mg base (k + 1) x ps.length sp := ⟨f, fd, ps, fn_gO F S len ⟨t, hw, body⟩, hm, F.kp, hb, rfl⟩
/-! ### the law helpers' source -/
def srcO (c : Addr) (l m t : Int) : List (Str × D) := [("cells", .ref c), ("left", .int l), ("mixed", .int m), ("turn", .int t)]
def unsrc : Option GO → Option GO
  | some .src => none
  | o => o
theorem unsrc_some {o : Option GO} {u : GO} (h : unsrc o = some u) : o = some u ∧ u ≠ .src := by
  cases o with
  | none => cases h
  | some v => cases v <;> cases h <;> exact ⟨rfl, by intro z; cases z⟩
theorem unsrc_ne {o : Option GO} (h : o ≠ some .src) : unsrc o = o := by
  cases o with
  | none => rfl
  | some v =>
    cases v with
    | src => exact absurd rfl h
    | _ => rfl
/-- told as a source again -/
theorem src_close {G : Gp} {p c : Addr} {l m t : Int} {ns : List Int} (h1 : G p = some (.dks (srcO c l m t))) (h2 : G c = some (.lst (ns.map D.int))) (hn : ∀ n ∈ ns, 0 ≤ n) (hl : 0 ≤ l) : Fg (fun a => if a = p then some .src else if a = c then none else unsrc (G a)) G := by
  intro P w K H g
  have hpc : c ≠ p := by rintro rfl; rw [h1] at h2; cases h2
  have key : ∀ a o, (if a = p then some GO.src else if a = c then none else unsrc (G a)) = some o → (a = p ∧ o = .src) ∨ (a ≠ p ∧ a ≠ c ∧ G a = some o ∧ o ≠ .src) := fun a o e => by
    by_cases hap : a = p
    · rw [if_pos hap] at e; cases e; exact .inl ⟨hap, rfl⟩
    · rw [if_neg hap] at e
      by_cases hac : a = c
      · rw [if_pos hac] at e; cases e
      · rw [if_neg hac] at e
        exact .inr ⟨hap, hac, unsrc_some e⟩
  refine ⟨fun a o e => ?_, fun a b ha hb => ?_⟩
  · rcases key a o e with ⟨rfl, rfl⟩ | ⟨hap, hac, e2, _⟩
    · obtain ⟨_, kv, e1, pp⟩ := g a _ h1
      obtain ⟨zc, vs, e2, dv⟩ := g c _ h2
      cases datL_map (f := V.int) dat_int dv
      refine ⟨c, l, m, t, ns, by show (if c = a then some GO.src else if c = c then none else unsrc (G c)) = none; rw [if_neg hpc, if_pos rfl], ?_, by rw [e2], hn, hl, by simpa using zc⟩
      rw [e1]
      unfold srcO at pp
      unfold srcKvs
      cases pp with
      | @cons p1 q1 _ _ i1 t =>
      cases t with
      | @cons p2 q2 _ _ i2 t =>
      cases t with
      | @cons p3 q3 _ _ i3 t =>
      cases t with
      | @cons p4 q4 _ _ i4 t =>
      cases t
      obtain ⟨k1, v1⟩ := q1
      obtain ⟨k2, v2⟩ := q2
      obtain ⟨k3, v3⟩ := q3
      obtain ⟨k4, v4⟩ := q4
      obtain ⟨z1, d1⟩ := i1
      obtain ⟨z2, d2⟩ := i2
      obtain ⟨z3, d3⟩ := i3
      obtain ⟨z4, d4⟩ := i4
      simp only at z1 z2 z3 z4 d1 d2 d3 d4
      cases z1; cases z2; cases z3; cases z4
      cases dat_ref d1
      cases dat_int d2
      cases dat_int d3
      cases dat_int d4
      rfl
    · refine (g a o e2).stay TK.refl rfl fun c' xs hc hx => ⟨hx, ?_⟩
      show (if c' = p then some GO.src else if c' = c then none else unsrc (G c')) = none
      by_cases h3 : c' = p
      · subst h3; rw [h1] at hc; cases hc
      · rw [if_neg h3]
        split
        · rfl
        · rw [hc]; rfl
  · rcases key a _ ha with ⟨rfl, _⟩ | ⟨_, _, _, n⟩
    · rcases key b _ hb with ⟨rfl, _⟩ | ⟨_, _, _, n⟩
      · rfl
      · exact absurd rfl n
    · exact absurd rfl n
/-- opened -/
theorem src_open {P : Program} {w : World} {K : PySem.W.Frag} {G : Gp} {H : Hp} {p : Addr} (g : GH P w K G H) (h : G p = some .src) : ∃ (c : Addr) (l m t : Int) (ns : List Int), G c = none ∧ c ≠ p ∧ (∀ n ∈ ns, 0 ≤ n) ∧ 0 ≤ l ∧
    GH P w K (gup (gup G p (.dks (srcO c l m t))) c (.lst (ns.map D.int))) H := by
  obtain ⟨c, l, m, t, ns, hc, e1, e2, hn, hl, zc⟩ := g p _ h
  have hpc : c ≠ p := by rintro rfl; rw [h] at hc; cases hc
  have hz : (ns.map D.int).length ≤ sizeLine := by simpa using zc
  have key : ∀ a o, gup (gup G p (.dks (srcO c l m t))) c (.lst (ns.map D.int)) a = some o → (a = c ∧ o = .lst (ns.map D.int)) ∨ (a = p ∧ o = .dks (srcO c l m t)) ∨ (a ≠ p ∧ a ≠ c ∧ G a = some o) := fun a o e => by
    by_cases hac : a = c
    · subst hac; rw [gup_same] at e; cases e; exact .inl ⟨rfl, rfl⟩
    · rw [gup_ne hac] at e
      by_cases hap : a = p
      · subst hap; rw [gup_same] at e; cases e; exact .inr (.inl ⟨rfl, rfl⟩)
      · rw [gup_ne hap] at e; exact .inr (.inr ⟨hap, hac, e⟩)
  refine ⟨c, l, m, t, ns, hc, hpc, hn, hl, ⟨fun a o e => ?_, fun a b ha hb => ?_⟩⟩
  · rcases key a o e with ⟨rfl, rfl⟩ | ⟨rfl, rfl⟩ | ⟨hap, hac, e⟩
    · refine ⟨hz, _, e2, ?_⟩
      clear hn e2 hz key e zc
      induction ns with
      | nil => exact .nil
      | cons n ns ih => exact .cons (.int n) ih
    · exact ⟨by rw [sizeLine_eq]; show 4 ≤ _; omega, _, e1, .cons ⟨rfl, .ref c⟩ (.cons ⟨rfl, .int l⟩ (.cons ⟨rfl, .int m⟩ (.cons ⟨rfl, .int t⟩ .nil)))⟩
    · cases o with
      | src => exact absurd (g.one a p e h) hap
      | lst ds => exact g a _ e
      | dct ds => exact g a _ e
      | frd ds => exact g a _ e
      | dks ds => exact g a _ e
  · rcases key a _ ha with ⟨_, z⟩ | ⟨_, z⟩ | ⟨h1, h2, e3⟩
    · cases z
    · cases z
    · exact absurd (g.one a p e3 h) h1
end G
set_option Elab.async false
set_option linter.all false
set_option maxRecDepth 100000
set_option maxHeartbeats 4000000
namespace G
open PySem PySem.Spec PyProof.Rows L2
section
variable {X : Cx} {pos : Pos}
/-- for, over any source -/
def ForI (Z : GEnds) (g : GTG) (tb : GTS) (ρ : Ro) : List D → (Gp → Prop) → Gp → Prop := fun ds keep G0 => ∃ W : Nat → Ro → Gp → Prop, W 0 ρ G0 ∧ (∀ i ρ G, W i ρ G → keep G) ∧
  (∀ i d ρ G, ds[i]? = some d → W i ρ G → g d ρ G fun ρ2 G2 => tb { Z with nx := W (i + 1), ct := W (i + 1), bk := Z.nx } ρ2 G2) ∧ ∀ ρ G, W ds.length ρ G → Z.nx ρ G
@[simp] def gFor (ti : GIR) (g : GTG) (tb : GTS) : GTS := fun Z ρ G => ti ρ G (ForI Z g tb ρ)
theorem for_of {Z : GEnds} {g : GTG} {tb : GTS} {ρ : Ro} {ds : List D} {keep : Gp → Prop} {G0 : Gp} (W : Nat → Ro → Gp → Prop) (h0 : W 0 ρ G0) (hk : ∀ i ρ G, W i ρ G → keep G)
    (turn : ∀ (Y : GEnds) i d ρ G, ds[i]? = some d → W i ρ G → (∀ ρ' G', W (i + 1) ρ' G' → Y.nx ρ' G') → (∀ ρ' G', W (i + 1) ρ' G' → Y.ct ρ' G') → Y.bk = Z.nx → Y.rt = Z.rt → g d ρ G fun ρ2 G2 => tb Y ρ2 G2)
    (fin : ∀ ρ G, W ds.length ρ G → Z.nx ρ G) : ForI Z g tb ρ ds keep G0 :=
  ⟨W, h0, hk, fun i d ρ G e w => turn _ i d ρ G e w (fun _ _ h => h) (fun _ _ h => h) rfl rfl, fin⟩
theorem while_of {Z : GEnds} {c : GTT} {tb : GTS} {ρ : Ro} {G0 : Gp} (W : Nat → Ro → Gp → Prop) (m : Nat) (h0 : W m ρ G0)
    (turn : ∀ (Y : GEnds) m ρ G, W m ρ G → (∀ m' ρ' G', m' < m → W m' ρ' G' → Y.nx ρ' G') → (∀ m' ρ' G', m' < m → W m' ρ' G' → Y.ct ρ' G') → Y.bk = Z.nx → Y.rt = Z.rt → c ρ G fun b G1 => if b = true then tb Y ρ G1 else Z.nx ρ G1) : gWhile c tb Z ρ G0 :=
  ⟨W, ⟨m, h0⟩, fun m ρ G w => turn _ m ρ G w (fun m' ρ' G' h1 h2 => ⟨m', h1, h2⟩) (fun m' ρ' G' h1 h2 => ⟨m', h1, h2⟩) rfl rfl⟩
theorem truth_l {te : GTE} {ρ : Ro} {G : Gp} {Q : Bool → Gp → Prop} (h : te ρ G fun d G' => ∃ r ds, d = .ref r ∧ G' r = some (.lst ds) ∧ Q (!ds.isEmpty) G') (hm : ∀ (A B : GK), (∀ d G, A d G → B d G) → te ρ G A → te ρ G B) : gTruth te ρ G Q :=
  hm _ _ (fun d G' ⟨r, ds, e, h1, q⟩ => ⟨_, by subst e; exact ⟨ds, h1, rfl⟩, q⟩) h
theorem gs_for {tg iter : Expr} {body : List Stmt} {ti : GIR} {g : GTG} {tb : GTS} (hi : GI X tg iter ti) (hg : GG X tg g) (hb : GSs X body tb) (hc : X.calm = true := by rfl) (hp : PassesOwn (model X.prog X.w) X.A X.env X.xe := by exact PassesOwn.never)
    (hs : ∀ x, foldedSetIterable iter X.env x = pure x := by intro _; rfl) : GS X (.For tg iter body [] pos) (gFor ti g tb) :=
  PS.weak (ps_for hp hc hi hg hb hs) fun E σ H ⟨ρ, G, Z, rs, g0, q, l⟩ => by
    refine ⟨ρ, G, _, rs, g0, q, fun ds keep H1 G1 J k1 g1 q1 ok => ?_⟩
    obtain ⟨W, w0, hw, turn, fin⟩ := q1
    refine ⟨fun i m σ' H' => ∃ ρ' G', m = ds.length - i ∧ i ≤ ds.length ∧ TK H1 H' ∧ RS X.K H' σ' ρ' ∧ GH X.prog X.w X.K G' H' ∧ W i ρ' G', ⟨ds.length, ρ, G1, by simp, Nat.zero_le _, TK.refl, rs.mono k1, g1, w0⟩, ?_⟩
    rintro i m σ2 H2 ⟨ρ2, G2, rfl, hi2, k2, rs2, g2, w2⟩
    obtain ⟨o1, o2⟩ := ok i H2 G2 hi2 k2 g2 (hw i ρ2 G2 w2)
    by_cases hlt : i < ds.length
    · obtain ⟨go, yld⟩ := o2 hlt
      refine .inr ⟨go, fun σ' H' => ∃ ρ' G', TK H1 H' ∧ RS X.K H' σ' ρ' ∧ GH X.prog X.w X.K G' H' ∧ W (i + 1) ρ' G',
        fun σ' H' ⟨ρ', G', r⟩ => ⟨ds.length - (i + 1), by omega, ρ', G', rfl, hlt, r⟩, fun x H' y => ?_⟩
      obtain ⟨d, ed, k3, g3, hd⟩ := yld x H' y
      refine ⟨ρ2, G2, _, d, rs2.mono k3, g3, hd, turn i d ρ2 G2 ed w2, fun σ3 H3 ρ3 G3 k4 rs3 g3 q3 => ⟨ρ3, G3, _, rs3, g3, q3, ?_⟩⟩
      have k5 := k2.trans (k3.trans k4)
      exact ⟨fun σ' H' ρ' G' k rs' g' w' => ⟨ρ', G', k5.trans k, rs', g', w'⟩, fun v H' d G' k => l.rt v H' d G' (k1.trans (k5.trans k)),
        fun σ' H' ρ' G' k => l.nx σ' H' ρ' G' (k1.trans (k5.trans k)), fun σ' H' ρ' G' k rs' g' w' => ⟨ρ', G', k5.trans k, rs', g', w'⟩⟩
    · have e : i = ds.length := by omega
      subst e
      exact .inl ⟨o1 (Nat.le_refl _), l.nx σ2 H2 ρ2 G2 (k1.trans k2) rs2 g2 (fin ρ2 G2 w2)⟩
@[simp] def rNegG : D → Gp → GK → Prop := fun d G Q => ∃ i, d = .int i ∧ Q (.int (-i)) G
theorem gnegG : GUn X (unaryOp .USub) rNegG := gneg
end
end G
set_option Elab.async false
set_option linter.all false
set_option maxRecDepth 100000
set_option maxHeartbeats 4000000
namespace G
open PySem PySem.Spec PyProof.Rows L2
section
variable {X : Cx} {pos : Pos}
/-! ### texts -/
@[simp] def rCatS : GR2 := fun d e G Q => ∃ x y, d = .str x ∧ e = .str y ∧ x.length + y.length ≤ sizeLine ∧ Q (.str (x ++ y)) G
theorem gcatS : GOp X (binaryOp .Add) rCatS :=
  OpR.weak op_add_str fun x y H Q ⟨G, R, d, e, gh, hx, hy, ⟨a, b, ed, ee, z, q⟩, k⟩ => by
    subst ed ee
    exact ⟨a, b, dat_str hx, dat_str hy, z, k _ H _ G TK.refl gh (.str _) q⟩
/-- a sign in a text -/
@[simp] def rInX (neg : Bool) : GR2 := fun d e G Q => ∃ (c : Nat) (z : Str), d = .str ⟨#[c]⟩ ∧ e = .str z ∧ Q (.bl (if neg then !decide (c ∈ z.cps.toList) else decide (c ∈ z.cps.toList))) G
theorem op_inX : GOp X (compareOp .In) (rInX false) :=
  OpR.weak op_in_sign fun x y H Q ⟨G, R, d, e, gh, hx, hy, ⟨c, z, ed, ee, q⟩, k⟩ => by
    subst ed ee
    exact ⟨c, z, dat_str hx, dat_str hy, k _ H _ G TK.refl gh (.bl _) q⟩
theorem op_notinX : GOp X (compareOp .NotIn) (rInX true) :=
  OpR.weak op_notIn_sign fun x y H Q ⟨G, R, d, e, gh, hx, hy, ⟨c, z, ed, ee, q⟩, k⟩ => by
    subst ed ee
    exact ⟨c, z, dat_str hx, dat_str hy, k _ H _ G TK.refl gh (.bl _) q⟩
@[simp] def rIxX : GR2 := fun d e G Q => ∃ z i c, d = .str z ∧ e = .int i ∧ z.length ≤ sizeLine ∧ atI z.cps.toList i = some c ∧ Q (.str ⟨#[c]⟩) G
theorem ixX : GIx X rIxX :=
  IxR.weak ix_str fun x y H Q ⟨G, R, d, e, gh, hx, hy, ⟨z, i, c, ed, ee, hz, hc, q⟩, k⟩ => by
    subst ed ee
    exact ⟨z, i, c, dat_str hx, dat_int hy, hz, hc, k _ H _ G TK.refl gh (.str _) q⟩
@[simp] def gSliceX (te : GTE) (tl th : GTO) : GTE := fun ρ G Q => te ρ G fun x G1 => tl ρ G1 fun l G2 => th ρ G2 fun u G3 => ∃ z, x = .str z ∧ z.length ≤ sizeLine ∧ Q (.str (cutS z l u)) G3
theorem ge_sliceX {e : Expr} {lo hi : Option Expr} {te : GTE} {tl th : GTO} {p2 : Pos} (he : GE X e te) (hl : GPO X lo tl) (hu : GPO X hi th) : GE X (.Subscript e (.Slice lo hi none p2) pos) (gSliceX te tl th) :=
  ge_of (pe_slice sl_str he hl hu) fun σ H ρ G R Q rs g q k => by
    refine ⟨ρ, G, _, rs, g, q, fun v H1 d G1 k1 g1 h1 q1 => ⟨ρ, G1, _, rs.mono k1, g1, q1, fun l H2 G2 k2 g2 q2 => ⟨ρ, G2, _, (rs.mono k1).mono k2, g2, q2, fun u H3 G3 k3 g3 ⟨z, e, hz, q3⟩ => ?_⟩⟩⟩
    subst e
    exact ⟨z, dat_str h1, hz, k _ _ _ _ ((k1.trans k2).trans k3) g3 (.str _) q3⟩
/-- sep.join(a list of texts) -/
@[simp] def gJoin (to te : GTE) : GTE := fun ρ G Q => to ρ G fun x G1 => ∃ a, x = .str a ∧ te ρ G1 fun y G2 => ∃ (p : Addr) (ys : List Str), y = .ref p ∧ G2 p = some (.lst (ys.map D.str)) ∧ (ys.map (·.length)).sum + ys.length * a.length ≤ 16777216 ∧ Q (.str (Txt.join a ys)) G2
theorem ge_join {o e : Expr} {to te : GTE} {apos : Pos} (ho : GE X o to) (he : GE X e te) (hs : starEach [e] X.env = [(false, eval e X.env)] := by rfl) (hbase : attributeBase o "join" X.env (eval o X.env) = eval o X.env := by rfl) (hline : (apos.endLine == pos.line) = true := by rfl) :
    GE X (.Call (.Attribute o "join" apos) [e] [] pos) (gJoin to te) :=
  ge_of (pe_join ho he hs hbase hline) fun σ H ρ G R Q rs g q k => by
    refine ⟨ρ, G, _, rs, g, q, fun v H1 d G1 k1 g1 h1 ⟨a, ed, q1⟩ => ⟨⟨a, by subst ed; exact dat_str h1⟩, ρ, G1, _, rs.mono k1, g1, q1, fun v2 H2 d2 G2 k2 g2 h2 ⟨p, ys, e2, hp, hz, q2⟩ => ?_⟩⟩
    subst ed e2
    obtain ⟨vs, ev, dv⟩ := list_of g2 hp
    cases datL_map (f := V.str) dat_str dv
    refine ⟨a, p, ys, dat_str h1, by rw [dat_ref h2], .inl (SqL.of ev), hz, k _ _ _ _ (k1.trans k2) g2 (.str _) q2⟩
/-! ### more built-ins -/
@[simp] def rSumG : List D → Gp → GK → Prop := fun ds G Q => ∃ (a : Addr) (ns : List Int), ds = [.ref a] ∧ G a = some (.lst (ns.map D.int)) ∧ Q (.int ns.sum) G
theorem cSum (hc : X.calm = true) : GCall X (.builtin "sum") rSumG :=
  CallR.weak (cr_sum hc) fun us H Q ⟨G, R, ds, g, h, ⟨a, bs, e, ha, q⟩, k⟩ => by
    subst e
    obtain ⟨v, rfl, hv⟩ := datL_one h
    cases dat_ref hv
    obtain ⟨vs, ev, dv⟩ := list_of g ha
    cases datL_map (f := V.int) dat_int dv
    exact ⟨a, bs, rfl, SqL.of ev, k _ H _ G TK.refl g (.int _) q⟩
@[simp] def rReprB : List D → Gp → GK → Prop := fun ds G Q => ∃ b, ds = [.bl b] ∧ Q (.str (if b then "True" else "False")) G
theorem cReprB : GCall X (.builtin "repr") rReprB := by
  intro pins s σ H us ws Q I r h
  obtain ⟨G, R, ds, g, hd, ⟨b, rfl, q⟩, k⟩ := h
  obtain ⟨v, rfl, hv⟩ := datL_one hd
  cases dat_bl hv
  obtain ⟨u, rfl, ru⟩ := vals1 r
  cases ru
  exact PySem.P.repr_of_bool ⟨.str _, H, I.tok _, ⟨_, rfl⟩, k _ H _ G TK.refl g (.str _) q⟩
/-- xs.extend(ys) -/
@[simp] def rExt : D → List D → Gp → GK → Prop := fun d ds G Q => ∃ a b xs ys, d = .ref a ∧ ds = [.ref b] ∧ G a = some (.lst xs) ∧ G b = some (.lst ys) ∧ xs.length + ys.length ≤ sizeLine ∧ Q .non (gup G a (.lst (xs ++ ys)))
theorem mext : GMt X "list.extend" rExt :=
  MtR.weak (show MtR X "list.extend" rExtend from mt_extend) fun x us H Q ⟨G, R, d, ds, gh, hx, hs, ⟨a, b, xs, ys, ed, es, ha, hb, z, q⟩, k⟩ => by
    subst ed es
    obtain ⟨vs, ev, dv⟩ := list_of gh ha
    obtain ⟨ws, ew, dw⟩ := list_of gh hb
    obtain ⟨v, rfl, hv⟩ := datL_one hs
    cases dat_ref hv
    exact ⟨a, b, vs, ws, dat_ref hx, rfl, ev, ew, by rw [dv.length, dw.length]; exact z, k _ _ _ _ (gh.tkset ha _) (gh.set ha (gok_lst (by rw [List.length_append]; exact z) ((dv.append dw).mono (gh.tkset ha _)) upd_same)) .non q⟩
/-! ### isinstance(e, T) -/
def isiD (T : String) : D → Option Bool
  | .int _ => if T = "int" then some true else if T = "bool" ∨ T = "tuple" then some false else none
  | .bl _ => if T = "int" ∨ T = "bool" then some true else if T = "tuple" then some false else none
  | .tup _ => if T = "tuple" then some true else if T = "int" ∨ T = "bool" then some false else none
  | .str _ => if T = "str" then some true else if T = "int" ∨ T = "bool" ∨ T = "tuple" then some false else none
  | _ => none
@[simp] def gIsi (T : String) (te : GTE) : GTE := fun ρ G Q => te ρ G fun d G1 => ∃ b, isiD T d = some b ∧ Q (.bl b) G1
theorem sqT_ty {K : PySem.W.Frag} {H : Hp} {a : Addr} {vs : List V} (h : SqT K H a vs) : TyX K H (.ref a) (.type "tuple") := by
  rcases h with (h | ⟨o, h⟩) | ⟨o, its, n, hk, hc, _⟩
  · exact .base (.tup h)
  · exact .fTuple h
  · exact .kTuple hk hc
theorem isi_at {K : PySem.W.Frag} {H : Hp} {v : V} {d : D} {T : String} {b : Bool} (h : Dat K H v d) (e : isiD T d = some b) : ∃ t, TyX K H v t ∧ PySem.W.kitOne K t (.type T) = some b := by
  cases d with
  | int i =>
    cases dat_int h
    simp only [isiD] at e
    split at e
    · rename_i z; subst z; cases e; exact ⟨_, .base (.int i), kit_ty (by decide +kernel)⟩
    · split at e
      · rename_i z; cases e; rcases z with rfl | rfl <;> exact ⟨_, .base (.int i), kit_ty (by decide +kernel)⟩
      · cases e
  | bl i =>
    cases dat_bl h
    simp only [isiD] at e
    split at e
    · rename_i z; cases e; rcases z with rfl | rfl <;> exact ⟨_, .base (.bl i), kit_ty (by decide +kernel)⟩
    · split at e
      · rename_i z; subst z; cases e; exact ⟨_, .base (.bl i), kit_ty (by decide +kernel)⟩
      · cases e
  | tup xs =>
    obtain ⟨a, vs, rfl, hs, _⟩ := dat_tup h
    simp only [isiD] at e
    split at e
    · rename_i z; subst z; cases e; exact ⟨_, sqT_ty hs, kit_ty (by decide +kernel)⟩
    · split at e
      · rename_i z; cases e; rcases z with rfl | rfl <;> exact ⟨_, sqT_ty hs, kit_ty (by decide +kernel)⟩
      · cases e
  | str x =>
    cases dat_str h
    simp only [isiD] at e
    split at e
    · rename_i z; subst z; cases e; exact ⟨_, .base (.str x), kit_ty (by decide +kernel)⟩
    · split at e
      · rename_i z; cases e; rcases z with rfl | rfl | rfl <;> exact ⟨_, .base (.str x), kit_ty (by decide +kernel)⟩
      · cases e
  | non => cases e
  | ref a => cases e
  | frl a => cases e
theorem ge_isi {e : Expr} {te : GTE} {T : String} {x : Str} {p p2 : Pos} (he : GE X e te) (hm : X.mg "isinstance" = none) (hm2 : X.mg x = none) (hv2 : bootBuiltins x = some (.type T)) (hg : Gl X "isinstance" := by rfl) (hg2 : Gl X x := by rfl) (hn : x ≠ "__name__" := by decide) (hdb : (x == ("__debug__" : Str)) = false := by decide)
    (hs : starEach [e, .Name x p2] X.env = (false, eval e X.env) :: starEach [.Name x p2] X.env := by rfl) (hpl : (backTo pos (starEach [.Name x p2] X.env)).any (·.1) = false := by rfl) :
    GE X (.Call (.Name "isinstance" p) [e, .Name x p2] [] pos) (gIsi T te) :=
  PE.weak (pe_callB call_isi hg hm boot_isinstance (pa_cons he (pa_cons (pe_bltn (v := .ty T) hg2 hm2 hv2 rfl hn hdb) pa_nil) hs) (by decide) (by decide) hs hpl) fun σ H Q ⟨ρ, G, R, rs, g, q, k⟩ => by
    refine ⟨ρ, G, _, rs, g, q, fun v H1 d G1 k1 g1 h1 ⟨b, eb, q1⟩ => ?_⟩
    obtain ⟨t, h3, h4⟩ := isi_at h1 eb
    exact ⟨v, .ty T, t, .type T, b, rfl, .ty T, h3, h4, k _ H1 _ G1 k1 g1 (.bl b) q1⟩
end
end G
set_option Elab.async false
set_option linter.all false
set_option maxRecDepth 100000
set_option maxHeartbeats 4000000
namespace G
open PySem PySem.Spec PyProof.Rows L2

/-! ### a dict locked while an expression runs -/
section
variable {P : Program} {w : World} {K : PySem.W.Frag} {H H' : Hp} {Γ : Gp} {a : Addr} {kvs : List (D × D)}
theorem gh_lock (g : GH P w K Γ H) (h : Γ a = some (.dct kvs)) : ∃ u, H a = some u ∧ Mut (some u) ∧ ∀ od, TK H (upd H a (.frz od u)) ∧ GH P w K (gup Γ a (.frd kvs)) (upd H a (.frz od u)) := by
  obtain ⟨z, xs, e, p⟩ := g a _ h
  refine ⟨_, e, trivial, fun od => ?_⟩
  have tk := g.tkset h (.frz od (dO P w a xs))
  exact ⟨tk, g.set h ⟨z, od, xs, upd_same, Paired.mapP p fun _ _ q => q.mono tk⟩⟩
theorem gh_unlock (g : GH P w K Γ H) (h : Γ a = some (.frd kvs)) {o : Obj} {u : HO} (e : H a = some (.frz o u)) : TKw H (upd H a u) ∧ GH P w K (gup Γ a (.dct kvs)) (upd H a u) := by
  obtain ⟨z, o', xs, e', p⟩ := g a _ h
  rw [e] at e'
  cases e'
  have k : TKw H (upd H a (dO P w a xs)) := by
    refine ⟨fun b vs q => ?_, fun b o vs q => ?_, fun b o vs q => ?_⟩
    · rw [upd_ne (by rintro rfl; rw [e] at q; cases q)]; exact q
    · rw [upd_ne (by rintro rfl; rw [e] at q; cases q)]; exact q
    · rw [upd_ne (by rintro rfl; rw [e] at q; cases q)]; exact q
  refine ⟨k, fun b o2 q => ?_, one_up g (by intro z; cases z)⟩
  by_cases hb : b = a
  · subst hb
    rw [gup_same] at q; cases q
    exact ⟨z, xs, upd_same, Paired.mapP p fun _ _ q => q.monoW k⟩
  · rw [gup_ne hb] at q
    refine (g b o2 q).stayW k (upd_ne hb) fun c xs hc hx => ?_
    have ne : c ≠ a := by rintro rfl; rw [h] at hc; cases hc
    exact ⟨by rw [upd_ne ne]; exact hx, by rw [gup_ne ne]; exact hc⟩
end
section
variable {X : Cx} {pos : Pos}
def gLockE (t : GTE) : GTE := fun ρ G Q => ∃ a kvs, G a = some (.dct kvs) ∧ t ρ (gup G a (.frd kvs)) fun d G' => G' a = some (.frd kvs) ∧ Q d (gup G' a (.dct kvs))
theorem ge_lock {e : Expr} {t : GTE} (h : GE X e t) : GE X e (gLockE t) :=
  PE.weak (pe_lock h) fun σ H Q ⟨ρ, G, R, rs, g, ⟨a, kvs, ha, q⟩, k⟩ => by
    obtain ⟨u, hu, mu, lk⟩ := gh_lock g ha
    refine ⟨a, u, hu, mu, fun od => ?_⟩
    obtain ⟨tk, g1⟩ := lk od
    refine ⟨ρ, _, _, rs.mono tk, g1, q, fun v H' d G' k1 g' h' ⟨ga, r⟩ => ?_⟩
    have e1 : H' a = some (.frz od u) := k1.frz a od u upd_same
    obtain ⟨kw, g2⟩ := gh_unlock g' ga e1
    refine ⟨e1, k v _ d _ ⟨fun b vs e => ?_, fun b o2 w2 e => ?_⟩ g2 (h'.monoW kw) r⟩
    · have hb : b ≠ a := by rintro rfl; rw [hu] at e; cases e; exact mu
      rw [upd_ne hb]
      exact k1.tup b vs (by rw [upd_ne hb]; exact e)
    · have hb : b ≠ a := by rintro rfl; rw [hu] at e; cases e; exact mu
      rw [upd_ne hb]
      exact k1.frz b o2 w2 (by rw [upd_ne hb]; exact e)
theorem paired_get {α β : Type} {F : α → β → Prop} {as : List α} {bs : List β} (p : Paired F as bs) : ∀ {i : Nat} {y : β}, bs[i]? = some y → ∃ x, as[i]? = some x ∧ F x y := by
  induction p with
  | nil => intro i y e; simp at e
  | @cons a b as bs h t ih =>
    intro i y e
    cases i with
    | zero => simp at e; subst e; exact ⟨a, rfl, h⟩
    | succ i =>
      obtain ⟨x, h1, h2⟩ := ih (i := i) (by simpa using e)
      exact ⟨x, by simpa using h1, h2⟩
/-! the keys of a locked dict, one behind another -/
def Itfd (P : Program) (w : World) (a : Addr) (o : Obj) (xs : List (NestedKey × Addr × Value)) : It :=
  ⟨fun i H => H a = some (.frz o (dO P w a xs)) ∧ i < xs.length, fun i H x H' => H' = H ∧ ∃ q, xs[i]? = some q ∧ x = .ref q.2.1, fun i H => H a = some (.frz o (dO P w a xs)) ∧ xs.length ≤ i⟩
theorem frd_at {pins : List (Addr × Obj)} {σ : L2.St} {H : Hp} {s : Shared} {a : Addr} {o : Obj} {xs : List (NestedKey × Addr × Value)} (I : Inv X pins σ H s) (e : H a = some (.frz o (dO X.prog X.w a xs))) :
    s.heap.get? a = some o ∧ (a == sysModules) = false ∧ o.ExactDict ∧ ∃ es ep, o.data = .dict es ep ∧ es.toList = xs.map (entryOfKey (nestedKind X.prog X.w)) := by
  obtain ⟨e1, ⟨sy, o', es, ep, e2, e3, e4, e5, _⟩, _⟩ := I.hok a _ e
  rw [e1] at e2
  cases e2
  exact ⟨e1, sy, e3, es, ep, e4, e5⟩
theorem turn_frd {P : Program} {w : World} {K : PySem.W.Frag} {tg : Expr} (a it : Addr) (o : Obj) (es : Array DictEntry) (ep : Nat) (xs : List (NestedKey × Addr × Value)) (hod : o.data = .dict es ep) :
    Turn P w K tg (Itfd P w a o xs) [it] it (fun i h => h.IsKeyIter it a i es.size ep) where
  mem := by simp
  obj := fun i h st b hb => by
    have e : b = it := by simpa using hb
    subst e
    obtain ⟨oi, e, c, dd⟩ := st
    exact ⟨oi, e, fun v z => by rw [dd] at z; cases z⟩
  keep := fun i h h' st k => st.at fun oi e => k it (by simp) oi e
  item := by
    intro X hP hw hK hc i pins s σ H E I hf st hg
    subst hP hw hK
    obtain ⟨hd, hi⟩ := hg
    obtain ⟨f0, f1, f2, f3, f4, f5⟩ := hf it (by simp)
    obtain ⟨hgd, sy, hx, es', ep', hdt, hes⟩ := frd_at I hd
    rw [hod] at hdt
    cases hdt
    obtain ⟨q, hq⟩ : ∃ q, xs[i]? = some q := ⟨xs[i], List.getElem?_eq_getElem hi⟩
    have hen : es[i]? = some (entryOfKey (nestedKind X.prog X.w) q) := by
      rw [← Array.getElem?_toList, hes, List.getElem?_map, hq]
      rfl
    refine next_key_item st hgd hod rfl hen fun h' st' sb => ?_
    have I1 : Inv X pins σ H { s with heap := h' } := I.turned (t' := s.toks) (fun b ob hb e => (sb.2 b hb).trans e) f0 f1 f3 f4 f5
    obtain ⟨oi, e, c, dd⟩ := id st'
    exact ⟨_, rfl, go_of (s := { s with heap := h' }) e c dd (by decide) ⟨.ref q.2.1, H, I1, rfl, ⟨rfl, q, hq, rfl⟩, st', fun b hb => (hf b hb).1⟩⟩
  done := by
    intro X hP hw hK hc i pins s σ H E I hf st hg
    subst hP hw hK
    obtain ⟨hd, hi⟩ := hg
    obtain ⟨f0, f1, f2, f3, f4, f5⟩ := hf it (by simp)
    obtain ⟨hgd, sy, hx, es', ep', hdt, hes⟩ := frd_at I hd
    rw [hod] at hdt
    cases hdt
    have hsz : es.size = xs.length := by rw [← Array.length_toList, hes, List.length_map]
    exact next_key_end (I.ok.hd hc) st hgd hod rfl (by omega) fun h' eb => ⟨rfl, I.turned (t' := s.toks) (fun b ob hb e => eb b ob hb e) f0 f1 f3 f4 f5⟩
  self := fun A i s Q E st h => by
    refine wpAny_pyIter_slot st.typeIs PySem.F.slot_dict_keyiterator_iter (wpAny_call_entry PySem.F.slot_dict_keyiterator_iter st.typeIs PySem.F.entry_dict_keyiterator_iter ?_ (PySem.F.args_dict_keyiterator_iter_1 _))
    show wpAny _ _ (ret (.ref it)) _ _ s
    exact wpAny_pure ⟨_, rfl, "dict_keyiterator", _, st.typeIs, PySem.F.slot_dict_keyiterator_next.lookup, h⟩
@[simp] def gItK (te : GTE) : GIR := fun ρ G Q => te ρ G fun x G1 => ∃ a kvs, x = .ref a ∧ G1 a = some (.frd kvs) ∧ Q (kvs.map (·.1)) (fun _ => True) G1
theorem gi_frd {tg e : Expr} {te : GTE} (h : GE X e te) : GI X tg e (gItK te) := by
  refine ⟨fun pins s σ H Kf I ⟨ρ, G, R, rs, g, q, k⟩ => ?_⟩
  refine thn (h.run pins s σ H (fun v H1 => ∃ d G1, TK H H1 ∧ GH X.prog X.w X.K G1 H1 ∧ Dat X.K H1 v d ∧ ∃ a kvs, d = .ref a ∧ G1 a = some (.frd kvs) ∧ R (kvs.map (·.1)) (fun _ => True) G1) I ⟨ρ, G, _, rs, g, q, fun v H1 d G1 k1 g1 h1 q1 => ⟨d, G1, k1, g1, h1, q1⟩⟩) fun u s1 ⟨v, H1, I1, r1, d, G1, k1, g1, h1, a, kvs, ed, ha, q1⟩ => ?_
  subst ed
  cases dat_ref h1
  obtain rfl : u = Value.ref a := r1
  obtain ⟨z, o, xs, e, p⟩ := g1 a _ ha
  obtain ⟨hgd, sy, hx, es, ep, hdt, hes⟩ := frd_at I1 e
  have hsz : es.size = xs.length := by rw [← Array.length_toList, hes, List.length_map]
  have hl : xs.length = kvs.length := p.length.symm
  refine iter_keys sy hgd hx hdt (pi_one (tk := s1.toks) I1 _ (turn_frd a _ o es ep xs hdt) ⟨_, Heap.get?_push_size _ rfl, rfl, rfl⟩ ?_)
  refine k _ _ H1 G1 _ k1 g1 q1 fun i H' G' _ k2 g2 _ => ?_
  have e2 := k2.frz a o _ e
  refine ⟨fun hi => ⟨e2, by rw [List.length_map] at hi; omega⟩, fun hi => ⟨⟨e2, by rw [List.length_map] at hi; omega⟩, fun x H'' ⟨eH, q, hq, ex⟩ => ?_⟩⟩
  subst eH ex
  obtain ⟨kv, hkv, ok⟩ := paired_get p hq
  exact ⟨kv.1, by rw [List.getElem?_map, hkv]; rfl, TK.refl, g2, ok.2.2.1.mono k2⟩
end
end G
set_option Elab.async false
set_option linter.all false
set_option maxRecDepth 100000
set_option maxHeartbeats 4000000
namespace G
open PySem PySem.Spec PyProof.Rows L2

/-! ### enumerate(a tuple), enumerate(a list) -/
/-- enumerate's maker over anything that begins -/
theorem enum_made {v : Value} {o : Obj} {Hh : Heap → Prop} (B : Begins v o Hh) :
    Meets (Builtin.«enumerate.__new__» ⟨[.type "enumerate", v], []⟩) (fun _ R s => Hh s.heap ∧
      R (.ok (.ret (.ref (s.heap.push o).objs.size))) { s with heap := (s.heap.push o).push { cls := .type "enumerate", data := .fields #[.none, .bool false, .ref s.heap.objs.size, rawInt 0, .none, .none] } }) :=
  .of_wp fun prog w A R s h => by
    obtain ⟨hp, gg, dd, tk, os⟩ := s
    obtain ⟨h1, h⟩ := h
    have hsub := sub_enumerate
    have nx : ∀ {A' : Around} {E : Value → Shared → Prop} {Q : Value → Shared → Prop}, Q (.ref hp.objs.size) ⟨hp.push o, gg, dd, tk, os⟩ → wpAny (model prog w) A' (pyIter v) Q E ⟨hp, gg, dd, tk, os⟩ := fun z => B.iter prog w _ _ ⟨hp, gg, dd, tk, os⟩ _ h1 z
    wp_walk using nx
    refine wpAny_stack_any fun _ => wpAny_pure ?_
    split
    · rename_i cc _ _ _ _ _
      cases (cc == Value.type "enumerate") <;> (wp_walk using nx; exact ⟨_, rfl, h⟩)
    · wp_walk using nx
      exact ⟨_, rfl, h⟩
section
variable {prog : Program} {w : World} {A : Around} {E : Value → Shared → Prop} {s : Shared}
theorem enum_call {v : Value} {o : Obj} {Hh : Heap → Prop} {Q : Value → Shared → Prop} (B : Begins v o Hh) (h1 : Hh s.heap)
    (h : ∀ h', IsEnum h' (s.heap.objs.size + 1) s.heap.objs.size 0 .none → h'.get? s.heap.objs.size = some o → (∀ b o, s.heap.get? b = some o → h'.get? b = some o) → Q (.ref (s.heap.objs.size + 1)) { s with heap := h' }) :
    wpAny (model prog w) A (call (.type "enumerate") [v]) Q E s := by
  refine callType_new F.called_enumerate (by decide) (F.typeCall_enumerate_1 _) (F.newCall_enumerate_1 _) (fun ob => F.args_object_init_2 ob _) F.entry_enumerate_new (enum_made B) ⟨h1, ?_⟩
  have sz : (s.heap.push o).objs.size = s.heap.objs.size + 1 := Heap.size_push ..
  show _ ∧ _
  rw [sz]
  have it : IsEnum ((s.heap.push o).push { cls := .type "enumerate", data := .fields #[.none, .bool false, .ref s.heap.objs.size, rawInt 0, .none, .none] }) (s.heap.objs.size + 1) s.heap.objs.size 0 .none := by
    have z := Heap.get?_push_size (s.heap.push o) (o := { cls := .type "enumerate", data := .fields #[.none, .bool false, .ref s.heap.objs.size, rawInt 0, .none, .none] }) rfl
    rwa [sz] at z
  exact ⟨⟨_, it, rfl⟩, h _ it (Heap.get?_push_of_some _ (Heap.get?_push_size _ B.free)) fun b ob x => Heap.get?_push_of_some _ (Heap.get?_push_of_some _ x)⟩
end
/-- the tuple at a, each item in a new pair -/
def IteT (K : PySem.W.Frag) (a : Addr) : It :=
  ⟨fun i H => ∃ (xs : List V) (x : V), SqT K H a xs ∧ xs[i]? = some x, fun i H v H' => ∃ T x, v = .ref T ∧ H T = none ∧ H' = upd H T (.tup [.int (i : Nat), x]) ∧ ∀ xs, SqT K H a xs → xs[i]? = some x, fun i H => ∃ xs : List V, SqT K H a xs ∧ xs.length = i⟩
theorem turn_enumT {P : Program} {w : World} {K : PySem.W.Frag} {elts : List Expr} {kk : Nat} {tpos : Pos} (a e it : Addr) :
    Turn P w K (.Tuple elts kk tpos) (IteT K a) [e, it] e (fun i h => (∃ old, IsEnum h e it ((i : Nat) : Int) old) ∧ h.IsTupleIter it a i ∧ e ≠ it ∧ a ≠ it ∧ a ≠ e) where
  mem := List.mem_cons_self
  obj := fun i h ⟨⟨old, he⟩, ⟨o, ho, hc, hd⟩, _⟩ b hb => by
    simp only [List.mem_cons, List.not_mem_nil, or_false] at hb
    rcases hb with rfl | rfl
    · exact ⟨_, he, fun v q => nomatch q⟩
    · exact ⟨o, ho, fun v q => by rw [hd] at q; cases q⟩
  keep := fun i h h' ⟨⟨old, he⟩, hi, hne⟩ k => ⟨⟨old, k e (by simp) _ he⟩, hi.at fun o q => k it (by simp) o q, hne⟩
  item := by
    rintro X rfl rfl rfl hc i pins s σ H E I hf ⟨⟨old, he⟩, hit, hne, hai, hae⟩ ⟨xs, x, hq, hx⟩
    obtain ⟨its, rv, p, hz⟩ := I.tuple hq
    obtain ⟨u, hu, ru⟩ := rv.get hx
    have p' : s.heap.IsTuple a its.toArray := p
    have hel : e < s.heap.objs.size := Heap.lt_size he
    have hil : it < s.heap.objs.size := by obtain ⟨_, q, _⟩ := hit; exact Heap.lt_size q
    have hlt : i < its.toArray.size := by
      have := (List.getElem?_eq_some_iff.mp hu).1
      simpa using this
    refine wpAny_pyNext_enum_itemC (Draws.tuple (show X.A.in1.handled = none from I.ok.hd hc) it a hai its.toArray) he ⟨hit, p'⟩ hlt hne (by simp [hne, Ne.symm hae]) fun y h' tk hy ho hst hT hsz hk => ?_
    have ey : y = u := by
      have z : its.toArray[i]? = some y := hy
      rw [List.getElem?_toArray, hu] at z
      exact (Option.some.inj z).symm
    subst ey
    refine ⟨_, rfl, wpAny_letOwnedTupleGo_enum (s := { s with heap := h', toks := tk + 1 }) ho fun h'' he' sb => ?_⟩
    have hT2 : h''.get? s.heap.objs.size = some { cls := .type "tuple", data := .seq #[.int i tk, y] } := (sb.2 _ (Nat.ne_of_gt hel)).trans hT
    have new : ObjOk X.prog X.w (upd H s.heap.objs.size (.tup [.int (i : Nat), x])) h'' s.heap.objs.size (.tup [.int (i : Nat), x]) :=
      ⟨by show 2 ≤ sizeLine; decide, [.int i tk, y], .cons ⟨_, rfl⟩ (.cons ru .nil), ⟨_, hT2, rfl, _, rfl⟩⟩
    have I1 : Inv X pins σ (upd H s.heap.objs.size (.tup [.int (i : Nat), x])) { s with heap := h'', toks := tk + 1 } :=
      I.turnedNew (ch := [e, it]) (fun b ob hb q => (sb.2 b fun z => hb (by simp [z])).trans (hk b ob (fun z => hb (by simp [z])) (fun z => hb (by simp [z])) q)) hf (Nat.le_refl _) new
    refine ⟨.ref s.heap.objs.size, _, I1, rfl, ⟨_, x, rfl, I.hok.fresh (Nat.le_refl _), rfl, fun ys hy => by rw [I.tuple_inj hy hq]; exact hx⟩, ⟨⟨y, ?_⟩, hst.1.at fun o q => (sb.2 it (Ne.symm hne)).trans q, hne, hai, hae⟩, fun b hb => ?_⟩
    · rw [show ((i + 1 : Nat) : Int) = (i : Int) + 1 by omega]
      exact he'
    · have hb2 : b < s.heap.objs.size := by
        simp only [List.mem_cons, List.not_mem_nil, or_false] at hb
        rcases hb with rfl | rfl
        · exact hel
        · exact hil
      rw [upd_ne (Nat.ne_of_lt hb2)]
      exact (hf b hb).1
  done := by
    rintro X rfl rfl rfl hc i pins s σ H E I hf ⟨⟨old, he⟩, hit, hne, hai, hae⟩ ⟨xs, hq, hx⟩
    obtain ⟨its, rv, p, hz⟩ := I.tuple hq
    obtain ⟨f0, f1, f2, f3, f4, f5⟩ := hf it (by simp)
    have hl := rv.length
    have p' : s.heap.IsTuple a its.toArray := p
    have D := Draws.tuple (prog := X.prog) (w := X.w) (show X.A.in1.handled = none from I.ok.hd hc) it a hai its.toArray
    have e2 : its.toArray.size = i := by simp; omega
    rw [← e2] at hit
    exact wpAny_pyNext_enum_endD D he ⟨hit, p'⟩ fun h' eb => ⟨rfl, I.turned (t' := s.toks) (fun b o hb q => eb b o hb q) f0 f1 f3 f4 f5⟩
  self := fun A i s Q E ⟨⟨_, he⟩, _⟩ h => wpAny_pyIter_enum he h
@[simp] def gItEL (te : GTE) : GIR := fun ρ G Q => te ρ G fun x G1 => ∃ a ds, x = .ref a ∧ G1 a = some (.lst ds) ∧ Q (ds.mapIdx fun i d => D.tup [.int i, d]) (fun G' => G' a = some (.lst ds)) G1
theorem it_pair {K : PySem.W.Frag} {H : Hp} {T : Addr} {i : Nat} {x : V} {d : D} (h : H T = none) (hd : Dat K H x d) : TK H (upd H T (.tup [.int (i : Nat), x])) ∧ Dat K (upd H T (.tup [.int (i : Nat), x])) (.ref T) (.tup [.int i, d]) :=
  ⟨TK.new h, .tup (SqT.of upd_same) (.cons (.int _) (.cons (hd.mono (TK.new h)) .nil))⟩
section
variable {X : Cx} {tpos p pos : Pos} {elts : List Expr} {kk : Nat} {e : Expr} {te : GTE}
theorem gi_enumL (hg : Gl X "enumerate") (hm : X.mg "enumerate" = none) (ha : GA X [e] [te]) (hs : starEach [e] X.env = [(false, eval e X.env)] := by rfl) : GI X (.Tuple elts kk tpos) (.Call (.Name "enumerate" p) [e] [] pos) (gItEL te) :=
  PI.weak (pi_enum hg hm ha hs) fun σ H Kf ⟨ρ, G, R, rs, g, q, k⟩ => ⟨ρ, G, _, rs, g, q, fun v H1 d G1 k1 g1 h1 ⟨a, ds, ed, ha, q1⟩ => by
    subst ed
    obtain ⟨vs, ev, dv⟩ := list_of g1 ha
    refine ⟨a, vs, by rw [dat_ref h1], SqL.of ev, k _ _ H1 G1 _ k1 g1 q1 fun i H' G' _ k2 g2 ha2 => ?_⟩
    obtain ⟨vs2, ev2, dv2⟩ := list_of g2 ha2
    refine ⟨fun hi => ⟨vs2, SqL.of ev2, by rw [dv2.length]; simpa using hi⟩, fun hi => ?_⟩
    have hi2 : i < vs2.length := by rw [dv2.length]; simpa using hi
    refine ⟨⟨vs2, vs2[i], SqL.of ev2, by simp⟩, fun x H'' ⟨T, y, ex, hT, eH, hy⟩ => ?_⟩
    subst ex eH
    obtain ⟨d, ed, hd⟩ := dv2.get (hy vs2 (SqL.of ev2))
    obtain ⟨t1, t2⟩ := it_pair (i := i) hT hd
    exact ⟨_, by rw [List.getElem?_mapIdx, ed]; rfl, t1, g2.grow hT, t2⟩⟩
@[simp] def gItET (te : GTE) : GIR := fun ρ G Q => te ρ G fun x G1 => ∃ ds, x = .tup ds ∧ Q (ds.mapIdx fun i d => D.tup [.int i, d]) (fun _ => True) G1
theorem gi_enumT (hg : Gl X "enumerate") (hm : X.mg "enumerate" = none) (ha : GA X [e] [te]) (hs : starEach [e] X.env = [(false, eval e X.env)] := by rfl) : GI X (.Tuple elts kk tpos) (.Call (.Name "enumerate" p) [e] [] pos) (gItET te) := by
  refine ⟨fun pins s σ H Kf I ⟨ρ, G, R, rs, g, q, k⟩ => ?_⟩
  refine Call_ (ld_blt I hg hm boot_enumerate (PyProof.Rows.callWith_type1 (thn (PA.run ha pos pins s σ H (fun vs H1 => ∃ d G1 v, vs = [v] ∧ TK H H1 ∧ GH X.prog X.w X.K G1 H1 ∧ Dat X.K H1 v d ∧ ∃ ds, d = .tup ds ∧ R (ds.mapIdx fun i d => D.tup [.int i, d]) (fun _ => True) G1) I ⟨ρ, G, _, rs, g, q, fun v H1 d G1 k1 g1 h1 q1 => ⟨d, G1, v, rfl, k1, g1, h1, q1⟩⟩) fun us s1 ⟨vs, H1, I1, r1, d, G1, v, ev, k1, g1, h1, ds, ed, q1⟩ => ?_) hs rfl))
  subst ed ev
  obtain ⟨a, ws, rfl, hws, dv⟩ := dat_tup h1
  obtain ⟨u, rfl, ru⟩ := vals1 r1
  obtain rfl : u = Value.ref a := ru
  obtain ⟨its, rv, pt, hz⟩ := I1.tuple hws
  have ha1 : a < s1.heap.objs.size := by obtain ⟨o, eo, _⟩ := pt; exact Heap.lt_size eo
  refine enum_call (begins_tuple a its.toArray) (show s1.heap.IsTuple a its.toArray from pt) fun h' he hit hk => wpAny_pyIter_enum he ?_
  refine ⟨s1.heap.objs.size + 1, [s1.heap.objs.size + 1, s1.heap.objs.size], _, _, H1, rfl, I1.kept (t' := s1.toks) hk, turn_enumT a (s1.heap.objs.size + 1) s1.heap.objs.size, ⟨⟨.none, he⟩, ⟨_, hit, rfl, rfl⟩, Nat.succ_ne_self _, Nat.ne_of_lt ha1, Nat.ne_of_lt (Nat.lt_succ_of_lt ha1)⟩, fun b hb => ?_, ?_⟩
  · have hle : s1.heap.objs.size ≤ b := by
      simp only [List.mem_cons, List.not_mem_nil, or_false] at hb
      rcases hb with rfl | rfl <;> omega
    exact I1.fpOk hle (I1.hok.fresh hle)
  · refine k _ _ H1 G1 _ k1 g1 q1 fun i H' G' hle k2 g2 _ => ?_
    have h2 := k2.sqT hws
    have dv2 := dv.mono k2
    refine ⟨fun hi => ⟨ws, h2, by rw [dv2.length]; simp at hi hle; omega⟩, fun hi => ?_⟩
    have hi2 : i < ws.length := by rw [dv2.length]; simpa using hi
    refine ⟨⟨ws, ws[i], h2, by simp⟩, fun x H'' ⟨T, y, ex, hT, eH, hy⟩ => ?_⟩
    subst ex eH
    obtain ⟨d, ed, hd⟩ := dv2.get (hy ws h2)
    obtain ⟨t1, t2⟩ := it_pair (i := i) hT hd
    exact ⟨_, by rw [List.getElem?_mapIdx, ed]; rfl, t1, g2.grow hT, t2⟩
end
end G
set_option Elab.async false
set_option linter.all false
set_option maxRecDepth 100000
set_option maxHeartbeats 4000000
namespace G
open PySem PySem.Spec PyProof.Rows L2

/-! ### list comprehensions of two clauses -/
def Lc2I (g : GTG) (tt : GTT) (ti1 : GIR) (g1 : GTG) (tt1 : GTT) (te : GTE) (vs vs1 : List Nat) (ρ : Ro) (Q : GK) : List D → (Gp → Prop) → Gp → Prop := fun ds keep G0 => ∀ p, G0 p = none → ∃ W : Nat → List D → Gp → Prop, W 0 [] (gup G0 p (.lst [])) ∧
  (∀ i acc G, i ≤ ds.length → W i acc G → keep G) ∧
  (∀ i acc d G, ds[i]? = some d → W i acc G → g d (gwipe ρ vs) G fun ρ2 G2 => tt ρ2 G2 fun b G3 =>
    if b = true then ti1 ρ2 G3 fun es keep1 G4 => ∃ W1 : Nat → List D → Gp → Prop, W1 0 acc G4 ∧ (∀ j acc G, j ≤ es.length → W1 j acc G → keep1 G) ∧
      (∀ j acc e G, es[j]? = some e → W1 j acc G → g1 e (gwipe ρ2 vs1) G fun ρ3 G5 => tt1 ρ3 G5 fun b G6 =>
        if b = true then te ρ3 G6 fun y G7 => G7 p = some (.lst acc) ∧ acc.length < sizeLine ∧ W1 (j + 1) (acc ++ [y]) (gup G7 p (.lst (acc ++ [y]))) else W1 (j + 1) acc G6) ∧
      ∀ acc G, W1 es.length acc G → W (i + 1) acc G
    else W (i + 1) acc G3) ∧
  ∀ acc G, W ds.length acc G → Q (.ref p) G
@[simp] def gLc2 (ti : GIR) (g : GTG) (tt : GTT) (ti1 : GIR) (g1 : GTG) (tt1 : GTT) (te : GTE) (vs vs1 : List Nat) : GTE := fun ρ G Q => ti ρ G (Lc2I g tt ti1 g1 tt1 te vs vs1 ρ Q)
section
variable {X : Cx}
theorem lc2_up {ti ti1 : GIR} {g g1 : GTG} {tt tt1 : GTT} {te : GTE} {vs vs1 : List Nat} {σ : L2.St} {H : Hp} {Q : VK} (h : up X.prog X.w X.K (gLc2 ti g tt ti1 g1 tt1 te vs vs1) σ H Q) :
    tLc2 (upI X.prog X.w X.K ti) (upGw X.prog X.w X.K vs g) (upT X.prog X.w X.K tt) (upI X.prog X.w X.K ti1) (upGw X.prog X.w X.K vs1 g1) (upT X.prog X.w X.K tt1) (up X.prog X.w X.K te) vs vs1 σ H Q := by
  obtain ⟨ρ, G, R, rs, g0, q, k⟩ := h
  refine ⟨ρ, G, _, rs, g0, q, fun ds keep H1 G1 J k1 g1' q1 ok p hp => ?_⟩
  obtain ⟨W, w0, hw, turn, fin⟩ := q1 p (g1'.ne hp)
  have tk0 : TK H1 (upd H1 p (.lst [])) := TK.new hp
  refine ⟨fun i m H' => ∃ acc G', m = ds.length - i ∧ i ≤ ds.length ∧ TK (upd H1 p (.lst [])) H' ∧ GH X.prog X.w X.K G' H' ∧ W i acc G', ⟨ds.length, [], _, by simp, Nat.zero_le _, TK.refl, g1'.new hp (gok_lst (ds := []) (Nat.zero_le _) .nil upd_same), w0⟩, ?_⟩
  rintro i m H2 ⟨acc, G2, rfl, hi2, k2, g2, w2⟩
  obtain ⟨o1, o2⟩ := ok i H2 G2 hi2 (tk0.trans k2) g2 (hw i acc G2 hi2 w2)
  by_cases hlt : i < ds.length
  · obtain ⟨go, yld⟩ := o2 hlt
    refine .inr ⟨go, fun H' => ∃ acc G', TK (upd H1 p (.lst [])) H' ∧ GH X.prog X.w X.K G' H' ∧ W (i + 1) acc G', fun H' ⟨acc, G', r⟩ => ⟨ds.length - (i + 1), by omega, acc, G', rfl, hlt, r⟩, fun x H' y => ?_⟩
    obtain ⟨d, ed, k3, g3, hd⟩ := yld x H' y
    refine ⟨gwipe ρ vs, G2, _, d, (rs.mono ((k1.trans tk0).trans (k2.trans k3))).wipe vs, g3, hd, turn i acc d G2 ed w2, fun σ4 H4 ρ4 G4 k4 rs4 g4 w4 q4 => ⟨w4.trans (wipe_wipe vs σ), ρ4, G4, _, rs4, g4, q4, fun b H5 G5 k5 g5 q5 => ?_⟩⟩
    have k25 := k2.trans (k3.trans (k4.trans k5))
    cases b with
    | false => exact ⟨acc, G5, k25, g5, q5⟩
    | true =>
      rw [if_pos rfl] at q5
      show upI X.prog X.w X.K ti1 σ4 H5 _
      have rs5 := rs4.mono k5
      refine ⟨ρ4, G5, _, rs5, g5, q5, fun es keep1 H6 G6 J1 k6 g6 q6 ok1 => ?_⟩
      obtain ⟨W1, w10, hw1, turn1, fin1⟩ := q6
      have rs6 := rs5.mono k6
      refine ⟨fun j m H' => ∃ acc G', m = es.length - j ∧ j ≤ es.length ∧ TK H6 H' ∧ GH X.prog X.w X.K G' H' ∧ W1 j acc G', ⟨es.length, acc, _, by simp, Nat.zero_le _, TK.refl, g6, w10⟩, ?_⟩
      rintro j m H7 ⟨acc7, G7, rfl, hj, k7, g7, w7⟩
      obtain ⟨o3, o4⟩ := ok1 j H7 G7 hj k7 g7 (hw1 j acc7 G7 hj w7)
      by_cases hlt2 : j < es.length
      · obtain ⟨go1, yld1⟩ := o4 hlt2
        refine .inr ⟨go1, fun H' => ∃ acc G', TK H6 H' ∧ GH X.prog X.w X.K G' H' ∧ W1 (j + 1) acc G', fun H' ⟨acc, G', r⟩ => ⟨es.length - (j + 1), by omega, acc, G', rfl, hlt2, r⟩, fun x H' y => ?_⟩
        obtain ⟨e, ee, k8, g8, he⟩ := yld1 x H' y
        refine ⟨gwipe ρ4 vs1, G7, _, e, (rs6.mono (k7.trans k8)).wipe vs1, g8, he, turn1 j acc7 e G7 ee w7, fun σ9 H9 ρ9 G9 k9 rs9 g9 w9 q9 => ⟨w9.trans (wipe_wipe vs1 σ4), ρ9, G9, _, rs9, g9, q9, fun b H10 G10 k10 g10 q10 => ?_⟩⟩
        have k710 := k7.trans (k8.trans (k9.trans k10))
        cases b with
        | false => exact ⟨acc7, G10, k710, g10, q10⟩
        | true =>
          rw [if_pos rfl] at q10
          show up X.prog X.w X.K te σ9 H10 _
          refine ⟨ρ9, G10, _, rs9.mono k10, g10, q10, fun v H11 d11 G11 k11 g11 h11 ⟨hp11, hz, w11⟩ => ?_⟩
          obtain ⟨z, us, eu, du⟩ := g11 p _ hp11
          have tk11 := g11.tkset hp11 (.lst (us ++ [v]))
          refine ⟨us, eu, by rw [du.length]; exact hz, acc7 ++ [d11], _, (k710.trans k11).trans tk11, g11.set hp11 (gok_lst (by rw [List.length_append]; exact hz) ((du.append (.cons h11 .nil)).mono tk11) upd_same), w11⟩
      · have e : j = es.length := by omega
        subst e
        exact .inl ⟨o3 (Nat.le_refl _), acc7, G7, k25.trans (k6.trans k7), g7, fin1 acc7 G7 w7⟩
  · have e : i = ds.length := by omega
    subst e
    exact .inl ⟨o1 (Nat.le_refl _), k _ H2 _ G2 ((k1.trans tk0).trans k2) g2 (.ref p) (fin acc G2 w2)⟩
theorem ge_lc2 {elt tg iter t1 i1 : Expr} {ifs ifs1 : List Expr} {scope : Scope} (own : List (Str × Nat)) (vs1 : List Nat) {pos : Pos} {ti ti1 : GIR} {g g1 : GTG} {tt tt1 : GTT} {te : GTE} (hN : X.N.Nodup) (hi : GI X tg iter ti) (ok : BlkOk X.N X.env.scope scope own)
    (hg : ∀ (s : Shared) (H : Hp) (C : Addr) (cl : List (Str × Addr)) (fp : List Addr), GW1 (X.blk s H scope (compEnvC scope cl C X.env) fp) (own.map fun x : Str × Nat => x.2) tg g) (ht : ∀ (s : Shared) (H : Hp) (C : Addr) (cl : List (Str × Addr)) (fp : List Addr), GTs (X.blk s H scope (compEnvC scope cl C X.env) fp) ifs tt)
    (hi1 : ∀ (s : Shared) (H : Hp) (C : Addr) (cl : List (Str × Addr)) (fp : List Addr), GI (X.blk s H scope (compEnvC scope cl C X.env) fp) t1 i1 ti1)
    (hg1 : ∀ (s : Shared) (H : Hp) (C : Addr) (cl : List (Str × Addr)) (fp : List Addr), GW1 (X.blk s H scope (compEnvC scope cl C X.env) fp) vs1 t1 g1) (ht1 : ∀ (s : Shared) (H : Hp) (C : Addr) (cl : List (Str × Addr)) (fp : List Addr), GTs (X.blk s H scope (compEnvC scope cl C X.env) fp) ifs1 tt1)
    (he : ∀ (s : Shared) (H : Hp) (C : Addr) (cl : List (Str × Addr)) (fp : List Addr), GE (X.blk s H scope (compEnvC scope cl C X.env) fp) elt te)
    (hvs : ∀ i ∈ vs1, i ∈ own.map fun x : Str × Nat => x.2 := by decide) (hc : X.calm = true := by rfl) (hs : ∀ x, foldedSetIterable iter X.env x = pure x := by intro _; rfl) (hs1 : ∀ env x, foldedSetIterable i1 env x = pure x := by intro _ _; rfl) :
    GE X (.ListComp elt [⟨tg, iter, ifs, 0⟩, ⟨t1, i1, ifs1, 0⟩] scope pos) (gLc2 ti g tt ti1 g1 tt1 te (own.map fun x : Str × Nat => x.2) vs1) :=
  PE.weak (pe_lc2 (own := own) (vs1 := vs1) (g := upGw X.prog X.w X.K (own.map fun x : Str × Nat => x.2) g) (tt := upT X.prog X.w X.K tt) (wi1 := upI X.prog X.w X.K ti1) (g1 := upGw X.prog X.w X.K vs1 g1) (tt1 := upT X.prog X.w X.K tt1) (te := up X.prog X.w X.K te) hc hN hi ok hvs hg ht hi1 hg1 ht1 he hs hs1) fun σ H Q h => lc2_up h
end
/-! ### zip of two lists, of two tuples -/
def pairUp (xs ys : List D) : List D := List.zipWith (fun x y => D.tup [x, y]) xs ys
section
variable {X : Cx} {tpos p pos : Pos} {elts : List Expr} {kk : Nat} {e e2 : Expr} {te tf : GTE}
@[simp] def gItZ (te tf : GTE) : GIR := fun ρ G Q => te ρ G fun x G1 => tf ρ G1 fun y G2 => (∃ a b xs ys, x = .ref a ∧ y = .ref b ∧ G2 a = some (.lst xs) ∧ G2 b = some (.lst ys) ∧ Q (pairUp xs ys) (fun G' => G' a = some (.lst xs) ∧ G' b = some (.lst ys)) G2) ∨
  ∃ xs ys, x = .tup xs ∧ y = .tup ys ∧ Q (pairUp xs ys) (fun _ => True) G2
theorem zip_pair {K : PySem.W.Frag} {H : Hp} {T : Addr} {x y : V} {d e : D} (h : H T = none) (hd : Dat K H x d) (he : Dat K H y e) : TK H (upd H T (.tup [x, y])) ∧ Dat K (upd H T (.tup [x, y])) (.ref T) (.tup [d, e]) :=
  ⟨TK.new h, .tup (SqT.of upd_same) (.cons (hd.mono (TK.new h)) (.cons (he.mono (TK.new h)) .nil))⟩
theorem pairUp_len (xs ys : List D) : (pairUp xs ys).length = min xs.length ys.length := by unfold pairUp; rw [List.length_zipWith]
theorem pairUp_get {xs ys : List D} {i : Nat} {d e : D} (h1 : xs[i]? = some d) (h2 : ys[i]? = some e) : (pairUp xs ys)[i]? = some (.tup [d, e]) := by unfold pairUp; rw [List.getElem?_zipWith, h1, h2]
theorem gi_zip (hg : Gl X "zip") (hm : X.mg "zip" = none) (ha : GA X [e, e2] [te, tf]) (hs : starEach [e, e2] X.env = (false, eval e X.env) :: starEach [e2] X.env := by rfl) (hpl : (backTo pos (starEach [e2] X.env)).any (·.1) = false := by rfl) :
    GI X (.Tuple elts kk tpos) (.Call (.Name "zip" p) [e, e2] [] pos) (gItZ te tf) :=
  PI.weak (RZ.pi_zipA hg hm ha hs hpl) fun σ H Kf ⟨ρ, G, R, rs, g, q, k⟩ => ⟨ρ, G, _, rs, g, q, fun v0 H0 d0 G0 k0 g0 h0 q0 => ⟨ρ, G0, _, rs.mono k0, g0, q0, fun v H1 d G1 k1 g1 h1 q1 => by
    have h0' := h0.mono k1
    rcases q1 with ⟨a, b, xs, ys, ed, ee, hxa, hyb, q1⟩ | ⟨xs, ys, ed, ee, q1⟩
    · subst ed ee
      obtain ⟨vs, ev, dv⟩ := list_of g1 hxa
      obtain ⟨ws, ew, dw⟩ := list_of g1 hyb
      refine ⟨a, b, vs, ws, by rw [dat_ref h0', dat_ref h1], .inl ⟨SqL.of ev, SqL.of ew, k _ _ H1 G1 _ (k0.trans k1) g1 q1 fun i H' G' _ k2 g2 ⟨ha2, hb2⟩ => ?_⟩⟩
      obtain ⟨vs2, ev2, dv2⟩ := list_of g2 ha2
      obtain ⟨ws2, ew2, dw2⟩ := list_of g2 hb2
      rw [pairUp_len]
      refine ⟨fun hi => ⟨vs2, ws2, SqL.of ev2, SqL.of ew2, by rw [dv2.length, dw2.length]; omega⟩, fun hi => ?_⟩
      have h3 : i < vs2.length := by rw [dv2.length]; omega
      have h4 : i < ws2.length := by rw [dw2.length]; omega
      refine ⟨⟨vs2, ws2, vs2[i], ws2[i], SqL.of ev2, SqL.of ew2, by simp, by simp⟩, fun x H'' ⟨T, y, z, ex, hT, eH, hy, hz⟩ => ?_⟩
      subst ex eH
      obtain ⟨d1, ed1, hd1⟩ := dv2.get (hy vs2 (SqL.of ev2))
      obtain ⟨d2, ed2, hd2⟩ := dw2.get (hz ws2 (SqL.of ew2))
      obtain ⟨t1, t2⟩ := zip_pair hT hd1 hd2
      exact ⟨_, pairUp_get ed1 ed2, t1, g2.grow hT, t2⟩
    · subst ed ee
      obtain ⟨a, vs, rfl, hva, dv⟩ := dat_tup h0'
      obtain ⟨b, ws, rfl, hwb, dw⟩ := dat_tup h1
      refine ⟨a, b, vs, ws, rfl, .inr ⟨hva, hwb, k _ _ H1 G1 _ (k0.trans k1) g1 q1 fun i H' G' _ k2 g2 _ => ?_⟩⟩
      have ev2 := k2.sqT hva
      have ew2 := k2.sqT hwb
      have dv2 := dv.mono k2
      have dw2 := dw.mono k2
      rw [pairUp_len]
      refine ⟨fun hi => ⟨vs, ws, ev2, ew2, by rw [dv2.length, dw2.length]; omega⟩, fun hi => ?_⟩
      have h3 : i < vs.length := by rw [dv2.length]; omega
      have h4 : i < ws.length := by rw [dw2.length]; omega
      refine ⟨⟨vs, ws, vs[i], ws[i], ev2, ew2, by simp, by simp⟩, fun x H'' ⟨T, y, z, ex, hT, eH, hy, hz⟩ => ?_⟩
      subst ex eH
      obtain ⟨d1, ed1, hd1⟩ := dv2.get (hy vs ev2)
      obtain ⟨d2, ed2, hd2⟩ := dw2.get (hz ws ew2)
      obtain ⟨t1, t2⟩ := zip_pair hT hd1 hd2
      exact ⟨_, pairUp_get ed1 ed2, t1, g2.grow hT, t2⟩⟩⟩
end
/-! ### starred arguments -/
def seqAt (d : D) (G : Gp) (xs : List D) : Prop := d = .tup xs ∨ ∃ a, d = .ref a ∧ G a = some (.lst xs)
@[simp] def gArgsS : List (Bool × GTE) → GTA
  | [] => fun _ G Q => Q [] G
  | (false, t) :: ts => fun ρ G Q => t ρ G fun x G1 => gArgsS ts ρ G1 fun xs G2 => Q (x :: xs) G2
  | (true, t) :: ts => fun ρ G Q => t ρ G fun x G1 => ∃ ys, seqAt x G1 ys ∧ gArgsS ts ρ G1 fun xs G2 => Q (ys ++ xs) G2
def vArgsS (P : Program) (w : World) (K : PySem.W.Frag) : List (Bool × GTE) → TA
  | [] => tNil
  | (false, t) :: ts => tCons (up P w K t) (vArgsS P w K ts)
  | (true, t) :: ts => StX.tStar K (up P w K t) (vArgsS P w K ts)
def GAS (X : Cx) (es : List Expr) (ts : List (Bool × GTE)) : Prop := PA X es (vArgsS X.prog X.w X.K ts)
section
variable {X : Cx} {pos p : Pos} {e : Expr} {es : List Expr} {te : GTE} {ts : List (Bool × GTE)}
theorem gas_nil : GAS X [] [] := pa_nil
theorem gas_cons (ha : GE X e te) (hr : GAS X es ts) (hs : starEach (e :: es) X.env = (false, eval e X.env) :: starEach es X.env := by rfl) : GAS X (e :: es) ((false, te) :: ts) := pa_cons ha hr hs
theorem gas_star (ha : GE X e te) (hr : GAS X es ts) (hs : starEach (.Starred e p :: es) X.env = (true, eval e X.env) :: starEach es X.env := by rfl) : GAS X (.Starred e p :: es) ((true, te) :: ts) := StX.pa_star ha hr hs
theorem argsS_up {P : Program} {w : World} {K : PySem.W.Frag} {σ : L2.St} {ρ : Ro} : ∀ (ts : List (Bool × GTE)) {H : Hp} {G : Gp} {R : List D → Gp → Prop} {Q : List V → Hp → Prop}, RS K H σ ρ → GH P w K G H → gArgsS ts ρ G R →
    (∀ vs H' ds G', TK H H' → GH P w K G' H' → DatL K H' vs ds → R ds G' → Q vs H') → vArgsS P w K ts σ H Q
  | [], H, G, R, Q, rs, g, q, k => k [] H [] G TK.refl g .nil q
  | (false, t) :: ts, H, G, R, Q, rs, g, q, k => ⟨ρ, G, _, rs, g, q, fun v H1 d G1 k1 g1 h1 q1 =>
      argsS_up ts (rs.mono k1) g1 q1 fun vs H2 ds G2 k2 g2 h2 q2 => k (v :: vs) H2 (d :: ds) G2 (k1.trans k2) g2 (.cons (h1.mono k2) h2) q2⟩
  | (true, t) :: ts, H, G, R, Q, rs, g, q, k => ⟨ρ, G, _, rs, g, q, fun v H1 d G1 k1 g1 h1 ⟨ys, sq, q1⟩ => by
      have : ∃ a xs, v = .ref a ∧ (SqT K H1 a xs ∨ SqL K H1 a xs) ∧ DatL K H1 xs ys := by
        rcases sq with rfl | ⟨a, rfl, ha⟩
        · obtain ⟨a, xs, rfl, hs, hd⟩ := dat_tup h1
          exact ⟨a, xs, rfl, .inl hs, hd⟩
        · obtain ⟨xs, ev, dv⟩ := list_of g1 ha
          exact ⟨a, xs, dat_ref h1, .inr (SqL.of ev), dv⟩
      obtain ⟨a, xs, rfl, hs, hd⟩ := this
      exact ⟨a, xs, rfl, hs, argsS_up ts (rs.mono k1) g1 q1 fun vs H2 ds G2 k2 g2 h2 q2 => k (xs ++ vs) H2 (ys ++ ds) G2 (k1.trans k2) g2 ((hd.mono k2).append h2) q2⟩⟩
@[simp] def gTupS (ts : List (Bool × GTE)) : GTE := fun ρ G Q => gArgsS ts ρ G fun ds G1 => ds.length ≤ sizeLine ∧ Q (.tup ds) G1
theorem ge_tupS {x1} (h : GAS X es ts) : GE X (.Tuple es x1 pos) (gTupS ts) :=
  ge_of (pe_tup h) fun σ H ρ G R Q rs g q k => argsS_up ts rs g q fun vs H1 ds G1 k1 g1 h1 ⟨hz, q1⟩ =>
    ⟨by rw [h1.length]; exact hz, fun p hp => k _ _ _ G1 (k1.trans (TK.new hp)) (g1.grow hp) (.tup (SqT.of upd_same) (h1.mono (TK.new hp))) q1⟩
@[simp] def gLstS (ts : List (Bool × GTE)) : GTE := fun ρ G Q => gArgsS ts ρ G fun ds G1 => ds.length ≤ sizeLine ∧ ∀ p, G1 p = none → Q (.ref p) (gup G1 p (.lst ds))
theorem ge_lstS (h : GAS X es ts) : GE X (.List es pos) (gLstS ts) :=
  ge_of (pe_lst h) fun σ H ρ G R Q rs g q k => argsS_up ts rs g q fun vs H1 ds G1 k1 g1 h1 ⟨hz, q1⟩ =>
    ⟨by rw [h1.length]; exact hz, fun p hp => k _ _ _ _ (k1.trans (TK.new hp)) (g1.new hp (gok_lst hz (h1.mono (TK.new hp)) upd_same)) (.ref p) (q1 p (g1.ne hp))⟩
@[simp] def gCallS (sp : GSp) (ts : List (Bool × GTE)) : GTE := fun ρ G Q => gArgsS ts ρ G fun ds G1 => sp ds G1 Q
theorem ge_callS {k n : Nat} {x : Str} {sp : GSp} (F : FU X.prog X.w X.K X.mg X.base k x n sp) (hr : Room k X.A) (ha : GAS X (e :: es) ts) (hg : Gl X x := by rfl) (hd : (x == ("__debug__" : Str)) = false := by decide)
    (he : starEach (e :: es) X.env = (false, eval e X.env) :: starEach es X.env := by rfl) (hst : (backTo pos (starEach es X.env)).any (·.1) = true := by rfl) : GE X (.Call (.Name x p) (e :: es) [] pos) (gCallS sp ts) := by
  obtain ⟨f, fd, ps, h1, h2, h3, h4, _⟩ := F.ex
  refine ge_of (StX.pe_callS2 (FnOk.raw h1 h4 .nil) hr h3 hg h2 pass0 ha hd he hst) fun σ H ρ G R Q rs g q k => argsS_up ts rs g q fun vs H1 ds G1 k1 g1 h5 q1 => ?_
  refine ⟨ds, G1, R, ?_, g1, q1, fun v H' d G' k2 => k v H' d G' (k1.trans k2)⟩
  rw [List.append_nil]
  exact h5
/-- what is never reached -/
@[simp] def gBot : GTE := fun _ _ _ => False
theorem ge_bot : GE X e gBot := ⟨fun pins s σ H Q I ⟨ρ, G, R, rs, g, q, k⟩ => q.elim⟩
end
end G
set_option Elab.async false
set_option linter.all false
set_option maxRecDepth 100000
set_option maxHeartbeats 4000000
namespace G
open PySem PySem.Spec PyProof.Rows L2

/-! ### the less, the greater of two data -/
section
variable {prog : Program} {w : World} {A : Around} {E : Value → Shared → Prop} {s : Shared}
theorem two_items {a b v : Value} {bt : Nat → Nat → Bool} (h : (#[a, b] : Array Value)[argBest bt 1]? = some v) : v = if bt 1 0 then b else a := by
  have e : argBest bt 1 = if bt 1 0 then 1 else 0 := rfl
  rw [e] at h
  cases hb : bt 1 0 <;> simp [hb] at h ⊢ <;> exact h.symm
theorem pair_walk {a b : Value} {Q : Value → Shared → Prop} (hh : A.handled = none)
    (h : ∀ (T : Addr) (s₂ : Shared), WalksS prog w A (T + 1) [T + 1, T] [T + 1] (fun x y => y = x) 2 (fun i v => (#[a, b] : Array Value)[i]? = some v) (fun i s' => s'.heap.IsTupleIter (T + 1) T i ∧ s'.heap.IsTuple T #[a, b]) → (s₂.heap.IsTupleIter (T + 1) T 0 ∧ s₂.heap.IsTuple T #[a, b]) →
      (∀ c ∈ [T + 1, T], c < s₂.heap.objs.size) → (∀ c o, s.heap.get? c = some o → c ∉ [T + 1]) → (∀ c o, s.heap.get? c = some o → s₂.heap.get? c = some o) → (∀ s', Moved [T + 1] (fun x y => y = x) s₂ s' → ∃ h' tk, s' = { s with heap := h', toks := tk } ∧ ∀ c o, s.heap.get? c = some o → h'.get? c = some o) → Q (.ref (T + 1)) s₂) :
    wpAny (model prog w) A (pyIter (.ref s.heap.objs.size)) Q E { s with heap := s.heap.push { cls := .type "tuple", data := .seq #[a, b] } } := by
  have hT : ({ s with heap := s.heap.push { cls := .type "tuple", data := .seq #[a, b] } } : Shared).heap.IsTuple s.heap.objs.size #[a, b] := ⟨_, Heap.get?_push_size _ rfl, rfl, 0, rfl⟩
  have hz : ({ s with heap := s.heap.push { cls := .type "tuple", data := .seq #[a, b] } } : Shared).heap.objs.size = s.heap.objs.size + 1 := Heap.size_push ..
  have old : ∀ c o, s.heap.get? c = some o → c < s.heap.objs.size := fun c o e => Heap.lt_size e
  refine PySem.W.iter_tupleW hh hT fun s₂ e W st hfp hw hk => ?_
  rw [hz] at W st hfp hw ⊢
  refine h s.heap.objs.size s₂ W st hfp (fun c o ec => hw c o (Heap.get?_push_of_some _ ec)) (fun c o ec => hk c o (Heap.get?_push_of_some _ ec)) fun s' m => ?_
  obtain ⟨h', tk, rfl, hk'⟩ := PySem.W.moved_old e hz.symm m
  exact ⟨h', tk, rfl, fun c o ec => hk' c o (Heap.get?_push_of_some _ ec)⟩
theorem two_reads {a b : Value} {x y : PyData} {as bs : List Addr} {h : Heap} (r1 : Reads h a x as) (r2 : Reads h b y bs) : ReadsAll h (#[a, b] : Array Value).toList [x, y] (as ++ (bs ++ [])) := .cons r1 (.cons r2 .nil)
/-- two alike data -/
def Alike2 (x y : PyData) : Prop := PySem.W.AlikeAll [x, y]
theorem minTwoG {a b : Value} {x y : PyData} {as bs : List Addr} {Q : Value → Shared → Prop} (hh : A.handled = none) (r1 : Reads s.heap a x as) (r2 : Reads s.heap b y bs) (ha : Alike2 x y) (hu : A.units + 1 + PyData.depthAll [x, y] < cLine)
    (h : ∀ h' tk, (∀ c o, s.heap.get? c = some o → h'.get? c = some o) → Q (if PySem.W.dataLt y x then b else a) { s with heap := h', toks := tk }) : wpAny (model prog w) A (call (.builtin "min") [a, b]) Q E s := by
  have nm : (toString "min" ++ toString ".loop" : String) = "min.loop" := by decide
  refine call_function_tree F.kind_min F.plain_min F.entry_min (F.args_min2 _ _) ?_
  show wpAny _ A.in1 (Builtin.Builtins.bindParams "min" ["key", "default"] 0 ⟨[], []⟩ >>= fun _ => _) _ _ s
  refine wpAny_bind (wpAny_of_eq (a := [none, none]) rfl (wpAny_bind (wpAny_newObj_type ?_)))
  refine wpAny_bind (pair_walk (A := A.in1) hh fun T s₂ W st hfp hw hk mv => wpAny_bind (wpAny_newObj_type ?_))
  have nS : s₂.heap.objs.size ∉ [T + 1, T] := fun hm => Nat.lt_irrefl _ (hfp _ hm)
  rw [nm]
  refine wpAny_pure ⟨plainId_quiet F.plain_min_loop _, codeAny_min_loop_firstH W s.heap hw _ (PySem.W.cmpIn_lt (A := A.in1) (two_reads r1 r2) ha hu) s₂.heap.objs.size nS (fresh_in hk) _ (by decide) (fun c o e => Heap.get?_push_of_some _ (hk c o e))
    (W.frame 0 s₂ _ s₂.toks st (Nat.le_refl _) fun c _ o e => Heap.get?_push_of_some _ e) (Heap.get?_push_size _ rfl) fun v s' hP hm => ?_⟩
  obtain ⟨h', tk, rfl, hk'⟩ := mv s' (Moved.drop_new (tk := s₂.toks) hm (Nat.le_refl _))
  have e := two_items hP
  have z := h h' tk hk'
  rw [e]
  exact z
theorem maxTwoG {a b : Value} {x y : PyData} {as bs : List Addr} {Q : Value → Shared → Prop} (hh : A.handled = none) (r1 : Reads s.heap a x as) (r2 : Reads s.heap b y bs) (ha : Alike2 x y) (hu : A.units + 1 + PyData.depthAll [x, y] < cLine)
    (h : ∀ h' tk, (∀ c o, s.heap.get? c = some o → h'.get? c = some o) → Q (if PySem.W.dataLt x y then b else a) { s with heap := h', toks := tk }) : wpAny (model prog w) A (call (.builtin "max") [a, b]) Q E s := by
  have nm : (toString "max" ++ toString ".loop" : String) = "max.loop" := by decide
  refine call_function_tree F.kind_max F.plain_max F.entry_max (F.args_max2 _ _) ?_
  show wpAny _ A.in1 (Builtin.Builtins.bindParams "max" ["key", "default"] 0 ⟨[], []⟩ >>= fun _ => _) _ _ s
  refine wpAny_bind (wpAny_of_eq (a := [none, none]) rfl (wpAny_bind (wpAny_newObj_type ?_)))
  refine wpAny_bind (pair_walk (A := A.in1) hh fun T s₂ W st hfp hw hk mv => wpAny_bind (wpAny_newObj_type ?_))
  have nS : s₂.heap.objs.size ∉ [T + 1, T] := fun hm => Nat.lt_irrefl _ (hfp _ hm)
  rw [nm]
  refine wpAny_pure ⟨plainId_quiet F.plain_max_loop _, codeAny_max_loop_firstH W s.heap hw _ (PySem.W.cmpIn_gt (A := A.in1) (two_reads r1 r2) ha hu) s₂.heap.objs.size nS (fresh_in hk) _ (by decide) (fun c o e => Heap.get?_push_of_some _ (hk c o e))
    (W.frame 0 s₂ _ s₂.toks st (Nat.le_refl _) fun c _ o e => Heap.get?_push_of_some _ e) (Heap.get?_push_size _ rfl) fun v s' hP hm => ?_⟩
  obtain ⟨h', tk, rfl, hk'⟩ := mv s' (Moved.drop_new (tk := s₂.toks) hm (Nat.le_refl _))
  have e := two_items hP
  have z := h h' tk hk'
  rw [e]
  exact z
end
section
variable {X : Cx}
@[simp] def rMin2D : List D → Gp → GK → Prop := fun ds G Q => ∃ d e, ds = [d, e] ∧ okey 8 d = true ∧ okey 8 e = true ∧ Alike2 (toP d) (toP e) ∧ Q (if PySem.W.dataLt (toP e) (toP d) then e else d) G
@[simp] def rMax2D : List D → Gp → GK → Prop := fun ds G Q => ∃ d e, ds = [d, e] ∧ okey 8 d = true ∧ okey 8 e = true ∧ Alike2 (toP d) (toP e) ∧ Q (if PySem.W.dataLt (toP d) (toP e) then e else d) G
theorem two_depth {d e : D} {A : Around} (hd : okey 8 d = true) (he : okey 8 e = true) (hr : A.units + 64 < cLine) : A.units + 1 + PyData.depthAll [toP d, toP e] < cLine := by
  have h1 := depth_toP hd
  have h2 := depth_toP he
  have h3 : PyData.depthAll [toP d, toP e] ≤ 8 := Nat.max_le.mpr ⟨h1, Nat.max_le.mpr ⟨h2, Nat.zero_le _⟩⟩
  omega
theorem cMin2D (hc : X.calm = true) (hr : X.A.units + 64 < cLine) : GCall X (.builtin "min") rMin2D := by
  intro pins s σ H us ws Q I r h
  obtain ⟨G, R, ds, g, hd, ⟨d, e, rfl, o1, o2, al, q⟩, k⟩ := h
  obtain ⟨v1, v2, rfl, h1, h2⟩ := datL_two hd
  obtain ⟨u1, u2, rfl, r1, r2⟩ := vals2 r
  obtain ⟨as, ra⟩ := Dat.reads I 8 _ _ _ o1 h1 r1
  obtain ⟨bs, rb⟩ := Dat.reads I 8 _ _ _ o2 h2 r2
  refine minTwoG (I.ok.hd hc) ra rb al (two_depth o1 o2 hr) fun h' tk hk => ?_
  by_cases z : PySem.W.dataLt (toP e) (toP d) = true
  · rw [if_pos z] at q ⊢
    exact ⟨v2, H, I.kept hk, r2, k _ H _ G TK.refl g h2 q⟩
  · rw [if_neg z] at q ⊢
    exact ⟨v1, H, I.kept hk, r1, k _ H _ G TK.refl g h1 q⟩
theorem cMax2D (hc : X.calm = true) (hr : X.A.units + 64 < cLine) : GCall X (.builtin "max") rMax2D := by
  intro pins s σ H us ws Q I r h
  obtain ⟨G, R, ds, g, hd, ⟨d, e, rfl, o1, o2, al, q⟩, k⟩ := h
  obtain ⟨v1, v2, rfl, h1, h2⟩ := datL_two hd
  obtain ⟨u1, u2, rfl, r1, r2⟩ := vals2 r
  obtain ⟨as, ra⟩ := Dat.reads I 8 _ _ _ o1 h1 r1
  obtain ⟨bs, rb⟩ := Dat.reads I 8 _ _ _ o2 h2 r2
  refine maxTwoG (I.ok.hd hc) ra rb al (two_depth o1 o2 hr) fun h' tk hk => ?_
  by_cases z : PySem.W.dataLt (toP d) (toP e) = true
  · rw [if_pos z] at q ⊢
    exact ⟨v2, H, I.kept hk, r2, k _ H _ G TK.refl g h2 q⟩
  · rw [if_neg z] at q ⊢
    exact ⟨v1, H, I.kept hk, r1, k _ H _ G TK.refl g h1 q⟩
/-- a < b of two tuples of ints -/
@[simp] def rLtC : GR2 := fun d e G Q => ∃ ns ms : List Int, d = .tup (ns.map D.int) ∧ e = .tup (ms.map D.int) ∧ Q (.bl (HT.lexLt ns ms)) G
theorem gltC (hr : X.A.units + 64 < cLine) : GOp X (compareOp .Lt) rLtC :=
  OpR.weak (op_ltT (by omega)) fun x y H Q ⟨G, R, d, e, gh, hx, hy, ⟨ns, ms, ed, ee, q⟩, k⟩ => by
    subst ed ee
    obtain ⟨a, vs, rfl, hs, dv⟩ := dat_tup hx
    obtain ⟨b, ws, rfl, ht, dw⟩ := dat_tup hy
    cases datL_map (f := V.int) dat_int dv
    cases datL_map (f := V.int) dat_int dw
    exact ⟨a, b, ns, ms, rfl, rfl, hs, ht, k _ H _ G TK.refl gh (.bl _) q⟩
end
end G
set_option Elab.async false
set_option linter.all false
set_option maxRecDepth 100000
set_option maxHeartbeats 4000000
namespace G
open PySem PySem.Spec PyProof.Rows L2

/-! ### or, and, not of values by truth -/
section
variable {X : Cx} {pos : Pos} {a b : Expr} {ta tb : GTE} {rest : List Expr}
theorem tru_up {P : Program} {w : World} {K : PySem.W.Frag} {G : Gp} {H : Hp} {v : V} {d : D} {c : Bool} (g : GH P w K G H) (h : Dat K H v d) (t : truD d G c) : TruV K v H c := by
  cases d with
  | non => cases dat_non h; exact t
  | bl c => cases dat_bl h; exact t
  | int i => cases dat_int h; exact t
  | str x => exact t.elim
  | frl x => exact t.elim
  | tup ds =>
    obtain ⟨p, vs, rfl, hs, hd⟩ := dat_tup h
    refine .inr (.inl ⟨vs, hs, ?_⟩)
    rw [t, isEmpty_len hd.length]
  | ref p =>
    cases dat_ref h
    obtain ⟨ds, hp, e⟩ := t
    obtain ⟨_, vs, hv, hd⟩ := g p _ hp
    refine .inl ⟨vs, SqL.of hv, ?_⟩
    rw [e, isEmpty_len hd.length]
@[simp] def gOrT (ta tb : GTE) : GTE := fun ρ G Q => ta ρ G fun x G1 => ∃ c, truD x G1 c ∧ if c = true then Q x G1 else tb ρ G1 Q
@[simp] def gAndT (ta tb : GTE) : GTE := fun ρ G Q => ta ρ G fun x G1 => ∃ c, truD x G1 c ∧ if c = true then tb ρ G1 Q else Q x G1
theorem ge_orT (ha : GE X a ta) (hb : GE X (.BoolOp .Or (b :: rest) pos) tb) : GE X (.BoolOp .Or (a :: b :: rest) pos) (gOrT ta tb) :=
  PE.weak (pe_orT ha hb) fun σ H Q ⟨ρ, G, R, rs, g, q, k⟩ => ⟨ρ, G, _, rs, g, q, fun v H1 d G1 k1 g1 h1 ⟨c, t, q1⟩ => ⟨c, tru_up g1 h1 t, by
    cases c with
    | true => exact k v H1 d G1 k1 g1 h1 q1
    | false => exact ⟨ρ, G1, R, rs.mono k1, g1, q1, fun b H2 d2 G2 k2 => k b H2 d2 G2 (k1.trans k2)⟩⟩⟩
theorem ge_andT (ha : GE X a ta) (hb : GE X (.BoolOp .And (b :: rest) pos) tb) : GE X (.BoolOp .And (a :: b :: rest) pos) (gAndT ta tb) :=
  PE.weak (pe_andT ha hb) fun σ H Q ⟨ρ, G, R, rs, g, q, k⟩ => ⟨ρ, G, _, rs, g, q, fun v H1 d G1 k1 g1 h1 ⟨c, t, q1⟩ => ⟨c, tru_up g1 h1 t, by
    cases c with
    | true => exact ⟨ρ, G1, R, rs.mono k1, g1, q1, fun b H2 d2 G2 k2 => k b H2 d2 G2 (k1.trans k2)⟩
    | false => exact k v H1 d G1 k1 g1 h1 q1⟩⟩
@[simp] def gNotT (ta : GTE) : GTE := fun ρ G Q => ta ρ G fun x G1 => ∃ c, truD x G1 c ∧ Q (.bl (!c)) G1
theorem ge_notT (ha : GE X a ta) : GE X (.UnaryOp .Not a pos) (gNotT ta) :=
  PE.weak (pe_notT ha) fun σ H Q ⟨ρ, G, R, rs, g, q, k⟩ => ⟨ρ, G, _, rs, g, q, fun v H1 d G1 k1 g1 h1 ⟨c, t, q1⟩ => ⟨c, tru_up g1 h1 t, k _ H1 _ G1 k1 g1 (.bl _) q1⟩⟩
end
/-! ### d.update([(k, v), ..]) -/
section
variable {X : Cx}
theorem dct_putW {pins : List (Addr × Obj)} {σ : L2.St} {H : Hp} {s : Shared} {G : Gp} {a : Addr} {kvs : List (D × D)} {h' : Heap} {t' : Nat} {xs ys : List (NestedKey × Addr × Value)} {kvs' : List (D × D)} (I : Inv X pins σ H s) (g : GH X.prog X.w X.K G H) (h : G a = some (.dct kvs)) (e : H a = some (dO X.prog X.w a xs)) (hm : h'.DictOfH (nestedKind X.prog X.w) a ys)
    (hs : ∀ b u, b ≠ a → s.heap.get? b = some u → h'.get? b = some u) (p : Paired (EntOk X.K H) kvs' ys) (sy : (a == sysModules) = false) (z : kvs'.length ≤ sizeLine) :
    Inv X pins σ (upd H a (dO X.prog X.w a ys)) { s with heap := h', toks := t' } ∧ TK H (upd H a (dO X.prog X.w a ys)) ∧ GH X.prog X.w X.K (gup G a (.dct kvs')) (upd H a (dO X.prog X.w a ys)) := by
  obtain ⟨o, es, ep, e1, e2, e3, e4, _, e5⟩ := hm
  have tk := g.tkset h (dO X.prog X.w a ys)
  exact ⟨I.write (x := a) (e := a) (by rw [e]; trivial) (.inl rfl) hs ⟨o, e1⟩ (dO_new ⟨sy, o, es, ep, e1, e2, e3, e4, e5⟩), tk, g.set h ⟨z, ys, upd_same, Paired.mapP p fun _ _ q => q.mono tk⟩⟩
@[simp] def rUpdP : D → List D → Gp → GK → Prop := fun d ds G Q => ∃ (a b : Addr) (kvs more : List (D × D)), d = .ref a ∧ ds = [.ref b] ∧ G a = some (.dct kvs) ∧ G b = some (.lst (more.map fun q => D.tup [q.1, q.2])) ∧ (∀ q ∈ more, isKey q.1) ∧ kvs.length + more.length ≤ sizeLine ∧ Q .non (gup G a (.dct (dputs kvs more)))
theorem mupdP (hc : X.calm = true) (hr : X.A.units + 64 < cLine) : GMt X "dict.update" rUpdP := by
  intro pins s σ H x vs v us Q I rx rv h
  obtain ⟨G, R, d, ds, g, hx, hs, ⟨a, b, kvs, more, rfl, rfl, ha, hb, hk, hz, q⟩, k⟩ := h
  cases dat_ref hx
  cases rx
  obtain ⟨v, rfl, hv⟩ := datL_one hs
  cases dat_ref hv
  obtain ⟨u, rfl, ru⟩ := vals1 rv
  cases ru
  obtain ⟨ws, ew, dw⟩ := list_of g hb
  obtain ⟨z, xs, e, p, sy, hm⟩ := dct_at I g ha
  obtain ⟨its, rw', hl, _⟩ := I.list (SqL.of ew)
  obtain ⟨L, e1, e2, e3⟩ := pairs_of I hk dw rw'
  subst e1
  have hlen : L.length = more.length := by have := e3.length; simpa using this.symm
  have hlx : xs.length = kvs.length := p.length.symm
  have PA := PairArg.list (prog := X.prog) (w := X.w) b (L.map fun t => Value.ref t.1).toArray (fun j => (L[j]?.getD (0, .none, 0, .none)).1) (L.map fun t => (Value.ref t.2.2.1, t.2.2.2))
  have dty : s.TypeIs (.ref a) "dict" := hm.typeIs
  have keys : ∀ x ∈ xs ++ L.map (·.2), (nestedKind X.prog X.w).is s.heap x.1 x.2.1 := by
    intro x hx
    rcases List.mem_append.mp hx with hx | hx
    · obtain ⟨_, _, _, _, _, _, _, h7, _⟩ := hm
      exact h7 x hx
    · clear PA hl rw' hlen dw ew e2
      generalize hM : L.map (·.2) = M at e3 hx
      clear hM hb hk q hz
      induction e3 with
      | nil => cases hx
      | @cons p q ps qs h t ih =>
        rcases List.mem_cons.mp hx with rfl | hx
        · obtain ⟨h1, h2, h3, _⟩ := h
          rw [h2]
          exact ⟨Dat.nested I 8 _ _ _ h1 h3 rfl, nk_depth h1⟩
        · exact ih hx
  refine call_update_pairsH (knd := nestedKind X.prog X.w) (ps := L.map (·.2)) (acc := xs) PA (I.ok.hd hc) (room8 (show X.A.units + 64 < cLine from hr)) ⟨hl, ?_, fun j kk vv hj => ?_⟩ ?_ ⟨by simp, fun i key v hi => ?_⟩ ?_ hm (by rw [List.length_map, hlen, hlx]; exact hz) fun h' tk hm' keep => ?_
  · simp
  · rw [List.getElem?_map] at hj
    cases hL : L[j]? with
    | none => rw [hL] at hj; cases hj
    | some t =>
      rw [hL] at hj
      cases hj
      refine ⟨by simp [hL], .inl ?_⟩
      simpa [hL] using e2 t (List.mem_of_getElem? hL)
  · intro hmem
    rcases List.mem_cons.mp hmem with e4 | hmem
    · obtain ⟨o, _, ho, hc2, _⟩ := hl
      obtain ⟨o2, ho2, hc3⟩ := dty
      rw [e4, ho] at ho2
      cases ho2
      rw [hc2] at hc3
      exact absurd hc3 (by decide)
    · obtain ⟨j, hj, ej⟩ := List.mem_map.mp hmem
      have hj2 : j < L.length := by simpa using hj
      have ht := e2 L[j] (List.getElem_mem hj2)
      obtain ⟨o, ho, hc2, _⟩ := ht
      obtain ⟨o2, ho2, hc3⟩ := dty
      have ej2 : (L[j]?.getD (0, .none, 0, .none)).1 = a := ej
      rw [List.getElem?_eq_getElem hj2] at ej2
      have ej3 : L[j].1 = a := ej2
      rw [ej3, ho2] at ho
      cases ho
      rw [hc2] at hc3
      exact absurd hc3 (by decide)
  · simp only [PairRel, List.getElem?_map] at hi
    cases hL : L[i]? with
    | none => rw [hL] at hi; cases hi
    | some t =>
      rw [hL] at hi
      cases hi
      exact ⟨t.2.1, t.2.2.1, by simp [hL], rfl⟩
  · intro h2 hk2 x hx
    refine nestedKind_stays.stays (fun c o vs n ec hd => hk2 c o (fun e4 => ?_) (by simp) ec) (keys x hx)
    subst e4
    obtain ⟨o2, es, ep, e5, e6, e7, _⟩ := hm
    rw [ec] at e5
    cases e5
    rw [hd] at e7
    cases e7
  · obtain ⟨I2, tk2, g2⟩ := dct_putW (t' := tk) I g ha e hm' (fun c u hc2 ec => keep c u hc2 (by simp) ec) (ent_puts e3 p) sy (by have := dputs_len more kvs; omega)
    exact ⟨.non, _, I2, rfl, k _ _ _ _ tk2 g2 .non q⟩
end
/-! ### for x in d.values(), d locked -/
def Itfv (P : Program) (w : World) (a : Addr) (o : Obj) (xs : List (NestedKey × Addr × Value)) (vs : List V) : It :=
  ⟨fun i H => H a = some (.frz o (dO P w a xs)) ∧ i < xs.length, fun i H x H' => H' = H ∧ vs[i]? = some x, fun i H => H a = some (.frz o (dO P w a xs)) ∧ xs.length = i⟩
theorem turn_frv {P : Program} {w : World} {K : PySem.W.Frag} {tg : Expr} (a it : Addr) (o : Obj) (es : Array DictEntry) (ep : Nat) (xs : List (NestedKey × Addr × Value)) (vs : List V) (hod : o.data = .dict es ep) (hv : Vals vs (xs.map fun q => q.2.2)) :
    Turn P w K tg (Itfv P w a o xs vs) [it] it (fun i h => h.IsValIter it a i es.size ep) where
  mem := List.mem_cons_self
  obj := fun i h ⟨oi, e, c, dd⟩ b hb => by
    rw [List.mem_singleton] at hb
    subst hb
    exact ⟨oi, e, fun v z => by rw [dd] at z; cases z⟩
  keep := fun i h h' st k => st.at fun oi e => k it List.mem_cons_self oi e
  item := by
    rintro X rfl rfl rfl hc i pins s σ H E I hf st ⟨hd, hi⟩
    obtain ⟨f0, f1, f2, f3, f4, f5⟩ := hf it List.mem_cons_self
    obtain ⟨hgd, sy, hx, es', ep', hdt, hes⟩ := frd_at I hd
    rw [hod] at hdt
    cases hdt
    have hsz : es.size = xs.length := by rw [← Array.length_toList, hes, List.length_map]
    obtain ⟨q, hq⟩ : ∃ q, xs[i]? = some q := ⟨xs[i], List.getElem?_eq_getElem hi⟩
    have hen : es[i]'(by omega) = entryOfKey (nestedKind X.prog X.w) q := by
      have : es[i]? = some (entryOfKey (nestedKind X.prog X.w) q) := by
        rw [← Array.getElem?_toList, hes, List.getElem?_map, hq]
        rfl
      rw [Array.getElem?_eq_getElem (by omega)] at this
      exact Option.some.inj this
    have raw : s.heap.DictRaw a es ep := ⟨o, hgd, hx, hod⟩
    refine wpAny_pyNext_values_item_raw st raw (by omega) fun h' st' sb => ?_
    have I1 : Inv X pins σ H { s with heap := h' } := I.turned (t' := s.toks) (fun b ob hb e => (sb.2 b hb).trans e) f0 f1 f3 f4 f5
    obtain ⟨oi, e, c, dd⟩ := id st'
    have hlv : i < vs.length := by rw [hv.length, List.length_map]; exact hi
    obtain ⟨u, hu, rv⟩ := hv.get (List.getElem?_eq_getElem hlv)
    have rv2 : RelV vs[i] es[i].val := by
      rw [List.getElem?_map, hq] at hu
      rw [hen]
      have e9 : q.2.2 = u := Option.some.inj hu
      show RelV vs[i] q.2.2
      rw [e9]
      exact rv
    exact ⟨_, rfl, go_of (s := { s with heap := h' }) e c dd (by decide) ⟨vs[i], H, I1, rv2, ⟨rfl, List.getElem?_eq_getElem hlv⟩, st', fun b hb => (hf b hb).1⟩⟩
  done := by
    rintro X rfl rfl rfl hc i pins s σ H E I hf st ⟨hd, hi⟩
    obtain ⟨f0, f1, f2, f3, f4, f5⟩ := hf it List.mem_cons_self
    obtain ⟨hgd, sy, hx, es', ep', hdt, hes⟩ := frd_at I hd
    rw [hod] at hdt
    cases hdt
    have hsz : es.size = xs.length := by rw [← Array.length_toList, hes, List.length_map]
    have raw : s.heap.DictRaw a es ep := ⟨o, hgd, hx, hod⟩
    exact wpAny_pyNext_values_end_raw (I.ok.hd hc) st raw (by omega) fun h' eb => ⟨rfl, I.turned (t' := s.toks) (fun b ob hb e => eb b ob hb e) f0 f1 f3 f4 f5⟩
  self := fun A i s Q E st h => wpAny_pyIter_valiter st h
section
variable {X : Cx} {tg e : Expr} {te : GTE} {apos cpos : Pos}
@[simp] def gItV (te : GTE) : GIR := fun ρ G Q => te ρ G fun x G1 => ∃ a kvs, x = .ref a ∧ G1 a = some (.frd kvs) ∧ Q (kvs.map (·.2)) (fun _ => True) G1
theorem gi_frv (h : GE X e te) (hbase : attributeBase e "values" X.env (eval e X.env) = eval e X.env := by rfl) (hline : (apos.endLine == cpos.line) = true := by rfl) : GI X tg (.Call (.Attribute e "values" apos) [] [] cpos) (gItV te) := by
  refine ⟨fun pins s σ H Kf I ⟨ρ, G, R, rs, g, q, k⟩ => ?_⟩
  refine wpAny_Call_method (T := "dict") (id := "dict.values") hbase rfl hline PySem.F.plainAttrs_dict PySem.F.slot_dict_values PySem.F.type_dict_values (thn (PE.run h pins s σ H (fun v H1 => ∃ d G1, TK H H1 ∧ GH X.prog X.w X.K G1 H1 ∧ Dat X.K H1 v d ∧ ∃ a kvs, d = .ref a ∧ G1 a = some (.frd kvs) ∧ R (kvs.map (·.2)) (fun _ => True) G1) I ⟨ρ, G, _, rs, g, q, fun v H1 d G1 k1 g1 h1 q1 => ⟨d, G1, k1, g1, h1, q1⟩⟩) fun u s1 ⟨v, H1, I1, r1, d, G1, k1, g1, h1, a, kvs, ed, ha, q1⟩ => ?_)
  subst ed
  cases dat_ref h1
  obtain rfl : u = Value.ref a := r1
  obtain ⟨z, o, xs, e, p⟩ := g1 a _ ha
  obtain ⟨hgd, sy, hx, es, ep, hdt, hes⟩ := frd_at I1 e
  have hsz : es.size = xs.length := by rw [← Array.length_toList, hes, List.length_map]
  have hl : xs.length = kvs.length := p.length.symm
  obtain ⟨vs, hvs, dvs⟩ := ents_vals p
  have raw : s1.heap.DictRaw a es ep := ⟨o, hgd, hx, hdt⟩
  refine ⟨raw.typeIs, fun b eb => ?_, ?_⟩
  · cases eb
    exact ⟨o, hgd, hx.2.1⟩
  have I2 : Inv X pins σ H1 { s1 with heap := s1.heap.push { cls := .type "dict_values", data := .fields #[.ref a] } } := I1.kept (t' := s1.toks) fun b ob q => Heap.get?_push_of_some _ q
  have fin : wpAny (model X.prog X.w) X.A (pyIter (.ref s1.heap.objs.size)) (PIE X pins σ tg Kf) X.xe { s1 with heap := s1.heap.push { cls := .type "dict_values", data := .fields #[.ref a] } } := by
    refine wpAny_pyIter_values_raw (d := a) (es := es) (ep := ep) ⟨_, Heap.get?_push_size _ rfl, rfl, rfl⟩ (raw.push _) (pi_one (tk := s1.toks) I2 _ (turn_frv a _ o es ep xs vs hdt hvs) ⟨_, Heap.get?_push_size _ rfl, rfl, rfl⟩ ?_)
    refine k _ _ H1 G1 _ k1 g1 q1 fun i H' G' hle k2 g2 _ => ?_
    have e2 := k2.frz a o _ e
    have hvl : vs.length = kvs.length := by rw [dvs.length, List.length_map]
    refine ⟨fun hi => ⟨e2, by rw [List.length_map] at hi hle; omega⟩, fun hi => ⟨⟨e2, by rw [List.length_map] at hi; omega⟩, fun x H'' ⟨eH, ex⟩ => ?_⟩⟩
    subst eH
    obtain ⟨d, ed, hd⟩ := (dvs.mono k2).get ex
    exact ⟨d, ed, TK.refl, g2, hd⟩
  show wpAny _ _ (callWith cpos (.builtin "dict.values") [.ref a] [] []) _ X.xe s1
  exact method_meetsIn PySem.F.slot_dict_values PySem.F.entry_dict_values rfl (PySem.evalArgs_none ⟨rfl, raw.typeIs, PySem.F.args_dict_values_1 _, _, meets_dict_values_raw a sy, ⟨es, ep, raw⟩, fin⟩)
end
end G
set_option Elab.async false
set_option linter.all false
set_option maxRecDepth 100000
set_option maxHeartbeats 4000000
namespace G
open PySem PySem.Spec PyProof.Rows L2
section
variable {X : Cx} {pos : Pos}
/-- a statement that runs while a dict is locked -/
def lockEnds (Z : GEnds) (a : Addr) (kvs : List (D × D)) : GEnds where
  nx := fun ρ' G' => G' a = some (.frd kvs) ∧ Z.nx ρ' (gup G' a (.dct kvs))
  rt := fun d G' => G' a = some (.frd kvs) ∧ Z.rt d (gup G' a (.dct kvs))
  bk := fun ρ' G' => G' a = some (.frd kvs) ∧ Z.bk ρ' (gup G' a (.dct kvs))
  ct := fun ρ' G' => G' a = some (.frd kvs) ∧ Z.ct ρ' (gup G' a (.dct kvs))
def gLockS (t : GTS) : GTS := fun Z ρ G => ∃ a kvs, G a = some (.dct kvs) ∧ t (lockEnds Z a kvs) ρ (gup G a (.frd kvs))
theorem RS.monoW {K : PySem.W.Frag} {H H' : Hp} {σ : L2.St} {ρ : Ro} (k : TKw H H') (r : RS K H σ ρ) : RS K H' σ ρ := ⟨r.len, fun i d e => let ⟨v, h1, h2⟩ := r.at_ i d e; ⟨v, h1, h2.monoW k⟩⟩
theorem tk_through {H H' : Hp} {a : Addr} {u : HO} {od : Obj} (hu : H a = some u) (mu : Mut (some u)) (k : TK (upd H a (.frz od u)) H') : TK H (upd H' a u) := by
  refine ⟨fun b vs e => ?_, fun b o2 w2 e => ?_⟩
  · have hb : b ≠ a := by rintro rfl; rw [hu] at e; cases e; exact mu
    rw [upd_ne hb]
    exact k.tup b vs (by rw [upd_ne hb]; exact e)
  · have hb : b ≠ a := by rintro rfl; rw [hu] at e; cases e; exact mu
    rw [upd_ne hb]
    exact k.frz b o2 w2 (by rw [upd_ne hb]; exact e)
theorem gs_lock {st : Stmt} {t : GTS} (h : GS X st t) : GS X st (gLockS t) :=
  PS.weak (ps_lock h) fun E σ H ⟨ρ, G, Z, rs, g, ⟨a, kvs, ha, q⟩, l⟩ => by
    obtain ⟨u, hu, mu, lk⟩ := gh_lock g ha
    refine ⟨a, u, hu, mu, fun od => ?_⟩
    obtain ⟨tk, g1⟩ := lk od
    have key : ∀ {H' G'}, TK (upd H a (.frz od u)) H' → GH X.prog X.w X.K G' H' → G' a = some (.frd kvs) → H' a = some (.frz od u) ∧ TKw H' (upd H' a u) ∧ GH X.prog X.w X.K (gup G' a (.dct kvs)) (upd H' a u) := fun k1 g' ga =>
      let e1 := k1.frz a od u upd_same
      ⟨e1, gh_unlock g' ga e1⟩
    refine ⟨ρ, _, lockEnds Z a kvs, rs.mono tk, g1, q, ⟨fun σ' H' ρ' G' k1 rs' g' ⟨ga, r⟩ => ?_, fun v H' d G' k1 g' h' ⟨ga, r⟩ => ?_, fun σ' H' ρ' G' k1 rs' g' ⟨ga, r⟩ => ?_, fun σ' H' ρ' G' k1 rs' g' ⟨ga, r⟩ => ?_⟩⟩
    · obtain ⟨e1, kw, g2⟩ := key k1 g' ga
      exact ⟨e1, l.nx σ' _ ρ' _ (tk_through hu mu k1) (rs'.monoW kw) g2 r⟩
    · obtain ⟨e1, kw, g2⟩ := key k1 g' ga
      exact ⟨e1, l.rt v _ d _ (tk_through hu mu k1) g2 (h'.monoW kw) r⟩
    · obtain ⟨e1, kw, g2⟩ := key k1 g' ga
      exact ⟨e1, l.bk σ' _ ρ' _ (tk_through hu mu k1) (rs'.monoW kw) g2 r⟩
    · obtain ⟨e1, kw, g2⟩ := key k1 g' ga
      exact ⟨e1, l.ct σ' _ ρ' _ (tk_through hu mu k1) (rs'.monoW kw) g2 r⟩
/-- sorted(d.values()) -/
@[simp] def gSortV (te : GTE) : GTE := fun ρ G Q => te ρ G fun x G1 => ∃ a kvs, x = .ref a ∧ G1 a = some (.dct kvs) ∧ CanSort (kvs.map (·.2)) ∧ ∀ p, G1 p = none → Q (.ref p) (gup G1 p (.lst (sortD (kvs.map (·.2)))))
theorem vals_acc {P : Program} {w : World} {h : Heap} {xs : List (NestedKey × Addr × Value)} {es : Array DictEntry} {acc : Array Value} (hs : es.size = xs.length) (he : ∀ i (hi : i < es.size), ∃ y, xs[i]? = some y ∧ es[i].key = .ref y.2.1 ∧ es[i].val = y.2.2 ∧ (nestedKind P w).is h y.1 y.2.1)
    (hl : acc.size = es.size) (ha : ∀ (i : Nat) v, acc[i]? = some v → ∃ hi : i < es.size, v = es[i].val) : acc.toList = xs.map fun q => q.2.2 := by
  apply List.ext_getElem?
  intro i
  by_cases hi : i < es.size
  · obtain ⟨y, e1, _, e2, _⟩ := he i hi
    have hi2 : i < acc.size := by omega
    obtain ⟨hi3, e3⟩ := ha i acc[i] (Array.getElem?_eq_getElem hi2)
    rw [Array.getElem?_toList, Array.getElem?_eq_getElem hi2, e3, e2, List.getElem?_map, e1]
    rfl
  · rw [Array.getElem?_toList, Array.getElem?_eq_none (by omega), List.getElem?_eq_none (by rw [List.length_map]; omega)]
theorem ge_sortV {e : Expr} {te : GTE} {p apos cpos : Pos} (hc : X.calm = true) (hr : X.A.units + 64 < cLine) (h : GE X e te) (hm : X.mg "sorted" = none) (hg : Gl X "sorted" := by rfl) (hbase : attributeBase e "values" X.env (eval e X.env) = eval e X.env := by rfl) (hline : (apos.endLine == cpos.line) = true := by rfl)
    (hs1 : starEach [.Call (.Attribute e "values" apos) [] [] cpos] X.env = (false, eval (.Call (.Attribute e "values" apos) [] [] cpos) X.env) :: starEach [] X.env := by rfl) (hpl : (backTo pos (starEach [] X.env)).any (·.1) = false := by rfl) :
    GE X (.Call (.Name "sorted" p) [.Call (.Attribute e "values" apos) [] [] cpos] [] pos) (gSortV te) := by
  refine ⟨fun pins s σ H Q I ⟨ρ, G, R, rs, g, q, k⟩ => ?_⟩
  refine wpAny_Call_Name_kw (ld_blt I hg hm boot_sorted ?_ (by decide) (by decide))
  refine PyProof.Rows.callWith_builtin1 ?_ hs1 hpl
  rw [hs1]
  show wpAny _ _ (spliced ((false, eval (.Call (.Attribute e "values" apos) [] [] cpos) X.env) :: backTo pos (starEach [] X.env))) _ _ s
  refine Calls.spliced_cons (wpAny_Call_method (T := "dict") (id := "dict.values") hbase rfl hline PySem.F.plainAttrs_dict PySem.F.slot_dict_values PySem.F.type_dict_values (thn (PE.run h pins s σ H (fun v H1 => ∃ d G1, TK H H1 ∧ GH X.prog X.w X.K G1 H1 ∧ Dat X.K H1 v d ∧ ∃ a kvs, d = .ref a ∧ G1 a = some (.dct kvs) ∧ CanSort (kvs.map (·.2)) ∧ ∀ p, G1 p = none → R (.ref p) (gup G1 p (.lst (sortD (kvs.map (·.2)))))) I ⟨ρ, G, _, rs, g, q, fun v H1 d G1 k1 g1 h1 q1 => ⟨d, G1, k1, g1, h1, q1⟩⟩) fun u s1 ⟨v, H1, I1, r1, d, G1, k1, g1, h1, a, kvs, ed, ha, cs, q1⟩ => ?_))
  subst ed
  cases dat_ref h1
  obtain rfl : u = Value.ref a := r1
  obtain ⟨z, ys, ex, pp, sy, hmm⟩ := dct_at I1 g1 ha
  obtain ⟨es, ep, raw, hsz, he⟩ := hmm.raw
  have hl2 : ys.length = kvs.length := pp.length.symm
  obtain ⟨o, hgd, hx, hdt⟩ := id raw
  refine ⟨raw.typeIs, fun b eb => ?_, ?_⟩
  · cases eb
    exact ⟨o, hgd, hx.2.1⟩
  have I2 : Inv X pins σ H1 { s1 with heap := s1.heap.push { cls := .type "dict_values", data := .fields #[.ref a] } } := I1.kept (t' := s1.toks) fun b ob q => Heap.get?_push_of_some _ q
  obtain ⟨vs, hvs, dvs⟩ := ents_vals pp
  obtain ⟨ok, al, so⟩ := cs
  have fin : wpAny (model X.prog X.w) X.A (call (.builtin "sorted") [.ref s1.heap.objs.size]) (EP X pins σ Q) X.xe { s1 with heap := s1.heap.push { cls := .type "dict_values", data := .fields #[.ref a] } } := by
    refine Calls.call_function_entry PyProof.Rows.kind_sorted PyProof.Rows.plain_sorted PyProof.Rows.entry_sorted (PyProof.Rows.args_sorted1 _) ?_
    unfold Builtin.«sorted»
    refine wpAny_bind (m := checkCount "sorted" 1 1 _) (wpAny_pure ?_)
    have K0 := KdlSrc.rawValues (prog := X.prog) (w := X.w) (r := s1.heap.objs.size) (d := a) (es := es) (ep := ep)
    have ok0 : Heap.IsValuesView (s1.heap.push { cls := .type "dict_values", data := .fields #[.ref a] }) s1.heap.objs.size a ∧ (s1.heap.push { cls := .type "dict_values", data := .fields #[.ref a] }).DictRaw a es ep := ⟨⟨_, Heap.get?_push_size _ rfl, rfl, rfl⟩, raw.push _⟩
    refine wpAny_bind (PySem.W.kdu_collect (A := X.A.in1) K0 (I.ok.hd hc) ok0 (by omega) fun h' tk acc hk hacc => ?_)
    have hacc2 : acc.toList = ys.map fun q => q.2.2 := vals_acc (h := s1.heap) hsz he hacc.1 fun i v e => hacc.2 i v e
    have I3 : Inv X pins σ H1 { s1 with heap := h', toks := tk } := I2.kept hk
    have rv : Vals vs acc.toList := by rw [hacc2]; exact hvs
    have zl : acc.toList.length ≤ sizeLine := by rw [hacc2, List.length_map, hl2]; exact z
    refine wpAny_bind (wpAny_newList ?_ zl)
    have hoL : (h'.push (seqObj "list" acc.toList.toArray 0)).get? h'.objs.size = some (seqObj "list" acc.toList.toArray 0) := Heap.get?_push_size _ rfl
    show wpAny _ _ _ _ _ { s1 with heap := h'.push (seqObj "list" acc.toList.toArray 0), toks := tk }
    have I4 : Inv X pins σ H1 { s1 with heap := h'.push (seqObj "list" acc.toList.toArray 0), toks := tk } := I3.kept (t' := tk) fun b o e => Heap.get?_push_of_some _ e
    have er : PySem.W.EachIs (fun u d => ∃ as, Reads (h'.push (seqObj "list" acc.toList.toArray 0)) u (toP d) as ∧ h'.objs.size ∉ as) acc.toList (kvs.map (·.2)) :=
      (each_reads I4 rv dvs ok).mono fun u d ⟨as, r⟩ => ⟨as, r, by rw [reads_nil r]; simp⟩
    have hu : ∀ b, b ∈ kvs.map (·.2) → X.A.units + 2 + (toP b).depth < cLine := fun b hb => by
      have := depth_toP (of_okeyAll ok b hb)
      omega
    refine wpAny_bind (wpAny_holding (PySem.W.list_sort_data (s := { s1 with heap := h'.push (seqObj "list" acc.toList.toArray 0), toks := tk }) (bs := kvs.map (·.2)) (enc := toP) (R := fun u d => ∃ v, RelV v u ∧ Dat X.K H1 v d) hoL (each_to rv dvs) er al so (by rw [List.length_map]; exact z) (fun b hb => by
      have := hu b hb
      show X.A.units + 1 + 1 + (toP b).depth < cLine
      omega) fun out ho eo => ?_))
    obtain ⟨ws, w1, w2⟩ := each_of (α := Unit) eo
    obtain ⟨e', he'⟩ := PyProof.Rows.sortedHeap_at (vs := acc.toList) (out := out.toArray) hoL
    have hn : H1 h'.objs.size = none := I3.hok.fresh (Nat.le_refl _)
    have zo : ws.length ≤ sizeLine := by rw [w2.length, List.length_mergeSort, List.length_map]; exact z
    refine wpAny_pure ⟨_, rfl, .ref h'.objs.size, upd H1 h'.objs.size (.lst ws), I3.laid (t' := tk) (fun b u e => ?_) (Nat.le_refl _) ⟨zo, out, e', w1, he'⟩, rfl, ?_⟩
    · have hb : b < h'.objs.size := Heap.lt_size e
      rw [PyProof.Rows.sortedHeap_old (Nat.ne_of_lt hb) (by rw [size_push']; exact Nat.lt_succ_of_lt hb)]
      exact Heap.get?_push_of_some _ e
    · exact k _ _ _ _ (k1.trans (TK.new hn)) (g1.new hn (gok_lst (ds := sortD (kvs.map (·.2))) (by rw [sortD_len, List.length_map]; exact z) (w2.mono (TK.new hn)) upd_same)) (.ref _) (q1 _ (g1.ne hn))
  show wpAny _ _ (callWith cpos (.builtin "dict.values") [.ref a] [] []) _ X.xe s1
  exact method_meetsIn PySem.F.slot_dict_values PySem.F.entry_dict_values rfl (PySem.evalArgs_none ⟨rfl, raw.typeIs, PySem.F.args_dict_values_1 _, _, meets_dict_values_raw a sy, ⟨es, ep, raw⟩, Calls.spliced_nil fin⟩)
end
end G
set_option Elab.async false
set_option linter.all false
set_option maxRecDepth 100000
set_option maxHeartbeats 4000000
namespace G
open PySem PySem.Spec PyProof.Rows L2
/-! ### t[::-1] of a tuple -/
section
variable {prog : Program} {w : World} {A : Around} {E : Value → Shared → Prop} {s : Shared}
theorem back_picks (xs : Array Value) : ((List.range xs.size).filterMap fun (m : Nat) => xs[(((xs.size : Int) - 1) + (m : Int) * (-1)).toNat]?).toArray = xs.toList.reverse.toArray := by
  congr 1
  have e : (fun (m : Nat) => xs[(((xs.size : Int) - 1) + (m : Int) * (-1)).toNat]?) = (fun k => xs[k]?) ∘ fun k => xs.size - 1 - k := by
    funext m
    have : (((xs.size : Int) - 1) + (m : Int) * (-1)).toNat = xs.size - 1 - m := by omega
    rw [this]
    rfl
  rw [e, ← List.filterMap_map, PySem.W.krv_range, List.filterMap_reverse, PySem.W.krv_all]
theorem back_applied {sl : Addr} {vl vu vs : Value} {n : Nat} {Q : Int × Int × Nat → Shared → Prop} (hs : s.heap.IsSliceOf sl vl vu vs) (pl : IsPart vl none) (pu : IsPart vu none) (ps : IsPart vs (some (-1)))
    (h : Q ((n : Int) - 1, -1, n) s) : wpAny (model prog w) A (Builtin.Slice.sliceApplied (.ref sl) (pure (n : Int))) Q E s := by
  obtain ⟨os, hos, hcs, hds⟩ := id hs
  unfold Builtin.Slice.sliceApplied Builtin.Slice.sliceFields
  refine wpAny_bind (wpAny_bind (wpAny_field hos hds (x := vl) rfl (wpAny_bind (wpAny_field hos hds (x := vu) rfl (wpAny_bind (wpAny_field hos hds (x := vs) rfl (wpAny_pure ?_)))))))
  refine wpAny_bind (HT.slicePart_ ps ?_)
  show wpAny _ _ (if ((-1 : Int) == 0) = true then _ else _) _ _ s
  rw [if_neg (by decide)]
  refine wpAny_bind (HT.slicePart_ pl (wpAny_bind (HT.slicePart_ pu (wpAny_bind (wpAny_pure ?_)))))
  have e : Builtin.Slice.slicePlaces ((n : Int) - 1) (-1) (-1) = n := by
    unfold Builtin.Slice.slicePlaces
    rw [if_neg (by decide)]
    by_cases hz : n = 0
    · subst hz; rfl
    · rw [if_pos (by omega)]
      have : (((n : Int) - 1) - -1 - 1) / (- -1) + 1 = (n : Int) := by
        rw [show (- -1 : Int) = 1 from rfl, Int.ediv_one]; omega
      rw [this]
      rfl
  show wpAny _ _ (pure ((n : Int) - 1, (-1 : Int), Builtin.Slice.slicePlaces ((n : Int) - 1) (-1) (-1))) _ _ s
  rw [e]
  exact wpAny_pure h
theorem back_tuple {t sl : Addr} {items : Array Value} {vl vu vs : Value} {Q : Value → Shared → Prop} (ht : IsTup s.heap t items) (hs : s.heap.IsSliceOf sl vl vu vs) (pl : IsPart vl none) (pu : IsPart vu none) (ps : IsPart vs (some (-1)))
    (h : Q (.ref s.heap.objs.size) { s with heap := s.heap.push { cls := .type "tuple", data := .seq items.toList.reverse.toArray } }) (hsz : items.size ≤ sizeLine) : wpAny (model prog w) A (getItem (.ref t) (.ref sl)) Q E s := by
  have room : sizeOk (.seq items.toList.reverse.toArray) := by
    show items.toList.reverse.toArray.size ≤ sizeLine
    simpa using hsz
  obtain ⟨os, hos, hcs, hds⟩ := id hs
  have hTs : s.TypeIs (.ref sl) "slice" := ⟨os, hos, hcs⟩
  unfold getItem
  try with_reducible refine wpAny_holding ?_
  first | refine wpAny_bind (wpAny_pure ?_) | skip
  refine wpAny_bind (wpAny_sequenceKey ht.typeIs (by decide) (wpAny_bind (wpAny_callSpecial?_slot (name := Str.ofString "__getitem__") ht.typeIs PyProof.Rows.slot_tuple_getitem (wpAny_call_entry PyProof.Rows.slot_tuple_getitem ht.typeIs entry_tuple_getitem ?_ (args_tuple_getitem _ _)))))
  show wpAny _ _ (Builtin.Tuple.tupleItemsOf (.ref t) >>= fun _ => _) _ _ s
  refine wpAny_bind (tupleItemsOf_ ht (wpAny_bind (wpAny_typeOf hTs ?_)))
  rw [if_pos (by decide)]
  refine wpAny_bind (back_applied hs pl pu ps ?_)
  have no : ¬ ((((items.size : Int) - 1) == 0 && (-1 : Int) == 1 && items.size == items.size) = true) := by simp
  show wpAny _ _ (if (((items.size : Int) - 1) == 0 && (-1 : Int) == 1 && items.size == items.size) = true then _ else _) _ _ s
  rw [if_neg no, back_picks]
  first
    | exact wpAny_bind (m := Builtin.Tuple.tupleExact _) (wpAny_newObj_type (wpAny_pure ⟨_, rfl, wpAny_pure h⟩) room)
    | exact wpAny_bind (m := Builtin.Tuple.tupleExact _) (wpAny_newObj_type (wpAny_bind (wpAny_pure (wpAny_pure ⟨_, rfl, wpAny_pure h⟩))) room)
    | exact wpAny_bind (wpAny_bind (m := Builtin.Tuple.tupleExact _) (wpAny_newObj_type (wpAny_pure (wpAny_pure ⟨_, rfl, wpAny_pure h⟩)) room))
    | exact wpAny_bind (wpAny_bind (m := Builtin.Tuple.tupleExact _) (wpAny_newObj_type (wpAny_pure ⟨_, rfl, wpAny_pure h⟩) room))
end
section
variable {X : Cx} {e : Expr} {te : GTE} {j : Nat} {p1 p2 p3 pos : Pos}
@[simp] def gRevT (te : GTE) : GTE := fun ρ G Q => te ρ G fun x G1 => ∃ ds, x = .tup ds ∧ Q (.tup ds.reverse) G1
theorem ge_revT (he : GE X e te) : GE X (.Subscript e (.Slice none none (some (.UnaryOp .USub (.Constant (.int 1) j p1) p2)) p3) pos) (gRevT te) := by
  refine ⟨fun pins s σ H Q I ⟨ρ, G, R, rs, g, q, k⟩ => ?_⟩
  refine Subscript_ (thn (PE.run he pins s σ H (fun v H1 => ∃ d G1, TK H H1 ∧ GH X.prog X.w X.K G1 H1 ∧ Dat X.K H1 v d ∧ ∃ ds, d = .tup ds ∧ R (.tup ds.reverse) G1) I ⟨ρ, G, _, rs, g, q, fun v H1 d G1 k1 g1 h1 q1 => ⟨d, G1, k1, g1, h1, q1⟩⟩) fun v s1 ⟨x, H1, I1, r1, d, G1, k1, g1, h1, ds, ed, q1⟩ => ?_)
  subst ed
  obtain ⟨a, xs, rfl, hx, dx⟩ := dat_tup h1
  obtain rfl : v = Value.ref a := r1
  have hst : PO X (some (.UnaryOp .USub (.Constant (.int 1) j p1) p2)) (tPart (tUn (rU fun i => .int (-i)) (tC (.int 1)))) := po_some (pe_un un_neg pe_int)
  refine wpAny_Slice (thn (po_none.run pins s1 σ H1 (fun o H2 => o = none ∧ H2 = H1) I1 ⟨rfl, rfl⟩) fun vl s2 ⟨l, H2, I2, pl, el, e2⟩ => ?_)
  subst el e2
  refine thn (po_none.run pins s2 σ H2 (fun o H3 => o = none ∧ H3 = H2) I2 ⟨rfl, rfl⟩) fun vu s3 ⟨u, H3, I3, pu, eu, e3⟩ => ?_
  subst eu e3
  refine thn (hst.run pins s3 σ H3 (fun o H4 => o = some (-1) ∧ H4 = H3) I3 ⟨1, rfl, -1, rfl, rfl, rfl⟩) fun vs s4 ⟨o, H4, I4, ps, eo, e4⟩ => ?_
  subst eo e4
  have I5 : Inv X pins σ H4 { s4 with heap := s4.heap.push { cls := .type "slice", data := .fields #[vl, vu, vs] } } := I4.kept (t' := s4.toks) fun b ob z => Heap.get?_push_of_some _ z
  obtain ⟨its, r, ht, hz⟩ := I5.tuple hx
  have hlen := r.length
  show wpAny (model X.prog X.w) X.A (subscriptTail e (.Slice none none (some (.UnaryOp .USub (.Constant (.int 1) j p1) p2)) p3) (.ref a) (.ref s4.heap.objs.size)) (EP X pins σ Q) X.xe { s4 with heap := s4.heap.push { cls := .type "slice", data := .fields #[vl, vu, vs] } }
  refine tail_any (ops := [.ref a, .ref s4.heap.objs.size]) ht.typeIs (PyProof.Rows.slot_tuple_getitem.lookup) ?_ (by with_unfolding_all rfl)
  refine back_tuple ht (Heap.IsSliceOf.new _ vl vu vs) pl pu ps ?_ (by rw [List.size_toArray]; omega)
  have nw := I5.hok.fresh (Nat.le_refl _)
  refine ⟨.ref _, _, I5.laid (t' := s4.toks) (o := .tup xs.reverse) (fun b ob z => Heap.get?_push_of_some _ z) (Nat.le_refl _) ?_, rfl, k _ _ _ _ (k1.trans (TK.new nw)) (g1.grow nw) (.tup (SqT.of upd_same) (dx.reverse.mono (TK.new nw))) q1⟩
  exact ⟨by rw [List.length_reverse]; exact hz, _, r.reverse, IsTup.new _ _⟩
end
end G
set_option Elab.async false
set_option linter.all false
set_option maxRecDepth 100000
set_option maxHeartbeats 4000000
namespace G
open PySem PySem.Spec PyProof.Rows L2
/-! ### sorted(a text) -/
section
variable {X : Cx} {pos : Pos}
theorem signs_ok {K : PySem.W.Frag} {H : Hp} (x : Str) : ∀ (n i : Nat) (acc : List Value), acc.length = n → i + n = x.cps.size → (∀ (j : Nat) v, acc[j]? = some v → SignAt x (i + j) v) →
    ∃ vs, Vals vs acc ∧ DatL K H vs ((x.cps.toList.drop i).map fun c => D.str ⟨#[c]⟩)
  | 0, i, acc, hl, hi, h => by
    have : acc = [] := List.eq_nil_of_length_eq_zero hl
    subst this
    have e : x.cps.toList.drop i = [] := List.drop_eq_nil_of_le (by rw [Array.length_toList]; omega)
    rw [e]
    exact ⟨[], .nil, .nil⟩
  | n + 1, i, [], hl, hi, h => by cases hl
  | n + 1, i, v :: acc, hl, hi, h => by
    obtain ⟨c, u, hc, rfl⟩ := h 0 v rfl
    rw [Nat.add_zero] at hc
    obtain ⟨vs, h1, h2⟩ := signs_ok (K := K) (H := H) x n (i + 1) acc (by simpa using hl) (by omega) fun j v e => by
      have := h (j + 1) v (by simpa using e)
      rwa [show i + 1 + j = i + (j + 1) by omega]
    have e : x.cps.toList.drop i = c :: x.cps.toList.drop (i + 1) := by
      have hlt : i < x.cps.toList.length := by rw [Array.length_toList]; omega
      rw [List.drop_eq_getElem_cons hlt]
      congr 1
      have h3 : x.cps.toList[i]? = some c := by rw [Array.getElem?_toList]; exact hc
      rw [List.getElem?_eq_getElem hlt] at h3
      exact Option.some.inj h3
    rw [e]
    exact ⟨.str ⟨#[c]⟩ :: vs, .cons ⟨u, rfl⟩ h1, .cons (.str _) h2⟩
@[simp] def rSortX : List D → Gp → GK → Prop := fun ds G Q => ∃ x : Str, ds = [.str x] ∧ x.cps.size ≤ 1000 ∧ ∀ p, G p = none → Q (.ref p) (gup G p (.lst (sortD (strD x))))
theorem strs_alike (x : Str) : okeyAll 8 (strD x) = true ∧ PySem.W.AllAlike ((strD x).map toP) ∧ PySem.W.Sortable ((strD x).map toP) := by
  refine ⟨okeyAll_of fun d hd => ?_, fun d hd d' hd' => ?_, .inr fun d hd => ?_⟩
  · obtain ⟨c, _, rfl⟩ := List.mem_map.mp hd
    rfl
  · obtain ⟨e, he, rfl⟩ := List.mem_map.mp hd
    obtain ⟨e', he', rfl⟩ := List.mem_map.mp hd'
    obtain ⟨c, _, rfl⟩ := List.mem_map.mp he
    obtain ⟨c', _, rfl⟩ := List.mem_map.mp he'
    rfl
  · obtain ⟨e, he, rfl⟩ := List.mem_map.mp hd
    obtain ⟨c, _, rfl⟩ := List.mem_map.mp he
    show PyData.str _ ≠ PyData.none ∧ ∀ xs, PyData.str _ ≠ PyData.tuple xs
    exact ⟨(nomatch ·), fun _ => (nomatch ·)⟩
theorem cSortX (hc : X.calm = true) (hr : X.A.units + 64 < cLine) : GCall X (.builtin "sorted") rSortX := by
  intro pins s σ H us ws Q I r h
  obtain ⟨G, R, ds, g, hd, ⟨x, rfl, hz, q⟩, k⟩ := h
  obtain ⟨v, rfl, hv⟩ := datL_one hd
  cases dat_str hv
  obtain ⟨u, rfl, t, rfl⟩ := vals1 r
  obtain ⟨ok, al, so⟩ := strs_alike x
  have zs : x.cps.size ≤ sizeLine := by rw [sizeLine_eq]; omega
  have hlen : (strD x).length = x.cps.size := by simp [strD]
  refine Calls.call_function_entry PyProof.Rows.kind_sorted PyProof.Rows.plain_sorted PyProof.Rows.entry_sorted (PyProof.Rows.args_sorted1 _) ?_
  unfold Builtin.«sorted»
  refine wpAny_bind (m := checkCount "sorted" 1 1 _) (wpAny_pure (wpAny_bind (wpAny_collect_str (A := X.A.in1) (I.ok.hd hc) x t (hn := zs) fun s' acc hk hg hdr hos hacc => ?_)))
  obtain ⟨h', g', d', tk, os'⟩ := s'
  simp only at hk hg hdr hos
  subst hg hdr hos
  have I1 : Inv X pins σ H { s with heap := h', toks := tk } := I.kept hk
  obtain ⟨vs, rv, dv⟩ := signs_ok (K := X.K) (H := H) x x.cps.size 0 acc.toList (by rw [Array.length_toList]; exact hacc.1) (by omega) fun j v e => by
    rw [Nat.zero_add]
    exact hacc.2 j v (by rw [← Array.getElem?_toList]; exact e)
  have dv : DatL X.K H vs (strD x) := dv
  have zl : acc.toList.length ≤ sizeLine := by rw [Array.length_toList, hacc.1]; exact zs
  refine wpAny_bind (wpAny_newList ?_ zl)
  have hoL : (h'.push (seqObj "list" acc.toList.toArray 0)).get? h'.objs.size = some (seqObj "list" acc.toList.toArray 0) := Heap.get?_push_size _ rfl
  show wpAny _ _ _ _ _ { s with heap := h'.push (seqObj "list" acc.toList.toArray 0), toks := tk }
  have I2 : Inv X pins σ H { s with heap := h'.push (seqObj "list" acc.toList.toArray 0), toks := tk } := I1.kept (t' := tk) fun b o e => Heap.get?_push_of_some _ e
  have er : PySem.W.EachIs (fun u d => ∃ as, Reads (h'.push (seqObj "list" acc.toList.toArray 0)) u (toP d) as ∧ h'.objs.size ∉ as) acc.toList (strD x) :=
    (each_reads I2 rv dv ok).mono fun u d ⟨as, r⟩ => ⟨as, r, by rw [reads_nil r]; simp⟩
  have hu : ∀ b, b ∈ strD x → X.A.units + 2 + (toP b).depth < cLine := fun b hb => by
    have := depth_toP (of_okeyAll ok b hb)
    omega
  refine wpAny_bind (wpAny_holding (PySem.W.list_sort_data (s := { s with heap := h'.push (seqObj "list" acc.toList.toArray 0), toks := tk }) (bs := strD x) (enc := toP) (R := fun u d => ∃ v, RelV v u ∧ Dat X.K H v d) hoL (each_to rv dv) er al so (by rw [hlen]; exact zs) (fun b hb => by
    have := hu b hb
    show X.A.units + 1 + 1 + (toP b).depth < cLine
    omega) fun out ho eo => ?_))
  obtain ⟨ws, w1, w2⟩ := each_of (α := Unit) eo
  obtain ⟨e', he'⟩ := PyProof.Rows.sortedHeap_at (vs := acc.toList) (out := out.toArray) hoL
  have hn : H h'.objs.size = none := I1.hok.fresh (Nat.le_refl _)
  have zo : ws.length ≤ sizeLine := by rw [w2.length, List.length_mergeSort, hlen]; exact zs
  refine wpAny_pure ⟨_, rfl, .ref h'.objs.size, upd H h'.objs.size (.lst ws), I1.laid (t' := tk) (fun b u e => ?_) (Nat.le_refl _) ⟨zo, out, e', w1, he'⟩, rfl, ?_⟩
  · have hb : b < h'.objs.size := Heap.lt_size e
    rw [PyProof.Rows.sortedHeap_old (Nat.ne_of_lt hb) (by rw [size_push']; exact Nat.lt_succ_of_lt hb)]
    exact Heap.get?_push_of_some _ e
  · exact k _ _ _ _ (TK.new hn) (g.new hn (gok_lst (ds := sortD (strD x)) (by rw [sortD_len, hlen]; exact zs) (w2.mono (TK.new hn)) upd_same)) (.ref _) (q _ (g.ne hn))
/-! ### len(set(cells)) -/
/-- how many unlike ones -/
def unlike : List (List Int) → Nat
  | [] => 0
  | x :: xs => if x ∈ xs then unlike xs else unlike xs + 1
@[simp] def gLenSet (te : GTE) : GTE := fun ρ G Q => te ρ G fun x G1 => ∃ (a : Addr) (ks : List (List Int)), x = .ref a ∧ G1 a = some (.lst (ks.map fun k => D.tup (k.map D.int))) ∧ ks.length < 64 ∧ ∀ n : Nat, (n = ks.length ↔ ks.Nodup) → n ≤ ks.length → Q (.int n) G1
theorem tups_keys {K : PySem.W.Frag} {H : Hp} : ∀ {ks : List (List Int)} {vs : List V}, DatL K H vs (ks.map fun k => D.tup (k.map D.int)) → ∃ ps : List (Addr × List Int), vs = ps.map (fun p => V.ref p.1) ∧ ps.map (·.2) = ks ∧ ∀ p ∈ ps, SqT K H p.1 (p.2.map V.int)
  | [], _, .nil => ⟨[], rfl, rfl, by simp⟩
  | k :: ks, _, .cons h t => by
    obtain ⟨a, ws, rfl, hs, hd⟩ := dat_tup h
    cases datL_map (f := V.int) dat_int hd
    obtain ⟨ps, e1, e2, e3⟩ := tups_keys t
    refine ⟨(a, k) :: ps, by rw [e1]; rfl, by rw [List.map_cons, e2], fun p hp => ?_⟩
    rcases List.mem_cons.mp hp with rfl | hp
    · exact hs
    · exact e3 p hp
theorem nodup_le {α : Type} [DecidableEq α] : ∀ {A B : List α}, A.Nodup → (∀ x ∈ A, x ∈ B) → A.length ≤ B.length
  | [], _, _, _ => Nat.zero_le _
  | a :: A, B, hA, hs => by
    have h1 := List.nodup_cons.mp hA
    have ha := hs a List.mem_cons_self
    have := nodup_le (A := A) (B := B.erase a) h1.2 fun c hc => (List.mem_erase_of_ne (fun e => h1.1 (by rw [← e]; exact hc))).mpr (hs c (List.mem_cons_of_mem _ hc))
    rw [List.length_erase_of_mem ha] at this
    have := List.length_pos_of_mem ha
    rw [List.length_cons]; omega
theorem nodup_of_le {α : Type} [DecidableEq α] : ∀ {A B : List α}, A.Nodup → (∀ x ∈ A, x ∈ B) → B.length ≤ A.length → B.Nodup
  | A, [], _, _, _ => List.nodup_nil
  | A, b :: B, hA, hs, hl => by
    rw [List.length_cons] at hl
    have no : ∀ {l : List α}, l.Nodup → (∀ x ∈ l, x ∈ B) → B.length < l.length → False := fun h1 h2 h3 => by
      have := nodup_le h1 h2
      omega
    have hin : ∀ x ∈ A, x ≠ b → x ∈ B := fun x hx hn => (List.mem_cons.mp (hs x hx)).resolve_left hn
    have nb : b ∉ B := fun hm => no hA (fun x hx => by
      by_cases e : x = b
      · rw [e]; exact hm
      · exact hin x hx e) (by omega)
    have hb : b ∈ A := Classical.byContradiction fun h => no hA (fun x hx => hin x hx fun e => h (e ▸ hx)) (by omega)
    exact List.nodup_cons.mpr ⟨nb, nodup_of_le (A := A.erase b) (hA.erase b) (fun x hx => hin x (List.mem_of_mem_erase hx) fun e => (List.Nodup.not_mem_erase hA) (e ▸ hx)) (by rw [List.length_erase_of_mem hb]; omega)⟩
theorem ge_lenSet {a : Expr} {ta : GTE} {p p2 q : Pos} (hc : X.calm = true) (hu : X.A.units + 64 < cLine) (ha : GE X a ta) (hm : X.mg "len" = none) (hm2 : X.mg "set" = none) (hg : Gl X "len" := by rfl) (hg2 : Gl X "set" := by rfl)
    (na : starEach [a] X.env = (false, eval a X.env) :: starEach [] X.env := by rfl) : GE X (.Call (.Name "len" p) [.Call (.Name "set" p2) [a] [] q] [] pos) (gLenSet ta) := by
  refine ⟨fun pins s σ H Q I h => ?_⟩
  obtain ⟨ρ, G, R, rs, g, q0, k⟩ := h
  refine Call_ (ld_blt I hg hm PySem.boot_len ?_)
  refine PyProof.Rows.callWith_builtin1 (PyProof.Rows.args_cons ?_ rfl) rfl rfl
  refine Call_ (ld_blt I hg2 hm2 PyProof.Rows.boot_set ?_)
  refine PyProof.Rows.callWith_type1 (PyProof.Rows.args_cons (thn (ha.run pins s σ H (fun v H1 => ∃ d G1, TK H H1 ∧ GH X.prog X.w X.K G1 H1 ∧ Dat X.K H1 v d ∧ ∃ (a : Addr) (ks : List (List Int)), d = .ref a ∧ G1 a = some (.lst (ks.map fun k => D.tup (k.map D.int))) ∧ ks.length < 64 ∧ ∀ n : Nat, (n = ks.length ↔ ks.Nodup) → n ≤ ks.length → R (.int n) G1) I ⟨ρ, G, _, rs, g, q0, fun v H1 d G1 k1 g1 h1 q1 => ⟨d, G1, k1, g1, h1, q1⟩⟩) fun v s1 ⟨x, H1, I1, r1, q1⟩ => PyProof.Rows.args_nil ?_) na) na rfl
  obtain ⟨d, G1, k1, g1, h1, l, ks, rfl, hl, hz, q1⟩ := q1
  cases dat_ref h1
  cases r1
  obtain ⟨vs, ev, dv⟩ := list_of g1 hl
  obtain ⟨ps, e1, e2, e3⟩ := tups_keys dv
  subst e1 e2
  obtain ⟨its, r, pl, hz2⟩ := I1.list (SqL.of ev)
  rw [List.length_map] at hz
  refine call_set_tups (P := X.prog) (w := X.w) ps (I1.ok.hd hc) pl.isList (by simpa using refs_of_vals r) (fun p hp => I1.isT (e3 p hp)) hz (by omega) fun h' tk L es ep t S gt hk => ?_
  refine PyProof.Rows.args_nil ?_
  have zs := SetTR.size (s := { s1 with heap := h', toks := tk }) S
  obtain ⟨o, ho, hex, hd⟩ := S.ob
  have I2 : Inv X pins σ H1 { s1 with heap := h', toks := tk } := I1.kept hk
  have nn : L.length = (ps.map (·.2)).length ↔ (ps.map (·.2)).Nodup := by
    have hsub : ∀ x ∈ L.map (·.2), x ∈ ps.map (·.2) := fun x hx => by
      obtain ⟨p, hp, rfl⟩ := List.mem_map.mp hx
      exact List.mem_map_of_mem (List.mem_of_mem_take (gt.sub p hp))
    have hall : ∀ x ∈ ps.map (·.2), x ∈ L.map (·.2) := fun x hx => by
      obtain ⟨p, hp, rfl⟩ := List.mem_map.mp hx
      exact gt.all p (by rw [List.take_length]; exact hp)
    have ll : L.length = (L.map (·.2)).length := by rw [List.length_map]
    rw [ll]
    refine ⟨fun e => nodup_of_le S.nd hsub (by omega), fun h => ?_⟩
    have := nodup_le h hall
    have := nodup_le S.nd hsub
    omega
  have lle : L.length ≤ (ps.map (·.2)).length := by rw [List.length_map]; exact gt.len
  refine call_len_set ho hex hd (SetTR.fits (s := { s1 with heap := h', toks := tk }) S) (by rw [zs, List.length_map] at * <;> omega) ⟨.int L.length, H1, I2.tok _, ⟨_, by rw [zs]⟩, k _ H1 _ G1 k1 g1 (.int _) (q1 L.length nn lle)⟩
end
end G
set_option Elab.async false
set_option linter.all false
set_option maxRecDepth 100000
set_option maxHeartbeats 4000000
namespace G
open PySem PySem.Spec PyProof.Rows L2
open PySem.Sem (wp)
/-! ### zip(a tuple, a list, strict=True) -/
theorem zs_tc (a b : Value) : checkTypeCall "zip" ⟨[a, b], [(Str.ofString "strict", .bool true)]⟩ = pure () := by kernel_rfl
theorem zs_nc (a b : Value) : checkBuiltinCall "zip.__new__" ⟨[.type "zip", a, b], [(Str.ofString "strict", .bool true)]⟩ = pure () := by kernel_rfl
theorem zs_ok (ob a b : Value) : argsOk "object.__init__" ⟨[ob, a, b], [(Str.ofString "strict", .bool true)]⟩ := by unfold argsOk; kernel_rfl
/-- a strict zip as it stands -/
abbrev IsStr (h : Heap) (q pI pO : Addr) (f0 : Value) : Prop :=
  h.get? q = some { cls := .type "zip", dict := none, data := .fields #[f0, .bool false, .bool true, .ref pI, .ref pO], slots := #[] }
section
variable {prog : Program} {w : World} {A : Around} {E : Value → Shared → Prop} {s : Shared}
theorem pass_if {α : Type} {c : Prop} {dc : Decidable c} {m1 m2 : Sem α} {Q : α → Shared → Prop} (hc : ¬ c) (h : wpAny (model prog w) A m2 Q E s) : wpAny (model prog w) A (if c then m1 else m2) Q E s := by
  rw [if_neg hc]
  exact h
theorem orEnd_some {it : Value} {Q : Option Value → Shared → Prop} (h : wpAny (model prog w) A (Builtin.SmallTypes.nextOf it) (fun v s' => Q (some v) s') (fun e s' => wpAny (model prog w) A (do if ← isInstance e (.type "StopIteration") then pure none else throw e) Q E s') s) :
    wpAny (model prog w) A (Builtin.SmallTypes.nextOrEnd it) Q E s := by
  unfold Builtin.SmallTypes.nextOrEnd
  exact wpAny_bind (wpAny_attempt (wpAny_mono h (fun v s' q => wpAny_pure q) fun e s' q => q))
theorem orEnd_none {it : Value} {Q : Option Value → Shared → Prop} (h : wpAny (model prog w) A (Builtin.SmallTypes.nextOf it) (fun v s' => Q (some v) s') (fun e s' => (∃ u, e = Value.ref u ∧ ∃ o, s'.heap.get? u = some o ∧ o.cls = .type "StopIteration") ∧ Q none s') s) :
    wpAny (model prog w) A (Builtin.SmallTypes.nextOrEnd it) Q E s := by
  unfold Builtin.SmallTypes.nextOrEnd
  refine wpAny_bind (wpAny_attempt (wpAny_mono h (fun v s' q => wpAny_pure q) fun e s' q => ?_))
  obtain ⟨⟨u, rfl, o, ho, hc⟩, q⟩ := q
  refine wpAny_bind (wpAny_isInstance (T := "StopIteration") (b := true) ⟨o, ho, hc⟩ isSubtype_stop ?_)
  exact wpAny_pure q
theorem zs_item {zz pI pO u1 u2 b1 b2 : Addr} {k1 k2 : Nat} {xs ys : Array Value} {x y a b : Value} {Q : Value → Shared → Prop} (D : ZipApart zz pI pO u1 u2 b1 b2)
    (gz : IsStr s.heap zz pI pO .none) (gI : IsPair s.heap pI (.ref u1) (.ref u2)) (gO : IsPair s.heap pO a b)
    (h1 : s.heap.IsTupleIter u1 b1 k1) (h2 : s.heap.IsListIter u2 b2 k2) (gl1 : s.heap.IsTuple b1 xs) (gl2 : s.heap.IsList b2 ys) (gx : xs[k1]? = some x) (gy : ys[k2]? = some y)
    (gQ : ∀ h', IsStr h' zz pI pO (rawInt s.heap.objs.size) → IsPair h' pO x y → h'.IsTupleIter u1 b1 (k1 + 1) → h'.IsListIter u2 b2 (k2 + 1) → IsPair h' s.heap.objs.size x y → h'.objs.size = s.heap.objs.size + 1 →
      (∀ cc oo, cc ≠ zz → cc ≠ pO → cc ≠ u1 → cc ≠ u2 → s.heap.get? cc = some oo → h'.get? cc = some oo) → Q (.ref s.heap.objs.size) { s with heap := h' }) :
    wpAny (model prog w) A (Builtin.«zip.__next__» ⟨[.ref zz], []⟩) (fun fin s' => ∃ v, fin = .done (.ret v) ∧ Q v s') E s := by
  show wpAny _ _ (field (.ref zz) 2 >>= _) _ _ _
  refine wpAny_bind (wpAny_field gz rfl (x := .bool true) rfl ?_)
  show wpAny _ _ (field (.ref zz) 3 >>= _) _ _ _
  refine wpAny_bind (wpAny_field gz rfl (x := .ref pI) rfl ?_)
  refine wpAny_bind (wpAny_seqItems gI rfl ?_)
  show wpAny _ _ (Builtin.SmallTypes.ownedTupleIsFree (.ref zz) >>= _) _ _ _
  refine wpAny_bind ?_
  unfold Builtin.SmallTypes.ownedTupleIsFree
  refine wpAny_bind (wpAny_field gz rfl (x := .none) rfl (wpAny_pure ?_))
  simp only [if_true]
  refine wpAny_bind (wpAny_rule ?_)
  refine wpAny_bind (wpAny_field gz rfl (x := .ref pO) rfl ?_)
  refine wpAny_bind (wpAny_setField_rec gz (by simp) fun g₁ gz₁ es₁ => ?_)
  replace gz₁ : IsStr g₁ zz pI pO .ellipsis := gz₁
  refine wpAny_bind ?_
  simp only [List.zipIdx_cons, List.zipIdx_nil, List.forIn_cons, List.forIn_nil]

  refine wpAny_bind (wpAny_bind (wpAny_onRaise ?_))
  show wpAny _ _ (Builtin.SmallTypes.nextOrEnd (.ref u1)) _ _ _
  refine orEnd_some (RZ.nextOf_tuple_item (h1.extBut es₁.extBut D.i1z) (gl1.extBut es₁.extBut D.l1z) gx fun g₂ g1₂ es₂ => ?_)
  have gO₂ : IsPair g₂ pO a b := es₂.extBut _ _ D.TOi1 (es₁.extBut _ _ D.TOz gO)
  refine wpAny_bind (wpAny_seqItems gO₂ rfl ?_)
  refine wpAny_bind (wpAny_updateSeq_pair gO₂ fun g₃ gO₃ es₃ => ?_)
  replace gO₃ : IsPair g₃ pO x b := gO₃
  refine wpAny_bind (wpAny_letGo (wpAny_pure ?_))

  refine wpAny_bind (wpAny_bind (wpAny_onRaise ?_))
  show wpAny _ _ (Builtin.SmallTypes.nextOrEnd (.ref u2)) _ _ _
  refine orEnd_some (wpAny_nextOf_list_item (((h2.extBut es₁.extBut D.i2z).extBut es₂.extBut D.i12.symm).extBut es₃.extBut D.TOi2.symm)
    (((gl2.extBut es₁.extBut D.l2z).extBut es₂.extBut D.l2i1).extBut es₃.extBut D.l2TO) gy fun g₄ g2₄ es₄ => ?_)
  have gO₄ : IsPair g₄ pO x b := es₄.extBut _ _ D.TOi2 gO₃
  refine wpAny_bind (wpAny_seqItems gO₄ rfl ?_)
  refine wpAny_bind (wpAny_updateSeq_pair gO₄ fun g₅ gO₅ es₅ => ?_)
  replace gO₅ : IsPair g₅ pO x y := gO₅
  refine wpAny_bind (wpAny_letGo (wpAny_pure (wpAny_pure ?_)))

  refine wpAny_bind (wpAny_seqItems gO₅ rfl ?_)
  refine wpAny_bind (wpAny_newTuple ?_)
  have gsz : g₅.objs.size = s.heap.objs.size := by rw [es₅.1, es₄.1, es₃.1, es₂.1, es₁.1]
  have gz₅ : IsStr g₅ zz pI pO .ellipsis := es₅.extBut _ _ D.TOz.symm (es₄.extBut _ _ D.i2z.symm (es₃.extBut _ _ D.TOz.symm (es₂.extBut _ _ D.i1z.symm gz₁)))
  have gk₅ : ∀ cc oo, cc ≠ zz → cc ≠ pO → cc ≠ u1 → cc ≠ u2 → s.heap.get? cc = some oo → g₅.get? cc = some oo := fun cc oo c1 c2 c3 c4 e =>
    es₅.extBut _ _ c2 (es₄.extBut _ _ c4 (es₃.extBut _ _ c2 (es₂.extBut _ _ c3 (es₁.extBut _ _ c1 e))))
  have g1₅ : g₅.IsTupleIter u1 b1 (k1 + 1) := ((g1₂.extBut es₃.extBut D.TOi1.symm).extBut es₄.extBut D.i12).extBut es₅.extBut D.TOi1.symm
  have g2₅ : g₅.IsListIter u2 b2 (k2 + 1) := g2₄.extBut es₅.extBut D.TOi2.symm
  have gzlt : zz < g₅.objs.size := Heap.lt_size gz₅
  have gOlt : pO < g₅.objs.size := Heap.lt_size gO₅
  have g1lt : u1 < g₅.objs.size := by obtain ⟨_, e, _⟩ := g1₅; exact Heap.lt_size e
  have g2lt : u2 < g₅.objs.size := by obtain ⟨_, e, _⟩ := g2₅; exact Heap.lt_size e
  show wpAny _ _ (Builtin.SmallTypes.ownedTupleHandOut (.ref zz) (.ref g₅.objs.size) >>= _) _ _ _
  refine wpAny_bind ?_
  unfold Builtin.SmallTypes.ownedTupleHandOut
  have gz₆ : IsStr (g₅.push { cls := .type "tuple", data := .seq #[x, y] }) zz pI pO .ellipsis := Heap.get?_push_of_some _ gz₅
  refine wpAny_bind (wpAny_setField_rec gz₆ (by simp) fun g₇ gz₇ es₇ => ?_)
  replace gz₇ : IsStr g₇ zz pI pO (rawInt g₅.objs.size) := gz₇
  refine wpAny_setField_rec gz₇ (by simp) fun g₈ gz₈ es₈ => ?_
  replace gz₈ : IsStr g₈ zz pI pO (rawInt g₅.objs.size) := gz₈
  have upp : ∀ cc oo, cc ≠ zz → g₅.get? cc = some oo → g₈.get? cc = some oo := fun cc oo c1 e => es₈.extBut _ _ c1 (es₇.extBut _ _ c1 (Heap.get?_push_of_some _ e))
  have gT₈ : IsPair g₈ g₅.objs.size x y := es₈.extBut _ _ (Nat.ne_of_gt gzlt) (es₇.extBut _ _ (Nat.ne_of_gt gzlt) (Heap.get?_push_size _ rfl))
  have hz8 : g₈.objs.size = g₅.objs.size + 1 := by rw [es₈.1, es₇.1, Heap.size_push]
  rw [gsz] at gz₈ gT₈ hz8
  refine wpAny_pure ⟨_, rfl, ?_⟩
  show Q (.ref g₅.objs.size) _
  rw [gsz]
  exact gQ g₈ gz₈ (upp _ _ D.TOz gO₅) (g1₅.at fun oo e => upp _ oo D.i1z e) (g2₅.at fun oo e => upp _ oo D.i2z e) gT₈ hz8 fun cc oo c1 c2 c3 c4 e => upp cc oo c1 (gk₅ cc oo c1 c2 c3 c4 e)

theorem zs_end {zz pI pO u1 u2 b1 b2 : Addr} {k1 k2 : Nat} {xs ys : Array Value} {a b : Value} {Q : Fin → Shared → Prop} (gh : A.handled = none) (D : ZipApart zz pI pO u1 u2 b1 b2)
    (gz : IsStr s.heap zz pI pO .none) (gI : IsPair s.heap pI (.ref u1) (.ref u2)) (gO : IsPair s.heap pO a b)
    (h1 : s.heap.IsTupleIter u1 b1 k1) (h2 : s.heap.IsListIter u2 b2 k2) (gl1 : s.heap.IsTuple b1 xs) (gl2 : s.heap.IsList b2 ys) (gx : xs[k1]? = none) (gy : ys[k2]? = none)
    (gE : ∀ h' e, (∀ cc oo, cc ≠ zz → cc ≠ pO → cc ≠ u1 → cc ≠ u2 → s.heap.get? cc = some oo → h'.get? cc = some oo) → (∃ oo, h'.get? e = some oo ∧ oo.cls = .type "StopIteration") → E (.ref e) { s with heap := h' }) :
    wpAny (model prog w) A (Builtin.«zip.__next__» ⟨[.ref zz], []⟩) Q E s := by
  show wpAny _ _ (field (.ref zz) 2 >>= _) _ _ _
  refine wpAny_bind (wpAny_field gz rfl (x := .bool true) rfl ?_)
  show wpAny _ _ (field (.ref zz) 3 >>= _) _ _ _
  refine wpAny_bind (wpAny_field gz rfl (x := .ref pI) rfl ?_)
  refine wpAny_bind (wpAny_seqItems gI rfl ?_)
  show wpAny _ _ (Builtin.SmallTypes.ownedTupleIsFree (.ref zz) >>= _) _ _ _
  refine wpAny_bind ?_
  unfold Builtin.SmallTypes.ownedTupleIsFree
  refine wpAny_bind (wpAny_field gz rfl (x := .none) rfl (wpAny_pure ?_))
  simp only [if_true]
  refine wpAny_bind (wpAny_rule ?_)
  refine wpAny_bind (wpAny_field gz rfl (x := .ref pO) rfl ?_)
  refine wpAny_bind (wpAny_setField_rec gz (by simp) fun g₁ gz₁ es₁ => ?_)
  replace gz₁ : IsStr g₁ zz pI pO .ellipsis := gz₁
  refine wpAny_bind ?_
  simp only [List.zipIdx_cons, List.zipIdx_nil, List.forIn_cons, List.forIn_nil]
  refine wpAny_bind (wpAny_bind (wpAny_onRaise ?_))
  show wpAny _ _ (Builtin.SmallTypes.nextOrEnd (.ref u1)) _ _ _
  refine orEnd_none (RZ.nextOf_tuple_end gh (h1.extBut es₁.extBut D.i1z) (gl1.extBut es₁.extBut D.l1z) gx fun g₂ e es₂ he => ?_)
  refine ⟨⟨e, rfl, he⟩, ?_⟩
  have gz₂ : IsStr g₂ zz pI pO .ellipsis := es₂ _ _ D.i1z.symm gz₁
  refine wpAny_bind (wpAny_setField_rec gz₂ (by simp) fun g₃ gz₃ es₃ => ?_)
  refine wpAny_bind ?_
  refine wpAny_bind ?_
  simp only [List.drop_succ_cons, List.drop_zero, List.zipIdx_cons, List.zipIdx_nil, List.forIn_cons, List.forIn_nil]
  refine wpAny_bind (wpAny_bind (orEnd_none (wpAny_nextOf_list_end gh (((h2.extBut es₁.extBut D.i2z).extBut es₂ D.i12.symm).extBut es₃.extBut D.i2z)
      (((gl2.extBut es₁.extBut D.l2z).extBut es₂ D.l2i1).extBut es₃.extBut D.l2z) gy fun g₄ e' es₄ he' => ?_)))
  refine ⟨⟨e', rfl, he'⟩, ?_⟩
  refine wpAny_pure (wpAny_pure (wpAny_bind (wpAny_rule ?_)))
  unfold Builtin.SmallTypes.stopIteration
  simp only [newExc, newTuple]
  refine wpAny_bind ?_
  refine wpAny_bind (wpAny_newObj_type ?_ (by size_fits))
  refine wpAny_bind (m := firstArgMember _ _) (wpAny_of_eq (a := Value.none) (by first | rfl | (simp only [firstArgMember]; rfl)) ?_)
  refine wpAny_newObj_type ?_ (by size_fits)
  simp only [raiseNew]
  refine wpAny_bind (wpAny_handled ?_)
  rw [gh]
  refine wpAny_bind (wpAny_pure (wpAny_throw ?_))
  refine gE _ _ (fun cc oo c1 _ c3 c4 q => ?_) ⟨_, Heap.get?_push_size _ rfl, rfl⟩
  exact Heap.get?_push_of_some _ (Heap.get?_push_of_some _ (es₄ _ _ c4 (es₃.extBut _ _ c1 (es₂ _ _ c3 (es₁.extBut _ _ c1 q)))))

theorem zs_next {zz pI pO u1 u2 b1 b2 : Addr} {k1 k2 : Nat} {xs ys : Array Value} {x y a b : Value} {Q : Option Value → Shared → Prop} (D : ZipApart zz pI pO u1 u2 b1 b2)
    (gz : IsStr s.heap zz pI pO .none) (gI : IsPair s.heap pI (.ref u1) (.ref u2)) (gO : IsPair s.heap pO a b)
    (h1 : s.heap.IsTupleIter u1 b1 k1) (h2 : s.heap.IsListIter u2 b2 k2) (gl1 : s.heap.IsTuple b1 xs) (gl2 : s.heap.IsList b2 ys) (gx : xs[k1]? = some x) (gy : ys[k2]? = some y)
    (gQ : ∀ h', IsStr h' zz pI pO (rawInt s.heap.objs.size) → IsPair h' pO x y → h'.IsTupleIter u1 b1 (k1 + 1) → h'.IsListIter u2 b2 (k2 + 1) → IsPair h' s.heap.objs.size x y → h'.objs.size = s.heap.objs.size + 1 →
      (∀ cc oo, cc ≠ zz → cc ≠ pO → cc ≠ u1 → cc ≠ u2 → s.heap.get? cc = some oo → h'.get? cc = some oo) → Q (some (.ref s.heap.objs.size)) { s with heap := h' }) :
    wpAny (model prog w) A (pyNext (.ref zz)) Q E s := by
  have gT : s.TypeIs (.ref zz) "zip" := ⟨_, gz, rfl⟩
  unfold pyNext
  exact wpAny_bind (wpAny_attempt (wpAny_callSpecial?_slot (name := Str.ofString "__next__") gT F.slot_zip_next
    (wpAny_call_entry F.slot_zip_next gT F.entry_zip_next
      (zs_item D gz gI gO h1 h2 gl1 gl2 gx gy fun h' a1 a2 a3 a4 a5 a6 a7 => wpAny_pure (gQ h' a1 a2 a3 a4 a5 a6 a7)) (F.args_zip_next_1 _))))

theorem zs_stop {zz pI pO u1 u2 b1 b2 : Addr} {k1 k2 : Nat} {xs ys : Array Value} {a b : Value} {Q : Option Value → Shared → Prop} (gh : A.handled = none) (D : ZipApart zz pI pO u1 u2 b1 b2)
    (gz : IsStr s.heap zz pI pO .none) (gI : IsPair s.heap pI (.ref u1) (.ref u2)) (gO : IsPair s.heap pO a b)
    (h1 : s.heap.IsTupleIter u1 b1 k1) (h2 : s.heap.IsListIter u2 b2 k2) (gl1 : s.heap.IsTuple b1 xs) (gl2 : s.heap.IsList b2 ys) (gx : xs[k1]? = none) (gy : ys[k2]? = none)
    (gQ : ∀ h', (∀ cc oo, cc ≠ zz → cc ≠ pO → cc ≠ u1 → cc ≠ u2 → s.heap.get? cc = some oo → h'.get? cc = some oo) → Q none { s with heap := h' }) : wpAny (model prog w) A (pyNext (.ref zz)) Q E s := by
  have gT : s.TypeIs (.ref zz) "zip" := ⟨_, gz, rfl⟩
  unfold pyNext
  refine wpAny_bind (wpAny_attempt (wpAny_callSpecial?_slot (name := Str.ofString "__next__") gT F.slot_zip_next
    (wpAny_call_entry F.slot_zip_next gT F.entry_zip_next (zs_end gh D gz gI gO h1 h2 gl1 gl2 gx gy fun h' e gk he => ?_) (F.args_zip_next_1 _))))
  obtain ⟨oo, ho, hc⟩ := he
  refine wpAny_bind (wpAny_isInstance (T := "StopIteration") (b := true) ⟨oo, ho, hc⟩ isSubtype_stop ?_)
  exact wpAny_pure (gQ _ gk)

end

abbrev zsH1 (h : Heap) (b1 : Addr) : Heap := h.push { cls := .type "tuple_iterator", data := .fields #[.ref b1, .int 0 0] }
abbrev zsH2 (h : Heap) (b1 b2 : Addr) : Heap := (zsH1 h b1).push { cls := .type "list_iterator", data := .fields #[.ref b2, .int 0 0] }
abbrev zsH3 (h : Heap) (b1 b2 : Addr) : Heap := (zsH2 h b1 b2).push { cls := .type "tuple", data := .seq #[.ref h.objs.size, .ref (zsH1 h b1).objs.size] }
abbrev zsH4 (h : Heap) (b1 b2 : Addr) : Heap := (zsH3 h b1 b2).push { cls := .type "tuple", data := .seq #[.none, .none] }
abbrev zsH5 (h : Heap) (b1 b2 : Addr) : Heap := (zsH4 h b1 b2).push { cls := .type "zip", data := .fields #[.none, .bool false, .bool true, .ref (zsH2 h b1 b2).objs.size, .ref (zsH3 h b1 b2).objs.size] }

theorem zs_made (b1 b2 : Addr) (xs ys : Array Value) :
    Meets (Builtin.«zip.__new__» ⟨[.type "zip", .ref b1, .ref b2], [(Str.ofString "strict", .bool true)]⟩) (fun _ R s => s.heap.IsTuple b1 xs ∧ s.heap.IsList b2 ys ∧
      R (.ok (.ret (.ref (zsH4 s.heap b1 b2).objs.size))) { s with heap := zsH5 s.heap b1 b2 }) :=
  .of_wp fun prog w A R s h => by
    obtain ⟨hp, g, d, tk, os⟩ := s; obtain ⟨gl1, gl2, h⟩ := h
    have hsub := sub_zip
    have e1 : (Str.ofString "strict" == ("strict" : Str)) = true := by decide +kernel
    have e2 : (Str.ofString "strict" != ("strict" : Str)) = false := by decide +kernel
    have e4 : (("strict" : Str) == Str.ofString "strict") = true := by decide +kernel
    have hL1 : Heap.IsTuple (Shared.heap ⟨hp, g, d, tk, os⟩) b1 xs := gl1
    have hL2 : Heap.IsList (Shared.heap ⟨hp.push { cls := .type "tuple_iterator", data := .fields #[.ref b1, .int 0 0] }, g, d, tk, os⟩) b2 ys := Heap.IsList.push gl2 _
    wp_walk using wpAny_pyIter_tuple hL1, wpAny_pyIter_list hL2
    exact ⟨_, rfl, h⟩


section
variable {prog : Program} {w : World} {A : Around} {E : Value → Shared → Prop} {s : Shared}
theorem zs_call {b1 b2 : Addr} {xs ys : Array Value} {Q : Value → Shared → Prop} (gl1 : s.heap.IsTuple b1 xs) (gl2 : s.heap.IsList b2 ys)
    (h : ∀ h', IsStr h' (s.heap.objs.size + 4) (s.heap.objs.size + 2) (s.heap.objs.size + 3) .none → IsPair h' (s.heap.objs.size + 2) (.ref s.heap.objs.size) (.ref (s.heap.objs.size + 1)) →
      IsPair h' (s.heap.objs.size + 3) .none .none → h'.IsTupleIter s.heap.objs.size b1 0 → h'.IsListIter (s.heap.objs.size + 1) b2 0 → h'.objs.size = s.heap.objs.size + 5 →
      (∀ cc oo, s.heap.get? cc = some oo → h'.get? cc = some oo) → Q (.ref (s.heap.objs.size + 4)) { s with heap := h' }) :
    wpAny (model prog w) A (call (.type "zip") [.ref b1, .ref b2] [(Str.ofString "strict", .bool true)]) Q E s := by
  refine callType_newKw F.called_zip (by decide) (zs_tc _ _) (zs_nc _ _) (fun obj => zs_ok obj _ _) F.entry_zip_new
    (zs_made b1 b2 xs ys) ⟨gl1, gl2, ?_⟩
  have z1 : (zsH1 s.heap b1).objs.size = s.heap.objs.size + 1 := Heap.size_push ..
  have z2 : (zsH2 s.heap b1 b2).objs.size = s.heap.objs.size + 2 := by rw [Heap.size_push, z1]
  have z3 : (zsH3 s.heap b1 b2).objs.size = s.heap.objs.size + 3 := by rw [Heap.size_push, z2]
  have z4 : (zsH4 s.heap b1 b2).objs.size = s.heap.objs.size + 4 := by rw [Heap.size_push, z3]
  have z5 : (zsH5 s.heap b1 b2).objs.size = s.heap.objs.size + 5 := by rw [Heap.size_push, z4]
  have g5 : (zsH5 s.heap b1 b2).get? (zsH4 s.heap b1 b2).objs.size = some _ := Heap.get?_push_size _ rfl
  have g4 : (zsH5 s.heap b1 b2).get? (zsH3 s.heap b1 b2).objs.size = some _ := Heap.get?_push_of_some _ (Heap.get?_push_size _ rfl)
  have g3 : (zsH5 s.heap b1 b2).get? (zsH2 s.heap b1 b2).objs.size = some _ := Heap.get?_push_of_some _ (Heap.get?_push_of_some _ (Heap.get?_push_size _ rfl))
  have g2 : (zsH5 s.heap b1 b2).get? (zsH1 s.heap b1).objs.size = some _ := Heap.get?_push_of_some _ (Heap.get?_push_of_some _ (Heap.get?_push_of_some _ (Heap.get?_push_size _ rfl)))
  have g1 : (zsH5 s.heap b1 b2).get? s.heap.objs.size = some _ := Heap.get?_push_of_some _ (Heap.get?_push_of_some _ (Heap.get?_push_of_some _ (Heap.get?_push_of_some _ (Heap.get?_push_size _ rfl))))
  show _ ∧ _
  rw [z2, z3, z4] at g5
  rw [z1, z2] at g3
  rw [z3] at g4
  rw [z1] at g2
  rw [z4]
  exact ⟨⟨_, g5, rfl⟩, h _ g5 g3 g4 ⟨_, g1, rfl, rfl⟩ ⟨_, g2, rfl, rfl⟩ z5 fun cc oo x =>
    Heap.get?_push_of_some _ (Heap.get?_push_of_some _ (Heap.get?_push_of_some _ (Heap.get?_push_of_some _ (Heap.get?_push_of_some _ x))))⟩

end
end G
set_option Elab.async false
set_option linter.all false
set_option maxRecDepth 100000
set_option maxHeartbeats 4000000
namespace G
open PySem PySem.Spec PyProof.Rows L2
section
variable {prog : Program} {w : World} {A : Around} {E : Value → Shared → Prop} {s : Shared}
theorem zs_go {elts : List Expr} {kk} {pos : Pos} {q pI pO T : Addr} {Q : Unit → Shared → Prop} (hq : IsStr s.heap q pI pO (rawInt T))
    (h : ∀ h', IsStr h' q pI pO .none → Heap.SameBut q s.heap h' → Q () { s with heap := h' }) :
    wpAny (model prog w) A (letOwnedTupleGo (.Tuple elts kk pos) (.ref q) (.ref T)) Q E s := by
  unfold letOwnedTupleGo
  refine wpAny_bind (wpAny_load hq ?_)
  show wpAny _ _ (if (["enumerate", "zip", "dict_itemiterator", "dict_reverseitemiterator", "odict_iterator", "itertools.zip_longest", "itertools.pairwise"].contains "zip" &&
      (#[rawInt T, .bool false, .bool true, .ref pI, .ref pO] : Array Value)[0]? == some (rawInt T)) = true then _ else _) Q E s
  rw [if_pos (by simp)]
  refine wpAny_bind (wpAny_rule (show wpAny _ _ (setField (.ref q) 0 .none) Q E s from ?_))
  exact wpAny_setField_rec hq (by simp) fun h' a b => h h' a b
theorem zs_iter {q pI pO : Addr} {f0 : Value} {Q : Value → Shared → Prop} (hq : IsStr s.heap q pI pO f0) (h : Q (.ref q) s) : wpAny (model prog w) A (pyIter (.ref q)) Q E s := by
  have ty : s.TypeIs (.ref q) "zip" := ⟨_, hq, rfl⟩
  refine wpAny_pyIter_slot ty F.slot_zip_iter (wpAny_call_entry F.slot_zip_iter ty F.entry_zip_iter ?_ (F.args_zip_iter_1 _))
  exact wpAny_pure ⟨_, rfl, "zip", _, ty, F.slot_zip_next.lookup, h⟩
end
/-- the tuple at a and the list at b, of one length, the items in new pairs -/
def ItzS (K : PySem.W.Frag) (a b : Addr) : It :=
  ⟨fun i H => ∃ (xs ys : List V) (x y : V), SqT K H a xs ∧ SqL K H b ys ∧ xs[i]? = some x ∧ ys[i]? = some y,
    fun i H v H' => ∃ T x y, v = .ref T ∧ H T = none ∧ H' = upd H T (.tup [x, y]) ∧ (∀ xs, SqT K H a xs → xs[i]? = some x) ∧ ∀ ys, SqL K H b ys → ys[i]? = some y,
    fun i H => ∃ xs ys : List V, SqT K H a xs ∧ SqL K H b ys ∧ xs.length = i ∧ ys.length = i⟩
theorem five {c q pI pO u1 u2 : Addr} {h : Heap} (h0 : q < h.objs.size) (h1 : pI < h.objs.size) (h2 : pO < h.objs.size) (h3 : u1 < h.objs.size) (h4 : u2 < h.objs.size) (hc : c ∈ [q, pI, pO, u1, u2]) : c < h.objs.size := by
  simp only [List.mem_cons, List.not_mem_nil, or_false] at hc
  rcases hc with e | e | e | e | e <;> rw [e] <;> assumption
theorem turn_zs {P : Program} {w : World} {K : PySem.W.Frag} {elts : List Expr} {kk : Nat} {tpos : Pos} {a b q pI pO u1 u2 : Addr} (D : ZipApart q pI pO u1 u2 a b) :
    Turn P w K (.Tuple elts kk tpos) (ItzS K a b) [q, pI, pO, u1, u2] q (fun i h => IsStr h q pI pO .none ∧ IsPair h pI (.ref u1) (.ref u2) ∧ (∃ x y, IsPair h pO x y) ∧ h.IsTupleIter u1 a i ∧ h.IsListIter u2 b i) where
  mem := List.mem_cons_self
  obj := by
    rintro i h ⟨gz, gI, ⟨x, y, gO⟩, ⟨o1, e1, _, d1⟩, ⟨o2, e2, _, d2⟩⟩ c hc
    simp only [List.mem_cons, List.not_mem_nil, or_false] at hc
    rcases hc with e | e | e | e | e <;> rw [e]
    · exact ⟨_, gz, fun v z => nomatch z⟩
    · exact ⟨_, gI, fun v z => nomatch z⟩
    · exact ⟨_, gO, fun v z => nomatch z⟩
    · exact ⟨o1, e1, fun v z => by rw [d1] at z; cases z⟩
    · exact ⟨o2, e2, fun v z => by rw [d2] at z; cases z⟩
  keep := by
    rintro i h h' ⟨gz, gI, ⟨x, y, gO⟩, g1, g2⟩ k
    exact ⟨k q (by simp) _ gz, k pI (by simp) _ gI, ⟨x, y, k pO (by simp) _ gO⟩, g1.at fun o z => k u1 (by simp) o z, g2.at fun o z => k u2 (by simp) o z⟩
  item := by
    rintro X rfl rfl rfl hc i pins s σ H E I hf ⟨gz, gI, ⟨x0, y0, gO⟩, g1, g2⟩ ⟨xs, ys, x, y, sx, sy, ex, ey⟩
    obtain ⟨its, rv, p, _⟩ := I.tuple sx
    obtain ⟨its2, rv2, p2, _⟩ := I.list sy
    obtain ⟨v1, hv1, r1⟩ := rv.get ex
    obtain ⟨v2, hv2, r2⟩ := rv2.get ey
    have lq : q < s.heap.objs.size := Heap.lt_size gz
    refine zs_next D gz gI gO g1 g2 p p2.isList (x := v1) (y := v2) (by simpa using hv1) (by simpa using hv2) fun h' z' pO' g1' g2' gT gsz gk => ?_
    refine ⟨_, rfl, zs_go (s := { s with heap := h' }) z' fun h'' z'' sb => ?_⟩
    have gT2 : h''.get? s.heap.objs.size = some { cls := .type "tuple", data := .seq #[v1, v2] } := (sb.2 _ (Nat.ne_of_gt lq)).trans gT
    have old : ∀ c o, c ∉ [q, pI, pO, u1, u2] → s.heap.get? c = some o → h''.get? c = some o := fun c o hb z => by
      simp only [List.mem_cons, List.not_mem_nil, or_false, not_or] at hb
      exact (sb.2 c hb.1).trans (gk c o hb.1 hb.2.2.1 hb.2.2.2.1 hb.2.2.2.2 z)
    have new : ObjOk X.prog X.w (upd H s.heap.objs.size (.tup [x, y])) h'' s.heap.objs.size (.tup [x, y]) :=
      ⟨by show 2 ≤ sizeLine; decide, [v1, v2], .cons r1 (.cons r2 .nil), ⟨_, gT2, rfl, _, rfl⟩⟩
    have I1 : Inv X pins σ (upd H s.heap.objs.size (.tup [x, y])) { s with heap := h'' } := I.turnedNew (t' := s.toks) (ch := [q, pI, pO, u1, u2]) old hf (Nat.le_refl _) new
    have fin := (sb.2 _ D.TIz).trans (gk _ _ D.TIz D.TITO D.TIi1 D.TIi2 gI)
    refine ⟨.ref s.heap.objs.size, _, I1, rfl, ⟨_, x, y, rfl, I.hok.fresh (Nat.le_refl _), rfl, fun l hl => by rw [I.tuple_inj hl sx]; exact ex, fun l hl => by rw [I.list_inj hl sy]; exact ey⟩, ⟨z'', fin, ⟨v1, v2, (sb.2 _ D.TOz).trans pO'⟩, g1'.at fun o z => (sb.2 _ D.i1z).trans z, g2'.at fun o z => (sb.2 _ D.i2z).trans z⟩, fun c hcm => ?_⟩
    have lt := five lq (Heap.lt_size gI) (Heap.lt_size gO) (by obtain ⟨_, z, _⟩ := g1; exact Heap.lt_size z) (by obtain ⟨_, z, _⟩ := g2; exact Heap.lt_size z) hcm
    rw [upd_ne (Nat.ne_of_lt lt)]
    exact (hf c hcm).1
  done := by
    rintro X rfl rfl rfl hc i pins s σ H E I hf ⟨gz, gI, ⟨x0, y0, gO⟩, g1, g2⟩ ⟨xs, ys, sx, sy, ex, ey⟩
    obtain ⟨its, rv, p, _⟩ := I.tuple sx
    obtain ⟨its2, rv2, p2, _⟩ := I.list sy
    have n1 := rv.length
    have n2 := rv2.length
    refine zs_stop (I.ok.hd hc) D gz gI gO g1 g2 p p2.isList (by simp; omega) (by simp; omega) fun h' gk => ⟨rfl, I.turnedL (t' := s.toks) (ch := [q, pI, pO, u1, u2]) (fun c o hb z => ?_) hf⟩
    simp only [List.mem_cons, List.not_mem_nil, or_false, not_or] at hb
    exact gk c o hb.1 hb.2.2.1 hb.2.2.2.1 hb.2.2.2.2 z
  self := fun A i s Q E st h => zs_iter st.1 h
section
variable {X : Cx} {tpos p pos kp : Pos} {elts : List Expr} {kk jj : Nat} {kpos : Pos} {e e2 : Expr} {te tf : GTE}
@[simp] def gItZS (te tf : GTE) : GIR := fun ρ G Q => te ρ G fun x G1 => tf ρ G1 fun y G2 => ∃ b xs ys, x = .tup xs ∧ y = .ref b ∧ G2 b = some (.lst ys) ∧ xs.length = ys.length ∧ Q (pairUp xs ys) (fun G' => G' b = some (.lst ys)) G2
theorem callWith_tkw {pos : Pos} {T : String} {first : List Value} {args : List (Bool × Sem Value)} {keywords : List (Option Str × Sem Value)} {M : Model} {A : Around} {E : Value → Shared → Prop} {s : Shared} {Q : Value → Shared → Prop}
    (hplain : args.any (·.1) = false) (hkw : keywords.any (·.1.isNone) = false)
    (h : wpAny M A (evalArgs (.type T) true args keywords) (fun a s₁ => wpAny M A (call (.type T) (first ++ a.pos) a.kw) Q E s₁) E s) : wpAny M A (callWith pos (.type T) first args keywords) Q E s := by
  unfold callWith
  refine wpAny_bind (wpAny_holding (wpAny_mono h (fun a s1 h1 => wpAny_bind (wpAny_standAt ?_)) fun _ _ z => z))
  simp only [hplain, hkw, Bool.or_false]
  exact wpAny_bind (wpAny_pure (wpAny_bind (wpAny_mono h1 (fun r s2 hr => wpAny_bind (wpAny_holding (wpAny_point (wpAny_pure hr)))) fun _ _ z => z)))
theorem gi_zipS (hc : X.calm = true) (hm : X.mg "zip" = none) (ha : GA X [e, e2] [te, tf]) (hg : Gl X "zip" := by rfl) (hs : backTo pos (starEach [e, e2] X.env) = (false, eval e X.env) :: backTo pos (starEach [e2] X.env) := by rfl) (hpl : (backTo pos (starEach [e, e2] X.env)).any (·.1) = false := by rfl) :
    GI X (.Tuple elts kk tpos) (.Call (.Name "zip" p) [e, e2] [⟨some (Str.ofString "strict"), .Constant (.bool true) jj kpos, kp⟩] pos) (gItZS te tf) := by
  refine ⟨fun pins s σ H Kf I ⟨ρ, G, R, rs, g, q, k⟩ => ?_⟩
  show wpAny _ _ (do callWith pos (← eval (.Name "zip" p) X.env) [] (backTo pos (starEach [e, e2] X.env)) (backToKw pos (keywordEach [⟨some (Str.ofString "strict"), .Constant (.bool true) jj kpos, kp⟩] X.env))) _ _ _
  refine wpAny_bind (ld_blt I hg hm PyProof.Rows.boot_zip (callWith_tkw hpl rfl ?_))
  rw [hs]
  refine evalArgs_kwB rfl ?_
  rw [← hs]
  refine thn (PA.run ha pos pins s σ H (fun vs H1 => ∃ d d2 G1 v v2, vs = [v, v2] ∧ TK H H1 ∧ GH X.prog X.w X.K G1 H1 ∧ Dat X.K H1 v d ∧ Dat X.K H1 v2 d2 ∧ ∃ b xs ys, d = .tup xs ∧ d2 = .ref b ∧ G1 b = some (.lst ys) ∧ xs.length = ys.length ∧ R (pairUp xs ys) (fun G' => G' b = some (.lst ys)) G1) I ⟨ρ, G, _, rs, g, q, fun v H0 d G0 k0 g0 h0 q0 => ⟨ρ, G0, _, rs.mono k0, g0, q0, fun v2 H1 d2 G1 k1 g1 h1 q1 => ⟨d, d2, G1, v, v2, rfl, k0.trans k1, g1, h0.mono k1, h1, q1⟩⟩⟩) fun us s1 ⟨vs, H1, I1, r1, d, d2, G1, v, v2, ev, k1, g1, h1, h2, b, xs, ys, ed, ed2, hb, hl, q1⟩ => ?_
  subst ed ed2 ev
  obtain ⟨a, ws, rfl, hws, dv⟩ := dat_tup h1
  cases dat_ref h2
  obtain ⟨zs, ez, dz⟩ := list_of g1 hb
  have hzs : SqL X.K H1 b zs := SqL.of ez
  cases r1 with
  | cons r rr =>
  cases rr with
  | cons r' rr =>
  cases rr
  cases r
  cases r'
  obtain ⟨its, rv, p1, _⟩ := I1.tuple hws
  obtain ⟨its2, rv2, p2, _⟩ := I1.list hzs
  have la : a < s1.heap.objs.size := by obtain ⟨o, eo, _⟩ := id p1; exact Heap.lt_size eo
  refine kws_cons ?_
  refine wpAny_pure (kws_nil ?_)
  refine zs_call (show s1.heap.IsTuple a its.toArray from p1) p2.isList fun h' hz hI hO u1 u2 hsz hk => zs_iter hz ?_
  refine ⟨s1.heap.objs.size + 4, [s1.heap.objs.size + 4, s1.heap.objs.size + 2, s1.heap.objs.size + 3, s1.heap.objs.size, s1.heap.objs.size + 1], _, _, H1, rfl, I1.kept (t' := s1.toks) hk, turn_zs (PySem.W.ktu_apart s1.heap.objs.size a b la p2.lt), ⟨hz, hI, ⟨_, _, hO⟩, u1, u2⟩, fun c hcm => ?_, ?_⟩
  · have hle : s1.heap.objs.size ≤ c := by
      simp only [List.mem_cons, List.not_mem_nil, or_false] at hcm
      rcases hcm with z | z | z | z | z <;> rw [z] <;> omega
    exact I1.fpOk hle (I1.hok.fresh hle)
  · refine k _ _ H1 G1 _ k1 g1 q1 fun i H' G' hle k2 g2 hb2 => ?_
    have ev2 := k2.sqT hws
    have dv2 := dv.mono k2
    obtain ⟨ws2, ew2, dw2⟩ := list_of g2 hb2
    have l1 := dv2.length
    have l2 := dw2.length
    rw [pairUp_len] at hle ⊢
    refine ⟨fun hi => ⟨ws, ws2, ev2, SqL.of ew2, by omega, by omega⟩, fun hi => ?_⟩
    have i1 : i < ws.length := by omega
    have i2 : i < ws2.length := by omega
    refine ⟨⟨ws, ws2, ws[i], ws2[i], ev2, SqL.of ew2, by simp, by simp⟩, fun x H'' ⟨T, y, z, ex, hT, eH, hy, hz⟩ => ?_⟩
    subst ex eH
    obtain ⟨d1, ed1, hd1⟩ := dv2.get (hy ws ev2)
    obtain ⟨d2, ed2, hd2⟩ := dw2.get (hz ws2 (SqL.of ew2))
    obtain ⟨t1, t2⟩ := zip_pair hT hd1 hd2
    exact ⟨_, pairUp_get ed1 ed2, t1, g2.grow hT, t2⟩
end
end G
set_option Elab.async false
set_option linter.all false
set_option maxRecDepth 100000
set_option maxHeartbeats 4000000
namespace G
open PySem PySem.Spec PyProof.Rows L2
section
variable {X : Cx}
/-- x, y, z = a, b, c -/
@[simp] def gPar3 (i j l : Nat) (ta tb tc : GTE) : GTS := fun Z ρ G => ta ρ G fun d G1 => tb ρ G1 fun e G2 => tc ρ G2 fun f G3 => Z.nx (((ρ.set i (some d)).set j (some e)).set l (some f)) G3
theorem gs_par3 {i j l : Nat} {x y z : Str} {a b c : Expr} {ta tb tc : GTE} {px py pz pt pos : Pos} {kt k2 pt2} (hN : X.N.Nodup) (ha : GA X [a, b, c] [ta, tb, tc]) (hc : X.calm = true := by rfl) (hi : X.N[i]? = some x := by rfl) (hj : X.N[j]? = some y := by rfl) (hl : X.N[l]? = some z := by rfl)
    (hij : i ≠ j := by decide) (hil : i ≠ l := by decide) (hjl : j ≠ l := by decide) (hx : X.env.scope.names.lookup x = some .local := by rfl) (hy : X.env.scope.names.lookup y = some .local := by rfl) (hz : X.env.scope.names.lookup z = some .local := by rfl)
    (hw : swappedStores [.Tuple [.Name x px, .Name y py, .Name z pz] kt pt] (.Tuple [a, b, c] k2 pt2) X.env = pure (some [x, y, z]) := by rfl)
    (hs : swapsWithSole [.Tuple [.Name x px, .Name y py, .Name z pz] kt pt] (.Tuple [a, b, c] k2 pt2) pos.line X.env = pure false := by rfl) :
    GS X (.Assign [.Tuple [.Name x px, .Name y py, .Name z pz] kt pt] (.Tuple [a, b, c] k2 pt2) pos) (gPar3 i j l ta tb tc) :=
  PS.weak (ps_par3 hc hN hi hj hl hij hil hjl hx hy hz ha hw hs) fun E σ H ⟨ρ, G, Z, rs, g, q, k⟩ => by
    refine ⟨ρ, G, _, rs, g, q, fun v H1 d G1 k1 g1 h1 q1 => ⟨ρ, G1, _, rs.mono k1, g1, q1, fun v2 H2 d2 G2 k2 g2 h2 q2 => ⟨ρ, G2, _, (rs.mono k1).mono k2, g2, q2, fun v3 H3 d3 G3 k3 g3 h3 q3 => ?_⟩⟩⟩
    exact ⟨v, v2, v3, rfl, k.nx _ H3 _ G3 (k1.trans (k2.trans k3)) ((((((rs.mono k1).mono k2).mono k3).set ((h1.mono k2).mono k3) i).set (h2.mono k3) j).set h3 l) g3 q3⟩
end
end G
set_option Elab.async false
set_option linter.all false
set_option maxRecDepth 100000
set_option maxHeartbeats 4000000
/-! sorted of a tuple -/
namespace G
open PySem PySem.Spec PyProof.Rows L2
section
variable {X : Cx} {pos : Pos}
@[simp] def rSortT : List D → Gp → GK → Prop := fun ds G Q => ∃ xs, ds = [.tup xs] ∧ CanSort xs ∧ ∀ p, G p = none → Q (.ref p) (gup G p (.lst (sortD xs)))
theorem cSortT (hc : X.calm = true) (hr : X.A.units + 64 < cLine) : GCall X (.builtin "sorted") rSortT := by
  intro pins s σ H us ws Q I r h
  obtain ⟨G, R, ds, g, hd, ⟨xs, rfl, ⟨ok, al, so⟩, q⟩, k⟩ := h
  obtain ⟨v, rfl, hv⟩ := datL_one hd
  obtain ⟨a, vs, rfl, hs, dv⟩ := dat_tup hv
  obtain ⟨u, rfl, ru⟩ := vals1 r
  cases ru
  obtain ⟨its, rv, ⟨o, e0, c0, n0, d0⟩, z0⟩ := I.tuple hs
  have hlv := dv.length
  have hli := rv.length
  have zs : xs.length ≤ sizeLine := by omega
  refine Calls.call_function_entry PyProof.Rows.kind_sorted PyProof.Rows.plain_sorted PyProof.Rows.entry_sorted (PyProof.Rows.args_sorted1 _) ?_
  unfold Builtin.«sorted»
  refine wpAny_bind (m := checkCount "sorted" 1 1 _) (wpAny_pure (wpAny_bind (wpAny_collect_seq (A := X.A.in1) a (.inr rfl) e0 c0 d0 (hsz := by rw [List.size_toArray]; omega) fun h' hk => ?_)))
  have I1 : Inv X pins σ H { s with heap := h' } := I.kept (t' := s.toks) hk
  have rv : Vals vs its.toArray.toList := by simpa using rv
  generalize its.toArray = acc at rv
  have zl : acc.toList.length ≤ sizeLine := by have := rv.length; omega
  refine wpAny_bind (wpAny_newList ?_ zl)
  have hoL : (h'.push (seqObj "list" acc.toList.toArray 0)).get? h'.objs.size = some (seqObj "list" acc.toList.toArray 0) := Heap.get?_push_size _ rfl
  show wpAny _ _ _ _ _ { s with heap := h'.push (seqObj "list" acc.toList.toArray 0) }
  have I2 : Inv X pins σ H { s with heap := h'.push (seqObj "list" acc.toList.toArray 0) } := I1.kept (t' := s.toks) fun b o e => Heap.get?_push_of_some _ e
  have er : PySem.W.EachIs (fun u d => ∃ as, Reads (h'.push (seqObj "list" acc.toList.toArray 0)) u (toP d) as ∧ h'.objs.size ∉ as) acc.toList xs :=
    (each_reads I2 rv dv ok).mono fun u d ⟨as, r⟩ => ⟨as, r, by rw [reads_nil r]; simp⟩
  have hu : ∀ b, b ∈ xs → X.A.units + 2 + (toP b).depth < cLine := fun b hb => by
    have := depth_toP (of_okeyAll ok b hb)
    omega
  refine wpAny_bind (wpAny_holding (PySem.W.list_sort_data (s := { s with heap := h'.push (seqObj "list" acc.toList.toArray 0) }) (bs := xs) (enc := toP) (R := fun u d => ∃ v, RelV v u ∧ Dat X.K H v d) hoL (each_to rv dv) er al so zs (fun b hb => by
    have := hu b hb
    show X.A.units + 1 + 1 + (toP b).depth < cLine
    omega) fun out ho eo => ?_))
  obtain ⟨ws, w1, w2⟩ := each_of (α := Unit) eo
  obtain ⟨e', he'⟩ := PyProof.Rows.sortedHeap_at (vs := acc.toList) (out := out.toArray) hoL
  have hn : H h'.objs.size = none := I1.hok.fresh (Nat.le_refl _)
  have zo : ws.length ≤ sizeLine := by rw [w2.length, List.length_mergeSort]; exact zs
  refine wpAny_pure ⟨_, rfl, .ref h'.objs.size, upd H h'.objs.size (.lst ws), I1.laid (t' := s.toks) (fun b u e => ?_) (Nat.le_refl _) ⟨zo, out, e', w1, he'⟩, rfl, ?_⟩
  · have hb : b < h'.objs.size := Heap.lt_size e
    rw [PyProof.Rows.sortedHeap_old (Nat.ne_of_lt hb) (by rw [size_push']; exact Nat.lt_succ_of_lt hb)]
    exact Heap.get?_push_of_some _ e
  · exact k _ _ _ _ (TK.new hn) (g.new hn (gok_lst (ds := sortD xs) (by rw [sortD_len]; exact zs) (w2.mono (TK.new hn)) upd_same)) (.ref _) (q _ (g.ne hn))
end
end G
set_option Elab.async false
set_option linter.all false
set_option maxRecDepth 100000
set_option maxHeartbeats 4000000
namespace G
open PySem PySem.Spec PyProof.Rows L2

/-! ### cells -/
abbrev Cell := Int × Int
def cD (c : Cell) : D := .tup [.int c.1, .int c.2]
def rD (L : List Cell) : D := .tup (L.map cD)
theorem cD_inj {a b : Cell} (h : cD a = cD b) : a = b := by
  unfold cD at h
  simp only [D.tup.injEq, List.cons.injEq, D.int.injEq, and_true] at h
  exact Prod.ext h.1 h.2
theorem cD_iff {a b : Cell} : cD a = cD b ↔ a = b := ⟨cD_inj, fun h => by rw [h]⟩
theorem cDs_inj {a b : List Cell} (h : a.map cD = b.map cD) : a = b := (List.map_inj_right (f := cD) fun _ _ => cD_inj).mp h
theorem rD_inj {a b : List Cell} (h : rD a = rD b) : a = b := cDs_inj (D.tup.inj h)
theorem cD_mem {c : Cell} {L : List Cell} : cD c ∈ L.map cD ↔ c ∈ L := by
  rw [List.mem_map]
  exact ⟨fun ⟨a, h, e⟩ => cD_inj e ▸ h, fun h => ⟨c, h, rfl⟩⟩
theorem cD_key (c : Cell) : isKey (cD c) := ⟨rfl, _, rfl⟩
theorem cD_pure (c : Cell) : pureD (cD c) = true := rfl
theorem cD_okey (n : Nat) (c : Cell) : okey (n + 1) (cD c) = true := by cases n <;> rfl
theorem cDs_okey (n : Nat) : ∀ L : List Cell, okeyAll (n + 1) (L.map cD) = true
  | [] => rfl
  | c :: L => by rw [List.map_cons, okeyAll, cD_okey, cDs_okey n L]; rfl
theorem rD_okey (n : Nat) (L : List Cell) : okey (n + 2) (rD L) = true := cDs_okey n L
/-! the order -/
def cle (a b : Cell) : Bool := decide (a.1 < b.1 ∨ (a.1 = b.1 ∧ a.2 ≤ b.2))
def clt (a b : Cell) : Prop := a.1 < b.1 ∨ (a.1 = b.1 ∧ a.2 < b.2)
def srt (L : List Cell) : List Cell := L.mergeSort cle
/-- strictly ascending -/
def Asc (L : List Cell) : Prop := L.Pairwise clt
theorem cle_trans (a b c : Cell) (h1 : cle a b = true) (h2 : cle b c = true) : cle a c = true := by
  unfold cle at *
  rw [decide_eq_true_eq] at *
  omega
theorem cle_total (a b : Cell) : (cle a b || cle b a) = true := by
  unfold cle
  rw [Bool.or_eq_true, decide_eq_true_eq, decide_eq_true_eq]
  omega
theorem srt_mem {c : Cell} {L : List Cell} : c ∈ srt L ↔ c ∈ L := (List.mergeSort_perm L cle).mem_iff
theorem srt_asc {L : List Cell} (h : L.Nodup) : Asc (srt L) := by
  have h1 : (srt L).Pairwise fun a b => cle a b = true := List.pairwise_mergeSort cle_trans cle_total L
  have h2 : (srt L).Nodup := (List.mergeSort_perm L cle).nodup_iff.mpr h
  refine (h1.and h2).imp fun {a b} ⟨h3, h4⟩ => ?_
  unfold cle at h3
  rw [decide_eq_true_eq] at h3
  unfold clt
  have : ¬ (a.1 = b.1 ∧ a.2 = b.2) := fun ⟨e1, e2⟩ => h4 (Prod.ext e1 e2)
  omega
theorem clt_irrefl (a : Cell) : ¬ clt a a := by unfold clt; omega
theorem clt_asymm {a b : Cell} (h : clt a b) : ¬ clt b a := by unfold clt at *; omega
theorem Asc.nodup {L : List Cell} (h : Asc L) : L.Nodup := h.imp fun {a b} h e => by subst e; exact clt_irrefl a h
/-- ascending lists of the same cells are equal -/
theorem Asc.ext : ∀ {A B : List Cell}, Asc A → Asc B → (∀ c, c ∈ A ↔ c ∈ B) → A = B
  | [], [], _, _, _ => rfl
  | [], b :: B, _, _, h => by have := (h b).mpr List.mem_cons_self; cases this
  | a :: A, [], _, _, h => by have := (h a).mp List.mem_cons_self; cases this
  | a :: A, b :: B, hA, hB, h => by
    have hA' := List.pairwise_cons.mp hA
    have hB' := List.pairwise_cons.mp hB
    have e : a = b := by
      rcases List.mem_cons.mp ((h a).mp List.mem_cons_self) with e | h1
      · exact e
      · rcases List.mem_cons.mp ((h b).mpr List.mem_cons_self) with e | h2
        · exact e.symm
        · exact absurd (hA'.1 b h2) (clt_asymm (hB'.1 a h1))
    subst e
    refine congrArg _ (Asc.ext hA'.2 hB'.2 fun c => ⟨fun hc => ?_, fun hc => ?_⟩)
    · rcases List.mem_cons.mp ((h c).mp (List.mem_cons_of_mem _ hc)) with e | h1
      · subst e; exact absurd (hA'.1 c hc) (clt_irrefl c)
      · exact h1
    · rcases List.mem_cons.mp ((h c).mpr (List.mem_cons_of_mem _ hc)) with e | h1
      · subst e; exact absurd (hB'.1 c hc) (clt_irrefl c)
      · exact h1
theorem srt_eq {L A : List Cell} (hL : L.Nodup) (hA : Asc A) (h : ∀ c, c ∈ L ↔ c ∈ A) : srt L = A := (srt_asc hL).ext hA fun c => srt_mem.trans (h c)
/-! sorted() of cells -/
theorem sortD_cells (L : List Cell) : sortD (L.map cD) = (srt L).map cD := by
  unfold sortD srt
  symm
  refine List.map_mergeSort (f := cD) fun a _ b _ => ?_
  have := congrFun (congrFun (PySem.W.dataLe_ii (β := Cell) (fun c => c.1) (fun c => c.2)) a) b
  exact this.symm
theorem canSort_cells (L : List Cell) : CanSort (L.map cD) := by
  refine ⟨cDs_okey 7 L, fun d hd d' hd' => ?_, .inl fun d hd => ?_⟩
  · simp only [List.map_map, List.mem_map, Function.comp] at hd hd'
    obtain ⟨a, _, rfl⟩ := hd
    obtain ⟨b, _, rfl⟩ := hd'
    rfl
  · simp only [List.map_map, List.mem_map, Function.comp] at hd
    obtain ⟨a, _, rfl⟩ := hd
    exact ⟨_, _, rfl⟩
/-! dicts of cells -/
def cdct (ks : List (Cell × D)) : List (D × D) := ks.map fun p => (cD p.1, p.2)
def cset (ks : List Cell) (v : D) : List (D × D) := ks.map fun c => (cD c, v)
def ins (ks : List Cell) (c : Cell) : List Cell := if c ∈ ks then ks else ks ++ [c]
def dedup (cs : List Cell) : List Cell := cs.foldl ins []
theorem dget_cset (ks : List Cell) (v : D) (c : Cell) : dget (cset ks v) (cD c) = if c ∈ ks then some v else none := by
  unfold dget cset
  induction ks with
  | nil => rfl
  | cons k ks ih =>
    rw [List.map_cons, List.find?_cons]
    by_cases h : k = c
    · subst h; simp
    · have h2 : decide (cD k = cD c) = false := decide_eq_false fun e => h (cD_inj e)
      have h3 : ¬ c = k := fun e => h e.symm
      simp only [h2, List.mem_cons, h3, false_or]
      exact ih
theorem dget_cset_some (ks : List Cell) (v : D) (c : Cell) : (dget (cset ks v) (cD c)).isSome = decide (c ∈ ks) := by
  rw [dget_cset]; split <;> simp_all
theorem dput_cset (ks : List Cell) (v : D) (c : Cell) : dput (cset ks v) (cD c) v = cset (ins ks c) v := by
  unfold dput ins
  rw [dget_cset]
  by_cases h : c ∈ ks
  · rw [if_pos h, if_pos h]
    rw [if_pos (show (some v).isSome = true from rfl)]
    unfold cset
    rw [List.map_map]
    refine List.map_congr_left fun k _ => ?_
    show (if cD k = cD c then (cD k, v) else (cD k, v)) = _
    split <;> rfl
  · rw [if_neg h, if_neg h]
    rw [if_neg (by simp)]
    unfold cset
    rw [List.map_append]
    rfl
theorem ddel_cset (ks : List Cell) (v : D) (c : Cell) : ddel (cset ks v) (cD c) = cset (ks.filter fun k => decide (k ≠ c)) v := by
  unfold ddel cset
  rw [List.filter_map]
  congr 1
  refine List.filter_congr fun k _ => ?_
  simp only [Function.comp, decide_eq_decide, ne_eq, cD_iff]
theorem dputs_cset (cs : List Cell) (v : D) : ∀ ks : List Cell, dputs (cset ks v) (cs.map fun c => (cD c, v)) = cset (cs.foldl ins ks) v := by
  induction cs with
  | nil => intro ks; rfl
  | cons c cs ih =>
    intro ks
    rw [List.map_cons]
    show dputs (dput (cset ks v) (cD c) v) _ = _
    rw [dput_cset, ih]
    rfl
theorem dputs_nil (cs : List Cell) (v : D) : dputs [] (cs.map fun c => (cD c, v)) = cset (dedup cs) v := dputs_cset cs v []
theorem cset_keys (ks : List Cell) (v : D) : (cset ks v).map (·.1) = ks.map cD := by unfold cset; rw [List.map_map]; rfl
theorem cset_length (ks : List Cell) (v : D) : (cset ks v).length = ks.length := by unfold cset; rw [List.length_map]
theorem mem_ins {ks : List Cell} {c x : Cell} : x ∈ ins ks c ↔ x ∈ ks ∨ x = c := by
  unfold ins
  split
  · rename_i h
    exact ⟨.inl, fun q => q.elim id fun e => e ▸ h⟩
  · rw [List.mem_append, List.mem_singleton]
theorem ins_nodup {ks : List Cell} {c : Cell} (h : ks.Nodup) : (ins ks c).Nodup := by
  unfold ins
  split
  · exact h
  · rename_i n
    rw [List.nodup_append]
    refine ⟨h, by simp, fun a ha b hb e => ?_⟩
    rw [List.mem_singleton] at hb
    subst hb e
    exact n ha
theorem foldl_ins_mem {cs : List Cell} {x : Cell} : ∀ {ks : List Cell}, x ∈ cs.foldl ins ks ↔ x ∈ ks ∨ x ∈ cs := by
  induction cs with
  | nil => intro ks; simp
  | cons c cs ih =>
    intro ks
    rw [List.foldl_cons, ih, mem_ins, List.mem_cons, or_assoc]
theorem foldl_ins_nodup {cs : List Cell} : ∀ {ks : List Cell}, ks.Nodup → (cs.foldl ins ks).Nodup := by
  induction cs with
  | nil => intro ks h; exact h
  | cons c cs ih => intro ks h; exact ih (ins_nodup h)
theorem mem_dedup {cs : List Cell} {x : Cell} : x ∈ dedup cs ↔ x ∈ cs := by unfold dedup; rw [foldl_ins_mem]; simp
theorem dedup_nodup (cs : List Cell) : (dedup cs).Nodup := foldl_ins_nodup List.nodup_nil
theorem ins_len (ks : List Cell) (c : Cell) : (ins ks c).length ≤ ks.length + 1 := by
  unfold ins
  split
  · omega
  · simp
theorem foldl_ins_len {cs : List Cell} : ∀ {ks : List Cell}, (cs.foldl ins ks).length ≤ ks.length + cs.length := by
  induction cs with
  | nil => intro ks; exact Nat.le_refl _
  | cons c cs ih =>
    intro ks
    have h1 := @ih (ins ks c)
    have h2 := ins_len ks c
    rw [List.foldl_cons, List.length_cons]; omega
theorem dedup_len (cs : List Cell) : (dedup cs).length ≤ cs.length := by have := @foldl_ins_len cs []; simpa [dedup] using this
theorem dedup_id {cs : List Cell} (h : cs.Nodup) : dedup cs = cs := by
  have : ∀ (ks : List Cell), (ks ++ cs).Nodup → cs.foldl ins ks = ks ++ cs := by
    clear h
    induction cs with
    | nil => intro ks _; simp
    | cons c cs ih =>
      intro ks h
      have hc : c ∉ ks := fun hm => by
        rw [List.nodup_append] at h
        exact h.2.2 c hm c List.mem_cons_self rfl
      rw [List.foldl_cons]
      have e : ins ks c = ks ++ [c] := by unfold ins; rw [if_neg hc]
      rw [e, ih (ks ++ [c]) (by simpa using h)]
      simp
  exact this [] (by simpa using h)
@[simp] theorem cD_fold (x y : Int) : D.tup [.int x, .int y] = cD (x, y) := rfl
@[simp] theorem isKey_cD (c : Cell) : isKey (cD c) ↔ True := ⟨fun _ => trivial, fun _ => cD_key c⟩
@[simp] theorem pureD_cD (c : Cell) : pureD (cD c) = true := rfl
@[simp] theorem pureD_rD (L : List Cell) : pureD (rD L) = true := rD_okey 6 L
@[simp] theorem dget_isSome (ks : List Cell) (v : D) (c : Cell) : (dget (cset ks v) (cD c)).isSome = decide (c ∈ ks) := dget_cset_some ks v c
@[simp] theorem dget_none (ks : List Cell) (v : D) (c : Cell) : dget (cset ks v) (cD c) = none ↔ c ∉ ks := by rw [dget_cset]; split <;> simp_all
@[simp] theorem dput_cset' (ks : List Cell) (v : D) (c : Cell) : dput (cset ks v) (cD c) v = cset (ins ks c) v := dput_cset ks v c
@[simp] theorem ddel_cset' (ks : List Cell) (v : D) (c : Cell) : ddel (cset ks v) (cD c) = cset (ks.filter fun k => decide (k ≠ c)) v := ddel_cset ks v c
@[simp] theorem cset_len (ks : List Cell) (v : D) : (cset ks v).length = ks.length := cset_length ks v
@[simp] theorem cDs_okey' (L : List Cell) : okeyAll 8 (L.map cD) = true := cDs_okey 7 L
@[simp] theorem cD_mem' {c : Cell} {L : List Cell} : cD c ∈ L.map cD ↔ c ∈ L := cD_mem
@[simp] theorem cD_eq' {a b : Cell} : cD a = cD b ↔ a = b := cD_iff
theorem ins_new {ks : List Cell} {c : Cell} (h : c ∉ ks) : ins ks c = ks ++ [c] := by unfold ins; rw [if_neg h]
end G
set_option Elab.async false
set_option linter.all false
set_option maxRecDepth 100000
set_option maxHeartbeats 4000000
namespace G

/-! ### floods, in plain Lean -/
inductive Rch (K : Cell → Prop) (succ : Cell → List Cell) (s : Cell) : Cell → Prop
  | base : Rch K succ s s
  | step {c d : Cell} : Rch K succ s c → d ∈ succ c → K d → Rch K succ s d
theorem Rch.trans {K : Cell → Prop} {succ : Cell → List Cell} {a b c : Cell} (h1 : Rch K succ a b) (h2 : Rch K succ b c) : Rch K succ a c := by
  induction h2 with
  | base => exact h1
  | step _ hd hk ih => exact ih.step hd hk
theorem Rch.mono {K K' : Cell → Prop} {succ : Cell → List Cell} {a b : Cell} (h : ∀ c, K c → K' c) (h1 : Rch K succ a b) : Rch K' succ a b := by
  induction h1 with
  | base => exact .base
  | step _ hd hk ih => exact ih.step hd (h _ hk)
/-- found, rest -/
abbrev FS := List Cell × List Cell
def visit (K : List Cell) (st : FS) (c : Cell) : FS := if c ∈ K ∧ c ∉ st.1 then (st.1 ++ [c], st.2 ++ [c]) else st
structure FI (K : List Cell) (succ : Cell → List Cell) (s : Cell) (st : FS) : Prop where
  nd : st.1.Nodup
  nd2 : st.2.Nodup
  sub : ∀ c ∈ st.2, c ∈ st.1
  hs : s ∈ st.1
  rch : ∀ c ∈ st.1, Rch (· ∈ K) succ s c
  clo : ∀ c ∈ st.1, c ∉ st.2 → ∀ d ∈ succ c, d ∈ K → d ∈ st.1
def fmeas (K : List Cell) (st : FS) : Nat := 2 * (K.filter fun c => decide (c ∉ st.1)).length + st.2.length
theorem FI.start (K : List Cell) (succ : Cell → List Cell) (s : Cell) : FI K succ s ([s], [s]) where
  nd := by simp
  nd2 := by simp
  sub := fun c h => h
  hs := by simp
  rch := fun c h => by rw [List.mem_singleton.mp h]; exact .base
  clo := fun c h n => absurd h n
theorem visit_sub {K : List Cell} {st : FS} {c d : Cell} (h : d ∈ st.1) : d ∈ (visit K st c).1 := by
  unfold visit
  split
  · exact List.mem_append_left _ h
  · exact h
theorem nodup_len {A B : List Cell} (hA : A.Nodup) (hs : ∀ c ∈ A, c ∈ B) : A.length ≤ B.length := by
  induction A generalizing B with
  | nil => exact Nat.zero_le _
  | cons a A ih =>
    have h1 := List.nodup_cons.mp hA
    have ha := hs a List.mem_cons_self
    have := ih (B := B.erase a) h1.2 fun c hc => (List.mem_erase_of_ne (fun e => h1.1 (by rw [← e]; exact hc))).mpr (hs c (List.mem_cons_of_mem _ hc))
    rw [List.length_erase_of_mem ha] at this
    have := List.length_pos_of_mem ha
    rw [List.length_cons]
    omega
theorem filter_len_lt {K : List Cell} {p q : Cell → Bool} {c : Cell} (hc : c ∈ K) (hp : p c = true) (hq : q c = false) (h : ∀ d, q d = true → p d = true) : (K.filter q).length + 1 ≤ (K.filter p).length := by
  induction K with
  | nil => cases hc
  | cons k K ih =>
    have mono : (K.filter q).length ≤ (K.filter p).length := by
      clear ih hc
      induction K with
      | nil => simp
      | cons a K ih =>
        rw [List.filter_cons, List.filter_cons]
        by_cases ha : q a = true
        · rw [if_pos ha, if_pos (h a ha)]; simpa using ih
        · rw [if_neg ha]
          split
          · exact Nat.le_succ_of_le ih
          · exact ih
    rw [List.filter_cons, List.filter_cons]
    rcases List.mem_cons.mp hc with e | hc
    · subst e
      rw [if_neg (by rw [hq]; simp), if_pos hp, List.length_cons]
      omega
    · have := ih hc
      by_cases ha : q k = true
      · rw [if_pos ha, if_pos (h k ha), List.length_cons, List.length_cons]; omega
      · rw [if_neg ha]
        split
        · rw [List.length_cons]; omega
        · exact this
theorem visit_meas {K : List Cell} (st : FS) (c : Cell) : fmeas K (visit K st c) ≤ fmeas K st := by
  unfold visit
  split
  · rename_i h
    unfold fmeas
    have := filter_len_lt (K := K) (p := fun d => decide (d ∉ st.1)) (q := fun d => decide (d ∉ st.1 ++ [c])) h.1 (by simpa using h.2) (by simp) fun d hd => by simp only [decide_eq_true_eq, List.mem_append, not_or] at hd ⊢; exact hd.1
    simp only [List.length_append, List.length_singleton]
    omega
  · exact Nat.le_refl _
theorem visits_meas {K : List Cell} (ds : List Cell) : ∀ st : FS, fmeas K (ds.foldl (visit K) st) ≤ fmeas K st := by
  induction ds with
  | nil => intro st; exact Nat.le_refl _
  | cons d ds ih => intro st; exact Nat.le_trans (ih _) (visit_meas st d)
theorem turn_meas {K : List Cell} (F S : List Cell) (c : Cell) (ds : List Cell) : fmeas K (ds.foldl (visit K) (F, S)) < fmeas K (F, S ++ [c]) := by
  refine Nat.lt_of_le_of_lt (visits_meas ds _) ?_
  unfold fmeas
  simp
/-- within a turn: c was taken, some of its successors are visited -/
structure FT (K : List Cell) (succ : Cell → List Cell) (s : Cell) (c : Cell) (done : List Cell) (st : FS) : Prop where
  nd : st.1.Nodup
  nd2 : st.2.Nodup
  sub : ∀ d ∈ st.2, d ∈ st.1
  hs : s ∈ st.1
  hc : c ∈ st.1
  nc : c ∉ st.2
  rch : ∀ d ∈ st.1, Rch (· ∈ K) succ s d
  clo : ∀ a ∈ st.1, a ∉ st.2 → a ≠ c → ∀ d ∈ succ a, d ∈ K → d ∈ st.1
  dn : ∀ d ∈ done, d ∈ K → d ∈ st.1
theorem FI.pop {K : List Cell} {succ : Cell → List Cell} {s c : Cell} {F S : List Cell} (h : FI K succ s (F, S ++ [c])) : FT K succ s c [] (F, S) := by
  have hn : S.Nodup ∧ c ∉ S := by
    have := h.nd2
    simp only [List.nodup_append] at this
    exact ⟨this.1, fun hc => this.2.2 c hc c (by simp) rfl⟩
  exact ⟨h.nd, hn.1, fun d hd => h.sub d (List.mem_append_left _ hd), h.hs, h.sub c (by simp), hn.2, h.rch,
    fun a ha hn hac => h.clo a ha (by simp only [List.mem_append, List.mem_singleton, not_or]; exact ⟨hn, hac⟩), by simp⟩
theorem FT.visit {K : List Cell} {succ : Cell → List Cell} {s c d : Cell} {done : List Cell} {st : FS} (h : FT K succ s c done st) (hd : d ∈ succ c) : FT K succ s c (done ++ [d]) (visit K st d) := by
  unfold G.visit
  split
  · rename_i hk
    refine ⟨?_, ?_, fun e he => ?_, List.mem_append_left _ h.hs, List.mem_append_left _ h.hc, ?_, fun e he => ?_, fun a ha hn hac e he hke => ?_, fun e he hke => ?_⟩
    · simp only [List.nodup_append]
      exact ⟨h.nd, by simp, fun a ha b hb e => hk.2 (by rw [List.mem_singleton] at hb; subst hb e; exact ha)⟩
    · simp only [List.nodup_append]
      exact ⟨h.nd2, by simp, fun a ha b hb e => hk.2 (by rw [List.mem_singleton] at hb; subst hb e; exact h.sub _ ha)⟩
    · rcases List.mem_append.mp he with he | he
      · exact List.mem_append_left _ (h.sub e he)
      · exact List.mem_append_right _ he
    · simp only [List.mem_append, List.mem_singleton, not_or]
      exact ⟨h.nc, fun e => hk.2 (e ▸ h.hc)⟩
    · rcases List.mem_append.mp he with he | he
      · exact h.rch e he
      · rw [List.mem_singleton.mp he]
        exact (h.rch c h.hc).step hd hk.1
    · simp only [List.mem_append, List.mem_singleton, not_or] at hn
      rcases List.mem_append.mp ha with ha | ha
      · exact List.mem_append_left _ (h.clo a ha hn.1 hac e he hke)
      · exact absurd (List.mem_singleton.mp ha) hn.2
    · rcases List.mem_append.mp he with he | he
      · exact List.mem_append_left _ (h.dn e he hke)
      · exact List.mem_append_right _ he
  · rename_i hk
    refine ⟨h.nd, h.nd2, h.sub, h.hs, h.hc, h.nc, h.rch, h.clo, fun e he hke => ?_⟩
    rcases List.mem_append.mp he with he | he
    · exact h.dn e he hke
    · rw [List.mem_singleton.mp he] at hke ⊢
      exact Classical.byContradiction fun q => hk ⟨hke, q⟩
theorem FT.visits {K : List Cell} {succ : Cell → List Cell} {s c : Cell} (ds : List Cell) : ∀ {done : List Cell} {st : FS}, FT K succ s c done st → (∀ d ∈ ds, d ∈ succ c) → FT K succ s c (done ++ ds) (ds.foldl (G.visit K) st) := by
  induction ds with
  | nil => intro done st h _; simpa using h
  | cons d ds ih =>
    intro done st h hs
    have := ih (h.visit (hs d List.mem_cons_self)) fun e he => hs e (List.mem_cons_of_mem _ he)
    simpa using this
theorem FT.close {K : List Cell} {succ : Cell → List Cell} {s c : Cell} {done : List Cell} {st : FS} (h : FT K succ s c done st) (hd : ∀ d ∈ succ c, d ∈ done) : FI K succ s st :=
  ⟨h.nd, h.nd2, h.sub, h.hs, h.rch, fun a ha hn d hda hk => by
    by_cases e : a = c
    · subst e; exact h.dn d (hd d hda) hk
    · exact h.clo a ha hn e d hda hk⟩
theorem FI.turn {K : List Cell} {succ : Cell → List Cell} {s c : Cell} {F S : List Cell} (h : FI K succ s (F, S ++ [c])) : FI K succ s ((succ c).foldl (visit K) (F, S)) :=
  ((h.pop).visits (succ c) fun _ hd => hd).close fun d hd => by simpa using hd
/-- the end -/
theorem FI.all {K : List Cell} {succ : Cell → List Cell} {s : Cell} {F : List Cell} (h : FI K succ s (F, [])) (c : Cell) : c ∈ F ↔ Rch (· ∈ K) succ s c := by
  refine ⟨h.rch c, fun hr => ?_⟩
  induction hr with
  | base => exact h.hs
  | step _ hd hk ih => exact h.clo _ ih (by simp) _ hd hk
theorem visit_len {K : List Cell} (st : FS) (c : Cell) : (visit K st c).1.length ≤ st.1.length + 1 := by
  unfold visit
  split <;> simp
theorem FI.len {K : List Cell} {succ : Cell → List Cell} {s : Cell} {st : FS} (h : FI K succ s st) : st.1.length ≤ K.length + 1 ∧ st.2.length ≤ K.length + 1 := by
  have hk : ∀ c ∈ st.1, c ∈ s :: K := fun c hc => by
    cases h.rch c hc with
    | base => exact List.mem_cons_self
    | step _ _ hk => exact List.mem_cons_of_mem _ hk
  exact ⟨by simpa using nodup_len h.nd hk, by simpa using nodup_len h.nd2 fun c hc => hk c (h.sub c hc)⟩
theorem FT.len {K : List Cell} {succ : Cell → List Cell} {s c : Cell} {done : List Cell} {st : FS} (h : FT K succ s c done st) : st.1.length ≤ K.length + 1 ∧ st.2.length ≤ K.length + 1 := by
  have hk : ∀ c ∈ st.1, c ∈ s :: K := fun c hc => by
    cases h.rch c hc with
    | base => exact List.mem_cons_self
    | step _ _ hk => exact List.mem_cons_of_mem _ hk
  exact ⟨by simpa using nodup_len h.nd hk, by simpa using nodup_len h.nd2 fun c hc => hk c (h.sub c hc)⟩
end G
set_option Elab.async false
set_option linter.all false
set_option maxRecDepth 100000
set_option maxHeartbeats 0
namespace Hd
open PySem PySem.Spec PyProof.Rows L2 G
def t_moves : GTS :=
  (gRet (gDispS ["r", "l", "u", "d"] [(gTup [(gC (.int 1)), (gC (.int 0))]), (gTup [(gUn rNegG (gC (.int 1))), (gC (.int 0))]), (gTup [(gC (.int 0)), (gC (.int 1))]), (gTup [(gC (.int 0)), (gUn rNegG (gC (.int 1)))])]))
def t_trail (sp_moves : GSp) : GTS :=
  (gSeq (gPar 2 3 (gLst [(gVar 0)]) (gCall sp_moves [])) (gSeq (gFor (gItS (gVar 1)) (gName 4) (gSeq (gAsg (gOp rIxL (gVar 2) (gUn rNegG (gC (.int 1)))) (gUnp 2 [(gName 5), (gName 6)])) (gDrop (gBM rApp (gVar 2) [(gTup [(gOp (rI fun i j => .int (i + j)) (gVar 5) (gOp rIxT (gOp rGetS (gVar 3) (gVar 4)) (gC (.int 0)))), (gOp (rI fun i j => .int (i + j)) (gVar 6) (gOp rIxT (gOp rGetS (gVar 3) (gVar 4)) (gC (.int 1))))])])))) (gRet (gCB rTuple [(gVar 2)]))))
def t_signs_between : GTS :=
  (gSeq (gAsg (gTup [(gVar 0), (gVar 1)]) (gUnp 2 [(gUnp 2 [(gName 2), (gName 3)]), (gUnp 2 [(gName 4), (gName 5)])])) (gSeq (gAsg (gOp rCatS (gIfE (gTest (gOp (rI fun i j => .bl (decide (j < i))) (gVar 4) (gVar 2))) (gC (.str "r")) (gIfE (gTest (gOp (rI fun i j => .bl (decide (i < j))) (gVar 4) (gVar 2))) (gC (.str "l")) (gC (.str "")))) (gIfE (gTest (gOp (rI fun i j => .bl (decide (j < i))) (gVar 5) (gVar 3))) (gC (.str "u")) (gIfE (gTest (gOp (rI fun i j => .bl (decide (i < j))) (gVar 5) (gVar 3))) (gC (.str "d")) (gC (.str ""))))) (gName 6)) (gRet (gJoin (gC (.str "")) (gCB rSortX [(gVar 6)])))))
def t_numbers_to (sp_signs_between : GSp) (sp_moves : GSp) : GTS :=
  (gSeq (gAsg (gTup [(gCall sp_signs_between [(gVar 1), (gVar 2)]), (gCall sp_moves []), (gDc (gItT (gVar 0)) (gName 6) gYes (gVar 6) (gC (.bl true)) [6])]) (gUnp 3 [(gName 3), (gName 4), (gName 5)])) (gSeq (gAsg (gTup [(gVar 1), (gVar 2)]) (gUnp 2 [(gUnp 2 [(gName 7), (gName 8)]), (gUnp 2 [(gName 9), (gName 10)])])) (gSeq (gAsg (gLst []) (gName 11)) (gSeq (gFor (gItR2 (gCB (rTwoG fun i j => if j < i then j else i) [(gVar 7), (gVar 9)]) (gOp (rI fun i j => .int (i + j)) (gCB (rTwoG fun i j => if j > i then j else i) [(gVar 7), (gVar 9)]) (gC (.int 1)))) (gName 12) (gDrop (gBM rExt (gVar 11) [(gLc (gItR2 (gCB (rTwoG fun i j => if j < i then j else i) [(gVar 8), (gVar 10)]) (gOp (rI fun i j => .int (i + j)) (gCB (rTwoG fun i j => if j > i then j else i) [(gVar 8), (gVar 10)]) (gC (.int 1)))) (gName 13) gYes (gTup [(gOp (rI fun i j => .int (i + j)) (gCB rAbs [(gOp (rI fun i j => .int (i - j)) (gVar 9) (gVar 12))]) (gCB rAbs [(gOp (rI fun i j => .int (i - j)) (gVar 10) (gVar 13))])), (gTup [(gVar 12), (gVar 13)])]) [13])]))) (gSeq (gAsg gNewD (gName 14)) (gSeq (gFor (gItL (gCB rSort [(gVar 11)])) (gUnp 2 [(gName 15), (gName 6)]) (gIf (gTest (gOp (rInD false) (gVar 6) (gVar 5))) (gSeq (gAsg (gLc (gItS (gVar 3)) (gName 17) gYes (gTup [(gOp (rI fun i j => .int (i + j)) (gOp rIxT (gVar 6) (gC (.int 0))) (gOp rIxT (gOp rGetS (gVar 4) (gVar 17)) (gC (.int 0)))), (gOp (rI fun i j => .int (i + j)) (gOp rIxT (gVar 6) (gC (.int 1))) (gOp rIxT (gOp rGetS (gVar 4) (gVar 17)) (gC (.int 1))))]) [17]) (gName 16)) (gAsg (gIfE (gTest (gOp rEq (gVar 15) (gC (.int 0)))) (gC (.int 1)) (gCB rSumG [(gLc (gItL (gVar 16)) (gName 18) gYes (gDM rGetOrD (gVar 14) [(gVar 18), (gC (.int 0))]) [18])])) (gSubT (gVar 14) (gVar 6) rSetD))) gNext)) (gRet (gVar 14))))))))
def t_ways_many (sp_numbers_to : GSp) : GTS :=
  (gRet (gDM rGetOrD (gCall sp_numbers_to [(gVar 0), (gVar 1), (gVar 2)]) [(gVar 1), (gC (.int 0))]))
def t_way_at (sp_numbers_to : GSp) (sp_signs_between : GSp) (sp_moves : GSp) : GTS :=
  (gSeq (gPar3 4 5 6 (gCall sp_numbers_to [(gVar 0), (gVar 1), (gVar 2)]) (gCall sp_signs_between [(gVar 1), (gVar 2)]) (gCall sp_moves [])) (gSeq (gPar 7 8 (gVar 1) (gC (.str ""))) (gSeq (gWhile (gTest (gOp rNe (gVar 7) (gVar 2))) (gFor (gItS (gVar 5)) (gName 9) (gSeq (gAsg (gTup [(gOp (rI fun i j => .int (i + j)) (gOp rIxT (gVar 7) (gC (.int 0))) (gOp rIxT (gOp rGetS (gVar 6) (gVar 9)) (gC (.int 0)))), (gOp (rI fun i j => .int (i + j)) (gOp rIxT (gVar 7) (gC (.int 1))) (gOp rIxT (gOp rGetS (gVar 6) (gVar 9)) (gC (.int 1))))]) (gName 10)) (gSeq (gIf (gTest (gOp (rI fun i j => .bl (decide (i < j))) (gVar 3) (gDM rGetOrD (gVar 4) [(gVar 10), (gC (.int 0))]))) (gSeq (gPar 7 8 (gVar 10) (gOp rCatS (gVar 8) (gVar 9))) gBreak) gNext) (gAug 3 (gDM rGetOrD (gVar 4) [(gVar 10), (gC (.int 0))]) (rI fun i j => .int (i - j))))))) (gRet (gVar 8)))))
def t_first_way (sp_serves : GSp) (sp_way_at : GSp) : GTS :=
  (gRet (gIfE (gTest (gCall sp_serves [(gVar 0), (gVar 1), (gVar 2)])) (gCall sp_way_at [(gVar 0), (gVar 1), (gVar 2), (gC (.int 0))]) (gC .non)))
def t_serves (sp_ways_many : GSp) : GTS :=
  (gRet (gOp (rI fun i j => .bl (decide (j < i))) (gCall sp_ways_many [(gVar 0), (gVar 1), (gVar 2)]) (gC (.int 0))))
def t_corner_field (sp_moves : GSp) : GTS :=
  (gSeq (gPar 3 4 (gDisp1 (gVar 1) (gC (.bl true))) (gLst [(gVar 1)])) (gSeq (gWhile (gTruth (gVar 4)) (gSeq (gAsg (gBM rPopL (gVar 4) []) (gUnp 2 [(gName 5), (gName 6)])) (gFor (gItL (gLc (gItS (gVar 2)) (gName 9) gYes (gOp rGetS (gCall sp_moves []) (gVar 9)) [9])) (gUnp 2 [(gName 7), (gName 8)]) (gSeq (gAsg (gTup [(gOp (rI fun i j => .int (i + j)) (gVar 5) (gVar 7)), (gOp (rI fun i j => .int (i + j)) (gVar 6) (gVar 8))]) (gName 10)) (gIf (gAnd (gTest (gOp (rInD false) (gVar 10) (gVar 0))) (gTest (gOp (rInD true) (gVar 10) (gVar 3)))) (gSeq (gAsg (gC (.bl true)) (gSubT (gVar 3) (gVar 10) rSetD)) (gDrop (gBM rApp (gVar 4) [(gVar 10)]))) gNext))))) (gRet (gCB rTuple [(gCB rSort [(gVar 3)])]))))
def t_corner_fields (sp_corner_field : GSp) : GTS :=
  (gSeq (gAsg (gDc (gItT (gVar 0)) (gName 3) gYes (gVar 3) (gC (.bl true)) [3]) (gName 2)) (gRet (gCB rTuple [(gLc (gItT (gTup [(gC (.str "ru")), (gC (.str "lu")), (gC (.str "ld")), (gC (.str "rd"))])) (gName 4) gYes (gCall sp_corner_field [(gVar 2), (gVar 1), (gVar 4)]) [4])])))
def t_field (sp_corner_fields : GSp) : GTS :=
  (gRet (gCB rTuple [(gCB rSort [(gDc2 (gItT (gCall sp_corner_fields [(gVar 0), (gVar 1)])) (gName 2) gYes (gItT (gVar 2)) (gName 3) gYes (gVar 3) (gC (.bl true)) [2, 3] [3])])]))
def t_common_stalls (sp_field : GSp) : GTS :=
  (gSeq (gAsg (gCB rList [(gVar 0)]) (gName 2)) (gSeq (gFor (gItT (gVar 1)) (gName 3) (gSeq (gAsg (gDc (gItT (gCall sp_field [(gVar 0), (gVar 3)])) (gName 5) gYes (gVar 5) (gC (.bl true)) [5]) (gName 4)) (gAsg (gLc (gItL (gVar 2)) (gName 5) (gTest (gOp (rInD false) (gVar 5) (gVar 4))) (gVar 5) [5]) (gName 2)))) (gRet (gCB rTuple [(gVar 2)]))))
def t_are_tied (sp_common_stalls : GSp) : GTS :=
  (gRet (gOp rNe (gCall sp_common_stalls [(gVar 0), (gTup [(gVar 1), (gVar 2)])]) (gTup [])))
def t_is_within : GTS :=
  (gSeq (gAsg (gDc (gItT (gVar 1)) (gName 3) gYes (gVar 3) (gC (.bl true)) [3]) (gName 2)) (gRet (gAndV (gOp (rI fun i j => .bl (decide (i < j))) (gCB rLen [(gVar 0)]) (gCB rLen [(gVar 1)])) (gCB (rAnyG fun bs => bs.all id) [(gLc (gItT (gVar 0)) (gName 3) gYes (gOp (rInD false) (gVar 3) (gVar 2)) [3])]))))
def t_hard_of (sp_is_within : GSp) : GTS :=
  (gSeq (gAsg gNewD (gName 1)) (gSeq (gFor (gItL (gVar 0)) (gUnp 2 [(gName 2), (gName 3)]) (gIf (gNot (gTest (gCB (rAnyG fun bs => bs.any id) [(gLc (gItL (gVar 0)) (gUnp 2 [(gName 4), (gName 5)]) gYes (gCall sp_is_within [(gVar 5), (gVar 3)]) [4, 5])]))) (gDrop (gDM rSetDf (gVar 1) [(gVar 3), (gVar 2)])) gNext)) (gRet (gCB rTuple [(gSortV (gVar 1))]))))
def t_hard_in (sp_hard_of : GSp) (sp_field : GSp) : GTS :=
  (gRet (gCall sp_hard_of [(gLc (gItT (gVar 1)) (gName 2) gYes (gTup [(gVar 2), (gCall sp_field [(gVar 0), (gVar 2)])]) [2])]))
def t_lit (sp_field : GSp) : GTS :=
  (gRet (gCB rTuple [(gCB rSort [(gDc2 (gItT (gVar 1)) (gName 2) gYes (gItT (gCall sp_field [(gVar 0), (gVar 2)])) (gName 3) gYes (gVar 3) (gC (.bl true)) [2, 3] [3])])]))
def t_dark_in (sp_lit : GSp) : GTS :=
  (gSeq (gAsg (gDc (gItT (gCall sp_lit [(gVar 0), (gVar 2)])) (gName 4) gYes (gVar 4) (gC (.bl true)) [4]) (gName 3)) (gRet (gCB rTuple [(gLc (gItT (gVar 1)) (gName 4) (gTest (gOp (rInD true) (gVar 4) (gVar 3))) (gVar 4) [4])])))
def t_is_integer : GTS :=
  (gRet (gAndV (gIsi "int" (gVar 0)) (gNotV (gIsi "bool" (gVar 0)))))
def t_is_cell (sp_is_integer : GSp) : GTS :=
  (gRet (gAndV (gIsi "tuple" (gVar 0)) (gAndV (gOp rEq (gCB rLen [(gVar 0)]) (gC (.int 2))) (gAndV (gCall sp_is_integer [(gOp rIxT (gVar 0) (gC (.int 0)))]) (gCall sp_is_integer [(gOp rIxT (gVar 0) (gC (.int 1)))])))))
def t_is_lot (sp_is_cell : GSp) : GTS :=
  (gSeq (gIf (gOr (gNot (gTest (gIsi "tuple" (gVar 0)))) (gNot (gTest (gCB (rAnyG fun bs => bs.all id) [(gLc (gItT (gVar 0)) (gName 1) gYes (gCall sp_is_cell [(gVar 1)]) [1])])))) (gRet (gC (.bl false))) gNext) (gRet (gCB (rAnyG fun bs => bs.all id) [(gLc (gItZ (gVar 0) (gSliceT (gVar 0) (gPart (gC (.int 1))) gNoPart)) (gUnp 2 [(gName 2), (gName 3)]) gYes (gOp rLtC (gVar 2) (gVar 3)) [2, 3])])))
def t_taken_out : GTS :=
  (gSeq (gAsg (gDc (gItT (gVar 1)) (gName 3) gYes (gVar 3) (gC (.bl true)) [3]) (gName 2)) (gRet (gCB rTuple [(gLc (gItT (gVar 0)) (gName 3) (gTest (gOp (rInD true) (gVar 3) (gVar 2))) (gVar 3) [3])])))
def t_lies_in (sp_taken_out : GSp) : GTS :=
  (gRet (gOp rEq (gCall sp_taken_out [(gVar 0), (gVar 1)]) (gTup [])))
def t_pairs_of : GTS :=
  (gRet (gLc2 (gItET (gVar 0)) (gUnp 2 [(gName 1), (gName 2)]) gYes (gItT (gSliceT (gVar 0) (gPart (gOp (rI fun i j => .int (i + j)) (gVar 1) (gC (.int 1)))) gNoPart)) (gName 3) gYes (gTup [(gVar 2), (gVar 3)]) [1, 2, 3] [3]))
def t_web_of (sp_field : GSp) (sp_pairs_of : GSp) : GTS :=
  (gSeq (gAsg (gDc (gItT (gVar 1)) (gName 4) gYes (gVar 4) (gDc (gItT (gCall sp_field [(gVar 0), (gVar 4)])) (gName 3) gYes (gVar 3) (gC (.bl true)) [3]) [4]) (gName 2)) (gSeq (gAsg (gLc (gItL (gCall sp_pairs_of [(gVar 1)])) (gUnp 2 [(gName 6), (gName 7)]) (gTest (gCB (rAnyG fun bs => bs.any id) [(gLockE (gLc (gItK (gOp rGetD (gVar 2) (gVar 6))) (gName 3) gYes (gOp (rInD false) (gVar 3) (gOp rGetD (gVar 2) (gVar 7))) [3]))])) (gTup [(gVar 6), (gVar 7)]) [6, 7]) (gName 5)) (gRet (gTup [(gVar 1), (gCB rTuple [(gVar 5)])]))))
def t_contrary (sp_pairs_of : GSp) : GTS :=
  (gSeq (gAsg (gDc (gItT (gOp rIxT (gVar 0) (gC (.int 1)))) (gName 2) gYes (gVar 2) (gC (.bl true)) [2]) (gName 1)) (gRet (gTup [(gOp rIxT (gVar 0) (gC (.int 0))), (gCB rTuple [(gLc (gItL (gCall sp_pairs_of [(gOp rIxT (gVar 0) (gC (.int 0)))])) (gName 3) (gTest (gOp (rInD true) (gVar 3) (gVar 1))) (gVar 3) [3])])])))
def t_next_table : GTS :=
  (gSeq (gAsg (gDc (gItT (gOp rIxT (gVar 0) (gC (.int 0)))) (gName 2) gYes (gVar 2) gNewD [2]) (gName 1)) (gSeq (gFor (gItT (gOp rIxT (gVar 0) (gC (.int 1)))) (gUnp 2 [(gName 2), (gName 3)]) (gSeq (gAsg (gC (.bl true)) (gSubT (gOp rGetD (gVar 1) (gVar 2)) (gVar 3) rSetD)) (gAsg (gC (.bl true)) (gSubT (gOp rGetD (gVar 1) (gVar 3)) (gVar 2) rSetD)))) (gRet (gVar 1))))
def t_are_next : GTS :=
  (gRet (gOp (rInT false) (gTup [(gCB rMin2D [(gVar 1), (gVar 2)]), (gCB rMax2D [(gVar 1), (gVar 2)])]) (gOp rIxT (gVar 0) (gC (.int 1)))))
def t_is_reached : GTS :=
  (gSeq (gAsg (gTup [(gDisp1 (gVar 1) (gC (.bl true))), (gLst [(gVar 1)])]) (gUnp 2 [(gName 3), (gName 4)])) (gSeq (gWhile (gTruth (gVar 4)) (gSeq (gAsg (gBM rPopL (gVar 4) []) (gName 5)) (gSeq (gIf (gTest (gOp (rInD false) (gVar 2) (gOp rGetD (gVar 0) (gVar 5)))) (gRet (gC (.bl true))) gNext) (gSeq (gLockS (gAsg (gLc (gItK (gOp rGetD (gVar 0) (gVar 5))) (gName 7) (gAnd (gTest (gOp (rInD true) (gVar 7) (gVar 3))) (gNot (gAnd (gTest (gOp (rInD false) (gVar 7) (gOp rGetD (gVar 0) (gVar 1)))) (gTest (gOp (rInD false) (gVar 7) (gOp rGetD (gVar 0) (gVar 2))))))) (gVar 7) [7]) (gName 6))) (gSeq (gDrop (gDM rUpdP (gVar 3) [(gLc (gItL (gVar 6)) (gName 7) gYes (gTup [(gVar 7), (gC (.bl true))]) [7])])) (gDrop (gBM rExt (gVar 4) [(gVar 6)]))))))) (gRet (gC (.bl false)))))
def t_first_two_pair (sp_next_table : GSp) (sp_pairs_of : GSp) (sp_is_reached : GSp) : GTS :=
  (gSeq (gAsg (gCall sp_next_table [(gVar 0)]) (gName 1)) (gSeq (gFor (gItL (gCall sp_pairs_of [(gOp rIxT (gVar 0) (gC (.int 0)))])) (gUnp 2 [(gName 2), (gName 3)]) (gIf (gAnd (gTest (gOp (rInD true) (gVar 3) (gOp rGetD (gVar 1) (gVar 2)))) (gNot (gTest (gCall sp_is_reached [(gVar 1), (gVar 2), (gVar 3)])))) (gRet (gTup [(gVar 2), (gVar 3)])) gNext)) (gRet (gC .non))))
def t_all_next (sp_pairs_of : GSp) : GTS :=
  (gRet (gOp rEq (gCB rLen [(gOp rIxT (gVar 0) (gC (.int 1)))]) (gCB rLen [(gCall sp_pairs_of [(gOp rIxT (gVar 0) (gC (.int 0)))])])))
def t_joined : GTS :=
  (gSeq (gAsg gNewD (gName 3)) (gSeq (gFor (gItT (gOp rIxT (gVar 0) (gC (.int 1)))) (gUnp 2 [(gName 4), (gName 5)]) (gSeq (gPar 4 5 (gIfE (gTest (gOp rEq (gVar 4) (gVar 2))) (gVar 1) (gVar 4)) (gIfE (gTest (gOp rEq (gVar 5) (gVar 2))) (gVar 1) (gVar 5))) (gAsg (gC (.bl true)) (gSubT (gVar 3) (gTup [(gCB rMin2D [(gVar 4), (gVar 5)]), (gCB rMax2D [(gVar 4), (gVar 5)])]) rSetD)))) (gRet (gTup [(gCB rTuple [(gLc (gItT (gOp rIxT (gVar 0) (gC (.int 0)))) (gName 4) (gTest (gOp rNe (gVar 4) (gVar 2))) (gVar 4) [4])]), (gCB rTuple [(gCB rSort [(gCB rListD [(gVar 3)])])])]))))
def t_webs_ahead (sp_joined : GSp) : GTS :=
  (gSeq (gAsg (gLst [(gVar 0)]) (gName 2)) (gSeq (gFor (gItT (gVar 1)) (gUnp 2 [(gName 3), (gName 4)]) (gDrop (gBM rApp (gVar 2) [(gCall sp_joined [(gOp rIxL (gVar 2) (gUn rNegG (gC (.int 1)))), (gVar 3), (gVar 4)])]))) (gRet (gVar 2))))
def t_groups : GTS :=
  (gSeq (gAsg (gDc (gItT (gOp rIxT (gVar 0) (gC (.int 0)))) (gName 3) gYes (gVar 3) (gLst [(gVar 3)]) [3]) (gName 2)) (gSeq (gFor (gItT (gVar 1)) (gUnp 2 [(gName 3), (gName 4)]) (gAsg (gOp rCatL (gOp rGetD (gVar 2) (gVar 3)) (gDM rPopD (gVar 2) [(gVar 4)])) (gSubT (gVar 2) (gVar 3) rSetD))) (gRet (gCB rTuple [(gCB rSort [(gLockE (gLc (gItV (gVar 2)) (gName 5) gYes (gCB rTuple [(gCB rSort [(gVar 5)])]) [5]))])]))))
def t_log_of (sp_first_two_pair : GSp) (sp_joined : GSp) : GTS :=
  (gSeq (gAsg (gLst []) (gName 1)) (gSeq (gAsg (gCall sp_first_two_pair [(gVar 0)]) (gName 2)) (gSeq (gWhile (gTest (gOp (rIsN true) (gVar 2) (gC .non))) (gSeq (gDrop (gBM rApp (gVar 1) [(gVar 2)])) (gSeq (gAsg (gCallS sp_joined [(false, (gVar 0)), (true, (gVar 2))]) (gName 0)) (gAsg (gCall sp_first_two_pair [(gVar 0)]) (gName 2))))) (gRet (gCB rTuple [(gVar 1)])))))
def t_knot_back (sp_webs_ahead : GSp) (sp_all_next : GSp) (sp_are_next : GSp) : GTS :=
  (gSeq (gAsg (gCall sp_webs_ahead [(gVar 0), (gVar 1)]) (gName 2)) (gSeq (gAsg (gIfE (gTest (gCall sp_all_next [(gOp rIxL (gVar 2) (gUn rNegG (gC (.int 1))))])) (gCB rList [(gOp rIxT (gOp rIxL (gVar 2) (gUn rNegG (gC (.int 1)))) (gC (.int 0)))]) (gCB rList [gBot])) (gName 3)) (gSeq (gFor (gItZS (gRevT (gVar 1)) (gRevL (gSliceL (gVar 2) gNoPart (gPart (gUn rNegG (gC (.int 1))))))) (gUnp 2 [(gUnp 2 [(gName 4), (gName 5)]), (gName 6)]) (gIf (gTest (gOp (rInL false) (gVar 4) (gVar 3))) (gSeq (gAsg (gLc (gItL (gVar 3)) (gName 8) (gTest (gOp rNe (gVar 8) (gVar 4))) (gVar 8) [8]) (gName 7)) (gAsg (gLstS [(true, (gVar 7)), (false, (gIfE (gTest (gCB (rAnyG fun bs => bs.all id) [(gLc (gItL (gVar 7)) (gName 8) gYes (gCall sp_are_next [(gVar 6), (gVar 4), (gVar 8)]) [8])])) (gVar 4) (gVar 5)))]) (gName 3))) gNext)) (gRet (gCB rTuple [(gCB rSort [(gVar 3)])])))))
def t_split_of (sp_log_of : GSp) (sp_groups : GSp) (sp_knot_back : GSp) : GTS :=
  (gSeq (gAsg (gCall sp_log_of [(gVar 0)]) (gName 1)) (gRet (gTup [(gCall sp_groups [(gVar 0), (gVar 1)]), (gCall sp_knot_back [(gVar 0), (gVar 1)])])))
def t_answer_for (sp_split_of : GSp) (sp_contrary : GSp) (sp_web_of : GSp) (sp_hard_in : GSp) (sp_common_stalls : GSp) : GTS :=
  (gSeq (gAsg (gCall sp_split_of [(gCall sp_contrary [(gCall sp_web_of [(gVar 0), (gCall sp_hard_in [(gVar 0), (gVar 1)])])])]) (gUnp 2 [(gName 2), (gName 3)])) (gRet (gTup [(gCB rTuple [(gCB rSort [(gLc (gItT (gVar 2)) (gName 4) gYes (gOp rIxT (gCall sp_common_stalls [(gVar 0), (gVar 4)]) (gC (.int 0))) [4])])]), (gVar 3)])))
def t_answer (sp_answer_for : GSp) : GTS :=
  (gRet (gCall sp_answer_for [(gVar 0), (gVar 0)]))
def t_fewest (sp_answer_for : GSp) : GTS :=
  (gRet (gCB rLen [(gOp rIxT (gCall sp_answer_for [(gVar 0), (gVar 1)]) (gC (.int 0)))]))
def t_is_lot_in (sp_is_lot : GSp) (sp_lies_in : GSp) : GTS :=
  (gRet (gAndV (gCall sp_is_lot [(gVar 1)]) (gCall sp_lies_in [(gVar 1), (gVar 0)])))
def t_dark_fault (sp_dark_in : GSp) : GTS :=
  (gSeq (gAsg (gCall sp_dark_in [(gVar 0), (gVar 1), (gVar 2)]) (gName 3)) (gRet (gIfE (gTest (gOp rNe (gVar 3) (gTup []))) (gTup [(gC (.str "dark")), (gOp rIxT (gVar 3) (gC (.int 0)))]) (gC .non))))
def t_spots_fault (sp_are_tied : GSp) : GTS :=
  (gSeq (gFor (gItT (gVar 2)) (gName 3) (gIf (gTest (gOp (rInT true) (gVar 3) (gVar 1))) (gRet (gTup [(gC (.str "foreign")), (gVar 3)])) gNext)) (gSeq (gFor (gItET (gVar 2)) (gUnp 2 [(gName 4), (gName 5)]) (gFor (gItT (gSliceT (gVar 2) (gPart (gOp (rI fun i j => .int (i + j)) (gVar 4) (gC (.int 1)))) gNoPart)) (gName 6) (gIf (gTest (gCall sp_are_tied [(gVar 0), (gVar 5), (gVar 6)])) (gRet (gTup [(gC (.str "tied")), (gVar 5), (gVar 6)])) gNext))) (gRet (gC .non))))
def t_judge_answer (sp_is_lot_in : GSp) (sp_dark_fault : GSp) (sp_spots_fault : GSp) : GTS :=
  (gSeq (gIf (gOr (gNot (gTest (gIsi "tuple" (gVar 2)))) (gTest (gOp rNe (gCB rLen [(gVar 2)]) (gC (.int 2))))) (gRet (gTup [(gC (.str "form"))])) gNext) (gSeq (gAsg (gVar 2) (gUnp 2 [(gName 3), (gName 4)])) (gSeq (gIf (gOr (gNot (gTest (gCall sp_is_lot_in [(gVar 0), (gVar 3)]))) (gNot (gTest (gCall sp_is_lot_in [(gVar 0), (gVar 4)])))) (gRet (gTup [(gC (.str "form"))])) gNext) (gSeq (gAsg (gOrT (gCall sp_dark_fault [(gVar 0), (gVar 1), (gVar 3)]) (gCall sp_spots_fault [(gVar 0), (gVar 1), (gVar 4)])) (gName 5)) (gSeq (gIf (gAnd (gTest (gOp (rIsN false) (gVar 5) (gC .non))) (gTest (gOp rNe (gCB rLen [(gVar 3)]) (gCB rLen [(gVar 4)])))) (gAsg (gTup [(gC (.str "many")), (gCB rLen [(gVar 3)]), (gCB rLen [(gVar 4)])]) (gName 5)) gNext) (gRet (gVar 5)))))))
def t_judge_stalls (sp_is_lot_in : GSp) (sp_dark_fault : GSp) : GTS :=
  (gRet (gIfE (gTest (gCall sp_is_lot_in [(gVar 0), (gVar 2)])) (gCall sp_dark_fault [(gVar 0), (gVar 1), (gVar 2)]) (gTup [(gC (.str "form"))])))
def t_judge_spots (sp_is_lot_in : GSp) (sp_spots_fault : GSp) : GTS :=
  (gRet (gIfE (gTest (gCall sp_is_lot_in [(gVar 0), (gVar 2)])) (gCall sp_spots_fault [(gVar 0), (gVar 1), (gVar 2)]) (gTup [(gC (.str "form"))])))
def t_corridor_cells (sp_trail : GSp) : GTS :=
  (gRet (gCall sp_trail [(gTup [(gC (.int 0)), (gC (.int 0))]), (gVar 0)]))
def t_corridor (sp_corridor_cells : GSp) : GTS :=
  (gRet (gCB rTuple [(gCB rSortT [(gCall sp_corridor_cells [(gVar 0)])])]))
def t_is_plain : GTS :=
  (gRet (gAndV (gNotV (gAndV (gOp (rInX false) (gC (.str "r")) (gVar 0)) (gOp (rInX false) (gC (.str "l")) (gVar 0)))) (gNotV (gAndV (gOp (rInX false) (gC (.str "u")) (gVar 0)) (gOp (rInX false) (gC (.str "d")) (gVar 0))))))
def t_corridor_stretch (sp_is_plain : GSp) : GTS :=
  (gSeq (gPar 2 3 (gVar 1) (gVar 1)) (gSeq (gWhile (gAnd (gTest (gOp (rI fun i j => .bl (decide (j < i))) (gVar 2) (gC (.int 0)))) (gTest (gCall sp_is_plain [(gSliceX (gVar 0) (gPart (gOp (rI fun i j => .int (i - j)) (gVar 2) (gC (.int 1)))) (gPart (gVar 1)))]))) (gAug 2 (gC (.int 1)) (rI fun i j => .int (i - j)))) (gSeq (gWhile (gAnd (gTest (gOp (rI fun i j => .bl (decide (i < j))) (gVar 3) (gCB rLen [(gVar 0)]))) (gTest (gCall sp_is_plain [(gSliceX (gVar 0) (gPart (gVar 1)) (gPart (gOp (rI fun i j => .int (i + j)) (gVar 3) (gC (.int 1)))))]))) (gAug 3 (gC (.int 1)) (rI fun i j => .int (i + j)))) (gRet (gTup [(gVar 2), (gVar 3)])))))
def t_corridor_turns (sp_corridor_stretch : GSp) : GTS :=
  (gSeq (gPar 1 2 (gLst []) (gC (.int 0))) (gSeq (gWhile (gTest (gOp (rI fun i j => .bl (decide (i ≤ j))) (gVar 2) (gCB rLen [(gVar 0)]))) (gSeq (gAsg (gOp rIxT (gCall sp_corridor_stretch [(gVar 0), (gVar 2)]) (gC (.int 1))) (gName 3)) (gSeq (gDrop (gBM rApp (gVar 1) [(gTup [(gVar 2), (gVar 3)])])) (gAsg (gOp (rI fun i j => .int (i + j)) (gOp rIxT (gCall sp_corridor_stretch [(gVar 0), (gVar 3)]) (gC (.int 1))) (gC (.int 1))) (gName 2))))) (gRet (gVar 1))))
def t_corridor_stalls (sp_corridor_turns : GSp) : GTS :=
  (gRet (gCB rTuple [(gLc (gItL (gCall sp_corridor_turns [(gVar 0)])) (gUnp 2 [(gName 1), (gName 2)]) gYes (gVar 2) [1, 2])]))
def t_corridor_spots (sp_corridor_turns : GSp) : GTS :=
  (gRet (gCB rTuple [(gLc (gItL (gCall sp_corridor_turns [(gVar 0)])) (gUnp 2 [(gName 1), (gName 2)]) gYes (gVar 1) [1, 2])]))
def t__law_open_cells : GTS :=
  (gSeq (gAsg (gC (.int 11)) (gName 1)) (gSeq (gFor (gItF (gVar 0)) (gName 2) (gAsg (gOp (rIc (fun _ j => 0 < j) fun i j => .int (i % j)) (gCB rInt [(gOp (rI fun i j => .int (i + j)) (gOp (rI fun i j => .int (i + j)) (gOp (rIc CMul fun i j => .int (i * j)) (gVar 1) (gC (.int 69069))) (gOp (rIc CMul fun i j => .int (i * j)) (gVar 2) (gC (.int 31)))) (gC (.int 5)))]) (gC (.int 2147483629))) (gName 1))) (gSeq (gAsg (gLc (gItF (gVar 0)) (gName 2) gYes (gCB rAbs [(gVar 2)]) [2]) (gName 3)) (gRet (gDispS ["cells", "left", "mixed", "turn"] [(gRevL (gVar 3)), (gC (.int 1)), (gVar 1), (gC (.int 0))])))))
def t__law_pick : GTS :=
  (gSeq (gIf (gTest (gOp (rI fun i j => .bl (decide (i < j))) (gVar 1) (gC (.int 2)))) (gRet (gC (.int 0))) gNext) (gSeq (gAsg (gOp rGetS (gVar 0) (gC (.str "cells"))) (gName 2)) (gSeq (gWhile (gAnd (gTest (gOp (rI fun i j => .bl (decide (i < j))) (gOp rGetS (gVar 0) (gC (.str "left"))) (gC (.int 2)))) (gTest (gOp (rI fun i j => .bl (decide (j < i))) (gCB rLen [(gVar 2)]) (gC (.int 0))))) (gAsg (gBM rPopL (gVar 2) []) (gSubT (gVar 0) (gC (.str "left")) rSetS))) (gSeq (gAsg (gOp rGetS (gVar 0) (gC (.str "left"))) (gName 3)) (gSeq (gIf (gTest (gOp (rI fun i j => .bl (decide (j < i))) (gVar 3) (gC (.int 1)))) (gSeq (gAsg (gOp (rIc CDiv fun i j => .int (i / j)) (gVar 3) (gVar 1)) (gSubT (gVar 0) (gC (.str "left")) rSetS)) (gRet (gOp (rIc (fun _ j => 0 < j) fun i j => .int (i % j)) (gCB rInt [(gVar 3)]) (gVar 1)))) gNext) (gSeq (gAsg (gOp (rI fun i j => .int (i + j)) (gOp rGetS (gVar 0) (gC (.str "turn"))) (gC (.int 1))) (gSubT (gVar 0) (gC (.str "turn")) rSetS)) (gSeq (gAsg (gOp rGetS (gVar 0) (gC (.str "turn"))) (gName 4)) (gSeq (gAsg (gOp (rIc (fun _ j => 0 < j) fun i j => .int (i % j)) (gCB rInt [(gOp (rI fun i j => .int (i + j)) (gOp rGetS (gVar 0) (gC (.str "mixed"))) (gOp (rIc CMul fun i j => .int (i * j)) (gVar 4) (gC (.int 104729))))]) (gC (.int 998244353))) (gName 5)) (gSeq (gAsg (gOp (rIc (fun _ j => 0 < j) fun i j => .int (i % j)) (gCB rInt [(gOp (rI fun i j => .int (i + j)) (gOp (rIc CMul fun i j => .int (i * j)) (gVar 5) (gVar 5)) (gOp (rIc CMul fun i j => .int (i * j)) (gVar 4) (gC (.int 17))))]) (gC (.int 2147483647))) (gName 5)) (gRet (gOp (rIc (fun _ j => 0 < j) fun i j => .int (i % j)) (gCB rInt [(gOp (rIc CDiv fun i j => .int (i / j)) (gVar 5) (gC (.int 16)))]) (gVar 1))))))))))))
def t__law_sides : GTS :=
  (gSeq (gAsg (gVar 0) (gUnp 2 [(gName 1), (gName 2)])) (gRet (gLst [(gTup [(gOp (rI fun i j => .int (i + j)) (gVar 1) (gC (.int 1))), (gVar 2)]), (gTup [(gVar 1), (gOp (rI fun i j => .int (i + j)) (gVar 2) (gC (.int 1)))]), (gTup [(gOp (rI fun i j => .int (i - j)) (gVar 1) (gC (.int 1))), (gVar 2)]), (gTup [(gVar 1), (gOp (rI fun i j => .int (i - j)) (gVar 2) (gC (.int 1)))])])))
def t__law_field : GTS :=
  (gSeq (gPar 2 3 (gCB rDict [(gLc (gItT (gVar 0)) (gName 4) gYes (gTup [(gVar 4), (gC (.int 0))]) [4])]) (gDisp1 (gVar 1) (gC (.int 0)))) (gSeq (gFor (gItT (gTup [(gC (.int 1)), (gOp (rI fun i j => .int (i - j)) (gC (.int 0)) (gC (.int 1)))])) (gName 5) (gFor (gItT (gTup [(gC (.int 1)), (gOp (rI fun i j => .int (i - j)) (gC (.int 0)) (gC (.int 1)))])) (gName 6) (gSeq (gPar 7 8 (gDisp1 (gVar 1) (gC (.int 0))) (gLst [(gVar 1)])) (gWhile (gTest (gOp rNeL (gVar 8) (gLst []))) (gSeq (gAsg (gBM rPopL (gVar 8) []) (gUnp 2 [(gName 9), (gName 10)])) (gFor (gItT (gTup [(gTup [(gOp (rI fun i j => .int (i + j)) (gVar 9) (gVar 5)), (gVar 10)]), (gTup [(gVar 9), (gOp (rI fun i j => .int (i + j)) (gVar 10) (gVar 6))])])) (gName 11) (gIf (gAnd (gTest (gOp (rInD false) (gVar 11) (gVar 2))) (gTest (gOp (rInD true) (gVar 11) (gVar 7)))) (gSeq (gAsg (gTup [(gC (.int 0)), (gC (.int 0))]) (gUnp 2 [(gSubT (gVar 7) (gVar 11) rSetD), (gSubT (gVar 3) (gVar 11) rSetD)])) (gDrop (gBM rApp (gVar 8) [(gVar 11)]))) gNext))))))) (gRet (gCB rTuple [(gCB rSort [(gCB rListD [(gVar 3)])])]))))
def t__law_goes : GTS :=
  (gSeq (gAsg (gLst [(gTup [(gC (.int 0)), (gC (.int 0))])]) (gName 1)) (gSeq (gFor (gItS (gVar 0)) (gName 2) (gSeq (gAsg (gOp rIxL (gVar 1) (gUn rNegG (gC (.int 1)))) (gUnp 2 [(gName 3), (gName 4)])) (gDrop (gBM rApp (gVar 1) [(gTup [(gOp (rI fun i j => .int (i - j)) (gOp (rI fun i j => .int (i + j)) (gVar 3) (gCB rInt [(gOp rEq (gVar 2) (gC (.str "r")))])) (gCB rInt [(gOp rEq (gVar 2) (gC (.str "l")))])), (gOp (rI fun i j => .int (i - j)) (gOp (rI fun i j => .int (i + j)) (gVar 4) (gCB rInt [(gOp rEq (gVar 2) (gC (.str "u")))])) (gCB rInt [(gOp rEq (gVar 2) (gC (.str "d")))]))])])))) (gRet (gVar 1))))
def t__law_is_corridor (sp__law_goes : GSp) (sp__law_sides : GSp) : GTS :=
  (gSeq (gAsg (gCall sp__law_goes [(gVar 0)]) (gName 1)) (gSeq (gIf (gTest (gOp rNe (gLenSet (gVar 1)) (gCB rLen [(gVar 1)]))) (gRet (gC (.bl false))) gNext) (gSeq (gAsg (gCB rDict [(gLc (gItEL (gVar 1)) (gUnp 2 [(gName 3), (gName 4)]) gYes (gTup [(gVar 4), (gVar 3)]) [3, 4])]) (gName 2)) (gSeq (gFor (gItEL (gVar 1)) (gUnp 2 [(gName 3), (gName 4)]) (gIf (gTest (gOp rNeL (gLc (gItL (gCall sp__law_sides [(gVar 4)])) (gName 5) (gTest (gOp (rI fun i j => .bl (decide (j < i))) (gCB rAbs [(gOp (rI fun i j => .int (i - j)) (gDM rGetOrD (gVar 2) [(gVar 5), (gVar 3)]) (gVar 3))]) (gC (.int 1)))) (gVar 5) [5]) (gLst []))) (gRet (gC (.bl false))) gNext)) (gRet (gC (.bl true)))))))
def t__law_draw_corridor (sp__law_pick : GSp) (sp__law_is_corridor : GSp) : GTS :=
  (gSeq (gAsg (gC (.str "")) (gName 2)) (gSeq (gFor (gItR (gCall sp__law_pick [(gVar 0), (gOp (rI fun i j => .int (i + j)) (gVar 1) (gC (.int 1)))])) (gName 3) (gSeq (gAsg (gOp rCatS (gVar 2) (gIfE (gAnd (gTest (gOp rEq (gCall sp__law_pick [(gVar 0), (gC (.int 3))]) (gC (.int 0)))) (gTest (gOp rNe (gVar 2) (gC (.str ""))))) (gSliceX (gVar 2) (gPart (gUn rNegG (gC (.int 1)))) gNoPart) (gOp rIxX (gC (.str "rlud")) (gCall sp__law_pick [(gVar 0), (gC (.int 4))])))) (gName 4)) (gAsg (gIfE (gTest (gCall sp__law_is_corridor [(gVar 4)])) (gVar 4) (gVar 2)) (gName 2)))) (gRet (gVar 2))))
def t__law_is_plain : GTS :=
  (gRet (gAndV (gNotV (gAndV (gOp (rInX false) (gC (.str "r")) (gVar 0)) (gOp (rInX false) (gC (.str "l")) (gVar 0)))) (gNotV (gAndV (gOp (rInX false) (gC (.str "u")) (gVar 0)) (gOp (rInX false) (gC (.str "d")) (gVar 0))))))
def t__law_turns (sp__law_is_plain : GSp) : GTS :=
  (gSeq (gPar 1 2 (gLst []) (gC (.int 0))) (gSeq (gFor (gItR (gOp (rI fun i j => .int (i + j)) (gCB rLen [(gVar 0)]) (gC (.int 1)))) (gName 3) (gSeq (gIf (gTest (gOp (rI fun i j => .bl (decide (j < i))) (gVar 2) (gCB rLen [(gVar 0)]))) gBreak gNext) (gSeq (gAsg (gVar 2) (gName 4)) (gSeq (gFor (gItR2 (gVar 2) (gOp (rI fun i j => .int (i + j)) (gCB rLen [(gVar 0)]) (gC (.int 1)))) (gName 5) (gAsg (gIfE (gTest (gCall sp__law_is_plain [(gSliceX (gVar 0) (gPart (gVar 2)) (gPart (gVar 5)))])) (gVar 5) (gVar 4)) (gName 4))) (gSeq (gDrop (gBM rApp (gVar 1) [(gTup [(gVar 2), (gVar 4)])])) (gAsg (gOp (rI fun i j => .int (i + j)) (gCB rMaxG [(gLc (gItR2 (gVar 4) (gOp (rI fun i j => .int (i + j)) (gCB rLen [(gVar 0)]) (gC (.int 1)))) (gName 5) (gTest (gCall sp__law_is_plain [(gSliceX (gVar 0) (gPart (gVar 4)) (gPart (gVar 5)))])) (gVar 5) [5])]) (gC (.int 1))) (gName 2))))))) (gRet (gVar 1))))
def t_law (sp__law_open_cells : GSp) (sp__law_draw_corridor : GSp) (sp_corridor_cells : GSp) (sp_corridor : GSp) (sp__law_goes : GSp) (sp__law_turns : GSp) (sp_corridor_stalls : GSp) (sp_corridor_spots : GSp) (sp_answer : GSp) (sp_fewest : GSp) (sp_judge_answer : GSp) (sp_judge_stalls : GSp) (sp_judge_spots : GSp) (sp__law_pick : GSp) (sp_first_way : GSp) (sp_serves : GSp) (sp__law_is_plain : GSp) (sp_ways_many : GSp) (sp_field : GSp) (sp__law_field : GSp) : GTS :=
  (gSeq (gAsg (gCall sp__law_open_cells [(gVar 0)]) (gName 1)) (gSeq (gAsg (gCall sp__law_draw_corridor [(gVar 1), (gC (.int 24))]) (gName 2)) (gSeq (gAsg (gTup [(gCall sp_corridor_cells [(gVar 2)]), (gCall sp_corridor [(gVar 2)])]) (gUnp 2 [(gName 3), (gName 4)])) (gSeq (gIf (gOr (gTest (gOp rNeL (gCB rList [(gVar 3)]) (gCall sp__law_goes [(gVar 2)]))) (gTest (gOp rNeL (gCB rList [(gVar 4)]) (gCB rSort [(gCall sp__law_goes [(gVar 2)])])))) (gRet (gC (.bl false))) gNext) (gSeq (gAsg (gCall sp__law_turns [(gVar 2)]) (gName 5)) (gSeq (gAsg (gCB rTuple [(gCB rSort [(gLc (gItL (gVar 5)) (gUnp 2 [(gName 7), (gName 8)]) gYes (gOp rIxT (gVar 3) (gVar 8)) [7, 8])])]) (gName 6)) (gSeq (gAsg (gCB rTuple [(gCB rSort [(gLc (gItL (gVar 5)) (gUnp 2 [(gName 7), (gName 8)]) gYes (gOp rIxT (gVar 3) (gVar 7)) [7, 8])])]) (gName 9)) (gSeq (gIf (gTest (gOp rNe (gCall sp_corridor_stalls [(gVar 2)]) (gCB rTuple [(gLc (gItL (gVar 5)) (gUnp 2 [(gName 7), (gName 8)]) gYes (gVar 8) [7, 8])]))) (gRet (gC (.bl false))) gNext) (gSeq (gIf (gTest (gOp rNe (gCall sp_corridor_spots [(gVar 2)]) (gCB rTuple [(gLc (gItL (gVar 5)) (gUnp 2 [(gName 7), (gName 8)]) gYes (gVar 7) [7, 8])]))) (gRet (gC (.bl false))) gNext) (gSeq (gAsg (gCall sp_answer [(gVar 4)]) (gName 10)) (gSeq (gIf (gOr (gTest (gOp rNe (gCB rLen [(gOp rIxT (gVar 10) (gC (.int 0)))]) (gCB rLen [(gVar 5)]))) (gOr (gTest (gOp rNe (gCB rLen [(gOp rIxT (gVar 10) (gC (.int 1)))]) (gCB rLen [(gVar 5)]))) (gTest (gOp rNe (gCall sp_fewest [(gVar 4), (gVar 4)]) (gCB rLen [(gVar 5)]))))) (gRet (gC (.bl false))) gNext) (gSeq (gIf (gOr (gTest (gOp (rIsN true) (gCall sp_judge_answer [(gVar 4), (gVar 4), (gTup [(gVar 6), (gVar 9)])]) (gC .non))) (gTest (gOp (rIsN true) (gCall sp_judge_answer [(gVar 4), (gVar 4), (gVar 10)]) (gC .non)))) (gRet (gC (.bl false))) gNext) (gSeq (gIf (gOr (gTest (gOp (rIsN true) (gCall sp_judge_stalls [(gVar 4), (gVar 4), (gVar 6)]) (gC .non))) (gTest (gOp (rIsN true) (gCall sp_judge_spots [(gVar 4), (gVar 4), (gVar 9)]) (gC .non)))) (gRet (gC (.bl false))) gNext) (gSeq (gFor (gItR (gC (.int 6))) (gName 11) (gSeq (gAsg (gTup [(gCall sp__law_pick [(gVar 1), (gCB rLen [(gVar 3)])]), (gCall sp__law_pick [(gVar 1), (gCB rLen [(gVar 3)])])]) (gUnp 2 [(gName 12), (gName 13)])) (gSeq (gAsg (gSliceX (gVar 2) (gPart (gCB (rTwoG fun i j => if j < i then j else i) [(gVar 12), (gVar 13)])) (gPart (gCB (rTwoG fun i j => if j > i then j else i) [(gVar 12), (gVar 13)]))) (gName 14)) (gSeq (gAsg (gCall sp_first_way [(gVar 4), (gOp rIxT (gVar 3) (gCB (rTwoG fun i j => if j < i then j else i) [(gVar 12), (gVar 13)])), (gOp rIxT (gVar 3) (gCB (rTwoG fun i j => if j > i then j else i) [(gVar 12), (gVar 13)]))]) (gName 15)) (gSeq (gIf (gTest (gOp rNe (gCB rReprB [(gCall sp_serves [(gVar 4), (gOp rIxT (gVar 3) (gVar 12)), (gOp rIxT (gVar 3) (gVar 13))])]) (gCB rReprB [(gCall sp__law_is_plain [(gVar 14)])]))) (gRet (gC (.bl false))) gNext) (gSeq (gIf (gTest (gOp rNe (gVar 15) (gIfE (gTest (gCall sp__law_is_plain [(gVar 14)])) (gVar 14) (gC .non)))) (gRet (gC (.bl false))) gNext) (gSeq (gIf (gTest (gOp rNe (gCall sp_ways_many [(gVar 4), (gOp rIxT (gVar 3) (gVar 12)), (gOp rIxT (gVar 3) (gVar 13))]) (gIfE (gTest (gCall sp__law_is_plain [(gVar 14)])) (gC (.int 1)) (gC (.int 0))))) (gRet (gC (.bl false))) gNext) (gSeq (gAsg (gLc (gItET (gVar 3)) (gUnp 2 [(gName 17), (gName 18)]) (gTest (gCall sp__law_is_plain [(gSliceX (gVar 2) (gPart (gCB (rTwoG fun i j => if j < i then j else i) [(gVar 12), (gVar 17)])) (gPart (gCB (rTwoG fun i j => if j > i then j else i) [(gVar 12), (gVar 17)])))])) (gVar 18) [17, 18]) (gName 16)) (gIf (gOr (gTest (gOp rNeL (gCB rList [(gCall sp_field [(gVar 4), (gOp rIxT (gVar 3) (gVar 12))])]) (gCB rSort [(gVar 16)]))) (gTest (gOp rNe (gCall sp_field [(gVar 4), (gOp rIxT (gVar 3) (gVar 12))]) (gCall sp__law_field [(gVar 4), (gOp rIxT (gVar 3) (gVar 12))])))) (gRet (gC (.bl false))) gNext))))))))) (gRet (gC (.bl true)))))))))))))))))
end Hd
set_option Elab.async false
set_option linter.all false
set_option maxRecDepth 100000
set_option maxHeartbeats 4000000
namespace Hd
open PySem PySem.Spec PyProof.Rows L2 G
@[simp] theorem gup_gup {Γ : Gp} {p : Addr} {a b : GO} : gup (gup Γ p a) p b = gup Γ p b := by
  funext x; unfold gup; split <;> rfl
theorem ret_of {te : GTE} {Z : GEnds} {ρ : Ro} {Γ : Gp} (h : te ρ Γ fun d G1 => Z.rt d G1) (hm : ∀ (A B : GK), (∀ d G, A d G → B d G) → te ρ Γ A → te ρ Γ B) : gRet te Z ρ Γ := hm _ _ (fun d G h => ⟨G, Fg.refl, h⟩) h
theorem pop_of {Γ : Gp} {r : Addr} {xs : List D} {y : D} {Q : GK} (h : Γ r = some (.lst (xs ++ [y]))) (q : Q y (gup Γ r (.lst xs))) : rPopL (.ref r) [] Γ Q := ⟨r, xs, y, rfl, rfl, h, q⟩
theorem truth_v {ρ : Ro} {Γ : Gp} {Q : Bool → Gp → Prop} {r : Addr} {ds : List D} (i : Nat) (e : ρ[i]? = some (some (.ref r))) (h : Γ r = some (.lst ds)) (q : Q (!ds.isEmpty) Γ) : gTruth (gVar i) ρ Γ Q := ⟨_, e, _, ⟨ds, h, rfl⟩, q⟩
theorem snoc_or {α : Type} (S : List α) : S = [] ∨ ∃ S' c, S = S' ++ [c] := by
  rcases List.eq_nil_or_concat S with h | ⟨l, b, h⟩
  · exact .inl h
  · exact .inr ⟨l, b, by rw [h, List.concat_eq_append]⟩
theorem Sub.upd {A B : Gp} {p : Addr} {o : GO} (s : G.Sub A B) (h : A p = none) : G.Sub A (gup B p o) := fun a u e => by
  rw [gup_ne (by rintro rfl; rw [h] at e; cases e)]
  exact s a u e
theorem rSort_dct {Γ : Gp} {f : Addr} {F : List Cell} {v : D} {Q : GK} (hF : F.Nodup) (h : Γ f = some (.dct (cset F v))) (q : ∀ p, Γ p = none → Q (.ref p) (gup Γ p (.lst ((srt F).map cD)))) : rSort [.ref f] Γ Q :=
  ⟨F.map cD, canSort_cells F, ⟨f, rfl, .inr ⟨_, h, cset_keys F v⟩⟩, fun p hp => by rw [sortD_cells]; exact q p hp⟩
theorem rSort_lst {Γ : Gp} {f : Addr} {F : List Cell} {Q : GK} (h : Γ f = some (.lst (F.map cD))) (q : ∀ p, Γ p = none → Q (.ref p) (gup Γ p (.lst ((srt F).map cD)))) : rSort [.ref f] Γ Q :=
  ⟨F.map cD, canSort_cells F, ⟨f, rfl, .inl h⟩, fun p hp => by rw [sortD_cells]; exact q p hp⟩
def mvs : List (Str × D) := [("r", cD (1, 0)), ("l", cD (-1, 0)), ("u", cD (0, 1)), ("d", cD (0, -1))]
def sp_moves : GSp := fun ds G Q => ds = [] ∧ ∀ p, G p = none → Q (.ref p) (gup G p (.dks mvs))
theorem p_moves (ds : List D) (Γ : Gp) (R : GK) (h : sp_moves ds Γ R) : t_moves { nx := fun _ G' => R .non G', rt := R } (ds.map some ++ List.replicate (0 - ds.length) none) Γ := by
  obtain ⟨rfl, h⟩ := h
  intro p hp
  simp
  exact ⟨_, Fg.refl, h p hp⟩
/-- two signs -/
def sg (dx dy : Int) : Str := if dx = 1 then (if dy = 1 then "ru" else "rd") else if dy = 1 then "lu" else "ld"
def Unit1 (d : Int) : Prop := d = 1 ∨ d = -1
def qs (dx dy : Int) (c : Cell) : List Cell := [(c.1 + dx, c.2), (c.1, c.2 + dy)]
def sgMv : D → Option D
  | .str s => sget mvs s
  | _ => none
theorem strD_sg {dx dy : Int} (hx : Unit1 dx) (hy : Unit1 dy) : (strD (sg dx dy)).filterMap sgMv = [cD (dx, 0), cD (0, dy)] ∧ (strD (sg dx dy)).length ≤ 2 ∧ ∀ d ∈ strD (sg dx dy), ∃ s v, d = .str s ∧ sget mvs s = some v := by
  rcases hx with rfl | rfl <;> rcases hy with rfl | rfl
  · refine ⟨by rfl, by decide, fun d hd => ?_⟩
    rcases List.mem_cons.mp (show d ∈ [D.str "r", D.str "u"] from hd) with rfl | hd
    · exact ⟨_, _, rfl, rfl⟩
    · rw [List.mem_singleton] at hd; subst hd; exact ⟨_, _, rfl, rfl⟩
  · refine ⟨by rfl, by decide, fun d hd => ?_⟩
    rcases List.mem_cons.mp (show d ∈ [D.str "r", D.str "d"] from hd) with rfl | hd
    · exact ⟨_, _, rfl, rfl⟩
    · rw [List.mem_singleton] at hd; subst hd; exact ⟨_, _, rfl, rfl⟩
  · refine ⟨by rfl, by decide, fun d hd => ?_⟩
    rcases List.mem_cons.mp (show d ∈ [D.str "l", D.str "u"] from hd) with rfl | hd
    · exact ⟨_, _, rfl, rfl⟩
    · rw [List.mem_singleton] at hd; subst hd; exact ⟨_, _, rfl, rfl⟩
  · refine ⟨by rfl, by decide, fun d hd => ?_⟩
    rcases List.mem_cons.mp (show d ∈ [D.str "l", D.str "d"] from hd) with rfl | hd
    · exact ⟨_, _, rfl, rfl⟩
    · rw [List.mem_singleton] at hd; subst hd; exact ⟨_, _, rfl, rfl⟩
def sp_corner_field : GSp := fun ds G Q => ∃ (a : Addr) (K : List Cell) (v : D) (s : Cell) (dx dy : Int), ds = [.ref a, cD s, .str (sg dx dy)] ∧ G a = some (.dct (cset K v)) ∧ K.length ≤ 10000 ∧ Unit1 dx ∧ Unit1 dy ∧
  ∀ L G', Asc L → (∀ c, c ∈ L ↔ Rch (· ∈ K) (qs dx dy) s c) → Sub G G' → Q (rD L) G'
theorem p_corner_field (ds : List D) (Γ : Gp) (R : GK) (h : sp_corner_field ds Γ R) : t_corner_field sp_moves { nx := fun _ G' => R .non G', rt := R } (ds.map some ++ List.replicate (11 - ds.length) none) Γ := by
  obtain ⟨a, K, v, s, dx, dy, rfl, ha, hK, hx, hy, hQ⟩ := h
  unfold t_corner_field
  simp
  intro f hf
  intro r hr
  have hfa : a ≠ f := by rintro rfl; rw [ha] at hf; cases hf
  have hrf : r ≠ f := by rintro rfl; rw [gup_same] at hr; cases hr
  have hrn : Γ r = none := by rwa [gup_ne hrf] at hr
  have hra : a ≠ r := by rintro rfl; rw [ha] at hrn; cases hrn
  refine while_of (fun m ρ G' => ∃ F S x5 x6 x7 x8 x9 x10, ρ = [some (.ref a), some (cD s), some (.str (sg dx dy)), some (.ref f), some (.ref r), x5, x6, x7, x8, x9, x10] ∧ G.Sub Γ G' ∧ G' f = some (.dct (cset F (.bl true))) ∧ G' r = some (.lst (S.map cD)) ∧ FI K (qs dx dy) s (F, S) ∧ m = fmeas K (F, S))
    _ ⟨[s], [s], none, none, none, none, none, none, rfl, (Sub.new hf).trans (Sub.new hr), by rw [gup_ne (Ne.symm hrf), gup_same]; rfl, gup_same, FI.start .., rfl⟩ ?_
  rintro Y m ρ G1 ⟨F, S, x5, x6, x7, x8, x9, x10, rfl, sub, hF, hS, inv, rfl⟩ hnx _ _ hrt
  refine truth_v 4 rfl hS ?_
  rcases snoc_or S with rfl | ⟨S, c, rfl⟩
  · simp
    refine rSort_dct inv.nd hF fun p hp => ?_
    simp
    exact ⟨_, Fg.refl, hQ _ _ (srt_asc inv.nd) (fun c => srt_mem.trans (inv.all c)) (sub.trans (Sub.new hp))⟩
  · have hln := inv.len
    have hS2 : G1 r = some (.lst (S.map cD ++ [cD c])) := by rw [hS, List.map_append]; rfl
    simp [hS2]
    refine pop_of hS2 ⟨_, rfl, rfl, _, _, rfl, _, _, rfl, rfl, ?_⟩
    have sub2 : G.Sub Γ (gup G1 r (.lst (S.map cD))) := Sub.upd sub hrn
    obtain ⟨m1, m2, m3⟩ := strD_sg hx hy
    refine lc_fm _ _ sgMv (by omega) (fun _ _ => trivial) (fun d hd G2 s2 Q2 h2 => ?_) fun p G2 hp s2 hp2 => ?_
    · obtain ⟨x, y, rfl, hy⟩ := m3 d hd
      have e2 : sgMv (.str x) = some y := hy
      refine ⟨rfl, fun q hq => ?_⟩
      have := h2 _ (Sub.new (o := .dks mvs) hq)
      rw [e2] at this
      simpa [hy] using this
    · rw [m1] at hp2
      have hpr : r ≠ p := by rintro rfl; rw [gup_same] at hp; cases hp
      have hpn : G1 p = none := by rwa [gup_ne (Ne.symm hpr)] at hp
      have hpf : f ≠ p := by rintro rfl; rw [hF] at hpn; cases hpn
      have hF2 : G2 f = some (.dct (cset F (.bl true))) := s2 _ _ (by rw [gup_ne (Ne.symm hrf)]; exact hF)
      have hr2 : G2 r = some (.lst (S.map cD)) := s2 _ _ gup_same
      simp [hp2]
      refine for_of (fun i ρ G' => ∃ F' S' x7 x8 x9 x10, ρ = [some (.ref a), some (cD s), some (.str (sg dx dy)), some (.ref f), some (.ref r), some (.int c.1), some (.int c.2), x7, x8, x9, x10] ∧ G.Sub Γ G' ∧ G' f = some (.dct (cset F' (.bl true))) ∧ G' r = some (.lst (S'.map cD)) ∧ ((qs dx dy c).take i).foldl (visit K) (F, S) = (F', S') ∧ G' p = some (.lst [cD (dx, 0), cD (0, dy)]))
        ⟨F, S, x7, x8, x9, x10, rfl, sub2.trans s2, hF2, hr2, rfl, hp2⟩ (fun i ρ G' ⟨_, _, _, _, _, _, _, _, _, _, _, h⟩ => h) ?_ ?_
      · rintro Z i d ρ G3 ed ⟨F', S', x7, x8, x9, x10, rfl, s3, hf3, hr3, hv, hp3⟩ hZ _ _ _
        have hm : ∃ m : Cell, d = cD m ∧ (qs dx dy c)[i]? = some (c.1 + m.1, c.2 + m.2) := by
          match i, ed with
          | 0, ed => cases ed; exact ⟨(dx, 0), rfl, by simp [qs]⟩
          | 1, ed => cases ed; exact ⟨(0, dy), rfl, by simp [qs]⟩
        obtain ⟨m, rfl, em⟩ := hm
        have ha3 : G3 a = some (.dct (cset K v)) := s3 _ _ ha
        have e5 : (qs dx dy c).take (i + 1) = (qs dx dy c).take i ++ [(c.1 + m.1, c.2 + m.2)] := by rw [List.take_succ, em]; rfl
        have hv2 := hv ▸ (show ((qs dx dy c).take (i + 1)).foldl (visit K) (F, S) = visit K (((qs dx dy c).take i).foldl (visit K) (F, S)) (c.1 + m.1, c.2 + m.2) by rw [e5, List.foldl_append]; rfl)
        refine ⟨_, rfl, rfl, _, _, rfl, _, _, rfl, rfl, ?_⟩
        have hfn : Γ f = none := hf
        simp [ha3, hf3]
        have hlt : F'.length ≤ K.length + 1 ∧ S'.length ≤ K.length + 1 := by
          have := ((inv.pop).visits ((qs dx dy c).take i) fun d hd => List.mem_of_mem_take hd)
          rw [hv] at this
          exact this.len
        by_cases h1 : (c.1 + m.1, c.2 + m.2) ∈ K
        · by_cases h2 : (c.1 + m.1, c.2 + m.2) ∈ F'
          · simp [h1, h2]
            refine hZ _ _ ⟨F', S', _, _, _, _, rfl, s3, hf3, hr3, ?_, hp3⟩
            rw [hv2]; simp [visit, h2]
          · simp [h1, h2, gup_ne hrf, hr3]
            rw [sizeLine_eq]
            refine ⟨by omega, by omega, hZ _ _ ⟨ins F' (c.1 + m.1, c.2 + m.2), S' ++ [(c.1 + m.1, c.2 + m.2)], _, _, _, _, rfl, Sub.upd (Sub.upd s3 hf) hrn, by rw [gup_ne (Ne.symm hrf), gup_same], by rw [gup_same]; simp, ?_, ?_⟩⟩
            · rw [hv2]; simp [visit, h1, h2, ins_new]
            · rw [gup_ne (Ne.symm hpr), gup_ne (Ne.symm hpf)]; exact hp3
        · simp [h1]
          refine hZ _ _ ⟨F', S', _, _, _, _, rfl, s3, hf3, hr3, ?_, hp3⟩
          rw [hv2]; simp [visit, h1]
      · rintro ρ G3 ⟨F', S', x7, x8, x9, x10, rfl, s3, hf3, hr3, hv, hp3⟩
        have e : (qs dx dy c).take [cD (dx, 0), cD (0, dy)].length = qs dx dy c := rfl
        rw [e] at hv
        refine hnx (fmeas K (F', S')) _ _ ?_ ⟨F', S', _, _, _, _, _, _, rfl, s3, hf3, hr3, by rw [← hv]; exact inv.turn, rfl⟩
        rw [← hv]
        exact turn_meas F S c _
end Hd
set_option Elab.async false
set_option linter.all false
set_option maxRecDepth 100000
set_option maxHeartbeats 4000000
namespace Hd
open PySem PySem.Spec PyProof.Rows L2 G
open Classical in
/-- the ascending list of the cells of B with P -/
noncomputable def lst (B : List Cell) (P : Cell → Prop) : List Cell := srt ((dedup B).filter fun c => decide (P c))
theorem lst_asc (B : List Cell) (P : Cell → Prop) : Asc (lst B P) := srt_asc ((dedup_nodup B).filter _)
open Classical in
theorem mem_lst {B : List Cell} {P : Cell → Prop} {c : Cell} : c ∈ lst B P ↔ c ∈ B ∧ P c := by
  unfold lst
  rw [srt_mem, List.mem_filter, mem_dedup, decide_eq_true_eq]
theorem lst_eq {B A : List Cell} {P : Cell → Prop} (hA : Asc A) (h : ∀ c, c ∈ A ↔ c ∈ B ∧ P c) : A = lst B P := hA.ext (lst_asc B P) fun c => (h c).trans mem_lst.symm
theorem lst_len (B : List Cell) (P : Cell → Prop) : (lst B P).length ≤ B.length := by
  have := nodup_len (lst_asc B P).nodup (B := B) fun c h => (mem_lst.mp h).1
  exact this
/-! corner_fields -/
noncomputable def qd (L : List Cell) (dx dy : Int) (s : Cell) : List Cell := lst (s :: L) (Rch (· ∈ L) (qs dx dy) s)
theorem rch_in {K : Cell → Prop} {succ : Cell → List Cell} {s c : Cell} (h : Rch K succ s c) : c = s ∨ K c := by
  cases h with
  | base => exact .inl rfl
  | step _ _ k => exact .inr k
theorem qd_eq {K L A : List Cell} {dx dy : Int} {s : Cell} (hk : ∀ c, c ∈ K ↔ c ∈ L) (hA : Asc A) (h : ∀ c, c ∈ A ↔ Rch (· ∈ K) (qs dx dy) s c) : A = qd L dx dy s := by
  have e : (fun c => c ∈ K) = (fun c => c ∈ L) := funext fun c => propext (hk c)
  refine lst_eq hA fun c => (h c).trans ?_
  rw [e]
  exact ⟨fun hr => ⟨by rcases rch_in hr with rfl | h <;> simp_all, hr⟩, fun hr => hr.2⟩
def sp_corner_fields : GSp := fun ds G Q => ∃ (L : List Cell) (s : Cell), ds = [rD L, cD s] ∧ L.length ≤ 5000 ∧ ∀ G', Sub G G' → Q (.tup [rD (qd L 1 1 s), rD (qd L (-1) 1 s), rD (qd L (-1) (-1) s), rD (qd L 1 (-1) s)]) G'
noncomputable def sgF (L : List Cell) (s : Cell) : D → Option D
  | .str x => some (rD (if x = "ru" then qd L 1 1 s else if x = "lu" then qd L (-1) 1 s else if x = "ld" then qd L (-1) (-1) s else qd L 1 (-1) s))
  | _ => none
theorem p_corner_fields (ds : List D) (Γ : Gp) (R : GK) (h : sp_corner_fields ds Γ R) : t_corner_fields sp_corner_field { nx := fun _ G' => R .non G', rt := R } (ds.map some ++ List.replicate (5 - ds.length) none) Γ := by
  obtain ⟨L, s, rfl, hL, hQ⟩ := h
  unfold t_corner_fields
  simp [rD]
  refine dc_fm _ _ (fun d => some (d, .bl true)) (by simpa using by omega) (fun _ _ => trivial) (fun d hd q hq => ?_) (fun d hd G2 s2 Q2 h2 => by simpa using h2 G2 Sub.refl) fun p G2 hp s2 hp2 => ?_
  · cases hq
    rw [List.mem_map] at hd
    obtain ⟨c, _, rfl⟩ := hd
    exact cD_key c
  · have e : (L.map cD).filterMap (fun d => some (d, D.bl true)) = L.map fun c => (cD c, D.bl true) := by
      rw [List.filterMap_map]
      show L.filterMap (fun c => some (cD c, D.bl true)) = _
      rw [← List.filterMap_eq_map]; rfl
    rw [e, dputs_nil] at hp2
    refine lc_fm _ _ (sgF L s) (by decide) (fun _ _ => trivial) (fun d hd G3 s3 Q3 h3 => ?_) fun r G3 hr s3 hr2 => ?_
    · have key : ∀ dx dy, Unit1 dx → Unit1 dy → d = .str (sg dx dy) → sgF L s (.str (sg dx dy)) = some (rD (qd L dx dy s)) → sp_corner_field [.ref p, cD s, d] G3 (fun y G4 => Q3 (some y) G4) := by
        intro dx dy ux uy hd e
        refine ⟨p, dedup L, .bl true, s, dx, dy, by rw [hd], s3 _ _ hp2, Nat.le_trans (dedup_len L) (by omega), ux, uy, fun A G4 hA hm s4 => ?_⟩
        rw [qd_eq (L := L) (fun c => mem_dedup) hA hm]
        show Q3 (some (rD (qd L dx dy s))) G4
        rw [← e, ← hd]
        exact h3 _ s4
      simp
      simp only [List.mem_cons, List.not_mem_nil, or_false] at hd
      rcases hd with rfl | rfl | rfl | rfl
      · exact key 1 1 (.inl rfl) (.inl rfl) rfl (by rfl)
      · exact key (-1) 1 (.inr rfl) (.inl rfl) rfl (by rfl)
      · exact key (-1) (-1) (.inr rfl) (.inr rfl) rfl (by rfl)
      · exact key 1 (-1) (.inl rfl) (.inr rfl) rfl (by rfl)
    · have e : [D.str "ru", D.str "lu", D.str "ld", D.str "rd"].filterMap (sgF L s) = [rD (qd L 1 1 s), rD (qd L (-1) 1 s), rD (qd L (-1) (-1) s), rD (qd L 1 (-1) s)] := rfl
      rw [e] at hr2
      simp [hr2]
      exact ⟨_, Fg.refl, hQ _ (s2.trans s3)⟩
/-! field -/
def Fld (L : List Cell) (s c : Cell) : Prop := ∃ dx dy, Unit1 dx ∧ Unit1 dy ∧ Rch (· ∈ L) (qs dx dy) s c
noncomputable def fld (L : List Cell) (s : Cell) : List Cell := lst (s :: L) (Fld L s)
theorem fld_in {L : List Cell} {s c : Cell} (h : Fld L s c) : c = s ∨ c ∈ L := by
  obtain ⟨_, _, _, _, h⟩ := h
  exact rch_in h
theorem mem_fld {L : List Cell} {s c : Cell} : c ∈ fld L s ↔ Fld L s c := by
  unfold fld
  rw [mem_lst]
  exact ⟨fun h => h.2, fun h => ⟨by rcases fld_in h with rfl | h <;> simp_all, h⟩⟩
theorem mem_qd {L : List Cell} {dx dy : Int} {s c : Cell} : c ∈ qd L dx dy s ↔ Rch (· ∈ L) (qs dx dy) s c := by
  unfold qd
  rw [mem_lst]
  exact ⟨fun h => h.2, fun h => ⟨by rcases rch_in h with rfl | h <;> simp_all, h⟩⟩
theorem fld_len (L : List Cell) (s : Cell) : (fld L s).length ≤ L.length + 1 := lst_len _ _
def sp_field : GSp := fun ds G Q => ∃ (L : List Cell) (s : Cell), ds = [rD L, cD s] ∧ L.length ≤ 5000 ∧ ∀ G', Sub G G' → Q (rD (fld L s)) G'
theorem p_field (ds : List D) (Γ : Gp) (R : GK) (h : sp_field ds Γ R) : t_field sp_corner_fields { nx := fun _ G' => R .non G', rt := R } (ds.map some ++ List.replicate (4 - ds.length) none) Γ := by
  obtain ⟨L, s, rfl, hL, hQ⟩ := h
  unfold t_field
  simp
  refine ⟨L, s, rfl, hL, fun G1 s1 => ?_⟩
  simp
  refine dc2_fm _ _ (fun d => match d with | .tup xs => xs | _ => []) (fun _ e => (e, .bl true)) (L.length + 1) (by simp; omega) (fun d hd => ?_) (fun _ _ => trivial) (fun d hd e he => ?_) (fun d hd G2 s2 Q2 h2 => ?_) fun p G2 hp s2 hp2 => ?_
  · simp only [List.mem_cons, List.not_mem_nil, or_false] at hd
    rcases hd with rfl | rfl | rfl | rfl <;> (simp only [rD, List.length_map]; exact lst_len _ _)
  · simp only [List.mem_cons, List.not_mem_nil, or_false] at hd
    rcases hd with rfl | rfl | rfl | rfl <;> (simp only [rD, List.mem_map] at he; obtain ⟨c, _, rfl⟩ := he; exact cD_key c)
  · simp only [List.mem_cons, List.not_mem_nil, or_false] at hd
    rcases hd with rfl | rfl | rfl | rfl <;> (simp [rD]; exact h2 _ _ _ Sub.refl (fun _ => trivial) fun e he G5 s5 Q5 h5 => by simpa using h5 _ Sub.refl)
  · have e : ([rD (qd L 1 1 s), rD (qd L (-1) 1 s), rD (qd L (-1) (-1) s), rD (qd L 1 (-1) s)].flatMap fun d => (match d with | .tup xs => xs | _ => []).map fun e => (e, D.bl true)) = (qd L 1 1 s ++ qd L (-1) 1 s ++ qd L (-1) (-1) s ++ qd L 1 (-1) s).map fun c => (cD c, D.bl true) := by
      simp [rD, Function.comp_def]
    have e2 : srt (dedup (qd L 1 1 s ++ qd L (-1) 1 s ++ qd L (-1) (-1) s ++ qd L 1 (-1) s)) = fld L s := by
      refine srt_eq (dedup_nodup _) (lst_asc _ _) fun c => ?_
      rw [mem_dedup]
      show _ ↔ c ∈ fld L s
      rw [mem_fld]
      simp only [List.mem_append, mem_qd]
      constructor
      · rintro (((h | h) | h) | h)
        · exact ⟨_, _, .inl rfl, .inl rfl, h⟩
        · exact ⟨_, _, .inr rfl, .inl rfl, h⟩
        · exact ⟨_, _, .inr rfl, .inr rfl, h⟩
        · exact ⟨_, _, .inl rfl, .inr rfl, h⟩
      · rintro ⟨dx, dy, rfl | rfl, rfl | rfl, h⟩ <;> simp [h]
    rw [e, dputs_nil] at hp2
    generalize (qd L 1 1 s ++ qd L (-1) 1 s ++ qd L (-1) (-1) s ++ qd L 1 (-1) s) = X at hp2 e2
    refine rSort_dct (dedup_nodup _) hp2 fun r hr => ?_
    simp
    rw [e2]
    exact ⟨_, Fg.refl, hQ _ ((s1.trans s2).trans (Sub.new hr))⟩
end Hd
set_option Elab.async false
set_option linter.all false
set_option maxRecDepth 100000
set_option maxHeartbeats 4000000
namespace Hd
open PySem PySem.Spec PyProof.Rows L2 G
/-- the cells of the room that serve all of a lot -/
noncomputable def com (L lot : List Cell) : List Cell := L.filter fun c => lot.all fun s => decide (c ∈ fld L s)
theorem mem_com {L lot : List Cell} {c : Cell} : c ∈ com L lot ↔ c ∈ L ∧ ∀ s ∈ lot, c ∈ fld L s := by
  unfold com
  simp [List.mem_filter]
theorem com_nil (L : List Cell) : com L [] = L := by unfold com; exact List.filter_eq_self.mpr fun _ _ => rfl
theorem com_snoc (L lot : List Cell) (s : Cell) : com L (lot ++ [s]) = (com L lot).filter fun c => decide (c ∈ fld L s) := by
  unfold com
  rw [List.filter_filter]
  refine List.filter_congr fun c _ => ?_
  simp [Bool.and_comm]
theorem fm_filter {α β : Type} (p : α → Bool) (f : α → β) (g : α → Option β) (l : List α) (h : ∀ a ∈ l, g a = if p a = true then some (f a) else none) : l.filterMap g = (l.filter p).map f := by
  induction l with
  | nil => rfl
  | cons a l ih =>
    have ih := ih fun b hb => h b (List.mem_cons_of_mem _ hb)
    rw [List.filterMap_cons, h a List.mem_cons_self, List.filter_cons]
    by_cases hp : p a = true
    · simp [hp, ih]
    · simp [hp, ih]
def sp_common_stalls : GSp := fun ds G Q => ∃ (L lot : List Cell), ds = [rD L, rD lot] ∧ L.length ≤ 5000 ∧ ∀ G', Sub G G' → Q (rD (com L lot)) G'
/-- {cell: True for cell in a lot} -/
theorem dset_fm {vs : List Nat} {ρ : Ro} {G0 : Gp} {Q : GK} (L : List Cell) (b : Bool) (i : Nat) (hi : i < ρ.length) (hz : L.length ≤ 1000000) (hg : (gwipe ρ vs).length = ρ.length)
    (fin : ∀ p G', G0 p = none → Sub G0 G' → G' p = some (.dct (cset (dedup L) (.bl b))) → Q (.ref p) G') : DcI (gName i) gYes (gVar i) (gC (.bl b)) vs ρ Q (L.map cD) (fun _ => True) G0 := by
  refine dc_fm _ _ (fun d => some (d, .bl b)) (by simpa using hz) (fun _ _ => trivial) (fun d hd q hq => ?_) (fun d hd G2 s2 Q2 h2 => ?_) fun p G2 hp s2 hp2 => ?_
  · cases hq
    rw [List.mem_map] at hd
    obtain ⟨c, _, rfl⟩ := hd
    exact cD_key c
  · show ∃ e, ((gwipe ρ vs).set i (some d))[i]? = some (some e) ∧ Q2 (some (e, D.bl b)) G2
    exact ⟨d, List.getElem?_set_self (by rw [hg]; exact hi), h2 G2 Sub.refl⟩
  · have e : (L.map cD).filterMap (fun d => some (d, D.bl b)) = L.map fun c => (cD c, D.bl b) := by
      rw [List.filterMap_map]
      show L.filterMap (fun c => some (cD c, D.bl b)) = _
      rw [← List.filterMap_eq_map]; rfl
    rw [e, dputs_nil] at hp2
    exact fin p G2 hp s2 hp2
theorem p_common_stalls (ds : List D) (Γ : Gp) (R : GK) (h : sp_common_stalls ds Γ R) : t_common_stalls sp_field { nx := fun _ G' => R .non G', rt := R } (ds.map some ++ List.replicate (6 - ds.length) none) Γ := by
  obtain ⟨L, lot, rfl, hL, hQ⟩ := h
  unfold t_common_stalls
  simp [rD]
  refine ⟨_, ⟨rfl, by rw [List.length_map, sizeLine_eq]; omega⟩, fun p hp => ?_⟩
  refine for_of (fun i ρ G' => ∃ q x3 x4 x5, ρ = [some (rD L), some (rD lot), some (.ref q), x3, x4, x5] ∧ G.Sub Γ G' ∧ G' q = some (.lst ((com L (lot.take i)).map cD)))
    ⟨p, none, none, none, rfl, Sub.new hp, by rw [gup_same, List.take_zero, com_nil]⟩ (fun _ _ _ _ => trivial) ?_ ?_
  · rintro Z i d ρ G1 ed ⟨q, x3, x4, x5, rfl, s1, hq1⟩ hZ _ _ _
    rw [List.getElem?_map] at ed
    cases es : lot[i]? with
    | none => rw [es] at ed; cases ed
    | some s =>
      rw [es] at ed
      cases ed
      simp
      refine ⟨L, s, rfl, hL, fun G2 s2 => ?_⟩
      simp [rD]
      refine dset_fm _ true 5 (by simp) (by have := fld_len L s; omega) (by simp) fun r G3 hr s3 hr3 => ?_
      have hq3 := s3 _ _ (s2 _ _ hq1)
      simp [hq3]
      refine lc_fm _ _ (fun d => if dget (cset (dedup (fld L s)) (.bl true)) d = none then none else some d) ?_ (fun G4 s4 => s4 _ _ hq3) (fun d hd G4 s4 Q4 h4 => ?_) fun t G4 ht s4 ht4 => ?_
      · simp only [List.length_map]
        exact Nat.le_trans (List.length_filter_le ..) (by omega)
      · rw [List.mem_map] at hd
        obtain ⟨c, _, rfl⟩ := hd
        have h5 := h4 G4 Sub.refl
        simp [s4 _ _ hr3]
        by_cases hc : c ∈ dedup (fld L s)
        · simp [hc] at h5 ⊢; exact h5
        · simp [hc] at h5 ⊢; exact h5
      · refine hZ _ _ ⟨t, _, _, _, rfl, ((s1.trans s2).trans s3).trans s4, ?_⟩
        · rw [ht4]
          congr 2
          have e5 : lot.take (i + 1) = lot.take i ++ [s] := by rw [List.take_succ, es]; rfl
          rw [List.filterMap_map, e5, com_snoc]
          refine fm_filter _ _ _ _ fun c _ => ?_
          simp [mem_dedup]
  · rintro ρ G1 ⟨q, x3, x4, x5, rfl, s1, hq1⟩
    simp only [List.length_map, List.take_length] at hq1
    simp [hq1]
    exact ⟨_, Fg.refl, hQ _ s1⟩
def sp_are_tied : GSp := fun ds G Q => ∃ (L : List Cell) (a b : Cell), ds = [rD L, cD a, cD b] ∧ L.length ≤ 5000 ∧ ∀ G', Sub G G' → Q (.bl (decide (com L [a, b] ≠ []))) G'
theorem p_are_tied (ds : List D) (Γ : Gp) (R : GK) (h : sp_are_tied ds Γ R) : t_are_tied sp_common_stalls { nx := fun _ G' => R .non G', rt := R } (ds.map some ++ List.replicate (3 - ds.length) none) Γ := by
  obtain ⟨L, a, b, rfl, hL, hQ⟩ := h
  unfold t_are_tied
  simp
  refine ⟨L, [a, b], rfl, hL, fun G1 s1 => ?_⟩
  have e : (!decide (rD (com L [a, b]) = D.tup [])) = decide (com L [a, b] ≠ []) := by
    have : (rD (com L [a, b]) = D.tup []) ↔ com L [a, b] = [] := ⟨fun h => rD_inj (b := []) h, fun h => by rw [h]; rfl⟩
    by_cases h : com L [a, b] = []
    · rw [decide_eq_true (this.mpr h), decide_eq_false (fun q => q h)]; rfl
    · rw [decide_eq_false (fun q => h (this.mp q)), decide_eq_true h]; rfl
  have h0 : eqOk (rD (com L [a, b])) (.tup []) := .inl ⟨rD_okey 6 _, rfl⟩
  simp only [e]
  exact ⟨h0, _, Fg.refl, hQ _ s1⟩
end Hd
set_option Elab.async false
set_option linter.all false
set_option maxRecDepth 100000
set_option maxHeartbeats 4000000
namespace Hd
open PySem PySem.Spec PyProof.Rows L2 G
/-! ### steps and trails -/
inductive Dr | r | l | u | d deriving DecidableEq
def Dr.code : Dr → Nat | .r => 114 | .l => 108 | .u => 117 | .d => 100
def Dr.sg (x : Dr) : Str := ⟨#[x.code]⟩
def Dr.mv : Dr → Cell | .r => (1, 0) | .l => (-1, 0) | .u => (0, 1) | .d => (0, -1)
def stS (p : List Dr) : Str := ⟨(p.map Dr.code).toArray⟩
def stp (c : Cell) (x : Dr) : Cell := (c.1 + x.mv.1, c.2 + x.mv.2)
def endc (s : Cell) (p : List Dr) : Cell := p.foldl stp s
def trl (s : Cell) : List Dr → List Cell
  | [] => [s]
  | x :: p => s :: trl (stp s x) p
theorem trl_snoc (x : Dr) : ∀ (p : List Dr) (s : Cell), trl s (p ++ [x]) = trl s p ++ [endc s (p ++ [x])]
  | [], s => rfl
  | y :: p, s => by
    show s :: trl (stp s y) (p ++ [x]) = s :: (trl (stp s y) p ++ [endc (stp s y) (p ++ [x])])
    rw [trl_snoc x p]
theorem trl_last : ∀ (p : List Dr) (s : Cell), ∃ I, trl s p = I ++ [endc s p]
  | [], s => ⟨[], rfl⟩
  | y :: p, s => by
    obtain ⟨I, e⟩ := trl_last p (stp s y)
    exact ⟨s :: I, by show s :: trl (stp s y) p = _; rw [e]; rfl⟩
theorem trl_len : ∀ (p : List Dr) (s : Cell), (trl s p).length = p.length + 1
  | [], _ => rfl
  | y :: p, s => by show (trl (stp s y) p).length + 1 = _; rw [trl_len p]; rfl
theorem endc_snoc (s : Cell) (p : List Dr) (x : Dr) : endc s (p ++ [x]) = stp (endc s p) x := by unfold endc; rw [List.foldl_append]; rfl
theorem strD_stS (p : List Dr) : strD (stS p) = p.map fun x => D.str x.sg := by
  unfold strD stS
  simp only [List.map_map]
  rfl
theorem atI_last {α : Type} (xs : List α) (x : α) : atI (xs ++ [x]) (-1) = some x := by
  unfold atI ixN
  have h1 : ¬ (0 : Int) ≤ -1 := by omega
  rw [if_neg h1, if_pos (by rw [List.length_append, List.length_singleton]; omega)]
  have e : ((-1 : Int) + ((xs ++ [x]).length : Nat)).toNat = xs.length := by rw [List.length_append, List.length_singleton]; omega
  show (xs ++ [x])[((-1 : Int) + ((xs ++ [x]).length : Nat)).toNat]? = _
  rw [e]; simp
theorem sget_mv (x : Dr) : sget mvs x.sg = some (cD x.mv) := by cases x <;> rfl
@[simp] theorem atI0 (a : D) (r : List D) : atI (a :: r) 0 = some a := by
  unfold atI ixN
  rw [if_pos (by omega), if_pos (by rw [List.length_cons]; omega)]
  rfl
@[simp] theorem atI1 (a b : D) (r : List D) : atI (a :: b :: r) 1 = some b := by
  unfold atI ixN
  rw [if_pos (by omega), if_pos (by rw [List.length_cons, List.length_cons]; omega)]
  rfl
@[simp] theorem cD_tup {c : Cell} {P : List D → Prop} : (∃ ds, cD c = D.tup ds ∧ P ds) ↔ P [.int c.1, .int c.2] :=
  ⟨fun ⟨ds, e, h⟩ => by cases D.tup.inj e; exact h, fun h => ⟨_, rfl, h⟩⟩
@[simp] theorem ex2_eq {α β : Type} {a : α} {b : β} {P : α → β → Prop} : (∃ d r, (a = d ∧ b = r) ∧ P d r) ↔ P a b := ⟨fun ⟨_, _, ⟨rfl, rfl⟩, h⟩ => h, fun h => ⟨_, _, ⟨rfl, rfl⟩, h⟩⟩
@[simp] theorem ex2_eq' {α β : Type} {a : α} {b : β} {P : α → β → Prop} : (∃ d r, (a = d ∧ r = b) ∧ P d r) ↔ P a b := ⟨fun ⟨_, _, ⟨rfl, rfl⟩, h⟩ => h, fun h => ⟨_, _, ⟨rfl, rfl⟩, h⟩⟩
def sp_trail : GSp := fun ds G Q => ∃ (s : Cell) (p : List Dr), ds = [cD s, .str (stS p)] ∧ p.length ≤ 5000 ∧ ∀ G', Sub G G' → Q (rD (trl s p)) G'
theorem p_trail (ds : List D) (Γ : Gp) (R : GK) (h : sp_trail ds Γ R) : t_trail sp_moves { nx := fun _ G' => R .non G', rt := R } (ds.map some ++ List.replicate (7 - ds.length) none) Γ := by
  obtain ⟨s, p, rfl, hp, hQ⟩ := h
  unfold t_trail
  simp
  intro f hf
  refine ⟨rfl, fun m hm => ?_⟩
  have hmf : m ≠ f := by rintro rfl; rw [gup_same] at hm; cases hm
  have hmn : Γ m = none := by rwa [gup_ne hmf] at hm
  rw [strD_stS]
  refine for_of (fun i ρ G' => ∃ x4 x5 x6, ρ = [some (cD s), some (.str (stS p)), some (.ref f), some (.ref m), x4, x5, x6] ∧ G.Sub Γ G' ∧ G' f = some (.lst ((trl s (p.take i)).map cD)) ∧ G' m = some (.dks mvs))
    ⟨none, none, none, rfl, (Sub.new hf).trans (Sub.new hm), by rw [gup_ne (Ne.symm hmf), gup_same]; rfl, gup_same⟩ (fun _ _ _ _ => trivial) ?_ ?_
  · rintro Z i d ρ G1 ed ⟨x4, x5, x6, rfl, s1, hf1, hm1⟩ hZ _ _ _
    rw [List.getElem?_map] at ed
    cases es : p[i]? with
    | none => rw [es] at ed; cases ed
    | some x =>
      rw [es] at ed
      cases ed
      obtain ⟨I, eI⟩ := trl_last (p.take i) s
      have e5 : p.take (i + 1) = p.take i ++ [x] := by rw [List.take_succ, es]; rfl
      have hl : (trl s (p.take i)).length ≤ 5001 := by rw [trl_len, List.length_take]; omega
      have hat : atI ((trl s (p.take i)).map cD) (-1) = some (cD (endc s (p.take i))) := by
        rw [eI, List.map_append]
        exact atI_last _ _
      simp [hf1, hm1, hat, sget_mv]
      rw [sizeLine_eq]
      refine ⟨by omega, hZ _ _ ⟨_, _, _, rfl, Sub.upd s1 hf, ?_, (gup_ne hmf).trans hm1⟩⟩
      rw [gup_same, e5, trl_snoc, List.map_append, endc_snoc]
      first | rfl | done
  · rintro ρ G1 ⟨x4, x5, x6, rfl, s1, hf1, hm1⟩
    rw [List.length_map, List.take_length] at hf1
    simp [hf1]
    exact ⟨_, Fg.refl, hQ _ s1⟩
end Hd
set_option Elab.async false
set_option linter.all false
set_option maxRecDepth 100000
set_option maxHeartbeats 4000000
namespace Hd
open PySem PySem.Spec PyProof.Rows L2 G
def sp_is_integer : GSp := fun ds G Q => ∃ i : Int, ds = [.int i] ∧ ∀ G', Sub G G' → Q (.bl true) G'
theorem p_is_integer (ds : List D) (Γ : Gp) (R : GK) (h : sp_is_integer ds Γ R) : t_is_integer { nx := fun _ G' => R .non G', rt := R } (ds.map some ++ List.replicate (1 - ds.length) none) Γ := by
  obtain ⟨i, rfl, hQ⟩ := h
  unfold t_is_integer
  simp [isiD]
  exact ⟨_, Fg.refl, hQ _ Sub.refl⟩
def sp_is_cell : GSp := fun ds G Q => ∃ c : Cell, ds = [cD c] ∧ ∀ G', Sub G G' → Q (.bl true) G'
theorem p_is_cell (ds : List D) (Γ : Gp) (R : GK) (h : sp_is_cell ds Γ R) : t_is_cell sp_is_integer { nx := fun _ G' => R .non G', rt := R } (ds.map some ++ List.replicate (1 - ds.length) none) Γ := by
  obtain ⟨c, rfl, hQ⟩ := h
  unfold t_is_cell
  have e1 : isiD "tuple" (cD c) = some true := rfl
  simp [e1]
  refine .inl ⟨.inl ⟨rfl, rfl⟩, _, rfl, fun G1 s1 => .inr ⟨rfl, _, rfl, fun G2 s2 => ⟨_, Fg.refl, hQ _ (s1.trans s2)⟩⟩⟩
instance (a b : Cell) : Decidable (clt a b) := by unfold clt; exact inferInstance
theorem lexLt_cells (a b : Cell) : HT.lexLt [a.1, a.2] [b.1, b.2] = decide (clt a b) := by
  show (if a.1 = b.1 then (if a.2 = b.2 then false else decide (a.2 < b.2)) else decide (a.1 < b.1)) = _
  unfold clt
  by_cases h1 : a.1 = b.1
  · by_cases h2 : a.2 = b.2
    · simp [h1, h2]
    · simp [h1, h2]
  · simp [h1]
theorem cut_from (ds : List D) (k : Nat) : G.cutD ds (some (k : Int)) none = ds.drop k := by
  unfold G.cutD
  rw [HT.sIx_nat, HT.sIx_none]
  by_cases h : k ≤ ds.length
  · rw [Nat.min_eq_left h, List.take_of_length_le (by rw [List.length_drop]; omega)]
  · rw [Nat.min_eq_right (by omega), List.drop_length, List.drop_eq_nil_of_le (by omega), List.take_nil]
theorem asc_pairs : ∀ {L : List Cell}, Asc L → ∀ d ∈ pairUp (L.map cD) ((L.map cD).drop 1), ∃ a b : Cell, d = .tup [cD a, cD b] ∧ clt a b
  | [], _, d, hd => by cases hd
  | [a], _, d, hd => by cases hd
  | a :: b :: L, h, d, hd => by
    have h2 := List.pairwise_cons.mp h
    rcases List.mem_cons.mp (show d ∈ D.tup [cD a, cD b] :: pairUp ((b :: L).map cD) (((b :: L).map cD).drop 1) from hd) with e | e
    · exact ⟨a, b, e, h2.1 b List.mem_cons_self⟩
    · exact asc_pairs (L := b :: L) h2.2 d e
theorem all_bl {ds : List D} {f : D → Option D} (h : ∀ d ∈ ds, f d = some (.bl true)) : ds.filterMap f = (List.replicate ds.length true).map D.bl := by
  induction ds with
  | nil => rfl
  | cons d ds ih =>
    rw [List.filterMap_cons, h d List.mem_cons_self, ih fun e he => h e (List.mem_cons_of_mem _ he)]
    rfl
def sp_is_lot : GSp := fun ds G Q => ∃ L : List Cell, ds = [rD L] ∧ L.length ≤ 5000 ∧ Asc L ∧ ∀ G', Sub G G' → Q (.bl true) G'
theorem p_is_lot (ds : List D) (Γ : Gp) (R : GK) (h : sp_is_lot ds Γ R) : t_is_lot sp_is_cell { nx := fun _ G' => R .non G', rt := R } (ds.map some ++ List.replicate (4 - ds.length) none) Γ := by
  obtain ⟨L, rfl, hz, hL, hQ⟩ := h
  unfold t_is_lot
  have e1 : isiD "tuple" (rD L) = some true := rfl
  simp [e1]
  refine ⟨_, rfl, ?_⟩
  refine lc_fm _ _ (fun _ => some (.bl true)) (by rw [List.length_map]; omega) (fun _ _ => trivial) (fun d hd G1 s1 Q1 h1 => ?_) fun p G1 hp s1 hp1 => ?_
  · rw [List.mem_map] at hd
    obtain ⟨c, _, rfl⟩ := hd
    simp
    exact ⟨c, rfl, fun G2 s2 => h1 _ s2⟩
  · rw [all_bl fun _ _ => rfl] at hp1
    refine ⟨p, rfl, _, hp1, ?_⟩
    rw [if_neg (by simp)]
    refine ⟨_, rfl, _, rfl, ?_⟩
    rw [show (1 : Int) = ((1 : Nat) : Int) from rfl, cut_from]
    refine lc_fm _ _ (fun _ => some (.bl true)) (by rw [pairUp_len, List.length_map]; omega) (fun _ _ => trivial) (fun d hd G2 s2 Q2 h2 => ?_) fun q G2 hq s2 hq2 => ?_
    · obtain ⟨a, b, rfl, hab⟩ := asc_pairs hL d hd
      simp
      refine ⟨[a.1, a.2], rfl, [b.1, b.2], rfl, ?_⟩
      rw [lexLt_cells, decide_eq_true hab]
      exact h2 _ Sub.refl
    · rw [all_bl fun _ _ => rfl] at hq2
      refine ⟨q, rfl, _, hq2, _, Fg.refl, ?_⟩
      rw [show (List.replicate _ true).all id = true from by simp]
      exact hQ _ (s1.trans s2)
def sp_taken_out : GSp := fun ds G Q => ∃ A B : List Cell, ds = [rD A, rD B] ∧ A.length ≤ 5000 ∧ B.length ≤ 5000 ∧ ∀ G', Sub G G' → Q (rD (A.filter fun c => decide (c ∉ B))) G'
theorem p_taken_out (ds : List D) (Γ : Gp) (R : GK) (h : sp_taken_out ds Γ R) : t_taken_out { nx := fun _ G' => R .non G', rt := R } (ds.map some ++ List.replicate (4 - ds.length) none) Γ := by
  obtain ⟨A, B, rfl, hA, hB, hQ⟩ := h
  unfold t_taken_out
  simp [rD]
  refine dset_fm _ true 3 (by simp) (by omega) (by simp) fun r G1 hr s1 hr1 => ?_
  refine lc_fm _ _ (fun d => if dget (cset (dedup B) (.bl true)) d = none then some d else none) (by rw [List.length_map]; omega) (fun _ _ => trivial) (fun d hd G4 s4 Q4 h4 => ?_) fun t G4 ht s4 ht4 => ?_
  · rw [List.mem_map] at hd
    obtain ⟨c, _, rfl⟩ := hd
    have h5 := h4 G4 Sub.refl
    simp [s4 _ _ hr1]
    by_cases hc : c ∈ dedup B
    · simp [hc] at h5 ⊢; exact h5
    · simp [hc] at h5 ⊢; exact h5
  · rw [List.filterMap_map, fm_filter (fun c => decide (c ∉ B)) cD _ _ fun c _ => by simp [mem_dedup]] at ht4
    simp [ht4]
    have := hQ _ (s1.trans s4)
    simp only [decide_not] at this
    exact ⟨_, Fg.refl, this⟩
def sp_lies_in : GSp := fun ds G Q => ∃ A B : List Cell, ds = [rD A, rD B] ∧ A.length ≤ 5000 ∧ B.length ≤ 5000 ∧ (∀ c ∈ A, c ∈ B) ∧ ∀ G', Sub G G' → Q (.bl true) G'
theorem p_lies_in (ds : List D) (Γ : Gp) (R : GK) (h : sp_lies_in ds Γ R) : t_lies_in sp_taken_out { nx := fun _ G' => R .non G', rt := R } (ds.map some ++ List.replicate (2 - ds.length) none) Γ := by
  obtain ⟨A, B, rfl, hA, hB, hs, hQ⟩ := h
  unfold t_lies_in
  simp
  refine ⟨A, B, rfl, hA, hB, fun G1 s1 => ?_⟩
  have e : (A.filter fun c => decide (c ∉ B)) = [] := List.filter_eq_nil_iff.mpr fun c hc => by simpa using hs c hc
  rw [e]
  simp [rD]
  exact ⟨.inl ⟨rfl, rfl⟩, _, Fg.refl, hQ _ s1⟩
def sp_is_lot_in : GSp := fun ds G Q => ∃ A B : List Cell, ds = [rD B, rD A] ∧ A.length ≤ 5000 ∧ B.length ≤ 5000 ∧ Asc A ∧ (∀ c ∈ A, c ∈ B) ∧ ∀ G', Sub G G' → Q (.bl true) G'
theorem p_is_lot_in (ds : List D) (Γ : Gp) (R : GK) (h : sp_is_lot_in ds Γ R) : t_is_lot_in sp_is_lot sp_lies_in { nx := fun _ G' => R .non G', rt := R } (ds.map some ++ List.replicate (2 - ds.length) none) Γ := by
  obtain ⟨A, B, rfl, hA, hB, ha, hs, hQ⟩ := h
  unfold t_is_lot_in
  simp
  exact ⟨A, rfl, hA, ha, fun G1 s1 => .inr ⟨rfl, A, B, rfl, hA, hB, hs, fun G2 s2 => ⟨_, Fg.refl, hQ _ (s1.trans s2)⟩⟩⟩
end Hd
set_option Elab.async false
set_option linter.all false
set_option maxRecDepth 100000
set_option maxHeartbeats 4000000
namespace Hd
open PySem PySem.Spec PyProof.Rows L2 G
theorem fm_bl {α : Type} (p : α → Bool) (f : α → D) (g : D → Option D) (l : List α) (h : ∀ a ∈ l, g (f a) = some (.bl (p a))) : (l.map f).filterMap g = (l.map p).map D.bl := by
  induction l with
  | nil => rfl
  | cons a l ih =>
    rw [List.map_cons, List.filterMap_cons, h a List.mem_cons_self, ih fun b hb => h b (List.mem_cons_of_mem _ hb)]
    rfl
def wth (A B : List Cell) : Bool := decide (A.length < B.length) && A.all fun c => decide (c ∈ B)
def sp_is_within : GSp := fun ds G Q => ∃ A B : List Cell, ds = [rD A, rD B] ∧ A.length ≤ 6000 ∧ B.length ≤ 6000 ∧ ∀ G', Sub G G' → Q (.bl (wth A B)) G'
theorem p_is_within (ds : List D) (Γ : Gp) (R : GK) (h : sp_is_within ds Γ R) : t_is_within { nx := fun _ G' => R .non G', rt := R } (ds.map some ++ List.replicate (4 - ds.length) none) Γ := by
  obtain ⟨A, B, rfl, hA, hB, hQ⟩ := h
  unfold t_is_within
  simp [rD]
  refine dset_fm _ true 3 (by simp) (by omega) (by simp) fun r G1 hr s1 hr1 => ?_
  by_cases hl : A.length < B.length
  · rw [if_pos hl]
    refine lc_fm _ _ (fun d => some (.bl ((dget (cset (dedup B) (.bl true)) d).isSome))) (by rw [List.length_map]; omega) (fun _ _ => trivial) (fun d hd G4 s4 Q4 h4 => ?_) fun t G4 ht s4 ht4 => ?_
    · rw [List.mem_map] at hd
      obtain ⟨c, _, rfl⟩ := hd
      have h5 := h4 G4 Sub.refl
      simp [s4 _ _ hr1]
      simpa using h5
    · rw [fm_bl (fun c => decide (c ∈ dedup B)) cD _ _ fun c _ => by simp] at ht4
      refine ⟨t, rfl, _, ht4, _, Fg.refl, ?_⟩
      have e : (A.map fun c => decide (c ∈ dedup B)).all id = wth A B := by
        unfold wth
        rw [decide_eq_true hl, Bool.true_and, List.all_map]
        congr 1
        funext c
        simp [mem_dedup]
      rw [e]
      exact hQ _ (s1.trans s4)
  · rw [if_neg hl]
    refine ⟨_, Fg.refl, ?_⟩
    have e : wth A B = false := by unfold wth; rw [decide_eq_false hl]; rfl
    rw [← e]
    exact hQ _ s1
end Hd
set_option Elab.async false
set_option linter.all false
set_option maxRecDepth 100000
set_option maxHeartbeats 4000000
namespace Hd
open PySem PySem.Spec PyProof.Rows L2 G
/-! ### hard spots -/
abbrev LC := List (List Cell × Cell)
def ldct (X : LC) : List (D × D) := X.map fun p => (rD p.1, cD p.2)
def lget (X : LC) (k : List Cell) : Option Cell := (X.find? fun p => decide (p.1 = k)).map (·.2)
def lsetd (X : LC) (k : List Cell) (c : Cell) : LC := if (lget X k).isSome then X else X ++ [(k, c)]
theorem dget_ldct (X : LC) (k : List Cell) : dget (ldct X) (rD k) = (lget X k).map cD := by
  unfold dget ldct lget
  induction X with
  | nil => rfl
  | cons p X ih =>
    rw [List.map_cons, List.find?_cons, List.find?_cons]
    by_cases h : p.1 = k
    · simp [h]
    · have h2 : decide (rD p.1 = rD k) = false := decide_eq_false fun e => h (rD_inj e)
      simp only [h2, decide_eq_false h]
      exact ih
theorem dput_ldct {X : LC} {k : List Cell} {c : Cell} (h : lget X k = none) : dput (ldct X) (rD k) (cD c) = ldct (X ++ [(k, c)]) := by
  unfold dput
  rw [dget_ldct, h]
  simp [ldct]
theorem rD_key (k : List Cell) : isKey (rD k) := ⟨rD_okey 6 k, _, rfl⟩
/-- one turn -/
def hstep (P : List (Cell × List Cell)) (X : LC) (p : Cell × List Cell) : LC := if (P.any fun q => wth q.2 p.2) = true then X else lsetd X p.2 p.1
def hkv (P : List (Cell × List Cell)) : LC := P.foldl (hstep P) []
def hard (P : List (Cell × List Cell)) : List Cell := srt ((hkv P).map (·.2))
def pcD (p : Cell × List Cell) : D := .tup [cD p.1, rD p.2]
theorem pcD_inj {p q : Cell × List Cell} (h : pcD p = pcD q) : p = q := by
  unfold pcD at h
  simp only [D.tup.injEq, List.cons.injEq, and_true] at h
  exact Prod.ext (cD_inj h.1) (rD_inj h.2)
open Classical in
/-- read back -/
noncomputable def un {α : Type} (f : α → D) (d : D) : Option α := if h : ∃ a, f a = d then some h.choose else none
theorem un_of {α : Type} {f : α → D} (inj : ∀ {a b}, f a = f b → a = b) (a : α) : un f (f a) = some a := by
  unfold un
  have h : ∃ b, f b = f a := ⟨a, rfl⟩
  rw [dif_pos h]
  exact congrArg some (inj h.choose_spec)
theorem hstep_len (P : List (Cell × List Cell)) (X : LC) (p : Cell × List Cell) : (hstep P X p).length ≤ X.length + 1 := by
  unfold hstep lsetd
  split
  · omega
  · split
    · omega
    · simp
theorem hfold_len (P Q : List (Cell × List Cell)) : ∀ X : LC, (Q.foldl (hstep P) X).length ≤ X.length + Q.length := by
  induction Q with
  | nil => intro X; exact Nat.le_refl _
  | cons p Q ih => intro X; have h1 := ih (hstep P X p); have h2 := hstep_len P X p; rw [List.foldl_cons, List.length_cons]; omega
def sp_hard_of : GSp := fun ds G Q => ∃ (a : Addr) (P : List (Cell × List Cell)), ds = [.ref a] ∧ G a = some (.lst (P.map pcD)) ∧ P.length ≤ 5000 ∧ (∀ p ∈ P, p.2.length ≤ 6000) ∧ ∀ G', Sub G G' → Q (rD (hard P)) G'
theorem p_hard_of (ds : List D) (Γ : Gp) (R : GK) (h : sp_hard_of ds Γ R) : t_hard_of sp_is_within { nx := fun _ G' => R .non G', rt := R } (ds.map some ++ List.replicate (6 - ds.length) none) Γ := by
  obtain ⟨a, P, rfl, ha, hP, hL, hQ⟩ := h
  unfold t_hard_of
  simp
  intro f hf
  have hfa : a ≠ f := by rintro rfl; rw [ha] at hf; cases hf
  rw [gup_ne hfa]
  refine ⟨_, ha, ?_⟩
  refine for_of (fun i ρ G' => ∃ x2 x3 x4 x5, ρ = [some (.ref a), some (.ref f), x2, x3, x4, x5] ∧ G.Sub Γ G' ∧ G' f = some (.dct (ldct ((P.take i).foldl (hstep P) []))))
    ⟨none, none, none, none, rfl, Sub.new hf, gup_same⟩ (fun i ρ G' ⟨_, _, _, _, _, s, _⟩ => s _ _ ha) ?_ ?_
  · rintro Z i d ρ G1 ed ⟨x2, x3, x4, x5, rfl, s1, hf1⟩ hZ _ _ _
    rw [List.getElem?_map] at ed
    cases es : P[i]? with
    | none => rw [es] at ed; cases ed
    | some p =>
      rw [es] at ed
      cases ed
      have e5 : P.take (i + 1) = P.take i ++ [p] := by rw [List.take_succ, es]; rfl
      have hpm : p ∈ P := List.mem_of_getElem? es
      have ha1 := s1 _ _ ha
      simp [pcD, ha1]
      refine lc_fm _ _ (fun d => (un pcD d).map fun q => .bl (wth q.2 p.2)) (by rw [List.length_map]; omega) (fun G4 s4 => s4 _ _ ha1) (fun d hd G4 s4 Q4 h4 => ?_) fun t G4 ht s4 ht4 => ?_
      · rw [List.mem_map] at hd
        obtain ⟨q, hq, rfl⟩ := hd
        have h5 := fun G' s => h4 G' s
        rw [un_of pcD_inj] at h5
        simp [pcD]
        exact ⟨q.2, p.2, rfl, hL q hq, hL p hpm, fun G5 s5 => h5 _ s5⟩
      · rw [fm_bl (fun q => wth q.2 p.2) pcD _ _ fun q _ => by rw [un_of pcD_inj]; rfl] at ht4
        have hf4 := s4 _ _ hf1
        refine ⟨t, rfl, _, ht4, ?_⟩
        have hst : (P.take (i + 1)).foldl (hstep P) [] = hstep P ((P.take i).foldl (hstep P) []) p := by rw [e5, List.foldl_append]; rfl
        have hxl := hfold_len P (P.take i) []
        rw [List.length_nil, Nat.zero_add, List.length_take] at hxl
        generalize (P.take i).foldl (hstep P) [] = X at hst hf4 hxl
        have hany : (true ∈ P.map fun q => wth q.2 p.2) ↔ (P.any fun q => wth q.2 p.2) = true := by
          rw [List.mem_map, List.any_eq_true]
        by_cases hc : (P.any fun q => wth q.2 p.2) = true
        · rw [if_pos (hany.mpr hc)]
          refine hZ _ _ ⟨_, _, _, _, rfl, s1.trans s4, ?_⟩
          rw [hst, hf4]
          unfold hstep
          rw [if_pos hc]
        · rw [if_neg fun z => hc (hany.mp z)]
          have hst2 : hstep P X p = lsetd X p.2 p.1 := by unfold hstep; rw [if_neg hc]
          refine ⟨⟨_, .inl hf4⟩, _, hf4, rD_key _, by unfold ldct; rw [List.length_map, sizeLine_eq]; omega, fun y hy => ?_, fun hn => ?_⟩
          · refine hZ _ _ ⟨_, _, _, _, rfl, s1.trans s4, ?_⟩
            rw [dget_ldct] at hy
            cases hg : lget X p.2 with
            | none => rw [hg] at hy; cases hy
            | some v => rw [hst, hst2, hf4]; unfold lsetd; rw [hg]; rfl
          · rw [dget_ldct] at hn
            have hg : lget X p.2 = none := Option.map_eq_none_iff.mp hn
            refine hZ _ _ ⟨_, _, _, _, rfl, Sub.upd (s1.trans s4) hf, ?_⟩
            rw [gup_same, hst, hst2, dput_ldct hg]
            unfold lsetd
            rw [hg]
            rfl
  · rintro ρ G1 ⟨x2, x3, x4, x5, rfl, s1, hf1⟩
    rw [List.length_map, List.take_length] at hf1
    simp [hf1]
    have e : (ldct (P.foldl (hstep P) [])).map (fun x => x.2) = ((hkv P).map (·.2)).map cD := by
      unfold ldct hkv
      rw [List.map_map, List.map_map]
      rfl
    rw [e]
    refine ⟨canSort_cells _, fun r hr => ⟨_, Fg.refl, ?_⟩⟩
    rw [sortD_cells]
    exact hQ _ (s1.trans (Sub.new hr))
end Hd
set_option Elab.async false
set_option linter.all false
set_option maxRecDepth 100000
set_option maxHeartbeats 4000000
namespace Hd
open PySem PySem.Spec PyProof.Rows L2 G
noncomputable def hin (L lot : List Cell) : List Cell := hard (lot.map fun c => (c, fld L c))
def sp_hard_in : GSp := fun ds G Q => ∃ L lot : List Cell, ds = [rD L, rD lot] ∧ L.length ≤ 5000 ∧ lot.length ≤ 5000 ∧ ∀ G', Sub G G' → Q (rD (hin L lot)) G'
theorem fm_map {α : Type} (f f2 : α → D) (g : D → Option D) (l : List α) (h : ∀ a ∈ l, g (f a) = some (f2 a)) : (l.map f).filterMap g = l.map f2 := by
  induction l with
  | nil => rfl
  | cons a l ih =>
    rw [List.map_cons, List.filterMap_cons, h a List.mem_cons_self, ih fun b hb => h b (List.mem_cons_of_mem _ hb)]
    rfl
theorem p_hard_in (ds : List D) (Γ : Gp) (R : GK) (h : sp_hard_in ds Γ R) : t_hard_in sp_hard_of sp_field { nx := fun _ G' => R .non G', rt := R } (ds.map some ++ List.replicate (3 - ds.length) none) Γ := by
  obtain ⟨L, lot, rfl, hL, hl, hQ⟩ := h
  unfold t_hard_in
  simp
  refine ⟨_, rfl, ?_⟩
  refine lc_fm _ _ (fun d => (un cD d).map fun c => pcD (c, fld L c)) (by rw [List.length_map]; omega) (fun _ _ => trivial) (fun d hd G1 s1 Q1 h1 => ?_) fun p G1 hp s1 hp1 => ?_
  · rw [List.mem_map] at hd
    obtain ⟨c, _, rfl⟩ := hd
    have h5 := fun G' s => h1 G' s
    rw [un_of cD_inj] at h5
    simp
    exact ⟨L, c, rfl, hL, fun G2 s2 => h5 _ s2⟩
  · rw [fm_map cD (fun c => pcD (c, fld L c)) _ _ fun c _ => by rw [un_of cD_inj]; rfl] at hp1
    refine ⟨p, lot.map fun c => (c, fld L c), rfl, ?_, by rw [List.length_map]; exact hl, fun q hq => ?_, fun G2 s2 => ⟨_, Fg.refl, hQ _ (s1.trans s2)⟩⟩
    · rw [hp1, List.map_map]; rfl
    · rw [List.mem_map] at hq
      obtain ⟨c, _, rfl⟩ := hq
      have := fld_len L c
      show (fld L c).length ≤ 6000
      omega
/-! what stalls light, what stays dark -/
noncomputable def litl (L S : List Cell) : List Cell := srt (dedup (S.flatMap fun c => fld L c))
theorem mem_litl {L S : List Cell} {c : Cell} : c ∈ litl L S ↔ ∃ s ∈ S, c ∈ fld L s := by
  unfold litl
  rw [srt_mem, mem_dedup, List.mem_flatMap]
def sp_lit : GSp := fun ds G Q => ∃ L S : List Cell, ds = [rD L, rD S] ∧ L.length ≤ 5000 ∧ S.length * (L.length + 1) ≤ 1000000 ∧ ∀ G', Sub G G' → Q (rD (litl L S)) G'
theorem p_lit (ds : List D) (Γ : Gp) (R : GK) (h : sp_lit ds Γ R) : t_lit sp_field { nx := fun _ G' => R .non G', rt := R } (ds.map some ++ List.replicate (4 - ds.length) none) Γ := by
  obtain ⟨L, S, rfl, hL, hS, hQ⟩ := h
  unfold t_lit
  simp
  refine ⟨_, rfl, ?_⟩
  refine dc2_fm _ _ (fun d => match un cD d with | some c => (fld L c).map cD | none => []) (fun _ e => (e, .bl true)) (L.length + 1) ?_ (fun d hd => ?_) (fun _ _ => trivial) (fun d hd e he => ?_) (fun d hd G2 s2 Q2 h2 => ?_) fun p G2 hp s2 hp2 => ?_
  · rw [List.length_map]
    exact hS
  · rw [List.mem_map] at hd
    obtain ⟨c, _, rfl⟩ := hd
    rw [un_of cD_inj]
    simpa using fld_len L c
  · rw [List.mem_map] at hd
    obtain ⟨c, _, rfl⟩ := hd
    rw [un_of cD_inj] at he
    obtain ⟨b, _, rfl⟩ := List.mem_map.mp he
    exact cD_key b
  · rw [List.mem_map] at hd
    obtain ⟨c, _, rfl⟩ := hd
    rw [un_of cD_inj] at h2
    simp
    refine ⟨L, c, rfl, hL, fun G3 s3 => ⟨_, rfl, h2 _ _ _ s3 (fun _ => trivial) fun e he G5 s5 R5 h5 => ?_⟩⟩
    simpa using h5 _ Sub.refl
  · have e : ((S.map cD).flatMap fun d => (match un cD d with | some c => (fld L c).map cD | none => []).map fun e => (e, D.bl true)) = (S.flatMap fun c => fld L c).map fun c => (cD c, D.bl true) := by
      rw [List.flatMap_map, List.map_flatMap]
      congr 1
      funext c
      rw [un_of cD_inj, List.map_map]
      rfl
    rw [e, dputs_nil] at hp2
    refine rSort_dct (dedup_nodup _) hp2 fun r hr => ?_
    simp
    exact ⟨_, Fg.refl, hQ _ (s2.trans (Sub.new hr))⟩
end Hd
set_option Elab.async false
set_option linter.all false
set_option maxRecDepth 100000
set_option maxHeartbeats 4000000
namespace Hd
open PySem PySem.Spec PyProof.Rows L2 G
noncomputable def drk (L lot S : List Cell) : List Cell := lot.filter fun c => decide (c ∉ litl L S)
def sp_dark_in : GSp := fun ds G Q => ∃ L lot S : List Cell, ds = [rD L, rD lot, rD S] ∧ L.length ≤ 5000 ∧ lot.length ≤ 5000 ∧ S.length * (L.length + 1) ≤ 1000000 ∧ ∀ G', Sub G G' → Q (rD (drk L lot S)) G'
theorem flat_len {α β : Type} {f : α → List β} {n : Nat} : ∀ {l : List α}, (∀ a ∈ l, (f a).length ≤ n) → (l.flatMap f).length ≤ l.length * n
  | [], _ => by simp
  | a :: l, h => by
    have h1 := h a List.mem_cons_self
    have h2 := flat_len (l := l) fun b hb => h b (List.mem_cons_of_mem _ hb)
    rw [List.flatMap_cons, List.length_append, List.length_cons, Nat.add_mul]
    omega
theorem litl_len (L S : List Cell) : (litl L S).length ≤ S.length * (L.length + 1) := by
  unfold litl srt
  rw [List.length_mergeSort]
  exact Nat.le_trans (dedup_len _) (flat_len fun c _ => fld_len L c)
theorem p_dark_in (ds : List D) (Γ : Gp) (R : GK) (h : sp_dark_in ds Γ R) : t_dark_in sp_lit { nx := fun _ G' => R .non G', rt := R } (ds.map some ++ List.replicate (5 - ds.length) none) Γ := by
  obtain ⟨L, lot, S, rfl, hL, hl, hS, hQ⟩ := h
  unfold t_dark_in
  simp
  refine ⟨L, S, rfl, hL, hS, fun G0 s0 => ?_⟩
  simp [rD]
  refine dset_fm _ true 4 (by simp) (Nat.le_trans (litl_len L S) hS) (by simp) fun r G1 hr s1 hr1 => ?_
  refine lc_fm _ _ (fun d => if dget (cset (dedup (litl L S)) (.bl true)) d = none then some d else none) (by rw [List.length_map]; omega) (fun _ _ => trivial) (fun d hd G4 s4 Q4 h4 => ?_) fun t G4 ht s4 ht4 => ?_
  · rw [List.mem_map] at hd
    obtain ⟨c, _, rfl⟩ := hd
    have h5 := h4 G4 Sub.refl
    simp [s4 _ _ hr1]
    by_cases hc : c ∈ dedup (litl L S)
    · simp [hc] at h5 ⊢; exact h5
    · simp [hc] at h5 ⊢; exact h5
  · rw [List.filterMap_map, fm_filter (fun c => decide (c ∉ litl L S)) cD _ _ fun c _ => by simp [mem_dedup]] at ht4
    have := hQ _ (s0.trans (s1.trans s4))
    unfold drk at this
    simp [ht4]
    simp only [decide_not] at this
    exact ⟨_, Fg.refl, this⟩
end Hd
set_option Elab.async false
set_option linter.all false
set_option maxRecDepth 100000
set_option maxHeartbeats 4000000
namespace Hd
open PySem PySem.Spec PyProof.Rows L2 G
/-! ### webs, in plain Lean -/
structure Wb where
  V : List Cell
  R : Cell → Cell → Bool
def prs : List Cell → List (Cell × Cell)
  | [] => []
  | a :: l => l.map (fun b => (a, b)) ++ prs l
theorem mem_prs {L : List Cell} (h : Asc L) {p : Cell × Cell} : p ∈ prs L ↔ p.1 ∈ L ∧ p.2 ∈ L ∧ clt p.1 p.2 := by
  induction L with
  | nil => simp [prs]
  | cons a l ih =>
    have h2 := List.pairwise_cons.mp h
    have ih := ih h2.2
    unfold prs
    rw [List.mem_append, ih, List.mem_map]
    constructor
    · rintro (⟨b, hb, rfl⟩ | ⟨h3, h4, h5⟩)
      · exact ⟨List.mem_cons_self, List.mem_cons_of_mem _ hb, h2.1 b hb⟩
      · exact ⟨List.mem_cons_of_mem _ h3, List.mem_cons_of_mem _ h4, h5⟩
    · rintro ⟨h3, h4, h5⟩
      rcases List.mem_cons.mp h3 with e | h3
      · rcases List.mem_cons.mp h4 with e' | h4
        · rw [e, e'] at h5; exact absurd h5 (clt_irrefl a)
        · exact .inl ⟨p.2, h4, by rw [← e]⟩
      · rcases List.mem_cons.mp h4 with e' | h4
        · rw [e'] at h5; exact absurd h5 (clt_asymm (h2.1 _ h3))
        · exact .inr ⟨h3, h4, h5⟩
theorem clt_tri {a b : Cell} (h : a ≠ b) : clt a b ∨ clt b a := by
  unfold clt
  have : ¬ (a.1 = b.1 ∧ a.2 = b.2) := fun ⟨e1, e2⟩ => h (Prod.ext e1 e2)
  omega
theorem clt_ne {a b : Cell} (h : clt a b) : a ≠ b := by rintro rfl; exact clt_irrefl a h
theorem prs_len (L : List Cell) : (prs L).length ≤ L.length * L.length := by
  induction L with
  | nil => simp [prs]
  | cons a l ih =>
    unfold prs
    rw [List.length_append, List.length_map, List.length_cons, Nat.add_mul, Nat.mul_add]
    omega
def Wb.ts (W : Wb) : List (Cell × Cell) := (prs W.V).filter fun p => W.R p.1 p.2
structure Wb.Ok (W : Wb) : Prop where
  asc : Asc W.V
  sym : ∀ a b, W.R a b = W.R b a
def Wb.Full (W : Wb) : Prop := ∀ a ∈ W.V, ∀ b ∈ W.V, a ≠ b → W.R a b = true
def jn (W : Wb) (a b : Cell) : Wb := ⟨W.V.filter fun c => decide (c ≠ b), fun c d => if c = a then W.R a d || W.R b d else if d = a then W.R a c || W.R b c else W.R c d⟩
def jnp (W : Wb) (p : Cell × Cell) : Wb := jn W p.1 p.2
theorem jn_V {W : Wb} {a b c : Cell} : c ∈ (jn W a b).V ↔ c ∈ W.V ∧ c ≠ b := by unfold jn; simp
theorem jn_Ra {W : Wb} {a b d : Cell} : (jn W a b).R a d = (W.R a d || W.R b d) := by unfold jn; simp
theorem jn_Rb {W : Wb} {a b d : Cell} (h : d ≠ a) : (jn W a b).R d a = (W.R a d || W.R b d) := by unfold jn; simp [h]
theorem jn_R {W : Wb} {a b c d : Cell} (h1 : c ≠ a) (h2 : d ≠ a) : (jn W a b).R c d = W.R c d := by unfold jn; simp [h1, h2]
theorem jn_ok {W : Wb} {a b : Cell} (h : W.Ok) : (jn W a b).Ok where
  asc := h.asc.filter _
  sym := fun c d => by
    by_cases hc : c = a
    · subst hc
      by_cases hd : d = c
      · subst hd; rfl
      · rw [jn_Ra, jn_Rb hd]
    · by_cases hd : d = a
      · subst hd; rw [jn_Ra, jn_Rb hc]
      · rw [jn_R hc hd, jn_R hd hc, h.sym]
def nbl (W : Wb) (c : Cell) : List Cell := W.V.filter fun d => decide (d ≠ c) && W.R c d
theorem mem_nbl {W : Wb} {c d : Cell} : d ∈ nbl W c ↔ d ∈ W.V ∧ d ≠ c ∧ W.R c d = true := by unfold nbl; simp
def unc (W : Wb) (a b : Cell) : List Cell := W.V.filter fun d => !(decide (d ∈ nbl W a) && decide (d ∈ nbl W b))
theorem mem_unc {W : Wb} {a b d : Cell} : d ∈ unc W a b ↔ d ∈ W.V ∧ ¬ (d ∈ nbl W a ∧ d ∈ nbl W b) := by
  unfold unc
  rw [List.mem_filter, Bool.not_eq_true', Bool.and_eq_false_iff, decide_eq_false_iff_not, decide_eq_false_iff_not]
  exact and_congr_right fun _ => Decidable.not_and_iff_not_or_not.symm
def Rchd (W : Wb) (a b : Cell) : Prop := ∃ c, Rch (· ∈ unc W a b) (nbl W) a c ∧ b ∈ nbl W c
open Classical in
noncomputable def isTp (W : Wb) (p : Cell × Cell) : Bool := !W.R p.1 p.2 && !decide (Rchd W p.1 p.2)
noncomputable def f2p (W : Wb) : Option (Cell × Cell) := (prs W.V).find? (isTp W)
theorem f2p_some {W : Wb} (h : W.Ok) {p : Cell × Cell} (e : f2p W = some p) : p.1 ∈ W.V ∧ p.2 ∈ W.V ∧ clt p.1 p.2 ∧ W.R p.1 p.2 = false ∧ ¬ Rchd W p.1 p.2 := by
  have h1 := List.find?_some e
  have h2 := (mem_prs h.asc).mp (List.mem_of_find?_eq_some e)
  unfold isTp at h1
  simp only [Bool.and_eq_true, Bool.not_eq_true', decide_eq_false_iff_not] at h1
  exact ⟨h2.1, h2.2.1, h2.2.2, h1⟩
theorem f2p_none {W : Wb} (h : W.Ok) (e : f2p W = none) {a b : Cell} (ha : a ∈ W.V) (hb : b ∈ W.V) (hab : clt a b) : W.R a b = true ∨ Rchd W a b := by
  have h1 := List.find?_eq_none.mp e (a, b) ((mem_prs h.asc).mpr ⟨ha, hb, hab⟩)
  unfold isTp at h1
  simp only [Bool.and_eq_true, Bool.not_eq_true', decide_eq_false_iff_not, not_and, Classical.not_not] at h1
  cases h2 : W.R a b with
  | true => exact .inl rfl
  | false => exact .inr (h1 h2)
/-- a log of two-pairs to the end -/
def Lg (W : Wb) : List (Cell × Cell) → Prop
  | [] => f2p W = none
  | p :: l => f2p W = some p ∧ Lg (jnp W p) l
def fnw (W : Wb) : List (Cell × Cell) → Wb
  | [] => W
  | p :: l => fnw (jnp W p) l
def gr (f : Cell → List Cell) : List (Cell × Cell) → Cell → List Cell
  | [] => f
  | p :: l => gr (fun c => if c = p.1 then f p.1 ++ f p.2 else f c) l
def knb (W : Wb) : List (Cell × Cell) → List Cell
  | [] => W.V
  | p :: l => if p.1 ∈ knb (jnp W p) l then ((knb (jnp W p) l).filter fun c => decide (c ≠ p.1)) ++ [if ((knb (jnp W p) l).filter fun c => decide (c ≠ p.1)).all (fun c => W.R p.1 c) = true then p.1 else p.2] else knb (jnp W p) l
theorem fnw_ok : ∀ {l : List (Cell × Cell)} {W : Wb}, W.Ok → (fnw W l).Ok
  | [], _, h => h
  | p :: l, W, h => fnw_ok (l := l) (W := jnp W p) (jn_ok h)
/-! the knot read back -/
structure Knot (W : Wb) (k : List Cell) : Prop where
  nd : k.Nodup
  sub : ∀ c ∈ k, c ∈ W.V
  nx : ∀ c ∈ k, ∀ d ∈ k, c ≠ d → W.R c d = true
theorem knot_back {W : Wb} {a b : Cell} {k : List Cell} (h : W.Ok) (ha : a ∈ W.V) (hb : b ∈ W.V) (hab : a ≠ b) (hr : ¬ Rchd W a b) (K : Knot (jn W a b) k) :
    Knot W (if a ∈ k then (k.filter fun c => decide (c ≠ a)) ++ [if (k.filter fun c => decide (c ≠ a)).all (fun c => W.R a c) = true then a else b] else k) ∧
    (if a ∈ k then (k.filter fun c => decide (c ≠ a)) ++ [if (k.filter fun c => decide (c ≠ a)).all (fun c => W.R a c) = true then a else b] else k).length = k.length := by
  by_cases hak : a ∈ k
  · rw [if_pos hak]
    have ho : ∀ c, c ∈ (k.filter fun c => decide (c ≠ a)) ↔ c ∈ k ∧ c ≠ a := fun c => by simp
    generalize hO : (k.filter fun c => decide (c ≠ a)) = O at ho
    have hOn : O.Nodup := hO ▸ K.nd.filter _
    have hlen : O.length + 1 = k.length := by
      rw [← hO]
      have h1 := (List.perm_cons_erase hak).length_eq
      have h2 : (k.erase a) = k.filter fun c => decide (c ≠ a) := by
        rw [K.nd.erase_eq_filter]
        refine List.filter_congr fun c _ => ?_
        by_cases e : c = a
        · subst e; simp
        · simp [e]
      rw [← h2, h1]; rfl
    have hOV : ∀ c ∈ O, c ∈ W.V ∧ c ≠ b ∧ c ≠ a := fun c hc => by
      have h1 := (ho c).mp hc
      have h2 := jn_V.mp (K.sub c h1.1)
      exact ⟨h2.1, h2.2, h1.2⟩
    have hOO : ∀ c ∈ O, ∀ d ∈ O, c ≠ d → W.R c d = true := fun c hc d hd e => by
      have := K.nx c ((ho c).mp hc).1 d ((ho d).mp hd).1 e
      rwa [jn_R ((ho c).mp hc).2 ((ho d).mp hd).2] at this
    have hOa : ∀ c ∈ O, W.R a c = true ∨ W.R b c = true := fun c hc => by
      have := K.nx c ((ho c).mp hc).1 a hak ((ho c).mp hc).2
      rw [jn_Rb ((ho c).mp hc).2, Bool.or_eq_true] at this
      exact this
    have fin : ∀ x, x ∈ W.V → (∀ c ∈ O, c ≠ x ∧ W.R x c = true) → Knot W (O ++ [x]) ∧ (O ++ [x]).length = k.length := by
      intro x hx hc
      refine ⟨⟨?_, fun c h1 => ?_, fun c h1 d h2 e => ?_⟩, by rw [List.length_append, List.length_singleton]; exact hlen⟩
      · rw [List.nodup_append]
        exact ⟨hOn, by simp, fun c h1 d h2 e => by rw [List.mem_singleton] at h2; subst h2; exact (hc c h1).1 e⟩
      · rcases List.mem_append.mp h1 with h1 | h1
        · exact (hOV c h1).1
        · rw [List.mem_singleton.mp h1]; exact hx
      · rcases List.mem_append.mp h1 with h1 | h1
        · rcases List.mem_append.mp h2 with h2 | h2
          · exact hOO c h1 d h2 e
          · rw [List.mem_singleton.mp h2, h.sym]; exact (hc c h1).2
        · rw [List.mem_singleton.mp h1]
          rcases List.mem_append.mp h2 with h2 | h2
          · exact (hc d h2).2
          · rw [List.mem_singleton.mp h1, List.mem_singleton.mp h2] at e; exact absurd rfl e
    by_cases hall : O.all (fun c => W.R a c) = true
    · rw [if_pos hall]
      exact fin a ha fun c hc => ⟨(hOV c hc).2.2, List.all_eq_true.mp hall c hc⟩
    · rw [if_neg hall]
      refine fin b hb fun c2 hc2 => ⟨(hOV c2 hc2).2.1, ?_⟩
      obtain ⟨c1, hc1, n1⟩ : ∃ c1 ∈ O, ¬ W.R a c1 = true := by
        apply Classical.byContradiction
        intro q
        refine hall (List.all_eq_true.mpr fun c hc => Classical.byContradiction fun n => q ⟨c, hc, n⟩)
      refine Classical.byContradiction fun n2 => hr ?_
      have r1 : W.R b c1 = true := (hOa c1 hc1).resolve_left n1
      have r2 : W.R a c2 = true := (hOa c2 hc2).resolve_right n2
      have e12 : c1 ≠ c2 := by rintro rfl; exact n2 r1
      have u2 : c2 ∈ unc W a b := mem_unc.mpr ⟨(hOV c2 hc2).1, fun q => n2 (mem_nbl.mp q.2).2.2⟩
      have u1 : c1 ∈ unc W a b := mem_unc.mpr ⟨(hOV c1 hc1).1, fun q => n1 (mem_nbl.mp q.1).2.2⟩
      refine ⟨c1, (Rch.base.step (mem_nbl.mpr ⟨(hOV c2 hc2).1, (hOV c2 hc2).2.2, r2⟩) u2).step (mem_nbl.mpr ⟨(hOV c1 hc1).1, e12, ?_⟩) u1, mem_nbl.mpr ⟨hb, (hOV c1 hc1).2.1.symm, ?_⟩⟩
      · exact hOO c2 hc2 c1 hc1 e12.symm
      · rw [h.sym]; exact r1
  · rw [if_neg hak]
    refine ⟨⟨K.nd, fun c hc => (jn_V.mp (K.sub c hc)).1, fun c hc d hd e => ?_⟩, rfl⟩
    have := K.nx c hc d hd e
    have hc2 : c ≠ a := by rintro rfl; exact hak hc
    have hd2 : d ≠ a := by rintro rfl; exact hak hd
    rwa [jn_R hc2 hd2] at this
theorem knb_ok : ∀ {l : List (Cell × Cell)} {W : Wb}, W.Ok → Lg W l → (fnw W l).Full → Knot W (knb W l) ∧ (knb W l).length = (fnw W l).V.length
  | [], W, h, _, hf => ⟨⟨h.asc.nodup, fun c hc => hc, hf⟩, rfl⟩
  | p :: l, W, h, hl, hf => by
    obtain ⟨h1, h2, h3, h4, h5⟩ := f2p_some h hl.1
    obtain ⟨K, e⟩ := knb_ok (l := l) (jn_ok h) hl.2 hf
    obtain ⟨K', e'⟩ := knot_back h h1 h2 (clt_ne h3) h5 K
    exact ⟨K', e'.trans e⟩
/-! the groups -/
structure Grp (W0 W : Wb) (f : Cell → List Cell) : Prop where
  me : ∀ c ∈ W.V, c ∈ f c
  sub : ∀ c ∈ W.V, ∀ x ∈ f c, x ∈ W0.V
  ind : ∀ c ∈ W.V, ∀ x ∈ f c, ∀ y ∈ f c, x ≠ y → W0.R x y = false
  cov : ∀ x ∈ W0.V, ∃ c ∈ W.V, x ∈ f c
  rel : ∀ c ∈ W.V, ∀ d ∈ W.V, c ≠ d → W.R c d = false → ∀ x ∈ f c, ∀ y ∈ f d, W0.R x y = false
  dj : ∀ c ∈ W.V, ∀ d ∈ W.V, c ≠ d → ∀ x ∈ f c, x ∉ f d
  nd : ∀ c ∈ W.V, (f c).Nodup
theorem Grp.start {W : Wb} : Grp W W fun c => [c] where
  me := fun c _ => by simp
  sub := fun c hc x hx => by rw [List.mem_singleton.mp hx]; exact hc
  ind := fun c _ x hx y hy e => by rw [List.mem_singleton.mp hx, List.mem_singleton.mp hy] at e; exact absurd rfl e
  cov := fun x hx => ⟨x, hx, by simp⟩
  rel := fun c _ d _ _ h x hx y hy => by rw [List.mem_singleton.mp hx, List.mem_singleton.mp hy]; exact h
  dj := fun c _ d _ e x hx hy => e (by rw [← List.mem_singleton.mp hx, ← List.mem_singleton.mp hy])
  nd := fun c _ => by simp
theorem Grp.join {W0 W : Wb} {f : Cell → List Cell} {a b : Cell} (g : Grp W0 W f) (h0 : W0.Ok) (h : W.Ok) (ha : a ∈ W.V) (hb : b ∈ W.V) (hab : a ≠ b) (hr : W.R a b = false) : Grp W0 (jn W a b) fun c => if c = a then f a ++ f b else f c where
  me := fun c hc => by
    split
    · rename_i e; rw [e]; exact List.mem_append_left _ (g.me a ha)
    · exact g.me c (jn_V.mp hc).1
  sub := fun c hc x hx => by
    split at hx
    · rcases List.mem_append.mp hx with hx | hx
      · exact g.sub a ha x hx
      · exact g.sub b hb x hx
    · exact g.sub c (jn_V.mp hc).1 x hx
  ind := fun c hc x hx y hy e => by
    split at hx
    · rename_i ec
      rw [if_pos ec] at hy
      rcases List.mem_append.mp hx with hx | hx <;> rcases List.mem_append.mp hy with hy | hy
      · exact g.ind a ha x hx y hy e
      · exact g.rel a ha b hb hab hr x hx y hy
      · rw [h0.sym]; exact g.rel a ha b hb hab hr y hy x hx
      · exact g.ind b hb x hx y hy e
    · rename_i ec
      rw [if_neg ec] at hy
      exact g.ind c (jn_V.mp hc).1 x hx y hy e
  cov := fun x hx => by
    obtain ⟨c, hc, hxc⟩ := g.cov x hx
    by_cases e1 : c = b
    · exact ⟨a, jn_V.mpr ⟨ha, hab⟩, by rw [if_pos rfl]; exact List.mem_append_right _ (e1 ▸ hxc)⟩
    · refine ⟨c, jn_V.mpr ⟨hc, e1⟩, ?_⟩
      split
      · rename_i e; exact List.mem_append_left _ (e ▸ hxc)
      · exact hxc
  rel := fun c hc d hd e hcd x hx y hy => by
    have hc' := jn_V.mp hc
    have hd' := jn_V.mp hd
    by_cases ec : c = a
    · have ed : d ≠ a := fun q => e (ec.trans q.symm)
      subst ec
      rw [jn_Ra, Bool.or_eq_false_iff] at hcd
      rw [if_pos rfl] at hx
      rw [if_neg ed] at hy
      rcases List.mem_append.mp hx with hx | hx
      · exact g.rel c ha d hd'.1 e hcd.1 x hx y hy
      · exact g.rel b hb d hd'.1 (Ne.symm hd'.2) hcd.2 x hx y hy
    · rw [if_neg ec] at hx
      by_cases ed : d = a
      · subst ed
        rw [jn_Rb ec, Bool.or_eq_false_iff] at hcd
        rw [if_pos rfl] at hy
        rcases List.mem_append.mp hy with hy | hy
        · rw [h0.sym]; exact g.rel d ha c hc'.1 (Ne.symm e) hcd.1 y hy x hx
        · rw [h0.sym]; exact g.rel b hb c hc'.1 (Ne.symm hc'.2) hcd.2 y hy x hx
      · rw [if_neg ed] at hy
        rw [jn_R ec ed] at hcd
        exact g.rel c hc'.1 d hd'.1 e hcd x hx y hy
  dj := fun c hc d hd e x hx hy => by
    have hc' := jn_V.mp hc
    have hd' := jn_V.mp hd
    by_cases ec : c = a
    · have ed : d ≠ a := fun q => e (ec.trans q.symm)
      rw [if_pos ec] at hx
      rw [if_neg ed] at hy
      rcases List.mem_append.mp hx with hx | hx
      · exact g.dj a ha d hd'.1 (Ne.symm ed) x hx hy
      · exact g.dj b hb d hd'.1 (Ne.symm hd'.2) x hx hy
    · rw [if_neg ec] at hx
      by_cases ed : d = a
      · rw [if_pos ed] at hy
        rcases List.mem_append.mp hy with hy | hy
        · exact g.dj a ha c hc'.1 (Ne.symm ec) x hy hx
        · exact g.dj b hb c hc'.1 (Ne.symm hc'.2) x hy hx
      · rw [if_neg ed] at hy
        exact g.dj c hc'.1 d hd'.1 e x hx hy
  nd := fun c hc => by
    split
    · rw [List.nodup_append]
      exact ⟨g.nd a ha, g.nd b hb, fun x hx y hy e => g.dj a ha b hb hab x hx (e ▸ hy)⟩
    · exact g.nd c (jn_V.mp hc).1
theorem grp_ok {W0 : Wb} (h0 : W0.Ok) : ∀ {l : List (Cell × Cell)} {W : Wb} {f : Cell → List Cell}, W.Ok → Lg W l → Grp W0 W f → Grp W0 (fnw W l) (gr f l)
  | [], _, _, _, _, g => g
  | p :: l, W, f, h, hl, g => by
    obtain ⟨h1, h2, h3, h4, h5⟩ := f2p_some h hl.1
    exact grp_ok h0 (l := l) (jn_ok h) hl.2 (g.join h0 h h1 h2 (clt_ne h3) h4)
end Hd
set_option Elab.async false
set_option linter.all false
set_option maxRecDepth 100000
set_option maxHeartbeats 4000000
namespace G
open PySem PySem.Spec PyProof.Rows L2
theorem lc2_fm {ti1 : GIR} {g g1 : GTG} {te : GTE} {vs vs1 : List Nat} {ρ : Ro} {G0 : Gp} {Q : GK} (ds : List D) (keep : Gp → Prop) (es : D → List D) (f : D → D → D) (n : Nat) (hz : ds.length * n ≤ 1000000) (hn : ∀ d ∈ ds, (es d).length ≤ n) (hk : ∀ G, Sub G0 G → keep G)
    (outer : ∀ d ∈ ds, ∀ G, Sub G0 G → ∀ R : Ro → List D → (Gp → Prop) → Gp → Prop,
      (∀ ρ2 keep1 G4, Sub G G4 → (∀ G', keep1 G') → (∀ e ∈ es d, ∀ G5, Sub G0 G5 → ∀ R5 : D → Gp → Prop, (∀ G6, Sub G5 G6 → R5 (f d e) G6) → g1 e (gwipe ρ2 vs1) G5 fun ρ3 G6 => te ρ3 G6 R5) → R ρ2 (es d) keep1 G4) →
      g d (gwipe ρ vs) G fun ρ2 G2 => ti1 ρ2 G2 (R ρ2))
    (fin : ∀ p G', G0 p = none → Sub G0 G' → G' p = some (.lst (ds.flatMap fun d => (es d).map (f d))) → Q (.ref p) G') :
    Lc2I g gYes ti1 g1 gYes te vs vs1 ρ Q ds keep G0 := by
  have hfl : ∀ l : List D, (∀ d ∈ l, (es d).length ≤ n) → (l.flatMap fun d => (es d).map (f d)).length ≤ l.length * n := by
    intro l
    induction l with
    | nil => intro _; simp
    | cons a l ih =>
      intro h
      have h5 := ih fun d hd => h d (List.mem_cons_of_mem _ hd)
      have h6 := h a List.mem_cons_self
      rw [List.flatMap_cons, List.length_append, List.length_map, List.length_cons, Nat.add_mul]
      omega
  intro p hp
  refine ⟨fun i acc G => Sub G0 G ∧ G p = some (.lst acc) ∧ acc = (ds.take i).flatMap fun d => (es d).map (f d), ⟨Sub.new hp, gup_same, rfl⟩, fun i acc G _ h => hk G h.1, ?_, fun acc G ⟨h1, h2, h3⟩ => fin p G hp h1 (by rw [h2, h3, List.take_length])⟩
  rintro i acc d G ed ⟨h1, h2, h3⟩
  have hd := List.mem_of_getElem? ed
  have hlt := (List.getElem?_eq_some_iff.mp ed).1
  have tk' : ds.take (i + 1) = ds.take i ++ [d] := by rw [List.take_succ, ed]; rfl
  refine outer d hd G h1 (fun ρ2 es' keep1 G4 => ∃ W1 : Nat → List D → Gp → Prop, W1 0 acc G4 ∧ (∀ j acc G, j ≤ es'.length → W1 j acc G → keep1 G) ∧
      (∀ j acc e G, es'[j]? = some e → W1 j acc G → g1 e (gwipe ρ2 vs1) G fun ρ3 G5 => te ρ3 G5 fun y G7 => G7 p = some (.lst acc) ∧ acc.length < sizeLine ∧ W1 (j + 1) (acc ++ [y]) (gup G7 p (.lst (acc ++ [y])))) ∧
      ∀ acc G, W1 es'.length acc G → Sub G0 G ∧ G p = some (.lst acc) ∧ acc = (ds.take (i + 1)).flatMap fun d => (es d).map (f d)) fun ρ2 keep1 G4 s4 hk1 inner => ?_
  have h24 := s4 p _ h2
  refine ⟨fun j a2 G => Sub G0 G ∧ G p = some (.lst a2) ∧ a2 = acc ++ ((es d).take j).map (f d), ⟨h1.trans s4, h24, by simp⟩, fun j _ G _ _ => hk1 G, ?_, ?_⟩
  · rintro j a2 e G5 ee ⟨b1, b2, b3⟩
    have he := List.mem_of_getElem? ee
    refine inner e he G5 b1 (fun y G7 => G7 p = some (.lst a2) ∧ a2.length < sizeLine ∧ Sub G0 (gup G7 p (.lst (a2 ++ [y]))) ∧ gup G7 p (.lst (a2 ++ [y])) p = some (.lst (a2 ++ [y])) ∧ a2 ++ [y] = acc ++ ((es d).take (j + 1)).map (f d)) fun G6 s6 => ?_
    have e1 : (es d).take (j + 1) = (es d).take j ++ [e] := by rw [List.take_succ, ee]; rfl
    refine ⟨s6 p _ b2, ?_, fun a o ea => ?_, gup_same, ?_⟩
    · have c2 := hfl (ds.take i) fun d hd => hn d (List.mem_of_mem_take hd)
      have c3 : ((es d).take j).length ≤ n := Nat.le_trans (List.length_take_le' ..) (hn d hd)
      have c5 : ((ds.take i).length + 1) * n ≤ ds.length * n := Nat.mul_le_mul_right n (by rw [List.length_take]; omega)
      rw [Nat.add_mul] at c5
      rw [b3, List.length_append, List.length_map, sizeLine_eq, h3]
      omega
    · rw [gup_ne (by rintro rfl; rw [hp] at ea; cases ea)]
      exact s6 a o (b1 a o ea)
    · rw [b3, e1, List.map_append, List.append_assoc]
      rfl
  · rintro a2 G5 ⟨b1, b2, b3⟩
    refine ⟨b1, b2, ?_⟩
    rw [b3, tk', List.flatMap_append, List.take_length, h3]
    simp
end G
set_option Elab.async false
set_option linter.all false
set_option maxRecDepth 100000
set_option maxHeartbeats 4000000
namespace G
open PySem PySem.Spec PyProof.Rows L2
/-! ### more of dicts -/
theorem dget_cons (p : D × D) (kvs : List (D × D)) (k : D) : dget (p :: kvs) k = if p.1 = k then some p.2 else dget kvs k := by
  unfold dget
  rw [List.find?_cons]
  by_cases h : p.1 = k
  · simp [h]
  · simp [h]
theorem dget_nil (k : D) : dget [] k = none := rfl
theorem dget_app (kvs more : List (D × D)) (k : D) : dget (kvs ++ more) k = if (dget kvs k).isSome then dget kvs k else dget more k := by
  induction kvs with
  | nil => simp [dget_nil]
  | cons p kvs ih =>
    rw [List.cons_append, dget_cons, dget_cons]
    by_cases h : p.1 = k
    · simp [h]
    · simp [h, ih]
theorem dget_map (kvs : List (D × D)) (k v k' : D) : dget (kvs.map fun p => if p.1 = k then (p.1, v) else p) k' = if k = k' ∧ (dget kvs k).isSome = true then some v else dget kvs k' := by
  induction kvs with
  | nil => simp [dget_nil]
  | cons p kvs ih =>
    rw [List.map_cons, dget_cons, dget_cons, dget_cons, ih]
    by_cases h1 : p.1 = k
    · by_cases h2 : k = k'
      · subst h2; simp [h1]
      · have h3 : ¬ p.1 = k' := fun e => h2 (h1.symm.trans e)
        simp [h1, h2, h3]
    · by_cases h2 : p.1 = k'
      · have h3 : ¬ k = k' := fun e => h1 (h2.trans e.symm)
        rw [if_neg h1]
        simp [h2, h3]
      · rw [if_neg h1, if_neg h2, if_neg h2, if_neg h1]
theorem dget_dput (kvs : List (D × D)) (k v k' : D) : dget (dput kvs k v) k' = if k = k' then some v else dget kvs k' := by
  unfold dput
  by_cases h : (dget kvs k).isSome = true
  · rw [if_pos h, dget_map]
    simp [h]
  · rw [if_neg h, dget_app, dget_cons, dget_nil]
    by_cases h2 : k = k'
    · subst h2
      simp [h]
    · by_cases h3 : (dget kvs k').isSome = true
      · simp [h2, h3]
      · have h4 : dget kvs k' = none := by simpa using h3
        simp [h2, h4]
theorem dget_dputs (v : D) (ts : List D) : ∀ (kvs : List (D × D)) (k : D), dget (dputs kvs (ts.map fun t => (t, v))) k = if k ∈ ts then some v else dget kvs k := by
  induction ts with
  | nil => intro kvs k; simp [dputs]
  | cons t ts ih =>
    intro kvs k
    rw [List.map_cons]
    show dget (dputs (dput kvs t v) _) k = _
    rw [ih, dget_dput]
    by_cases h1 : k ∈ ts
    · simp [h1]
    · by_cases h2 : t = k
      · simp [h2]
      · have h3 : ¬ k = t := fun e => h2 e.symm
        simp [h1, h2, h3]
/-- a dict of things, by cells -/
def rct (T : List (Cell × Addr)) : List (D × D) := T.map fun q => (cD q.1, D.ref q.2)
theorem dget_rct {T : List (Cell × Addr)} (nd : (T.map (·.1)).Nodup) {q : Cell × Addr} (h : q ∈ T) : dget (rct T) (cD q.1) = some (.ref q.2) := by
  induction T with
  | nil => cases h
  | cons t T ih =>
    unfold rct
    rw [List.map_cons, dget_cons]
    rw [List.map_cons, List.nodup_cons] at nd
    rcases List.mem_cons.mp h with e | h
    · subst e; simp
    · have h2 : ¬ cD t.1 = cD q.1 := fun e => nd.1 (by rw [cD_inj e]; exact List.mem_map.mpr ⟨q, h, rfl⟩)
      simp only [h2, if_false]
      exact ih nd.2 h
theorem dget_rct_none {T : List (Cell × Addr)} {c : Cell} (h : c ∉ T.map (·.1)) : dget (rct T) (cD c) = none := by
  induction T with
  | nil => rfl
  | cons t T ih =>
    rw [List.map_cons, List.mem_cons, not_or] at h
    unfold rct
    rw [List.map_cons, dget_cons]
    have h2 : ¬ cD t.1 = cD c := fun e => h.1 (cD_inj e).symm
    simp only [h2, if_false]
    exact ih h.2
theorem rct_len (T : List (Cell × Addr)) : (rct T).length = T.length := by unfold rct; rw [List.length_map]
theorem mem_fst {T : List (Cell × Addr)} {L : List Cell} (e : T.map (·.1) = L) {c : Cell} (h : c ∈ L) : ∃ r, (c, r) ∈ T := by
  rw [← e, List.mem_map] at h
  obtain ⟨q, hq, rfl⟩ := h
  exact ⟨q.2, hq⟩
/-- {cell: a new thing for cell in a list of unlike cells} -/
theorem dc_objs {g : GTG} {tk tv : GTE} {vs : List Nat} {ρ : Ro} {G0 : Gp} {Q : GK} (L : List Cell) (nd : L.Nodup) (o : Cell → GO) (keep : Gp → Prop) (hz : L.length ≤ 1000000) (hk : ∀ G, Sub G0 G → keep G)
    (step : ∀ c ∈ L, ∀ G, Sub G0 G → ∀ R : D → D → Gp → Prop, (∀ r G', G r = none → Sub G G' → G' r = some (o c) → R (cD c) (.ref r) G') → g (cD c) (gwipe ρ vs) G fun ρ2 G2 => tk ρ2 G2 fun y G4 => tv ρ2 G4 fun z G5 => R y z G5)
    (fin : ∀ p T G', G0 p = none → Sub G0 G' → T.map (·.1) = L → (T.map (·.2)).Nodup → (∀ q ∈ T, G0 q.2 = none ∧ q.2 ≠ p ∧ G' q.2 = some (o q.1)) → G' p = some (.dct (rct T)) → Q (.ref p) G') :
    DcI g gYes tk tv vs ρ Q (L.map cD) keep G0 := by
  intro p hp
  refine ⟨fun i G => Sub G0 G ∧ ∃ T : List (Cell × Addr), T.map (·.1) = L.take i ∧ (T.map (·.2)).Nodup ∧ (∀ q ∈ T, G0 q.2 = none ∧ q.2 ≠ p ∧ G q.2 = some (o q.1)) ∧ G p = some (.dct (rct T)),
    ⟨Sub.new hp, [], rfl, by simp, (fun q h => by cases h), gup_same⟩, fun i G _ h => hk G h.1, ?_, fun G ⟨h1, T, h2, h3, h4, h5⟩ => fin p T G hp h1 (by rw [h2, List.length_map, List.take_length]) h3 h4 h5⟩
  rintro i d G ed ⟨h1, T, h2, h3, h4, h5⟩
  rw [List.getElem?_map] at ed
  cases es : L[i]? with
  | none => rw [es] at ed; cases ed
  | some c =>
    rw [es] at ed
    cases ed
    have hlt := (List.getElem?_eq_some_iff.mp es).1
    have e5 : L.take (i + 1) = L.take i ++ [c] := by rw [List.take_succ, es]; rfl
    have hTl : T.length ≤ i := by rw [← List.length_map (f := (·.1)), h2, List.length_take]; omega
    have hc : c ∉ T.map (·.1) := by
      rw [h2]
      have : (L.take (i + 1)).Nodup := nd.sublist (List.take_sublist _ _)
      rw [e5, List.nodup_append] at this
      exact fun h => this.2.2 c h c (by simp) rfl
    show g (cD c) (gwipe ρ vs) G fun ρ2 G2 => gYes ρ2 G2 fun b G3 => if b = true then tk ρ2 G3 fun k G4 => tv ρ2 G4 fun v G5 => _ else _
    simp only [gYes, if_true]
    refine step c (List.mem_of_getElem? es) G h1 (fun y z G5 => ∃ kvs, G5 p = some (.dct kvs) ∧ isKey y ∧ kvs.length < sizeLine ∧ (Sub G0 (gup G5 p (.dct (dput kvs y z))) ∧ ∃ T : List (Cell × Addr), T.map (·.1) = L.take (i + 1) ∧ (T.map (·.2)).Nodup ∧ (∀ q ∈ T, G0 q.2 = none ∧ q.2 ≠ p ∧ (gup G5 p (.dct (dput kvs y z))) q.2 = some (o q.1)) ∧ (gup G5 p (.dct (dput kvs y z))) p = some (.dct (rct T)))) fun r G' hr s hr' => ?_
    have hrp : r ≠ p := by rintro rfl; rw [h5] at hr; cases hr
    refine ⟨rct T, s _ _ h5, cD_key c, by rw [rct_len, sizeLine_eq]; omega, fun a u e => ?_, T ++ [(c, r)], ?_, ?_, ?_, ?_⟩
    · rw [gup_ne (by rintro rfl; rw [hp] at e; cases e)]
      exact s _ _ (h1 _ _ e)
    · rw [List.map_append, h2, e5]; rfl
    · rw [List.map_append, List.nodup_append]
      refine ⟨h3, by simp, fun a ha b hb e => ?_⟩
      simp at hb
      subst hb e
      obtain ⟨q, hq, e⟩ := List.mem_map.mp ha
      have := (h4 q hq).2.2
      rw [e, hr] at this
      cases this
    · intro q hq
      rcases List.mem_append.mp hq with hq | hq
      · obtain ⟨q1, q2, q3⟩ := h4 q hq
        exact ⟨q1, q2, by rw [gup_ne q2]; exact s _ _ q3⟩
      · rw [List.mem_singleton.mp hq]
        refine ⟨?_, hrp, by rw [gup_ne hrp]; exact hr'⟩
        cases e : G0 r with
        | none => rfl
        | some u => rw [h1 _ _ e] at hr; cases hr
    · rw [gup_same]
      congr 2
      unfold dput
      rw [dget_rct_none hc]
      unfold rct
      simp
theorem Sub.unlock {G G' : Gp} {a : Addr} {o u : GO} (h : G a = some o) (s : Sub (gup G a u) G') : Sub G (gup G' a o) := fun b v e => by
  by_cases hb : b = a
  · subst hb
    rw [gup_same, ← e, h]
  · rw [gup_ne hb]
    exact s b v (by rw [gup_ne hb]; exact e)
end G
set_option Elab.async false
set_option linter.all false
set_option maxRecDepth 100000
set_option maxHeartbeats 4000000
namespace Hd
open PySem PySem.Spec PyProof.Rows L2 G
/-! ### webs -/
def pD (p : Cell × Cell) : D := .tup [cD p.1, cD p.2]
theorem pD_inj {p q : Cell × Cell} (h : pD p = pD q) : p = q := by
  unfold pD at h
  simp only [D.tup.injEq, List.cons.injEq, and_true] at h
  exact Prod.ext (cD_inj h.1) (cD_inj h.2)
theorem pD_iff {p q : Cell × Cell} : pD p = pD q ↔ p = q := ⟨pD_inj, fun h => by rw [h]⟩
theorem pD_key (p : Cell × Cell) : isKey (pD p) := ⟨rfl, _, rfl⟩
@[simp] theorem isKey_pD (p : Cell × Cell) : isKey (pD p) ↔ True := ⟨fun _ => trivial, fun _ => pD_key p⟩
theorem pD_mem {p : Cell × Cell} {l : List (Cell × Cell)} : pD p ∈ l.map pD ↔ p ∈ l := by
  rw [List.mem_map]
  exact ⟨fun ⟨q, h, e⟩ => pD_inj e ▸ h, fun h => ⟨p, h, rfl⟩⟩
def restD (L : List Cell) : D → List D
  | .tup [.int i, _] => (L.map cD).drop (i.toNat + 1)
  | _ => []
def pairD : D → D → D
  | .tup [_, a], e => .tup [a, e]
  | _, _ => .non
theorem prs_flat (L : List Cell) : ∀ (suf : List Cell) (k : Nat), L.drop k = suf → ((suf.map cD).mapIdx fun i d => D.tup [.int ((i + k : Nat) : Int), d]).flatMap (fun d => (restD L d).map (pairD d)) = (prs suf).map pD
  | [], _, _ => rfl
  | a :: suf, k, h => by
    have h2 : L.drop (k + 1) = suf := by rw [← List.drop_drop, h]; rfl
    have ih := prs_flat L suf (k + 1) h2
    rw [List.map_cons, List.mapIdx_cons, List.flatMap_cons]
    have e : (fun i d => D.tup [.int ((i + 1 + k : Nat) : Int), d]) = fun (i : Nat) (d : D) => D.tup [.int ((i + (k + 1) : Nat) : Int), d] := by
      funext i d
      rw [show i + 1 + k = i + (k + 1) by omega]
    rw [e, ih]
    rw [show prs (a :: suf) = suf.map (fun b => (a, b)) ++ prs suf from rfl, List.map_append]
    congr 1
    show ((L.map cD).drop (((0 + k : Nat) : Int).toNat + 1)).map (fun e => D.tup [cD a, e]) = _
    rw [← List.map_drop, show ((0 + k : Nat) : Int).toNat + 1 = k + 1 by omega, h2, List.map_map, List.map_map]
    rfl
def sp_pairs_of : GSp := fun ds G Q => ∃ L : List Cell, ds = [rD L] ∧ L.length ≤ 500 ∧ ∀ p G', G p = none → Sub G G' → G' p = some (.lst ((prs L).map pD)) → Q (.ref p) G'
theorem p_pairs_of (ds : List D) (Γ : Gp) (R : GK) (h : sp_pairs_of ds Γ R) : t_pairs_of { nx := fun _ G' => R .non G', rt := R } (ds.map some ++ List.replicate (4 - ds.length) none) Γ := by
  obtain ⟨L, rfl, hL, hQ⟩ := h
  unfold t_pairs_of
  simp [rD]
  refine lc2_fm _ _ (restD L) pairD 500 ?_ (fun d hd => ?_) (fun _ _ => trivial) (fun d hd G1 s1 R1 h1 => ?_) fun p G1 hp s1 hp1 => ?_
  · rw [List.length_mapIdx, List.length_map]; omega
  · rw [List.mem_mapIdx] at hd
    obtain ⟨i, hi, rfl⟩ := hd
    show ((L.map cD).drop _).length ≤ 500
    rw [List.length_drop, List.length_map]; omega
  · rw [List.mem_mapIdx] at hd
    obtain ⟨i, hi, rfl⟩ := hd
    simp
    have e : ((i : Int) + 1) = ((i + 1 : Nat) : Int) := by omega
    rw [e, cut_from]
    refine h1 _ _ _ Sub.refl (fun _ => trivial) fun e he G5 s5 R5 h5 => ?_
    have h6 := h5 _ Sub.refl
    simpa [pairD] using h6
  · have e := prs_flat L L 0 rfl
    refine ⟨_, Fg.refl, hQ p G1 hp s1 ?_⟩
    rw [hp1]
    exact congrArg (fun x => some (GO.lst x)) e
end Hd
set_option Elab.async false
set_option linter.all false
set_option maxRecDepth 100000
set_option maxHeartbeats 4000000
namespace Hd
open PySem PySem.Spec PyProof.Rows L2 G
noncomputable def tieB (L : List Cell) (a b : Cell) : Bool := (fld L a).any fun c => decide (c ∈ fld L b)
def wD (W : Wb) : D := .tup [rD W.V, .tup (W.ts.map pD)]
theorem lockE_of {t : GTE} {ρ : Ro} {G0 : Gp} {Q : GK} (a : Addr) (kvs : List (D × D)) (h : G0 a = some (.dct kvs)) (q : t ρ (gup G0 a (.frd kvs)) fun d G' => G' a = some (.frd kvs) ∧ Q d (gup G' a (.dct kvs))) : gLockE t ρ G0 Q := ⟨a, kvs, h, q⟩
theorem snd_inj {T : List (Cell × Addr)} (nd : (T.map (·.2)).Nodup) {p q : Cell × Addr} (hp : p ∈ T) (hq : q ∈ T) (e : p.2 = q.2) : p = q := by
  induction T with
  | nil => cases hp
  | cons t T ih =>
    rw [List.map_cons, List.nodup_cons] at nd
    rcases List.mem_cons.mp hp with e1 | h1 <;> rcases List.mem_cons.mp hq with e2 | h2
    · rw [e1, e2]
    · exact absurd (List.mem_map.mpr ⟨q, h2, by rw [← e, e1]⟩) nd.1
    · exact absurd (List.mem_map.mpr ⟨p, h1, by rw [e, e2]⟩) nd.1
    · exact ih nd.2 h1 h2
def sp_web_of : GSp := fun ds G Q => ∃ L lot : List Cell, ds = [rD L, rD lot] ∧ L.length ≤ 5000 ∧ lot.length ≤ 500 ∧ Asc lot ∧ ∀ G', Sub G G' → Q (wD ⟨lot, tieB L⟩) G'
theorem p_web_of (ds : List D) (Γ : Gp) (R : GK) (h : sp_web_of ds Γ R) : t_web_of sp_field sp_pairs_of { nx := fun _ G' => R .non G', rt := R } (ds.map some ++ List.replicate (8 - ds.length) none) Γ := by
  obtain ⟨L, lot, rfl, hL, hl, ha, hQ⟩ := h
  unfold t_web_of
  simp
  refine ⟨_, rfl, ?_⟩
  refine dc_objs lot ha.nodup (fun c => .dct (cset (dedup (fld L c)) (.bl true))) _ (by omega) (fun _ _ => trivial) (fun c hc G1 s1 R1 h1 => ?_) fun p T G1 hp s1 hT nd hTo hp1 => ?_
  · simp
    refine ⟨L, c, rfl, hL, fun G2 s2 => ⟨_, rfl, ?_⟩⟩
    refine dset_fm _ true 3 (by simp) (by have := fld_len L c; omega) (by simp) fun r G3 hr s3 hr3 => ?_
    refine h1 r G3 ?_ (s2.trans s3) hr3
    cases e : G1 r with
    | none => rfl
    | some u => rw [s2 _ _ e] at hr; cases hr
  · refine ⟨lot, rfl, hl, fun q G2 hq s2 hq2 => ⟨q, rfl, _, hq2, ?_⟩⟩
    refine lc_fm _ _ (fun d => (un pD d).bind fun p => if tieB L p.1 p.2 = true then some d else none) ?_ (fun G3 s3 => s3 _ _ hq2) (fun d hd G3 s3 Q3 h3 => ?_) fun t G3 ht s3 ht3 => ?_
    · rw [List.length_map]
      have := prs_len lot
      have := Nat.mul_le_mul hl hl
      omega
    · rw [List.mem_map] at hd
      obtain ⟨⟨a, b⟩, hab, rfl⟩ := hd
      rw [un_of pD_inj] at h3
      obtain ⟨h4, h5, h6⟩ := (mem_prs ha).mp hab
      obtain ⟨ra, hra⟩ := mem_fst hT h4
      obtain ⟨rb, hrb⟩ := mem_fst hT h5
      obtain ⟨a1, a2, a3⟩ := hTo _ hra
      obtain ⟨b1, b2, b3⟩ := hTo _ hrb
      have nT : (T.map (·.1)).Nodup := by rw [hT]; exact ha.nodup
      have ga := dget_rct nT hra
      have gb := dget_rct nT hrb
      have hne : rb ≠ ra := fun e => by
        have := snd_inj nd hra hrb e.symm
        exact clt_ne h6 (congrArg Prod.fst this)
      have p3 := s3 _ _ (s2 _ _ hp1)
      have a4 := s3 _ _ (s2 _ _ a3)
      have b4 := s3 _ _ (s2 _ _ b3)
      simp [pD]
      refine lockE_of ra _ a4 ?_
      have a2' : p ≠ ra := Ne.symm a2
      simp [gup_ne a2', p3]
      refine ⟨_, ga, _, rfl, _, gup_same, ?_⟩
      have ek : (cset (dedup (fld L a)) (D.bl true)).map (fun x => x.1) = (dedup (fld L a)).map cD := cset_keys _ _
      rw [ek]
      refine lc_fm _ _ (fun d => some (.bl ((dget (cset (dedup (fld L b)) (.bl true)) d).isSome))) ?_ (fun _ _ => trivial) (fun d hd G4 s4 Q4 h4 => ?_) fun t G4 ht s4 ht4 => ?_
      · rw [List.length_map]
        have := dedup_len (fld L a)
        have := fld_len L a
        omega
      · rw [List.mem_map] at hd
        obtain ⟨c, _, rfl⟩ := hd
        have p4 := s4 p _ ((gup_ne a2').trans p3)
        have b5 := s4 rb _ ((gup_ne hne).trans b4)
        have h5 := h4 G4 Sub.refl
        rw [dget_isSome] at h5
        simp [p4]
        exact ⟨_, gb, _, rfl, _, .inl b5, by rw [dget_isSome]; exact h5⟩
      · rw [fm_bl (fun c => decide (c ∈ fld L b)) cD _ _ fun c _ => by simp [mem_dedup]] at ht4
        have htra : t ≠ ra := by rintro rfl; rw [gup_same] at ht; cases ht
        refine ⟨s4 _ _ gup_same, t, rfl, _, (gup_ne htra).trans ht4, ?_⟩
        have h7 := h3 _ (Sub.unlock a4 s4)
        have he : (true ∈ (dedup (fld L a)).map fun c => decide (c ∈ fld L b)) ↔ tieB L a b = true := by
          unfold tieB
          rw [List.mem_map, List.any_eq_true]
          simp only [mem_dedup]
        by_cases hc : tieB L a b = true
        · rw [if_pos (he.mpr hc)]
          simp only [Option.bind_some, hc, if_true] at h7
          exact h7
        · rw [if_neg fun z => hc (he.mp z)]
          simp only [Option.bind_some, hc, if_false] at h7
          exact h7
    · have e : ((prs lot).map pD).filterMap (fun d => (un pD d).bind fun p => if tieB L p.1 p.2 = true then some d else none) = ((prs lot).filter fun p => tieB L p.1 p.2).map pD := by
        rw [List.filterMap_map]
        refine fm_filter (fun p => tieB L p.1 p.2) pD _ _ fun c _ => ?_
        show (un pD (pD c)).bind _ = _
        rw [un_of pD_inj]
        rfl
      rw [e] at ht3
      simp [ht3]
      exact ⟨_, Fg.refl, hQ _ ((s1.trans s2).trans s3)⟩
def sp_contrary : GSp := fun ds G Q => ∃ W : Wb, ds = [wD W] ∧ W.V.length ≤ 500 ∧ Asc W.V ∧ ∀ G', Sub G G' → Q (wD ⟨W.V, fun a b => !W.R a b⟩) G'
theorem p_contrary (ds : List D) (Γ : Gp) (R : GK) (h : sp_contrary ds Γ R) : t_contrary sp_pairs_of { nx := fun _ G' => R .non G', rt := R } (ds.map some ++ List.replicate (4 - ds.length) none) Γ := by
  obtain ⟨W, rfl, hl, ha, hQ⟩ := h
  unfold t_contrary
  simp [wD]
  refine dc_fm _ _ (fun d => some (d, .bl true)) ?_ (fun _ _ => trivial) (fun d hd q hq => ?_) (fun d hd G2 s2 Q2 h2 => by simpa using h2 G2 Sub.refl) fun p G2 hp s2 hp2 => ?_
  · rw [List.length_map]
    have h1 := List.length_filter_le (fun p => W.R p.1 p.2) (prs W.V)
    have h2 := prs_len W.V
    have h3 := Nat.mul_le_mul hl hl
    unfold Wb.ts
    omega
  · cases hq
    rw [List.mem_map] at hd
    obtain ⟨c, _, rfl⟩ := hd
    exact pD_key c
  · have e : (W.ts.map pD).filterMap (fun d => some (d, D.bl true)) = (W.ts.map pD).map fun d => (d, D.bl true) := by
      exact congrFun (List.filterMap_eq_map (f := fun d : D => (d, D.bl true))) _
    rw [e] at hp2
    clear e
    generalize hX : W.ts.map pD = X at hp2
    refine ⟨W.V, rfl, hl, fun q G3 hq s3 hq3 => ⟨q, rfl, _, hq3, ?_⟩⟩
    refine lc_fm _ _ (fun d => if d ∈ X then none else some d) ?_ (fun G4 s4 => s4 _ _ hq3) (fun d hd G4 s4 Q4 h4 => ?_) fun t G4 ht s4 ht4 => ?_
    · rw [List.length_map]
      have h2 := prs_len W.V
      have h3 := Nat.mul_le_mul hl hl
      omega
    · rw [List.mem_map] at hd
      obtain ⟨c, _, rfl⟩ := hd
      have p4 := s4 _ _ (s3 _ _ hp2)
      have h5 := h4 G4 Sub.refl
      simp [p4, dget_dputs, dget_nil]
      by_cases hc : pD c ∈ X
      · rw [if_pos hc] at h5
        simp [hc]
        exact h5
      · rw [if_neg hc] at h5
        simp [hc]
        exact h5
    · have e2 : ((prs W.V).map pD).filterMap (fun d => if d ∈ X then none else some d) = ((prs W.V).filter fun p => !W.R p.1 p.2).map pD := by
        rw [List.filterMap_map]
        refine fm_filter (fun p => !W.R p.1 p.2) pD _ _ fun c hc => ?_
        show (if pD c ∈ X then none else some (pD c)) = _
        have : pD c ∈ X ↔ W.R c.1 c.2 = true := by
          rw [← hX, pD_mem]
          unfold Wb.ts
          rw [List.mem_filter]
          exact and_iff_right hc
        by_cases hr : W.R c.1 c.2 = true
        · rw [if_pos (this.mpr hr)]; simp [hr]
        · rw [if_neg fun z => hr (this.mp z)]; simp [hr]
      rw [e2] at ht4
      simp [ht4]
      exact ⟨_, Fg.refl, hQ _ ((s2.trans s3).trans s4)⟩
end Hd
set_option Elab.async false
set_option linter.all false
set_option maxRecDepth 100000
set_option maxHeartbeats 4000000
namespace Hd
open PySem PySem.Spec PyProof.Rows L2 G
/-! ### orders -/
theorem pw_ext {α : Type} {lt : α → α → Prop} (irr : ∀ a, ¬ lt a a) (asy : ∀ a b, lt a b → ¬ lt b a) : ∀ {A B : List α}, A.Pairwise lt → B.Pairwise lt → (∀ c, c ∈ A ↔ c ∈ B) → A = B
  | [], [], _, _, _ => rfl
  | [], b :: B, _, _, h => by have := (h b).mpr List.mem_cons_self; cases this
  | a :: A, [], _, _, h => by have := (h a).mp List.mem_cons_self; cases this
  | a :: A, b :: B, hA, hB, h => by
    have hA' := List.pairwise_cons.mp hA
    have hB' := List.pairwise_cons.mp hB
    have e : a = b := by
      rcases List.mem_cons.mp ((h a).mp List.mem_cons_self) with e | h1
      · exact e
      · rcases List.mem_cons.mp ((h b).mpr List.mem_cons_self) with e | h2
        · exact e.symm
        · exact absurd (hA'.1 b h2) (asy _ _ (hB'.1 a h1))
    subst e
    refine congrArg _ (pw_ext irr asy hA'.2 hB'.2 fun c => ⟨fun hc => ?_, fun hc => ?_⟩)
    · rcases List.mem_cons.mp ((h c).mp (List.mem_cons_of_mem _ hc)) with e | h1
      · subst e; exact absurd (hA'.1 c hc) (irr c)
      · exact h1
    · rcases List.mem_cons.mp ((h c).mpr (List.mem_cons_of_mem _ hc)) with e | h1
      · subst e; exact absurd (hB'.1 c hc) (irr c)
      · exact h1
theorem dataLt_cells (a b : Cell) : PySem.W.dataLt (toP (cD a)) (toP (cD b)) = decide (clt a b) := by
  show PySem.W.dataLt (.tuple [.int a.1, .int a.2]) (.tuple [.int b.1, .int b.2]) = _
  rw [PySem.W.dataLt_ii]
  rfl
theorem alike_cells (a b : Cell) : PySem.W.alike (toP (cD a)) (toP (cD b)) = true := by
  show PySem.W.alike (.tuple [.int a.1, .int a.2]) (.tuple [.int b.1, .int b.2]) = true
  simp [PySem.W.alike, PySem.W.alikeAll]
theorem eqv_cells (a b : Cell) : PyData.eqv (toP (cD a)) (toP (cD b)) = decide (a = b) := by
  show PyData.eqv (.tuple [.int a.1, .int a.2]) (.tuple [.int b.1, .int b.2]) = _
  simp only [PyData.eqv, PyData.eqvAll, Bool.and_true]
  by_cases h1 : a.1 = b.1 <;> by_cases h2 : a.2 = b.2 <;> simp [h1, h2, Prod.ext_iff]
theorem alike2_cells (a b : Cell) : Alike2 (toP (cD a)) (toP (cD b)) := by
  refine ⟨fun x hx y hy => ?_, fun x hx e => ?_⟩
  · simp only [List.mem_cons, List.not_mem_nil, or_false] at hx hy
    rcases hx with rfl | rfl <;> rcases hy with rfl | rfl <;> exact alike_cells _ _
  · simp only [List.mem_cons, List.not_mem_nil, or_false] at hx
    rcases hx with rfl | rfl <;> cases e
def plt (p q : Cell × Cell) : Prop := clt p.1 q.1 ∨ (p.1 = q.1 ∧ clt p.2 q.2)
instance (p q : Cell × Cell) : Decidable (plt p q) := by unfold plt; exact inferInstance
theorem clt_trans {a b c : Cell} (h1 : clt a b) (h2 : clt b c) : clt a c := by unfold clt at *; omega
theorem plt_irrefl (p : Cell × Cell) : ¬ plt p p := by
  rintro (h | ⟨_, h⟩)
  · exact clt_irrefl _ h
  · exact clt_irrefl _ h
theorem plt_asymm (p q : Cell × Cell) (h : plt p q) : ¬ plt q p := by
  rintro (h2 | ⟨e2, h2⟩)
  · rcases h with h | ⟨e, h⟩
    · exact clt_asymm h h2
    · rw [e] at h2; exact clt_irrefl _ h2
  · rcases h with h | ⟨e, h⟩
    · rw [e2] at h; exact clt_irrefl _ h
    · exact clt_asymm h h2
theorem plt_trans {p q r : Cell × Cell} (h1 : plt p q) (h2 : plt q r) : plt p r := by
  rcases h1 with h1 | ⟨e1, h1⟩ <;> rcases h2 with h2 | ⟨e2, h2⟩
  · exact .inl (clt_trans h1 h2)
  · exact .inl (e2 ▸ h1)
  · exact .inl (e1 ▸ h2)
  · exact .inr ⟨e1.trans e2, clt_trans h1 h2⟩
theorem plt_tri {p q : Cell × Cell} (h : p ≠ q) : plt p q ∨ plt q p := by
  by_cases e : p.1 = q.1
  · have e2 : p.2 ≠ q.2 := fun e2 => h (Prod.ext e e2)
    rcases clt_tri e2 with h | h
    · exact .inl (.inr ⟨e, h⟩)
    · exact .inr (.inr ⟨e.symm, h⟩)
  · rcases clt_tri e with h | h
    · exact .inl (.inl h)
    · exact .inr (.inl h)
theorem dataLt_pairs (p q : Cell × Cell) : PySem.W.dataLt (toP (pD p)) (toP (pD q)) = decide (plt p q) := by
  show PySem.W.dataLt (.tuple [toP (cD p.1), toP (cD p.2)]) (.tuple [toP (cD q.1), toP (cD q.2)]) = _
  rw [PySem.W.dataLt_pair (alike_cells _ _) (alike_cells _ _), eqv_cells, eqv_cells, dataLt_cells, dataLt_cells]
  unfold plt
  by_cases e1 : p.1 = q.1
  · by_cases e2 : p.2 = q.2
    · simp [e1, e2, clt_irrefl]
    · have : ¬ clt q.1 q.1 := clt_irrefl _
      simp [e1, e2, this]
  · simp [e1]
theorem prs_pw : ∀ {L : List Cell}, Asc L → (prs L).Pairwise plt
  | [], _ => by simp [prs]
  | a :: l, h => by
    have h2 := List.pairwise_cons.mp h
    rw [show prs (a :: l) = l.map (fun b => (a, b)) ++ prs l from rfl, List.pairwise_append]
    refine ⟨?_, prs_pw h2.2, fun p hp q hq => ?_⟩
    · rw [List.pairwise_map]
      exact h2.2.imp fun {x y} hxy => .inr ⟨rfl, hxy⟩
    · rw [List.mem_map] at hp
      obtain ⟨b, _, rfl⟩ := hp
      exact .inl (h2.1 _ ((mem_prs h2.2).mp hq).1)
theorem sortD_perm (xs : List D) : (sortD xs).Perm xs := List.mergeSort_perm _ _
/-- a list of pairs of cells, sorted -/
theorem sortD_pairs {ks A : List (Cell × Cell)} (hA : A.Pairwise plt) (nd : ks.Nodup) (h : ∀ p, p ∈ ks ↔ p ∈ A) : sortD (ks.map pD) = A.map pD := by
  have e1 : sortD (ks.map pD) = (ks.mergeSort fun p q => !decide (plt q p)).map pD := by
    unfold sortD
    symm
    refine List.map_mergeSort (f := pD) fun a _ b _ => ?_
    show (!decide (plt b a)) = PySem.W.dataLe false toP (pD a) (pD b)
    show _ = (!PySem.W.dataLt (toP (pD b)) (toP (pD a)))
    rw [dataLt_pairs]
  rw [e1]
  congr 1
  have hs : (ks.mergeSort fun p q => !decide (plt q p)).Pairwise fun a b => (!decide (plt b a)) = true := by
    refine List.pairwise_mergeSort (fun a b c h1 h2 => ?_) (fun a b => ?_) ks
    · simp only [Bool.not_eq_true', decide_eq_false_iff_not] at *
      intro h3
      by_cases e : b = c
      · subst e; exact h1 h3
      · rcases plt_tri e with h4 | h4
        · exact h1 (plt_trans h4 h3)
        · exact h2 h4
    · by_cases h1 : plt b a
      · simp [h1, plt_asymm _ _ h1]
      · simp [h1]
  have hn : (ks.mergeSort fun p q => !decide (plt q p)).Nodup := (List.mergeSort_perm ks _).nodup_iff.mpr nd
  refine pw_ext plt_irrefl plt_asymm ((hs.and hn).imp fun {a b} ⟨h1, h2⟩ => ?_) hA fun p => ((List.mergeSort_perm ks _).mem_iff).trans (h p)
  simp only [Bool.not_eq_true', decide_eq_false_iff_not] at h1
  exact (plt_tri h2).resolve_right h1
theorem pDs_okey (n : Nat) : ∀ l : List (Cell × Cell), okeyAll (n + 2) (l.map pD) = true
  | [] => rfl
  | p :: l => by
    rw [List.map_cons, okeyAll, pDs_okey n l]
    show (okeyAll (n + 1) [cD p.1, cD p.2] && true) = true
    simp only [okeyAll, cD_okey]
    rfl
theorem canSort_pairs (l : List (Cell × Cell)) : CanSort (l.map pD) := by
  refine ⟨pDs_okey 6 l, fun d hd d' hd' => ?_, .inl fun d hd => ?_⟩
  · simp only [List.map_map, List.mem_map, Function.comp] at hd hd'
    obtain ⟨a, _, rfl⟩ := hd
    obtain ⟨b, _, rfl⟩ := hd'
    show PySem.W.alike (.tuple [toP (cD a.1), toP (cD a.2)]) (.tuple [toP (cD b.1), toP (cD b.2)]) = true
    simp only [PySem.W.alike, PySem.W.alikeAll, alike_cells]
    rfl
  · simp only [List.map_map, List.mem_map, Function.comp] at hd
    obtain ⟨a, _, rfl⟩ := hd
    exact ⟨_, _, rfl⟩
theorem alike_lots : ∀ A B : List Cell, PySem.W.alikeAll (toPs (A.map cD)) (toPs (B.map cD)) = true
  | [], _ => by simp [PySem.W.alikeAll, toPs]
  | _ :: _, [] => by simp [PySem.W.alikeAll, toPs]
  | a :: A, b :: B => by
    show PySem.W.alikeAll (toP (cD a) :: toPs (A.map cD)) (toP (cD b) :: toPs (B.map cD)) = true
    rw [PySem.W.alikeAll, alike_cells, alike_lots A B]
    rfl
theorem rDs_okey (n : Nat) : ∀ l : List (List Cell), okeyAll (n + 2) (l.map rD) = true
  | [] => rfl
  | p :: l => by rw [List.map_cons, okeyAll, rDs_okey n l, rD_okey]; rfl
theorem canSort_lots {l : List (List Cell)} (h : ∀ A ∈ l, A ≠ []) : CanSort (l.map rD) := by
  refine ⟨rDs_okey 6 l, fun d hd d' hd' => ?_, .inl fun d hd => ?_⟩
  · simp only [List.map_map, List.mem_map, Function.comp] at hd hd'
    obtain ⟨a, _, rfl⟩ := hd
    obtain ⟨b, _, rfl⟩ := hd'
    show PySem.W.alike (.tuple (toPs (a.map cD))) (.tuple (toPs (b.map cD))) = true
    rw [PySem.W.alike]
    exact alike_lots a b
  · simp only [List.map_map, List.mem_map, Function.comp] at hd
    obtain ⟨a, ha, rfl⟩ := hd
    cases a with
    | nil => exact absurd rfl (h _ ha)
    | cons c a => exact ⟨_, _, rfl⟩
theorem perm_map_inv {α : Type} {f : α → D} (inj : ∀ {a b}, f a = f b → a = b) {l : List α} {m : List D} (h : m.Perm (l.map f)) : ∃ k : List α, k.Perm l ∧ m = k.map f := by
  have : ∀ x ∈ m, ∃ a, f a = x := fun x hx => by
    obtain ⟨a, _, e⟩ := List.mem_map.mp (h.mem_iff.mp hx)
    exact ⟨a, e⟩
  have : ∃ k : List α, m = k.map f := by
    clear h
    induction m with
    | nil => exact ⟨[], rfl⟩
    | cons x m ih =>
      obtain ⟨a, rfl⟩ := this x List.mem_cons_self
      obtain ⟨k, rfl⟩ := ih fun y hy => this y (List.mem_cons_of_mem _ hy)
      exact ⟨a :: k, rfl⟩
  obtain ⟨k, rfl⟩ := this
  have hf : ∀ l : List α, (l.map f).filterMap (un f) = l := fun l => by
    rw [List.filterMap_map]
    have e : (un f ∘ f) = some := funext fun a => un_of inj a
    rw [e, List.filterMap_some]
  have := h.filterMap (un f)
  rw [hf, hf] at this
  exact ⟨k, this, rfl⟩
/-! ### sets of keys of any kind -/
section
variable {α : Type} [DecidableEq α] {f : α → D}
def fset (f : α → D) (ks : List α) (v : D) : List (D × D) := ks.map fun c => (f c, v)
def finsr (ks : List α) (c : α) : List α := if c ∈ ks then ks else ks ++ [c]
theorem dget_fset (inj : ∀ {a b}, f a = f b → a = b) (ks : List α) (v : D) (c : α) : dget (fset f ks v) (f c) = if c ∈ ks then some v else none := by
  induction ks with
  | nil => rfl
  | cons k ks ih =>
    unfold fset at ih ⊢
    rw [List.map_cons, dget_cons]
    by_cases h : k = c
    · subst h; simp
    · have h2 : ¬ f k = f c := fun e => h (inj e)
      have h3 : ¬ c = k := fun e => h e.symm
      simp only [h2, if_false, ih, List.mem_cons, h3, false_or]
theorem dput_fset (inj : ∀ {a b}, f a = f b → a = b) (ks : List α) (v : D) (c : α) : dput (fset f ks v) (f c) v = fset f (finsr ks c) v := by
  unfold dput finsr
  rw [dget_fset inj]
  by_cases h : c ∈ ks
  · rw [if_pos h, if_pos h, if_pos (show (some v).isSome = true from rfl)]
    unfold fset
    rw [List.map_map]
    refine List.map_congr_left fun k _ => ?_
    show (if f k = f c then (f k, v) else (f k, v)) = _
    split <;> rfl
  · rw [if_neg h, if_neg h, if_neg (by simp)]
    unfold fset
    rw [List.map_append]
    rfl
theorem mem_finsr {ks : List α} {c x : α} : x ∈ finsr ks c ↔ x ∈ ks ∨ x = c := by
  unfold finsr
  split
  · rename_i h
    exact ⟨.inl, fun q => q.elim id fun e => e ▸ h⟩
  · rw [List.mem_append, List.mem_singleton]
theorem finsr_nodup {ks : List α} {c : α} (h : ks.Nodup) : (finsr ks c).Nodup := by
  unfold finsr
  split
  · exact h
  · rename_i n
    rw [List.nodup_append]
    refine ⟨h, by simp, fun a ha b hb e => ?_⟩
    rw [List.mem_singleton] at hb
    subst hb e
    exact n ha
theorem finsr_len (ks : List α) (c : α) : (finsr ks c).length ≤ ks.length + 1 := by
  unfold finsr
  split
  · omega
  · simp
theorem fset_keys (ks : List α) (v : D) : (fset f ks v).map (·.1) = ks.map f := by unfold fset; rw [List.map_map]; rfl
theorem fset_len (ks : List α) (v : D) : (fset f ks v).length = ks.length := by unfold fset; rw [List.length_map]
end
end Hd
set_option Elab.async false
set_option linter.all false
set_option maxRecDepth 100000
set_option maxHeartbeats 4000000
namespace Hd
open PySem PySem.Spec PyProof.Rows L2 G
theorem mem_ts {W : Wb} (h : Asc W.V) {p : Cell × Cell} : p ∈ W.ts ↔ p.1 ∈ W.V ∧ p.2 ∈ W.V ∧ clt p.1 p.2 ∧ W.R p.1 p.2 = true := by
  unfold Wb.ts
  rw [List.mem_filter, mem_prs h, and_assoc, and_assoc]
theorem ts_pw {W : Wb} (h : Asc W.V) : W.ts.Pairwise plt := (prs_pw h).filter _
theorem ts_len (W : Wb) (h : W.V.length ≤ 500) : W.ts.length ≤ 250000 := by
  have h1 := List.length_filter_le (fun p => W.R p.1 p.2) (prs W.V)
  have h2 := prs_len W.V
  have h3 := Nat.mul_le_mul h h
  unfold Wb.ts
  omega
/-- a table stands at t -/
def TabOk (W : Wb) (t : Addr) (Γ : Gp) : Prop := ∃ T : List (Cell × Addr), Γ t = some (.dct (rct T)) ∧ T.map (·.1) = W.V ∧ (T.map (·.2)).Nodup ∧ (∀ q ∈ T, q.2 ≠ t) ∧
  ∀ q ∈ T, ∃ ks, Γ q.2 = some (.dct (cset ks (.bl true))) ∧ ks.Nodup ∧ ∀ c, c ∈ ks ↔ c ∈ nbl W q.1
theorem TabOk.mono {W : Wb} {t : Addr} {Γ Γ' : Gp} (h : TabOk W t Γ) (s : G.Sub Γ Γ') : TabOk W t Γ' := by
  obtain ⟨T, h1, h2, h3, h4, h5⟩ := h
  refine ⟨T, s _ _ h1, h2, h3, h4, fun q hq => ?_⟩
  obtain ⟨ks, h6, h7⟩ := h5 q hq
  exact ⟨ks, s _ _ h6, h7⟩
def ntk1 (c : Cell) (ks : List Cell) (t : Cell × Cell) : List Cell := if t.2 = c then ins (if t.1 = c then ins ks t.2 else ks) t.1 else if t.1 = c then ins ks t.2 else ks
def ntk (ts : List (Cell × Cell)) (c : Cell) : List Cell := ts.foldl (ntk1 c) []
theorem ntk_snoc (ts : List (Cell × Cell)) (t : Cell × Cell) (c : Cell) : ntk (ts ++ [t]) c = ntk1 c (ntk ts c) t := by unfold ntk; rw [List.foldl_append]; rfl
theorem mem_ntk1 {c x : Cell} {ks : List Cell} {t : Cell × Cell} : x ∈ ntk1 c ks t ↔ x ∈ ks ∨ (t.1 = c ∧ x = t.2) ∨ (t.2 = c ∧ x = t.1) := by
  unfold ntk1
  by_cases h1 : t.1 = c <;> by_cases h2 : t.2 = c <;> simp [h1, h2, G.mem_ins]
theorem mem_ntk {c x : Cell} : ∀ {ts : List (Cell × Cell)} {ks : List Cell}, x ∈ ts.foldl (ntk1 c) ks ↔ x ∈ ks ∨ (c, x) ∈ ts ∨ (x, c) ∈ ts
  | [], ks => by simp
  | t :: ts, ks => by
    rw [List.foldl_cons, mem_ntk (ts := ts), mem_ntk1, List.mem_cons, List.mem_cons]
    have e1 : (t.1 = c ∧ x = t.2) ↔ (c, x) = t := ⟨fun ⟨h1, h2⟩ => by rw [← h1, h2], fun h => by rw [← h]; exact ⟨rfl, rfl⟩⟩
    have e2 : (t.2 = c ∧ x = t.1) ↔ (x, c) = t := ⟨fun ⟨h1, h2⟩ => by rw [← h1, h2], fun h => by rw [← h]; exact ⟨rfl, rfl⟩⟩
    rw [e1, e2]
    constructor
    · rintro ((h | h | h) | h | h)
      · exact .inl h
      · exact .inr (.inl (.inl h))
      · exact .inr (.inr (.inl h))
      · exact .inr (.inl (.inr h))
      · exact .inr (.inr (.inr h))
    · rintro (h | (h | h) | (h | h))
      · exact .inl (.inl h)
      · exact .inl (.inr (.inl h))
      · exact .inr (.inl h)
      · exact .inl (.inr (.inr h))
      · exact .inr (.inr h)
theorem ntk1_nodup {c : Cell} {ks : List Cell} {t : Cell × Cell} (h : ks.Nodup) : (ntk1 c ks t).Nodup := by
  unfold ntk1
  split
  · split
    · exact ins_nodup (ins_nodup h)
    · exact ins_nodup h
  · split
    · exact ins_nodup h
    · exact h
theorem ntk_nodup {c : Cell} : ∀ {ts : List (Cell × Cell)} {ks : List Cell}, ks.Nodup → (ts.foldl (ntk1 c) ks).Nodup
  | [], _, h => h
  | t :: ts, _, h => ntk_nodup (ts := ts) (ntk1_nodup h)
theorem mem_ntk_nbl {W : Wb} (h : W.Ok) {c x : Cell} (hc : c ∈ W.V) : x ∈ ntk W.ts c ↔ x ∈ nbl W c := by
  unfold ntk
  rw [mem_ntk, mem_nbl, mem_ts h.asc, mem_ts h.asc]
  constructor
  · rintro (h1 | ⟨_, h1, h2, h3⟩ | ⟨h1, _, h2, h3⟩)
    · cases h1
    · exact ⟨h1, fun e => clt_irrefl _ (e ▸ h2), h3⟩
    · exact ⟨h1, fun e => clt_irrefl _ (e ▸ h2), by rw [h.sym]; exact h3⟩
  · rintro ⟨h1, h2, h3⟩
    rcases clt_tri h2 with h4 | h4
    · exact .inr (.inr ⟨h1, hc, h4, by rw [h.sym]; exact h3⟩)
    · exact .inr (.inl ⟨hc, h1, h4, h3⟩)
theorem ntk_len {W : Wb} (h : W.Ok) (c : Cell) (i : Nat) (hz : W.V.length ≤ 500) : (ntk (W.ts.take i) c).length ≤ 500 := by
  have : (ntk (W.ts.take i) c).length ≤ W.V.length := nodup_len (ntk_nodup List.nodup_nil) fun x hx => by
    unfold ntk at hx
    rw [mem_ntk] at hx
    rcases hx with hx | hx | hx
    · cases hx
    · exact ((mem_ts h.asc).mp (List.mem_of_mem_take hx)).2.1
    · exact ((mem_ts h.asc).mp (List.mem_of_mem_take hx)).1
  omega
def sp_next_table : GSp := fun ds G Q => ∃ W : Wb, ds = [wD W] ∧ W.Ok ∧ W.V.length ≤ 500 ∧ ∀ t G', G t = none → Sub G G' → TabOk W t G' → Q (.ref t) G'
theorem p_next_table (ds : List D) (Γ : Gp) (R : GK) (h : sp_next_table ds Γ R) : t_next_table { nx := fun _ G' => R .non G', rt := R } (ds.map some ++ List.replicate (4 - ds.length) none) Γ := by
  obtain ⟨W, rfl, ok, hl, hQ⟩ := h
  unfold t_next_table
  simp [wD]
  refine ⟨_, rfl, ?_⟩
  refine dc_objs W.V ok.asc.nodup (fun _ => .dct []) _ (by omega) (fun _ _ => trivial) (fun c hc G1 s1 R1 h1 => ?_) fun p T G1 hp s1 hT nd hTo hp1 => ?_
  · simp
    intro q hq
    exact h1 q _ hq (Sub.new hq) gup_same
  · have nT : (T.map (·.1)).Nodup := by rw [hT]; exact ok.asc.nodup
    refine for_of (fun i ρ G' => ∃ x2 x3, ρ = [some (wD W), some (.ref p), x2, x3] ∧ G.Sub Γ G' ∧ G' p = some (.dct (rct T)) ∧ ∀ q ∈ T, G' q.2 = some (.dct (cset (ntk (W.ts.take i) q.1) (.bl true))))
      ⟨none, none, rfl, s1, hp1, fun q hq => (hTo q hq).2.2⟩ (fun _ _ _ _ => trivial) ?_ ?_
    · rintro Z i d ρ G2 ed ⟨x2, x3, rfl, s2, hp2, h2⟩ hZ _ _ _
      rw [List.getElem?_map] at ed
      cases es : W.ts[i]? with
      | none => rw [es] at ed; cases ed
      | some t =>
        rw [es] at ed
        cases ed
        have e5 : W.ts.take (i + 1) = W.ts.take i ++ [t] := by rw [List.take_succ, es]; rfl
        obtain ⟨m1, m2, m3, m4⟩ := (mem_ts ok.asc).mp (List.mem_of_getElem? es)
        obtain ⟨ra, hra⟩ := mem_fst hT m1
        obtain ⟨rb, hrb⟩ := mem_fst hT m2
        have a2 := h2 _ hra
        have b2 := h2 _ hrb
        have ga := dget_rct nT hra
        have gb := dget_rct nT hrb
        have hab : t.1 ≠ t.2 := clt_ne m3
        have hne : rb ≠ ra := fun e => hab (congrArg Prod.fst (snd_inj nd hra hrb e.symm))
        have pa : p ≠ ra := ((hTo _ hra).2.1).symm
        have pb : p ≠ rb := ((hTo _ hrb).2.1).symm
        have la := ntk_len ok t.1 i hl
        have lb := ntk_len ok t.2 i hl
        simp [pD, hp2]
        refine ⟨_, ga, _, rfl, _, a2, by rw [cset_len]; exact Nat.lt_of_le_of_lt la (by rw [sizeLine_eq]; omega), ?_⟩
        refine ⟨_, .inl ((gup_ne pa).trans hp2), _, gb, _, rfl, _, (gup_ne hne).trans b2, by rw [cset_len]; exact Nat.lt_of_le_of_lt lb (by rw [sizeLine_eq]; omega), ?_⟩
        refine hZ _ _ ⟨_, _, rfl, Sub.upd (Sub.upd s2 (hTo _ hra).1) (hTo _ hrb).1, by rw [gup_ne pb, gup_ne pa]; exact hp2, fun q hq => ?_⟩
        rw [dput_cset, dput_cset, e5, ntk_snoc]
        unfold ntk1
        by_cases eb : q.2 = rb
        · have e := snd_inj nd hq hrb eb
          subst e
          rw [gup_same, if_pos rfl, if_neg hab]
        · rw [gup_ne eb]
          by_cases ea : q.2 = ra
          · have e := snd_inj nd hq hra ea
            subst e
            rw [gup_same, if_neg (Ne.symm hab), if_pos rfl]
          · rw [gup_ne ea, if_neg, if_neg, h2 q hq]
            · intro e
              have := dget_rct nT hq
              rw [← e, ga] at this
              cases this
              exact ea rfl
            · intro e
              have := dget_rct nT hq
              rw [← e, gb] at this
              cases this
              exact eb rfl
    · rintro ρ G2 ⟨x2, x3, rfl, s2, hp2, h2⟩
      rw [List.length_map, List.take_length] at h2
      simp
      refine ⟨_, Fg.refl, hQ p G2 hp s2 ⟨T, hp2, hT, nd, fun q hq => (hTo q hq).2.1, fun q hq => ⟨_, h2 q hq, ntk_nodup List.nodup_nil, fun c => mem_ntk_nbl ok ?_⟩⟩⟩
      rw [← hT]
      exact List.mem_map.mpr ⟨q, hq, rfl⟩
/-! are_next, all_next -/
def sp_are_next : GSp := fun ds G Q => ∃ (W : Wb) (a b : Cell), ds = [wD W, cD a, cD b] ∧ W.Ok ∧ a ∈ W.V ∧ b ∈ W.V ∧ a ≠ b ∧ ∀ G', Sub G G' → Q (.bl (W.R a b)) G'
theorem p_are_next (ds : List D) (Γ : Gp) (R : GK) (h : sp_are_next ds Γ R) : t_are_next { nx := fun _ G' => R .non G', rt := R } (ds.map some ++ List.replicate (3 - ds.length) none) Γ := by
  obtain ⟨W, a, b, rfl, ok, ha, hb, hab, hQ⟩ := h
  unfold t_are_next
  have hm : decide (D.tup [if clt b a then cD b else cD a, if clt a b then cD b else cD a] ∈ W.ts.map pD) = W.R a b := by
    have key : ∀ x y : Cell, x ∈ W.V → y ∈ W.V → clt x y → decide (pD (x, y) ∈ W.ts.map pD) = W.R x y := fun x y hx hy hxy => by
      have : pD (x, y) ∈ W.ts.map pD ↔ W.R x y = true := by
        rw [pD_mem, mem_ts ok.asc]
        exact ⟨fun h => h.2.2.2, fun h => ⟨hx, hy, hxy, h⟩⟩
      cases hr : W.R x y with
      | true => exact decide_eq_true (this.mpr hr)
      | false => exact decide_eq_false fun q => by have := this.mp q; rw [hr] at this; cases this
    rcases clt_tri hab with h | h
    · rw [if_neg (clt_asymm h), if_pos h]
      exact key a b ha hb h
    · rw [if_pos h, if_neg (clt_asymm h), ok.sym]
      exact key b a hb ha h
  have d1 : PySem.W.dataLt (toP (cD b)) (toP (cD a)) = decide (clt b a) := dataLt_cells b a
  have d2 : PySem.W.dataLt (toP (cD a)) (toP (cD b)) = decide (clt a b) := dataLt_cells a b
  have o1 : okey 8 (cD a) = true := cD_okey 7 a
  have o2 : okey 8 (cD b) = true := cD_okey 7 b
  simp
  refine ⟨o1, o2, alike2_cells a b, o1, o2, alike2_cells a b, _, rfl, _, by rw [atI1], _, rfl, ?_⟩
  rw [d1, d2]
  simp only [decide_eq_true_eq]
  refine ⟨by rcases clt_tri hab with h | h <;> simp [h, clt_asymm h] <;> rfl, pDs_okey 6 _, _, Fg.refl, ?_⟩
  rw [hm]
  exact hQ _ Sub.refl
def allN (W : Wb) : Bool := decide (∀ p ∈ prs W.V, W.R p.1 p.2 = true)
theorem filter_full {α : Type} {p : α → Bool} {l : List α} : (l.filter p).length = l.length ↔ ∀ a ∈ l, p a = true := List.length_filter_eq_length_iff
theorem allN_iff {W : Wb} (ok : W.Ok) : allN W = true ↔ W.Full := by
  unfold allN Wb.Full
  rw [decide_eq_true_eq]
  constructor
  · intro h a ha b hb hab
    rcases clt_tri hab with q | q
    · exact h (a, b) ((mem_prs ok.asc).mpr ⟨ha, hb, q⟩)
    · rw [ok.sym]; exact h (b, a) ((mem_prs ok.asc).mpr ⟨hb, ha, q⟩)
  · intro h p hp
    obtain ⟨h1, h2, h3⟩ := (mem_prs ok.asc).mp hp
    exact h _ h1 _ h2 (clt_ne h3)
def sp_all_next : GSp := fun ds G Q => ∃ W : Wb, ds = [wD W] ∧ W.V.length ≤ 500 ∧ ∀ G', Sub G G' → Q (.bl (allN W)) G'
theorem p_all_next (ds : List D) (Γ : Gp) (R : GK) (h : sp_all_next ds Γ R) : t_all_next sp_pairs_of { nx := fun _ G' => R .non G', rt := R } (ds.map some ++ List.replicate (1 - ds.length) none) Γ := by
  obtain ⟨W, rfl, hl, hQ⟩ := h
  unfold t_all_next
  simp [wD]
  refine ⟨W.V, rfl, hl, fun p G1 hp s1 hp1 => ⟨_, .inr (.inl ⟨p, rfl, _, hp1, rfl⟩), ?_⟩⟩
  refine ⟨.inl ⟨rfl, rfl⟩, _, Fg.refl, ?_⟩
  have e : decide (D.int (W.ts.length : Nat) = D.int ((prs W.V).map pD).length) = allN W := by
    unfold allN
    refine decide_eq_decide.mpr ?_
    rw [D.int.injEq, List.length_map, Int.ofNat_inj]
    exact filter_full
  have e' := hQ _ s1
  rw [← e] at e'
  simpa using e'
end Hd
set_option Elab.async false
set_option linter.all false
set_option maxRecDepth 100000
set_option maxHeartbeats 4000000
namespace Hd
open PySem PySem.Spec PyProof.Rows L2 G
theorem lockS_of {t : GTS} {Z : GEnds} {ρ : Ro} {G0 : Gp} (a : Addr) (kvs : List (D × D)) (h : G0 a = some (.dct kvs)) (q : t (lockEnds Z a kvs) ρ (gup G0 a (.frd kvs))) : gLockS t Z ρ G0 := ⟨a, kvs, h, q⟩
theorem foldl_ins_app {cs : List Cell} : ∀ {ks : List Cell}, (ks ++ cs).Nodup → cs.foldl ins ks = ks ++ cs := by
  induction cs with
  | nil => intro ks _; simp
  | cons c cs ih =>
    intro ks h
    have hc : c ∉ ks := fun hm => by
      rw [List.nodup_append] at h
      exact h.2.2 c hm c List.mem_cons_self rfl
    rw [List.foldl_cons, ins_new hc, ih (ks := ks ++ [c]) (by simpa using h)]
    simp
theorem visits_new {K : List Cell} : ∀ {ks F S : List Cell}, ks.Nodup → ks.foldl (visit K) (F, S) = (F ++ ks.filter fun c => decide (c ∈ K ∧ c ∉ F), S ++ ks.filter fun c => decide (c ∈ K ∧ c ∉ F))
  | [], F, S, _ => by simp
  | c :: ks, F, S, h => by
    have h2 := List.nodup_cons.mp h
    rw [List.foldl_cons, List.filter_cons]
    unfold visit
    by_cases hc : c ∈ K ∧ c ∉ F
    · rw [if_pos hc, if_pos (decide_eq_true hc)]
      have := visits_new (K := K) (F := F ++ [c]) (S := S ++ [c]) h2.2
      have e : (ks.filter fun d => decide (d ∈ K ∧ d ∉ F ++ [c])) = ks.filter fun d => decide (d ∈ K ∧ d ∉ F) := by
        refine List.filter_congr fun d hd => decide_eq_decide.mpr ?_
        have : d ≠ c := fun e => h2.1 (e ▸ hd)
        simp [this]
      show ks.foldl (visit K) (F ++ [c], S ++ [c]) = _
      rw [this, e]
      simp
    · rw [if_neg hc, if_neg (by simpa using hc)]
      exact visits_new h2.2
open Classical in
def sp_is_reached : GSp := fun ds G Q => ∃ (W : Wb) (t : Addr) (a b : Cell), ds = [.ref t, cD a, cD b] ∧ W.Ok ∧ W.V.length ≤ 500 ∧ TabOk W t G ∧ a ∈ W.V ∧ b ∈ W.V ∧ a ≠ b ∧ ∀ G', Sub G G' → Q (.bl (decide (Rchd W a b))) G'
open Classical in
theorem p_is_reached (ds : List D) (Γ : Gp) (R : GK) (h : sp_is_reached ds Γ R) : t_is_reached { nx := fun _ G' => R .non G', rt := R } (ds.map some ++ List.replicate (8 - ds.length) none) Γ := by
  obtain ⟨W, t, a, b, rfl, ok, hl, hT, ha, hb, hab, hQ⟩ := h
  unfold t_is_reached
  simp
  intro f hf r hr
  have hrf : r ≠ f := by rintro rfl; rw [gup_same] at hr; cases hr
  have hrn : Γ r = none := by rwa [gup_ne hrf] at hr
  obtain ⟨T, ht, hTV, nd, hTt, hTo⟩ := hT
  have nT : (T.map (·.1)).Nodup := by rw [hTV]; exact ok.asc.nodup
  have rchV : ∀ {F S : List Cell}, FI (unc W a b) (nbl W) a (F, S) → ∀ c ∈ F, c ∈ W.V := fun inv c hc => by
    rcases rch_in (inv.rch c hc) with e | h
    · rw [e]; exact ha
    · exact (mem_unc.mp h).1
  obtain ⟨ra, hra⟩ := mem_fst hTV ha
  obtain ⟨rb, hrb⟩ := mem_fst hTV hb
  obtain ⟨ka, a1, a2, a3⟩ := hTo _ hra
  obtain ⟨kb, b1, b2, b3⟩ := hTo _ hrb
  have ga := dget_rct nT hra
  have gb := dget_rct nT hrb
  refine while_of (fun m ρ G' => ∃ F S x5 x6 x7, ρ = [some (.ref t), some (cD a), some (cD b), some (.ref f), some (.ref r), x5, x6, x7] ∧ G.Sub Γ G' ∧ G' f = some (.dct (cset F (.bl true))) ∧ G' r = some (.lst (S.map cD)) ∧ FI (unc W a b) (nbl W) a (F, S) ∧ (∀ c ∈ F, c ∉ S → b ∉ nbl W c) ∧ m = fmeas (unc W a b) (F, S))
    _ ⟨[a], [a], none, none, none, rfl, (Sub.new hf).trans (Sub.new hr), by rw [gup_ne (Ne.symm hrf), gup_same]; rfl, gup_same, FI.start .., fun c h n => absurd h n, rfl⟩ ?_
  rintro Y m ρ G1 ⟨F, S, x5, x6, x7, rfl, sub, hF, hS, inv, chk, rfl⟩ hnx _ _ hrt
  refine truth_v 4 rfl hS ?_
  rcases snoc_or S with rfl | ⟨S, c, rfl⟩
  · simp
    refine ⟨_, Fg.refl, ?_⟩
    have e : decide (Rchd W a b) = false := decide_eq_false fun ⟨c, h1, h2⟩ => chk c ((inv.all c).mpr h1) (by simp) h2
    rw [← e]
    exact hQ _ sub
  · have hln := inv.len
    have hS2 : G1 r = some (.lst (S.map cD ++ [cD c])) := by rw [hS, List.map_append]; rfl
    simp [hS2]
    have hcF : c ∈ F := inv.sub c (by simp)
    have hcV := rchV inv c hcF
    obtain ⟨rc, hrc⟩ := mem_fst hTV hcV
    obtain ⟨kc, c1, c2, c3⟩ := hTo _ hrc
    have gc := dget_rct nT hrc
    have sub2 : G.Sub Γ (gup G1 r (.lst (S.map cD))) := Sub.upd sub hrn
    have t2 := sub2 _ _ ht
    have c4 := sub2 _ _ c1
    refine pop_of hS2 ?_
    simp [t2]
    refine ⟨_, gc, _, rfl, _, .inl c4, ?_⟩
    rw [dget_isSome]
    by_cases hbc : b ∈ kc
    · rw [if_pos (by simpa using hbc), hrt]
      refine ⟨_, Fg.refl, ?_⟩
      have e : decide (Rchd W a b) = true := decide_eq_true ⟨c, inv.rch c hcF, (c3 b).mp hbc⟩
      rw [← e]
      exact hQ _ sub2
    · rw [if_neg (by simpa using hbc)]
      generalize hG2 : gup G1 r (.lst (S.map cD)) = G2 at sub2 t2 c4
      have F2 : G2 f = some (.dct (cset F (.bl true))) := by rw [← hG2, gup_ne (Ne.symm hrf)]; exact hF
      have S2 : G2 r = some (.lst (S.map cD)) := by rw [← hG2, gup_same]
      have look : ∀ x rx kx, (x, rx) ∈ T → Γ rx = some (.dct (cset kx (.bl true))) → ∀ G', G.Sub (gup G2 rc (.frd (cset kc (.bl true)))) G' → dctAt G' rx (cset kx (.bl true)) := by
        intro x rx kx _ hx G' s
        by_cases e : rx = rc
        · subst e
          have : Γ rx = some (.dct (cset kc (.bl true))) := c1
          rw [this] at hx
          rw [← GO.dct.inj (Option.some.inj hx)]
          exact .inr (s _ _ gup_same)
        · exact .inl (s _ _ ((gup_ne e).trans (sub2 _ _ hx)))
      have htc : t ≠ rc := (hTt _ hrc).symm
      have hfc : f ≠ rc := by rintro rfl; rw [c1] at hf; cases hf
      have hrc2 : r ≠ rc := by rintro rfl; rw [c1] at hrn; cases hrn
      refine lockS_of rc _ c4 ?_
      have t3 : (gup G2 rc (.frd (cset kc (.bl true)))) t = some (.dct (rct T)) := (gup_ne htc).trans t2
      simp [t3]
      refine ⟨_, gc, _, rfl, _, gup_same, ?_⟩
      have ek : (cset kc (D.bl true)).map (fun x => x.1) = kc.map cD := cset_keys _ _
      rw [ek]
      have hkl : kc.length ≤ 500 := Nat.le_trans (nodup_len c2 fun x hx => (mem_nbl.mp ((c3 x).mp hx)).1) hl
      refine lc_fm _ _ (fun d => (un cD d).bind fun x => if x ∉ F ∧ ¬ (x ∈ ka ∧ x ∈ kb) then some d else none) (by rw [List.length_map]; omega) (fun _ _ => trivial) (fun d hd G4 s4 Q4 h4 => ?_) fun p G4 hp s4 hp4 => ?_
      · rw [List.mem_map] at hd
        obtain ⟨x, _, rfl⟩ := hd
        have h5 := h4 G4 Sub.refl
        rw [un_of cD_inj] at h5
        have f4 := s4 _ _ ((gup_ne hfc).trans F2)
        have t4 := s4 _ _ t3
        have la := look a ra ka hra a1 G4 s4
        have lb := look b rb kb hrb b1 G4 s4
        simp [f4, t4]
        by_cases h1 : x ∈ F
        · simp [h1] at h5 ⊢; exact h5
        · simp [h1] at h5 ⊢
          refine ⟨_, ga, _, rfl, _, la, ?_⟩
          rw [dget_isSome]
          by_cases h2 : x ∈ ka
          · rw [if_pos (by simpa using h2)]
            refine ⟨_, gb, _, rfl, _, lb, ?_⟩
            rw [dget_isSome]
            by_cases h3 : x ∈ kb <;> simp [h2, h3] at h5 ⊢ <;> exact h5
          · rw [if_neg (by simpa using h2)]; simpa [h2] using h5
      · have hprc : p ≠ rc := by rintro rfl; rw [gup_same] at hp; cases hp
        have hp2 : G2 p = none := by rwa [gup_ne hprc] at hp
        refine ⟨s4 _ _ gup_same, ?_⟩
        have sub5 := Sub.unlock c4 s4
        have p5 := (gup_ne (G := G4) (o := .dct (cset kc (.bl true))) hprc).trans hp4
        have eL : (kc.map cD).filterMap (fun d => (un cD d).bind fun x => if x ∉ F ∧ ¬ (x ∈ ka ∧ x ∈ kb) then some d else none) = (kc.filter fun x => decide (x ∈ unc W a b ∧ x ∉ F)).map cD := by
          rw [List.filterMap_map]
          refine fm_filter (fun x => decide (x ∈ unc W a b ∧ x ∉ F)) cD _ _ fun x hx => ?_
          show (un cD (cD x)).bind _ = _
          rw [un_of cD_inj]
          have e1 : x ∈ unc W a b ↔ ¬ (x ∈ ka ∧ x ∈ kb) := by
            rw [mem_unc, a3, b3]
            exact and_iff_right (mem_nbl.mp ((c3 x).mp hx)).1
          by_cases h1 : x ∈ F <;> by_cases h2 : (x ∈ ka ∧ x ∈ kb) <;> simp [h1, h2, e1]
        rw [eL] at p5
        generalize gup G4 rc (.dct (cset kc (.bl true))) = G5 at sub5 p5
        have hft := inv.pop
        have hv := visits_new (K := unc W a b) (F := F) (S := S) c2
        have inv2 : FI (unc W a b) (nbl W) a (kc.foldl (visit (unc W a b)) (F, S)) := (hft.visits kc fun d hd => (c3 d).mp hd).close fun d hd => by simpa using (c3 d).mpr hd
        have tm := turn_meas (K := unc W a b) F S c kc
        rw [hv] at inv2 tm
        have hsub : ∀ x ∈ kc.filter fun x => decide (x ∈ unc W a b ∧ x ∉ F), x ∈ F ++ kc.filter fun x => decide (x ∈ unc W a b ∧ x ∉ F) := fun x hx => List.mem_append_right _ hx
        have hchk : ∀ d ∈ F ++ kc.filter fun x => decide (x ∈ unc W a b ∧ x ∉ F), d ∉ S ++ kc.filter (fun x => decide (x ∈ unc W a b ∧ x ∉ F)) → b ∉ nbl W d := by
          intro d hd hn
          rw [List.mem_append, not_or] at hn
          rcases List.mem_append.mp hd with hd | hd
          · by_cases e : d = c
            · subst e; exact fun q => hbc ((c3 b).mpr q)
            · exact chk d hd (by rw [List.mem_append, not_or]; exact ⟨hn.1, by simpa using e⟩)
          · exact absurd hd hn.2
        have hlen := inv2.len
        have hul : (unc W a b).length ≤ 500 := Nat.le_trans (List.length_filter_le _ _) hl
        generalize hlt : (kc.filter fun x => decide (x ∈ unc W a b ∧ x ∉ F)) = late at p5 inv2 tm hchk hlen
        have f5 := sub5 _ _ F2
        have r5 := sub5 _ _ S2
        have hll : late.length ≤ 500 := by rw [← hlt]; exact Nat.le_trans (List.length_filter_le _ _) hkl
        simp [f5, p5]
        refine lc_fm _ _ (fun d => some (.tup [d, .bl true])) (by rw [List.length_map]; omega) (fun G6 s6 => s6 _ _ p5) (fun d hd G6 s6 Q6 h6 => ?_) fun q G6 hq s6 hq6 => ?_
        · simp
          exact h6 _ Sub.refl
        · have e6 : (late.map cD).filterMap (fun d => some (D.tup [d, .bl true])) = (late.map fun x => (cD x, D.bl true)).map fun q => D.tup [q.1, q.2] := by
            rw [List.filterMap_map, List.map_map]
            exact congrFun (List.filterMap_eq_map (f := fun x => D.tup [cD x, .bl true])) _
          rw [e6] at hq6
          have f6 := s6 _ _ f5
          have r6 := s6 _ _ r5
          have p6 := s6 _ _ p5
          have fp : p ≠ f := by rintro rfl; rw [F2] at hp2; cases hp2
          have rp : p ≠ r := by rintro rfl; rw [S2] at hp2; cases hp2
          refine ⟨q, rfl, _, f6, _, hq6, fun y v hy => ?_, ?_, ?_⟩
          · obtain ⟨x, _, e⟩ := List.mem_map.mp hy
            cases e
            exact cD_key x
          · rw [cset_len, List.length_map, sizeLine_eq]
            have := hlen.1
            rw [List.length_append] at this
            omega
          · rw [dputs_cset, foldl_ins_app inv2.nd]
            refine ⟨⟨_, (gup_ne hrf).trans r6⟩, _, (gup_ne hrf).trans r6, _, (gup_ne fp).trans p6, ?_, ?_⟩
            · rw [List.length_map, List.length_map, sizeLine_eq]
              have := hlen.2
              rw [List.length_append] at this
              omega
            · refine hnx _ _ _ tm ⟨_, _, _, _, _, rfl, Sub.upd (Sub.upd ((sub2.trans sub5).trans s6) hf) hrn, ?_, ?_, inv2, hchk, rfl⟩
              · rw [gup_ne (Ne.symm hrf), gup_same]
              · rw [gup_same, List.map_append]
open Classical in
def sp_first_two_pair : GSp := fun ds G Q => ∃ W : Wb, ds = [wD W] ∧ W.Ok ∧ W.V.length ≤ 500 ∧ ∀ G', Sub G G' → Q (match f2p W with | some p => pD p | none => .non) G'
open Classical in
theorem p_first_two_pair (ds : List D) (Γ : Gp) (R : GK) (h : sp_first_two_pair ds Γ R) : t_first_two_pair sp_next_table sp_pairs_of sp_is_reached { nx := fun _ G' => R .non G', rt := R } (ds.map some ++ List.replicate (4 - ds.length) none) Γ := by
  obtain ⟨W, rfl, ok, hl, hQ⟩ := h
  unfold t_first_two_pair
  simp
  refine ⟨W, rfl, ok, hl, fun t G1 ht s1 hT => ?_⟩
  simp [wD]
  refine ⟨W.V, rfl, hl, fun q G2 hq s2 hq2 => ⟨q, rfl, _, hq2, ?_⟩⟩
  refine for_of (fun i ρ G' => ∃ x2 x3, ρ = [some (wD W), some (.ref t), x2, x3] ∧ G.Sub G2 G' ∧ ∀ p ∈ (prs W.V).take i, isTp W p = false)
    ⟨none, none, rfl, Sub.refl, by simp⟩ (fun i ρ G' ⟨_, _, _, s, _⟩ => s _ _ hq2) ?_ ?_
  · rintro Z i d ρ G3 ed ⟨x2, x3, rfl, s3, no⟩ hZ _ _ hrt
    rw [List.getElem?_map] at ed
    cases es : (prs W.V)[i]? with
    | none => rw [es] at ed; cases ed
    | some p =>
      rw [es] at ed
      cases ed
      have e5 : (prs W.V).take (i + 1) = (prs W.V).take i ++ [p] := by rw [List.take_succ, es]; rfl
      obtain ⟨m1, m2, m3⟩ := (mem_prs ok.asc).mp (List.mem_of_getElem? es)
      have hT3 := hT.mono (s2.trans s3)
      obtain ⟨T, ht3, hTV, nd, hTt, hTo⟩ := hT3
      obtain ⟨ra, hra⟩ := mem_fst hTV m1
      obtain ⟨ka, a1, a2, a3⟩ := hTo _ hra
      have ga := dget_rct (by rw [hTV]; exact ok.asc.nodup) hra
      have go : ∀ G4, G.Sub G3 G4 → isTp W p = false → Z.nx [some (wD W), some (.ref t), some (cD p.1), some (cD p.2)] G4 := fun G4 s4 h => hZ _ _ ⟨_, _, rfl, s3.trans s4, fun q hq => by
        rw [e5, List.mem_append] at hq
        rcases hq with hq | hq
        · exact no q hq
        · rw [List.mem_singleton.mp hq]; exact h⟩
      have mk : p.2 ∈ ka ↔ W.R p.1 p.2 = true := by
        rw [a3, mem_nbl]
        exact ⟨fun h => h.2.2, fun h => ⟨m2, (clt_ne m3).symm, h⟩⟩
      simp [pD, ht3]
      refine ⟨_, ga, _, rfl, _, .inl a1, ?_⟩
      by_cases hk : p.2 ∈ ka
      · rw [if_neg (by simpa using hk)]
        exact go _ Sub.refl (by unfold isTp; rw [mk.mp hk]; rfl)
      · rw [if_pos (by simpa using hk)]
        have hr : W.R p.1 p.2 = false := by
          cases h : W.R p.1 p.2 with
          | true => exact absurd (mk.mpr h) hk
          | false => rfl
        refine ⟨W, t, p.1, p.2, rfl, ok, hl, hT.mono (s2.trans s3), m1, m2, clt_ne m3, fun G4 s4 => ?_⟩
        by_cases hz : Rchd W p.1 p.2
        · refine .inr ⟨by rw [decide_eq_true hz], go _ s4 ?_⟩
          unfold isTp
          rw [decide_eq_true hz]
          simp
        · refine .inl ⟨by rw [decide_eq_false hz], _, Fg.refl, ?_⟩
          rw [hrt]
          have e : f2p W = some p := by
            have eL : prs W.V = (prs W.V).take i ++ (p :: (prs W.V).drop (i + 1)) := by
              have h1 := List.drop_eq_getElem_cons (List.getElem?_eq_some_iff.mp es).1
              rw [(List.getElem?_eq_some_iff.mp es).2] at h1
              rw [← h1, List.take_append_drop]
            unfold f2p
            rw [eL, List.find?_append, List.find?_eq_none.mpr fun q hq => by rw [no q hq]; simp, List.find?_cons]
            have : isTp W p = true := by unfold isTp; rw [hr, decide_eq_false hz]; rfl
            simp [this]
          rw [e] at hQ
          exact hQ _ ((s1.trans s2).trans (s3.trans s4))
  · rintro ρ G3 ⟨x2, x3, rfl, s3, no⟩
    rw [List.length_map, List.take_length] at no
    have e : f2p W = none := List.find?_eq_none.mpr fun p hp => by rw [no p hp]; simp
    simp
    rw [e] at hQ
    exact ⟨_, Fg.refl, hQ _ ((s1.trans s2).trans s3)⟩
end Hd
set_option Elab.async false
set_option linter.all false
set_option maxRecDepth 100000
set_option maxHeartbeats 4000000
namespace Hd
open PySem PySem.Spec PyProof.Rows L2 G
def ren (a b c : Cell) : Cell := if c = b then a else c
def ordp (c d : Cell) : Cell × Cell := (if clt d c then d else c, if clt c d then d else c)
def jkey (a b : Cell) (t : Cell × Cell) : Cell × Cell := ordp (ren a b t.1) (ren a b t.2)
def jks (a b : Cell) (ts : List (Cell × Cell)) : List (Cell × Cell) := ts.foldl (fun ks t => finsr ks (jkey a b t)) []
theorem mem_jks {a b : Cell} {p : Cell × Cell} : ∀ {ts ks : List (Cell × Cell)}, p ∈ ts.foldl (fun ks t => finsr ks (jkey a b t)) ks ↔ p ∈ ks ∨ ∃ t ∈ ts, p = jkey a b t
  | [], ks => by simp
  | t :: ts, ks => by
    rw [List.foldl_cons, mem_jks (ts := ts), mem_finsr]
    simp only [List.mem_cons, exists_eq_or_imp, or_assoc]
theorem jks_nodup {a b : Cell} : ∀ {ts ks : List (Cell × Cell)}, ks.Nodup → (ts.foldl (fun ks t => finsr ks (jkey a b t)) ks).Nodup
  | [], _, h => h
  | t :: ts, _, h => jks_nodup (ts := ts) (finsr_nodup h)
theorem jks_len {a b : Cell} : ∀ {ts ks : List (Cell × Cell)}, (ts.foldl (fun ks t => finsr ks (jkey a b t)) ks).length ≤ ks.length + ts.length
  | [], _ => by simp
  | t :: ts, ks => by
    rw [List.foldl_cons, List.length_cons]
    have h1 := jks_len (a := a) (b := b) (ts := ts) (ks := finsr ks (jkey a b t))
    have h2 := finsr_len ks (jkey a b t)
    omega
theorem jks_snoc (a b : Cell) (ts : List (Cell × Cell)) (t : Cell × Cell) : jks a b (ts ++ [t]) = finsr (jks a b ts) (jkey a b t) := by unfold jks; rw [List.foldl_append]; rfl
theorem ordp_lt {c d : Cell} (h : clt c d) : ordp c d = (c, d) := by unfold ordp; rw [if_neg (clt_asymm h), if_pos h]
theorem ordp_gt {c d : Cell} (h : clt d c) : ordp c d = (d, c) := by unfold ordp; rw [if_pos h, if_neg (clt_asymm h)]
theorem ordp_comm {c d : Cell} : ordp c d = ordp d c := by
  by_cases e : c = d
  · rw [e]
  · rcases clt_tri e with h | h
    · rw [ordp_lt h, ordp_gt h]
    · rw [ordp_gt h, ordp_lt h]
theorem jks_mem {W : Wb} {a b : Cell} (ok : W.Ok) (ha : a ∈ W.V) (hb : b ∈ W.V) (hab : a ≠ b) (hr : W.R a b = false) (p : Cell × Cell) : p ∈ jks a b W.ts ↔ p ∈ (jn W a b).ts := by
  have ok2 : (jn W a b).Ok := jn_ok ok
  unfold jks
  rw [mem_jks, mem_ts ok2.asc]
  constructor
  · rintro (h | ⟨t, ht, rfl⟩)
    · cases h
    · obtain ⟨h1, h2, h3, h4⟩ := (mem_ts ok.asc).mp ht
      have hV : ∀ c, c ∈ W.V → ren a b c ∈ (jn W a b).V := fun c hc => by
        unfold ren
        split
        · exact jn_V.mpr ⟨ha, hab⟩
        · exact jn_V.mpr ⟨hc, by assumption⟩
      have hR : ren a b t.1 ≠ ren a b t.2 ∧ (jn W a b).R (ren a b t.1) (ren a b t.2) = true := by
        have hne := clt_ne h3
        by_cases e1 : t.1 = b
        · have n2 : t.2 ≠ b := fun e => hne (e1.trans e.symm)
          have n3 : t.2 ≠ a := fun e => by
            rw [e1, e, ok.sym, hr] at h4
            cases h4
          unfold ren
          rw [if_pos e1, if_neg n2]
          refine ⟨Ne.symm n3, ?_⟩
          rw [jn_Ra, ← e1, h4, Bool.or_true]
        · by_cases e2 : t.2 = b
          · have n3 : t.1 ≠ a := fun e => by
              rw [e2, e, hr] at h4
              cases h4
            unfold ren
            rw [if_neg e1, if_pos e2]
            refine ⟨n3, ?_⟩
            rw [jn_Rb n3, ← e2, ok.sym t.2, h4, Bool.or_true]
          · unfold ren
            rw [if_neg e1, if_neg e2]
            refine ⟨hne, ?_⟩
            by_cases e3 : t.1 = a
            · rw [e3, jn_Ra, ← e3, h4, Bool.true_or]
            · by_cases e4 : t.2 = a
              · rw [e4, jn_Rb e3, ← e4, ok.sym t.2, h4, Bool.true_or]
              · rw [jn_R e3 e4]; exact h4
      unfold jkey
      rcases clt_tri hR.1 with h | h
      · rw [ordp_lt h]
        exact ⟨hV _ h1, hV _ h2, h, hR.2⟩
      · rw [ordp_gt h]
        exact ⟨hV _ h2, hV _ h1, h, by rw [ok2.sym]; exact hR.2⟩
  · rintro ⟨h1, h2, h3, h4⟩
    right
    obtain ⟨x, y⟩ := p
    have h1' := jn_V.mp h1
    have h2' := jn_V.mp h2
    -- a tie of W from c to d, told in its order
    have tie : ∀ c d : Cell, c ∈ W.V → d ∈ W.V → c ≠ d → W.R c d = true → ordp (ren a b c) (ren a b d) = (x, y) → ∃ t ∈ W.ts, (x, y) = jkey a b t := by
      intro c d hc hd hcd hR e
      rcases clt_tri hcd with h | h
      · exact ⟨(c, d), (mem_ts ok.asc).mpr ⟨hc, hd, h, hR⟩, e.symm⟩
      · refine ⟨(d, c), (mem_ts ok.asc).mpr ⟨hd, hc, h, by rw [ok.sym]; exact hR⟩, ?_⟩
        unfold jkey
        rw [ordp_comm]
        exact e.symm
    have rb : ren a b b = a := by unfold ren; rw [if_pos rfl]
    have rn : ∀ c, c ≠ b → ren a b c = c := fun c h => by unfold ren; rw [if_neg h]
    have hxy : x ≠ y := clt_ne h3
    by_cases ex : x = a
    · subst ex
      rw [jn_Ra, Bool.or_eq_true] at h4
      rcases h4 with h4 | h4
      · exact tie x y h1'.1 h2'.1 hxy h4 (by rw [rn x h1'.2, rn y h2'.2, ordp_lt h3])
      · exact tie b y hb h2'.1 (Ne.symm h2'.2) h4 (by rw [rb, rn y h2'.2, ordp_lt h3])
    · by_cases ey : y = a
      · subst ey
        rw [jn_Rb ex, Bool.or_eq_true] at h4
        rcases h4 with h4 | h4
        · exact tie y x h2'.1 h1'.1 (Ne.symm hxy) h4 (by rw [rn x h1'.2, rn y h2'.2, ordp_gt h3])
        · exact tie b x hb h1'.1 (Ne.symm h1'.2) h4 (by rw [rb, rn x h1'.2, ordp_gt h3])
      · rw [jn_R ex ey] at h4
        exact tie x y h1'.1 h2'.1 hxy h4 (by rw [rn x h1'.2, rn y h2'.2, ordp_lt h3])
def sp_joined : GSp := fun ds G Q => ∃ (W : Wb) (a b : Cell), ds = [wD W, cD a, cD b] ∧ W.Ok ∧ W.V.length ≤ 500 ∧ a ∈ W.V ∧ b ∈ W.V ∧ a ≠ b ∧ W.R a b = false ∧ ∀ G', Sub G G' → Q (wD (jn W a b)) G'
theorem p_joined (ds : List D) (Γ : Gp) (R : GK) (h : sp_joined ds Γ R) : t_joined { nx := fun _ G' => R .non G', rt := R } (ds.map some ++ List.replicate (6 - ds.length) none) Γ := by
  obtain ⟨W, a, b, rfl, ok, hl, ha, hb, hab, hr', hQ⟩ := h
  unfold t_joined
  simp
  intro f hf
  refine ⟨_, rfl, _, atI1 _ _ _, _, rfl, ?_⟩
  refine for_of (fun i ρ G' => ∃ x4 x5, ρ = [some (wD W), some (cD a), some (cD b), some (.ref f), x4, x5] ∧ G.Sub Γ G' ∧ G' f = some (.dct (fset pD (jks a b (W.ts.take i)) (.bl true))))
    ⟨none, none, rfl, Sub.new hf, gup_same⟩ (fun _ _ _ _ => trivial) ?_ ?_
  · rintro Z i d ρ G2 ed ⟨x4, x5, rfl, s2, f2⟩ hZ _ _ _
    rw [List.getElem?_map] at ed
    cases es : W.ts[i]? with
    | none => rw [es] at ed; cases ed
    | some t =>
      rw [es] at ed
      cases ed
      have e5 : W.ts.take (i + 1) = W.ts.take i ++ [t] := by rw [List.take_succ, es]; rfl
      obtain ⟨m1, m2, m3, m4⟩ := (mem_ts ok.asc).mp (List.mem_of_getElem? es)
      have hlen : (jks a b (W.ts.take i)).length ≤ 250000 := by
        have h1 := jks_len (a := a) (b := b) (ts := W.ts.take i) (ks := [])
        have h2 := ts_len W hl
        have h3 := List.length_take_le i W.ts
        have h4 : ([] : List (Cell × Cell)).length = 0 := rfl
        have h5 : (W.ts.take i).length ≤ W.ts.length := List.length_take_le' ..
        unfold jks
        omega
      have tail : ∀ c d : Cell, c = ren a b t.1 → d = ren a b t.2 → (okey 8 (cD c) = true ∧ okey 8 (cD d) = true ∧ Alike2 (toP (cD c)) (toP (cD d)) ∧ okey 8 (cD c) = true ∧ okey 8 (cD d) = true ∧ Alike2 (toP (cD c)) (toP (cD d)) ∧
          ∃ x, G2 f = some (.dct x) ∧ isKey (D.tup [if PySem.W.dataLt (toP (cD d)) (toP (cD c)) = true then cD d else cD c, if PySem.W.dataLt (toP (cD c)) (toP (cD d)) = true then cD d else cD c]) ∧ x.length < sizeLine ∧
            Z.nx [some (wD W), some (cD a), some (cD b), some (D.ref f), some (cD c), some (cD d)] (gup G2 f (.dct (dput x (D.tup [if PySem.W.dataLt (toP (cD d)) (toP (cD c)) = true then cD d else cD c, if PySem.W.dataLt (toP (cD c)) (toP (cD d)) = true then cD d else cD c]) (.bl true))))) := by
        intro c d hc hd
        have ek : D.tup [if PySem.W.dataLt (toP (cD d)) (toP (cD c)) = true then cD d else cD c, if PySem.W.dataLt (toP (cD c)) (toP (cD d)) = true then cD d else cD c] = pD (ordp c d) := by
          rw [dataLt_cells, dataLt_cells]
          unfold pD ordp
          by_cases h1 : clt d c <;> by_cases h2 : clt c d <;> simp [h1, h2]
        rw [ek]
        refine ⟨cD_okey 7 c, cD_okey 7 d, alike2_cells c d, cD_okey 7 c, cD_okey 7 d, alike2_cells c d, _, f2, pD_key _, by rw [fset_len]; exact Nat.lt_of_le_of_lt hlen (by rw [sizeLine_eq]; omega), ?_⟩
        refine hZ _ _ ⟨_, _, rfl, Sub.upd s2 hf, ?_⟩
        rw [gup_same, dput_fset pD_inj, e5, jks_snoc, hc, hd]
        rfl
      have q1 : eqOk (cD t.1) (cD b) := .inl ⟨cD_okey 7 _, cD_okey 7 _⟩
      have q2 : eqOk (cD t.2) (cD b) := .inl ⟨cD_okey 7 _, cD_okey 7 _⟩
      simp [pD]
      refine ⟨q1, ?_⟩
      by_cases h1 : t.1 = b
      · rw [if_pos h1]
        refine ⟨q2, ?_⟩
        by_cases h2 : t.2 = b
        · exact absurd (h1.trans h2.symm) (clt_ne m3)
        · rw [if_neg h2]
          exact tail a t.2 (by unfold ren; rw [if_pos h1]) (by unfold ren; rw [if_neg h2])
      · rw [if_neg h1]
        refine ⟨q2, ?_⟩
        by_cases h2 : t.2 = b
        · rw [if_pos h2]
          exact tail t.1 a (by unfold ren; rw [if_neg h1]) (by unfold ren; rw [if_pos h2])
        · rw [if_neg h2]
          exact tail t.1 t.2 (by unfold ren; rw [if_neg h1]) (by unfold ren; rw [if_neg h2])
  · rintro ρ G2 ⟨x4, x5, rfl, s2, f2⟩
    rw [List.length_map, List.take_length] at f2
    simp
    refine ⟨_, rfl, _, atI0 _ _, _, rfl, ?_⟩
    refine lc_fm _ _ (fun d => (un cD d).bind fun c => if c ≠ b then some d else none) (by rw [List.length_map]; omega) (fun _ _ => trivial) (fun d hd G3 s3 Q3 h3 => ?_) fun p G3 hp s3 hp3 => ?_
    · rw [List.mem_map] at hd
      obtain ⟨c, _, rfl⟩ := hd
      have h4 := h3 G3 Sub.refl
      rw [un_of cD_inj] at h4
      simp
      refine ⟨.inl ⟨cD_okey 7 _, cD_okey 7 _⟩, ?_⟩
      by_cases hc : c = b
      · simpa [hc] using h4
      · simpa [hc] using h4
    · have e : (W.V.map cD).filterMap (fun d => (un cD d).bind fun c => if c ≠ b then some d else none) = (jn W a b).V.map cD := by
        rw [List.filterMap_map]
        refine fm_filter (fun c => decide (c ≠ b)) cD _ _ fun c _ => ?_
        show (un cD (cD c)).bind _ = _
        rw [un_of cD_inj]
        simp
      rw [e] at hp3
      refine ⟨_, .inr ⟨p, rfl, hp3⟩, _, s3 _ _ f2, fun q hq => ?_⟩
      have ekeys : (fset pD (jks a b W.ts) (D.bl true)).map (fun x => x.1) = (jks a b W.ts).map pD := fset_keys _ _
      rw [ekeys]
      refine ⟨_, canSort_pairs _, ⟨q, rfl, .inl gup_same⟩, fun r hr => ?_⟩
      have ok2 : (jn W a b).Ok := jn_ok ok
      have jnd : (jks a b W.ts).Nodup := jks_nodup List.nodup_nil
      rw [sortD_pairs (A := (jn W a b).ts) (ts_pw ok2.asc) jnd (jks_mem ok ha hb hab hr')]
      exact ⟨_, .inr ⟨r, rfl, gup_same⟩, _, Fg.refl, hQ _ (((s2.trans s3).trans (Sub.new hq)).trans (Sub.new hr))⟩
def wbs (W : Wb) : List (Cell × Cell) → List Wb
  | [] => [W]
  | p :: l => W :: wbs (jnp W p) l
theorem wbs_len : ∀ {l : List (Cell × Cell)} {W : Wb}, (wbs W l).length = l.length + 1
  | [], _ => rfl
  | p :: l, W => by show (wbs (jnp W p) l).length + 1 = _; rw [wbs_len]; rfl
theorem wbs_snoc {p : Cell × Cell} : ∀ {l : List (Cell × Cell)} {W : Wb}, wbs W (l ++ [p]) = wbs W l ++ [jnp (fnw W l) p]
  | [], _ => rfl
  | q :: l, W => by show W :: wbs (jnp W q) (l ++ [p]) = _; rw [wbs_snoc]; rfl
theorem wbs_last : ∀ {l : List (Cell × Cell)} {W : Wb}, ∃ I, wbs W l = I ++ [fnw W l]
  | [], W => ⟨[], rfl⟩
  | q :: l, W => by
    obtain ⟨I, e⟩ := wbs_last (l := l) (W := jnp W q)
    exact ⟨W :: I, by show W :: wbs (jnp W q) l = _; rw [e]; rfl⟩
/-- each step is a fair join -/
def Lj (W : Wb) : List (Cell × Cell) → Prop
  | [] => True
  | p :: l => (p.1 ∈ W.V ∧ p.2 ∈ W.V ∧ p.1 ≠ p.2 ∧ W.R p.1 p.2 = false) ∧ Lj (jnp W p) l
theorem Lg.lj : ∀ {l : List (Cell × Cell)} {W : Wb}, W.Ok → Lg W l → Lj W l
  | [], _, _, _ => trivial
  | p :: l, W, ok, h => by
    obtain ⟨h1, h2, h3, h4, h5⟩ := f2p_some ok h.1
    exact ⟨⟨h1, h2, clt_ne h3, h4⟩, Lg.lj (l := l) (jn_ok ok) h.2⟩
theorem Lj.take : ∀ {l : List (Cell × Cell)} {W : Wb} (i : Nat), Lj W l → Lj W (l.take i)
  | [], _, i, _ => by simp; trivial
  | p :: l, W, 0, _ => trivial
  | p :: l, W, i + 1, h => ⟨h.1, Lj.take (l := l) i h.2⟩
theorem Lj.at : ∀ {l : List (Cell × Cell)} {W : Wb} {p : Cell × Cell}, Lj W (l ++ [p]) → p.1 ∈ (fnw W l).V ∧ p.2 ∈ (fnw W l).V ∧ p.1 ≠ p.2 ∧ (fnw W l).R p.1 p.2 = false
  | [], _, _, h => h.1
  | q :: l, W, p, h => Lj.at (l := l) (W := jnp W q) h.2
theorem jn_len (W : Wb) (a b : Cell) : (jn W a b).V.length ≤ W.V.length := List.length_filter_le _ _
theorem fnw_len : ∀ {l : List (Cell × Cell)} {W : Wb}, (fnw W l).V.length ≤ W.V.length
  | [], _ => Nat.le_refl _
  | p :: l, W => Nat.le_trans (fnw_len (l := l) (W := jnp W p)) (jn_len W p.1 p.2)
def sp_webs_ahead : GSp := fun ds G Q => ∃ (W : Wb) (l : List (Cell × Cell)), ds = [wD W, .tup (l.map pD)] ∧ W.Ok ∧ W.V.length ≤ 500 ∧ Lj W l ∧ l.length ≤ 500 ∧ ∀ p G', G p = none → Sub G G' → G' p = some (.lst ((wbs W l).map wD)) → Q (.ref p) G'
theorem p_webs_ahead (ds : List D) (Γ : Gp) (R : GK) (h : sp_webs_ahead ds Γ R) : t_webs_ahead sp_joined { nx := fun _ G' => R .non G', rt := R } (ds.map some ++ List.replicate (5 - ds.length) none) Γ := by
  obtain ⟨W, l, rfl, ok, hl, hj, hll, hQ⟩ := h
  unfold t_webs_ahead
  simp
  intro f hf
  refine for_of (fun i ρ G' => ∃ x3 x4, ρ = [some (wD W), some (.tup (l.map pD)), some (.ref f), x3, x4] ∧ G.Sub Γ G' ∧ G' f = some (.lst ((wbs W (l.take i)).map wD)))
    ⟨none, none, rfl, Sub.new hf, gup_same⟩ (fun _ _ _ _ => trivial) ?_ ?_
  · rintro Z i d ρ G2 ed ⟨x3, x4, rfl, s2, f2⟩ hZ _ _ _
    rw [List.getElem?_map] at ed
    cases es : l[i]? with
    | none => rw [es] at ed; cases ed
    | some p =>
      rw [es] at ed
      cases ed
      have e5 : l.take (i + 1) = l.take i ++ [p] := by rw [List.take_succ, es]; rfl
      obtain ⟨I, eI⟩ := wbs_last (l := l.take i) (W := W)
      have hat : atI ((wbs W (l.take i)).map wD) (-1) = some (wD (fnw W (l.take i))) := by
        rw [eI, List.map_append]
        exact atI_last _ _
      have hjt : Lj W (l.take i ++ [p]) := by rw [← e5]; exact hj.take _
      obtain ⟨j1, j2, j3, j4⟩ := hjt.at
      simp [pD, f2, hat]
      refine ⟨fnw W (l.take i), p.1, p.2, rfl, fnw_ok ok, Nat.le_trans fnw_len hl, j1, j2, j3, j4, fun G3 s3 => ?_⟩
      simp [s3 _ _ f2]
      refine ⟨by rw [wbs_len, List.length_take, sizeLine_eq]; omega, hZ _ _ ⟨_, _, rfl, Sub.upd (s2.trans s3) hf, ?_⟩⟩
      rw [gup_same, e5, wbs_snoc, List.map_append]
      rfl
  · rintro ρ G2 ⟨x3, x4, rfl, s2, f2⟩
    rw [List.length_map, List.take_length] at f2
    simp
    exact ⟨_, Fg.refl, hQ f G2 hf s2 f2⟩
/-! the log -/
def sp_log_of : GSp := fun ds G Q => ∃ W : Wb, ds = [wD W] ∧ W.Ok ∧ W.V.length ≤ 500 ∧ ∀ l G', Lg W l → l.length ≤ W.V.length → Sub G G' → Q (.tup (l.map pD)) G'
theorem jn_lt {W : Wb} {a b : Cell} (hb : b ∈ W.V) : (jn W a b).V.length < W.V.length := by
  have h := List.length_filter_le (fun c => decide (c ≠ b)) W.V
  rcases Nat.lt_or_eq_of_le h with h | h
  · exact h
  · have := List.length_filter_eq_length_iff.mp h b hb
    simp at this
theorem p_log_of (ds : List D) (Γ : Gp) (R : GK) (h : sp_log_of ds Γ R) : t_log_of sp_first_two_pair sp_joined { nx := fun _ G' => R .non G', rt := R } (ds.map some ++ List.replicate (3 - ds.length) none) Γ := by
  obtain ⟨W, rfl, ok, hl, hQ⟩ := h
  unfold t_log_of
  simp
  intro f hf
  refine ⟨W, rfl, ok, hl, fun G1 s1 => ?_⟩
  refine while_of (fun m ρ G' => ∃ (U : Wb) (l : List (Cell × Cell)), ρ = [some (wD U), some (.ref f), some (match f2p U with | some p => pD p | none => .non)] ∧ U.Ok ∧ U.V.length = m ∧ l.length + m ≤ W.V.length ∧ (∀ l', Lg U l' → Lg W (l ++ l')) ∧ G.Sub Γ G' ∧ G' f = some (.lst (l.map pD)))
    _ ⟨W, [], rfl, ok, rfl, by simp, fun l' h => h, (Sub.new hf).trans s1, s1 _ _ gup_same⟩ ?_
  rintro Y m ρ G2 ⟨U, l, rfl, oku, rfl, hlm, hlg, s2, f2⟩ hnx _ _ hrt
  cases e : f2p U with
  | none =>
    simp [rIsN, f2]
    refine ⟨_, Fg.refl, hQ l G2 ?_ (by omega) s2⟩
    have := hlg [] e
    rwa [List.append_nil] at this
  | some p =>
    obtain ⟨h1, h2, h3, h4, h5⟩ := f2p_some oku e
    have hne : (pD p = D.non) = False := by simp [pD]
    simp [rIsN, f2, hne]
    refine ⟨by rw [sizeLine_eq]; omega, [cD p.1, cD p.2], .inl rfl, U, p.1, p.2, rfl, oku, by omega, h1, h2, clt_ne h3, h4, fun G3 s3 => ?_⟩
    refine ⟨jn U p.1 p.2, rfl, jn_ok oku, Nat.le_trans (jn_len _ _ _) (by omega), fun G4 s4 => ?_⟩
    refine hnx (jn U p.1 p.2).V.length _ _ (jn_lt h2) ⟨jn U p.1 p.2, l ++ [p], rfl, jn_ok oku, rfl, ?_, fun l' hl' => ?_, (Sub.upd s2 hf).trans (s3.trans s4), ?_⟩
    · have := jn_lt (W := U) (a := p.1) h2
      rw [List.length_append, List.length_singleton]
      omega
    · have := hlg (p :: l') ⟨e, hl'⟩
      simpa using this
    · rw [s4 _ _ (s3 _ _ gup_same), List.map_append]
      rfl
end Hd
set_option Elab.async false
set_option linter.all false
set_option maxRecDepth 100000
set_option maxHeartbeats 4000000
namespace Hd
open PySem PySem.Spec PyProof.Rows L2 G
theorem grp_lj {W0 : Wb} (h0 : W0.Ok) : ∀ {l : List (Cell × Cell)} {W : Wb} {f : Cell → List Cell}, W.Ok → Lj W l → Grp W0 W f → Grp W0 (fnw W l) (gr f l)
  | [], _, _, _, _, g => g
  | p :: l, W, f, h, hl, g => grp_lj h0 (l := l) (W := jnp W p) (jn_ok h) hl.2 (g.join h0 h hl.1.1 hl.1.2.1 hl.1.2.2.1 hl.1.2.2.2)
theorem gr_snoc {p : Cell × Cell} : ∀ {l : List (Cell × Cell)} {f : Cell → List Cell} {c : Cell}, gr f (l ++ [p]) c = if c = p.1 then gr f l p.1 ++ gr f l p.2 else gr f l c
  | [], _, _ => rfl
  | q :: l, f, c => gr_snoc (l := l)
theorem fnw_snoc {p : Cell × Cell} : ∀ {l : List (Cell × Cell)} {W : Wb}, fnw W (l ++ [p]) = jnp (fnw W l) p
  | [], _ => rfl
  | q :: l, W => fnw_snoc (l := l) (W := jnp W q)
theorem ddel_rct (T : List (Cell × Addr)) (b : Cell) : ddel (rct T) (cD b) = rct (T.filter fun q => decide (q.1 ≠ b)) := by
  unfold ddel rct
  rw [List.filter_map]
  congr 1
  refine List.filter_congr fun k _ => ?_
  simp only [Function.comp, decide_eq_decide, ne_eq, cD_iff]
theorem dput_rct {T : List (Cell × Addr)} {a : Cell} {r : Addr} (h : a ∈ T.map (·.1)) : dput (rct T) (cD a) (.ref r) = rct (T.map fun q => if q.1 = a then (q.1, r) else q) := by
  have hs : (dget (rct T) (cD a)).isSome = true := by
    clear r
    induction T with
    | nil => cases h
    | cons t T ih =>
      unfold rct at ih ⊢
      rw [List.map_cons, dget_cons]
      by_cases e : t.1 = a
      · simp [e]
      · have e2 : ¬ cD t.1 = cD a := fun q => e (cD_inj q)
        rw [List.map_cons, List.mem_cons] at h
        rw [if_neg e2]
        exact ih (h.resolve_left (Ne.symm e))
  unfold dput
  rw [if_pos hs]
  unfold rct
  rw [List.map_map, List.map_map]
  refine List.map_congr_left fun q _ => ?_
  simp only [Function.comp, cD_iff]
  split <;> rfl
theorem fm_some {α β : Type} {f : α → Option β} {g : α → β} : ∀ {l : List α}, (∀ q ∈ l, f q = some (g q)) → l.filterMap f = l.map g
  | [], _ => rfl
  | q :: l, h => by rw [List.filterMap_cons, h q List.mem_cons_self, List.map_cons, fm_some fun x hx => h x (List.mem_cons_of_mem _ hx)]
def lotsOf (W : Wb) (l : List (Cell × Cell)) : List (List Cell) := (fnw W l).V.map fun c => srt (gr (fun c => [c]) l c)
def sp_groups : GSp := fun ds G Q => ∃ (W : Wb) (l : List (Cell × Cell)), ds = [wD W, .tup (l.map pD)] ∧ W.Ok ∧ W.V.length ≤ 500 ∧ Lj W l ∧ ∀ (gs : List (List Cell)) G', gs.Perm (lotsOf W l) → Sub G G' → Q (.tup (gs.map rD)) G'
theorem p_groups (ds : List D) (Γ : Gp) (R : GK) (h : sp_groups ds Γ R) : t_groups { nx := fun _ G' => R .non G', rt := R } (ds.map some ++ List.replicate (6 - ds.length) none) Γ := by
  obtain ⟨W, l, rfl, ok, hl, hj, hQ⟩ := h
  unfold t_groups
  simp [wD]
  refine ⟨_, rfl, ?_⟩
  have hgrp : ∀ i, Grp W (fnw W (l.take i)) (gr (fun c => [c]) (l.take i)) := fun i => grp_lj ok ok (hj.take i) Grp.start
  have hlen : ∀ i, ∀ c ∈ (fnw W (l.take i)).V, (gr (fun c => [c]) (l.take i) c).length ≤ 500 := fun i c hc => Nat.le_trans (nodup_len ((hgrp i).nd c hc) ((hgrp i).sub c hc)) hl
  refine dc_objs W.V ok.asc.nodup (fun c => .lst [cD c]) _ (by omega) (fun _ _ => trivial) (fun c hc G1 s1 R1 h1 => ?_) fun p T G1 hp s1 hT nd hTo hp1 => ?_
  · simp
    intro q hq
    exact h1 q _ hq (Sub.new hq) gup_same
  · refine for_of (fun i ρ G' => ∃ x3 x4 x5, ρ = [some (wD W), some (.tup (l.map pD)), some (.ref p), x3, x4, x5] ∧ G.Sub Γ G' ∧ ∃ T : List (Cell × Addr), T.map (·.1) = (fnw W (l.take i)).V ∧ G' p = some (.dct (rct T)) ∧ ∀ q ∈ T, G' q.2 = some (.lst ((gr (fun c => [c]) (l.take i) q.1).map cD)))
      ⟨none, none, none, rfl, s1, T, hT, hp1, fun q hq => (hTo q hq).2.2⟩ (fun _ _ _ _ => trivial) ?_ ?_
    · rintro Z i d ρ G2 ed ⟨x3, x4, x5, rfl, s2, T, hTV, p2, h2⟩ hZ _ _ _
      rw [List.getElem?_map] at ed
      cases es : l[i]? with
      | none => rw [es] at ed; cases ed
      | some t =>
        rw [es] at ed
        cases ed
        have e5 : l.take (i + 1) = l.take i ++ [t] := by rw [List.take_succ, es]; rfl
        have hjt : Lj W (l.take i ++ [t]) := by rw [← e5]; exact hj.take _
        obtain ⟨j1, j2, j3, j4⟩ := hjt.at
        have oki : (fnw W (l.take i)).Ok := fnw_ok ok
        have nT : (T.map (·.1)).Nodup := by rw [hTV]; exact oki.asc.nodup
        obtain ⟨ra, hra⟩ := mem_fst hTV j1
        obtain ⟨rb, hrb⟩ := mem_fst hTV j2
        have a2 := h2 _ hra
        have b2 := h2 _ hrb
        have ga := dget_rct nT hra
        have gb := dget_rct nT hrb
        have la := hlen i _ j1
        have lb := hlen i _ j2
        have np : ∀ q ∈ T, q.2 ≠ p := fun q hq e => by have := h2 q hq; rw [e, p2] at this; cases this
        have tl : T.length ≤ 500 := by
          rw [← List.length_map (f := (·.1)), hTV]
          exact Nat.le_trans fnw_len hl
        simp [pD, p2]
        refine ⟨_, ga, _, gb, _, rfl, _, rfl, _, (gup_ne (np _ hra)).trans a2, _, (gup_ne (np _ hrb)).trans b2, ?_, fun r hr => ?_⟩
        · rw [List.length_map, List.length_map, sizeLine_eq]
          have : (gr (fun c => [c]) (l.take i) (t.1, ra).1).length ≤ 500 := la
          have : (gr (fun c => [c]) (l.take i) (t.2, rb).1).length ≤ 500 := lb
          omega
        · have hrp : r ≠ p := by rintro rfl; rw [gup_same] at hr; cases hr
          have hr2 : G2 r = none := by rwa [gup_ne hrp] at hr
          refine ⟨_, (gup_ne (Ne.symm hrp)).trans gup_same, ?_, ?_⟩
          · rw [ddel_rct, rct_len, sizeLine_eq]
            have := List.length_filter_le (fun q : Cell × Addr => decide (q.1 ≠ t.2)) T
            omega
          · rw [ddel_rct, dput_rct]
            · refine hZ _ _ ⟨_, _, _, rfl, ?_, _, ?_, gup_same, ?_⟩
              · exact Sub.upd (Sub.upd (Sub.upd s2 hp) (by
                  cases e : Γ r with
                  | none => rfl
                  | some u => rw [s2 _ _ e] at hr2; cases hr2)) hp
              · rw [e5, fnw_snoc]
                show _ = (fnw W (l.take i)).V.filter _
                rw [← hTV, List.map_map, List.filter_map]
                have e : ((fun x : Cell × Addr => x.1) ∘ fun q : Cell × Addr => if q.1 = t.1 then (q.1, r) else q) = fun q => q.1 := by
                  funext q
                  simp only [Function.comp]
                  split <;> rfl
                rw [e]
                rfl
              · intro q hq
                rw [List.mem_map] at hq
                obtain ⟨q0, hq0, rfl⟩ := hq
                rw [List.mem_filter] at hq0
                rw [e5, gr_snoc]
                by_cases e : q0.1 = t.1
                · rw [if_pos e]
                  show gup _ p _ r = some (GO.lst (List.map cD (if q0.1 = t.1 then _ else _)))
                  rw [if_pos e, gup_ne hrp, gup_same, List.map_append]
                · rw [if_neg e, if_neg e]
                  have hqr : q0.2 ≠ r := by rintro h; have := h2 q0 hq0.1; rw [h, hr2] at this; cases this
                  rw [gup_ne (np _ hq0.1), gup_ne hqr, gup_ne (np _ hq0.1)]
                  exact h2 q0 hq0.1
            · rw [List.mem_map]
              refine ⟨(t.1, ra), ?_, rfl⟩
              rw [List.mem_filter]
              exact ⟨hra, by simpa using j3⟩
    · rintro ρ G2 ⟨x3, x4, x5, rfl, s2, T, hTV, p2, h2⟩
      rw [List.length_map, List.take_length] at hTV h2
      have hgl := hgrp l.length
      have hll := hlen l.length
      rw [List.take_length] at hgl hll
      have np : ∀ q ∈ T, q.2 ≠ p := fun q hq e => by have := h2 q hq; rw [e, p2] at this; cases this
      have tl : T.length ≤ 500 := by
        rw [← List.length_map (f := (·.1)), hTV]
        exact Nat.le_trans fnw_len hl
      simp
      refine lockE_of p _ p2 ?_
      simp
      refine lc_fm _ _ (fun d => match d with | .ref r => (match G2 r with | some (.lst xs) => some (.tup (sortD xs)) | _ => none) | _ => none) (by rw [List.length_map, rct_len]; omega) (fun _ _ => trivial) (fun d hd G3 s3 Q3 h3 => ?_) fun q G3 hq s3 hq3 => ?_
      · have : ∃ q ∈ T, d = .ref q.2 := by
          unfold rct at hd
          rw [List.map_map, List.mem_map] at hd
          obtain ⟨q, hq, rfl⟩ := hd
          exact ⟨q, hq, rfl⟩
        obtain ⟨q, hq, rfl⟩ := this
        have q2 := h2 q hq
        have q3 := s3 _ _ ((gup_ne (np q hq)).trans q2)
        have h4 := fun G' s => h3 G' s
        simp only [q2] at h4
        simp
        refine ⟨_, canSort_cells _, ⟨_, rfl, .inl q3⟩, fun r hr => ?_⟩
        exact ⟨_, .inr ⟨r, rfl, gup_same⟩, h4 _ (Sub.new hr)⟩
      · have e : ((rct T).map fun x => x.2).filterMap (fun d => match d with | .ref r => (match G2 r with | some (.lst xs) => some (D.tup (sortD xs)) | _ => none) | _ => none) = (lotsOf W l).map rD := by
          unfold rct lotsOf
          rw [← hTV, List.map_map, List.map_map, List.map_map, List.filterMap_map]
          have : ∀ q ∈ T, (((fun d => match d with | .ref r => (match G2 r with | some (.lst xs) => some (D.tup (sortD xs)) | _ => none) | _ => none) ∘ (fun x : D × D => x.2) ∘ fun q : Cell × Addr => (cD q.1, D.ref q.2)) q) = some ((rD ∘ (fun c => srt (gr (fun c => [c]) l c)) ∘ fun x : Cell × Addr => x.1) q) := fun q hq => by
            simp only [Function.comp, h2 q hq]
            rw [sortD_cells]
            rfl
          exact fm_some this
        rw [e] at hq3
        refine ⟨s3 _ _ gup_same, ?_⟩
        have hqp : q ≠ p := by rintro rfl; rw [gup_same] at hq; cases hq
        refine ⟨_, canSort_lots (l := lotsOf W l) (fun A hA => ?_), ⟨q, rfl, .inl ((gup_ne hqp).trans hq3)⟩, fun r hr => ?_⟩
        · unfold lotsOf at hA
          rw [List.mem_map] at hA
          obtain ⟨c, hc, rfl⟩ := hA
          intro e
          have := srt_mem.mpr (hgl.me c hc)
          rw [e] at this
          cases this
        · obtain ⟨gs, hgs, e⟩ := perm_map_inv rD_inj (sortD_perm ((lotsOf W l).map rD))
          rw [e]
          exact ⟨_, .inr ⟨r, rfl, gup_same⟩, _, Fg.refl, hQ gs _ hgs ((s2.trans (Sub.unlock p2 s3)).trans (Sub.new hr))⟩
end Hd
set_option Elab.async false
set_option linter.all false
set_option maxRecDepth 100000
set_option maxHeartbeats 4000000
namespace Hd
open PySem PySem.Spec PyProof.Rows L2 G
def pre (W : Wb) : List (Cell × Cell) → List Wb
  | [] => []
  | p :: l => W :: pre (jnp W p) l
theorem wbs_pre : ∀ {l : List (Cell × Cell)} {W : Wb}, wbs W l = pre W l ++ [fnw W l]
  | [], _ => rfl
  | p :: l, W => by show W :: wbs (jnp W p) l = _; rw [wbs_pre]; rfl
theorem pre_len : ∀ {l : List (Cell × Cell)} {W : Wb}, (pre W l).length = l.length
  | [], _ => rfl
  | p :: l, W => by show (pre (jnp W p) l).length + 1 = _; rw [pre_len]; rfl
theorem pre_get : ∀ {l : List (Cell × Cell)} {W : Wb} {m : Nat}, m < l.length → (pre W l)[m]? = some (fnw W (l.take m))
  | [], _, m, h => absurd h (Nat.not_lt_zero _)
  | p :: l, W, 0, _ => rfl
  | p :: l, W, m + 1, h => by
    show (pre (jnp W p) l)[m]? = _
    rw [pre_get (by simpa using h)]
    rfl
def kbk (W : Wb) (p : Cell × Cell) (k : List Cell) : List Cell := if p.1 ∈ k then (k.filter fun c => decide (c ≠ p.1)) ++ [if (k.filter fun c => decide (c ≠ p.1)).all (fun c => W.R p.1 c) = true then p.1 else p.2] else k
theorem knb_cons (W : Wb) (p : Cell × Cell) (l : List (Cell × Cell)) : knb W (p :: l) = kbk W p (knb (jnp W p) l) := rfl
theorem kbk_len (W : Wb) (p : Cell × Cell) (k : List Cell) : (kbk W p k).length ≤ k.length := by
  unfold kbk
  split
  · rename_i h
    rw [List.length_append, List.length_singleton]
    have h1 := List.length_filter_le (fun c => decide (c ≠ p.1)) k
    rcases Nat.lt_or_eq_of_le h1 with h1 | h1
    · exact h1
    · have := List.length_filter_eq_length_iff.mp h1 p.1 h
      simp at this
  · exact Nat.le_refl _
theorem knb_sub : ∀ {l : List (Cell × Cell)} {W : Wb}, Lj W l → ∀ c ∈ knb W l, c ∈ W.V
  | [], W, _, c, hc => hc
  | p :: l, W, h, c, hc => by
    have ih := knb_sub (l := l) (W := jnp W p) h.2
    rw [knb_cons] at hc
    unfold kbk at hc
    split at hc
    · rcases List.mem_append.mp hc with hc | hc
      · exact (jn_V.mp (ih c (List.mem_filter.mp hc).1)).1
      · rw [List.mem_singleton] at hc
        split at hc
        · rw [hc]; exact h.1.1
        · rw [hc]; exact h.1.2.1
    · exact (jn_V.mp (ih c hc)).1
theorem knb_len : ∀ {l : List (Cell × Cell)} {W : Wb}, (knb W l).length ≤ (fnw W l).V.length
  | [], W => Nat.le_refl _
  | p :: l, W => Nat.le_trans (kbk_len W p _) (knb_len (l := l) (W := jnp W p))
theorem cut_last (ds : List D) (d : D) : G.cutD (ds ++ [d]) none (some (-1)) = ds := by
  unfold G.cutD
  have e1 : HT.sIx (ds ++ [d]).length 0 none = 0 := HT.sIx_none ..
  have e2 : HT.sIx (ds ++ [d]).length (ds ++ [d]).length (some (-1)) = ds.length := by
    unfold HT.sIx
    simp
    omega
  rw [e1, e2]
  simp
theorem Lj.drop : ∀ {l : List (Cell × Cell)} {W : Wb} (i : Nat), Lj W l → Lj (fnw W (l.take i)) (l.drop i)
  | [], W, i, _ => by simp; trivial
  | p :: l, W, 0, h => h
  | p :: l, W, i + 1, h => Lj.drop (l := l) (W := jnp W p) i h.2
theorem fnw_app : ∀ {l m : List (Cell × Cell)} {W : Wb}, fnw W (l ++ m) = fnw (fnw W l) m
  | [], _, _ => rfl
  | p :: l, m, W => fnw_app (l := l) (W := jnp W p)
theorem pairUp_get {xs ys : List D} {i : Nat} {d : D} (h : (pairUp xs ys)[i]? = some d) : ∃ x y, xs[i]? = some x ∧ ys[i]? = some y ∧ d = .tup [x, y] := by
  unfold pairUp at h
  rw [List.getElem?_zipWith_eq_some] at h
  obtain ⟨x, y, h1, h2, h3⟩ := h
  exact ⟨x, y, h1, h2, h3.symm⟩
def sp_knot_back : GSp := fun ds G Q => ∃ (W : Wb) (l : List (Cell × Cell)), ds = [wD W, .tup (l.map pD)] ∧ W.Ok ∧ W.V.length ≤ 500 ∧ Lj W l ∧ l.length ≤ 500 ∧ (fnw W l).Full ∧ ∀ G', Sub G G' → Q (rD (srt (knb W l))) G'
theorem p_knot_back (ds : List D) (Γ : Gp) (R : GK) (h : sp_knot_back ds Γ R) : t_knot_back sp_webs_ahead sp_all_next sp_are_next { nx := fun _ G' => R .non G', rt := R } (ds.map some ++ List.replicate (9 - ds.length) none) Γ := by
  obtain ⟨W, l, rfl, ok, hl, hj, hll, hf, hQ⟩ := h
  unfold t_knot_back
  simp
  refine ⟨W, l, rfl, ok, hl, hj, hll, fun q G1 hq s1 hq1 => ?_⟩
  have okl : (fnw W l).Ok := fnw_ok ok
  have hat : atI ((wbs W l).map wD) (-1) = some (wD (fnw W l)) := by
    rw [wbs_pre, List.map_append]
    exact atI_last _ _
  simp [hq1, hat]
  refine ⟨fnw W l, rfl, Nat.le_trans fnw_len hl, fun G2 s2 => ?_⟩
  have hfl : (fnw W l).V.length ≤ 500 := Nat.le_trans fnw_len hl
  have ecut : G.cutD ((wbs W l).map wD) none (some (-1)) = (pre W l).map wD := by
    rw [wbs_pre, List.map_append]
    exact cut_last _ _
  have q2 := s2 _ _ hq1
  refine ⟨by rw [(allN_iff okl).mpr hf], _, q2, _, hat, _, rfl, _, atI0 _ _, (fnw W l).V.map cD, .inl ⟨rfl, by rw [List.length_map, sizeLine_eq]; omega⟩, fun k hk => ?_⟩
  have hqk : q ≠ k := by rintro rfl; rw [q2] at hk; cases hk
  refine ⟨_, (gup_ne hqk).trans q2, fun r hr t ht => ?_⟩
  rw [ecut] at ht ⊢
  refine ⟨by rw [List.length_map, pre_len], ?_⟩
  generalize hG3 : gup (gup (gup G2 k (.lst ((fnw W l).V.map cD))) r (.lst ((pre W l).map wD))) t (.lst ((pre W l).map wD).reverse) = G3
  have hrk : r ≠ k := by rintro rfl; rw [gup_same] at hr; cases hr
  have htr : t ≠ r := by rintro rfl; rw [gup_same] at ht; cases ht
  have htk : t ≠ k := by rintro rfl; rw [gup_ne htr, gup_same] at ht; cases ht
  have hrn : G2 r = none := by rwa [gup_ne hrk] at hr
  have htn : G2 t = none := by rwa [gup_ne htr, gup_ne htk] at ht
  have s3 : G.Sub Γ G3 := by
    rw [← hG3]
    exact (s1.trans s2).trans (((Sub.new hk).trans (Sub.new hr)).trans (Sub.new ht))
  have t3 : G3 t = some (.lst ((pre W l).map wD).reverse) := by rw [← hG3, gup_same]
  have k3 : G3 k = some (.lst ((fnw W l).V.map cD)) := by rw [← hG3, gup_ne (Ne.symm htk), gup_ne (Ne.symm hrk), gup_same]
  have plen : (pairUp (l.map pD).reverse ((pre W l).map wD).reverse).length = l.length := by
    unfold pairUp
    rw [List.length_zipWith, List.length_reverse, List.length_reverse, List.length_map, List.length_map, pre_len, Nat.min_self]
  refine for_of (fun i ρ G' => ∃ k' x4 x5 x6 x7 x8, ρ = [some (wD W), some (.tup (l.map pD)), some (.ref q), some (.ref k'), x4, x5, x6, x7, x8] ∧ G.Sub G3 G' ∧ G' k' = some (.lst ((knb (fnw W (l.take (l.length - i))) (l.drop (l.length - i))).map cD)))
    ⟨k, none, none, none, none, none, rfl, Sub.refl, by rw [k3, Nat.sub_zero, List.take_length, List.drop_length]; rfl⟩ (fun i ρ G' ⟨_, _, _, _, _, _, _, s, _⟩ => s _ _ t3) ?_ ?_
  · rintro Z i d ρ G4 ed ⟨k', x4, x5, x6, x7, x8, rfl, s4, hk4⟩ hZ _ _ _
    have hi : i < l.length := by rw [← plen]; exact (List.getElem?_eq_some_iff.mp ed).1
    obtain ⟨x, y, ex, ey, rfl⟩ := pairUp_get ed
    generalize hm : l.length - 1 - i = m
    have hmn : m < l.length := by omega
    rw [List.getElem?_reverse (by rw [List.length_map]; exact hi), List.length_map, List.getElem?_map, hm] at ex
    rw [List.getElem?_reverse (by rw [List.length_map, pre_len]; exact hi), List.length_map, pre_len, List.getElem?_map, hm, pre_get hmn] at ey
    cases ey
    cases es : l[m]? with
    | none => rw [es] at ex; cases ex
    | some p =>
      rw [es] at ex
      cases ex
      have e1 : l.length - i = m + 1 := by omega
      have e2 : l.length - (i + 1) = m := by omega
      have ed2 : l.drop m = p :: l.drop (m + 1) := by
        have h1 := List.drop_eq_getElem_cons hmn
        rw [(List.getElem?_eq_some_iff.mp es).2] at h1
        exact h1
      have et : l.take (m + 1) = l.take m ++ [p] := by rw [List.take_succ, es]; rfl
      have hjd := hj.drop m
      rw [ed2] at hjd
      have oku : (fnw W (l.take m)).Ok := fnw_ok ok
      have hul : (fnw W (l.take m)).V.length ≤ 500 := Nat.le_trans fnw_len hl
      rw [e1, et, fnw_snoc] at hk4
      have go : ∀ k'' y7 y8 G5, G.Sub G4 G5 → G5 k'' = some (.lst ((kbk (fnw W (l.take m)) p (knb (jnp (fnw W (l.take m)) p) (l.drop (m + 1)))).map cD)) →
          Z.nx [some (wD W), some (.tup (l.map pD)), some (.ref q), some (.ref k''), some (cD p.1), some (cD p.2), some (wD (fnw W (l.take m))), y7, y8] G5 := fun k'' y7 y8 G5 s5 h5 =>
        hZ _ _ ⟨k'', _, _, _, _, _, rfl, s4.trans s5, by rw [e2, ed2, knb_cons]; exact h5⟩
      have hKs := knb_sub hjd.2
      have hKl : (knb (jnp (fnw W (l.take m)) p) (l.drop (m + 1))).length ≤ 500 := by
        refine Nat.le_trans knb_len (Nat.le_trans fnw_len (Nat.le_trans (jn_len _ _ _) hul))
      generalize knb (jnp (fnw W (l.take m)) p) (l.drop (m + 1)) = K at hk4 go hKs hKl
      generalize fnw W (l.take m) = U at oku hul go hKs hjd
      simp [pD, hk4]
      by_cases hpK : p.1 ∈ K
      · rw [if_pos hpK]
        refine lc_fm _ _ (fun d => (un cD d).bind fun c => if c ≠ p.1 then some d else none) (by rw [List.length_map]; omega) (fun G5 s5 => s5 _ _ hk4) (fun d hd G5 s5 Q5 h5 => ?_) fun q1 G5 hq1 s5 hq15 => ?_
        · rw [List.mem_map] at hd
          obtain ⟨c, _, rfl⟩ := hd
          have h6 := h5 G5 Sub.refl
          rw [un_of cD_inj] at h6
          simp
          refine ⟨.inl ⟨cD_okey 7 _, cD_okey 7 _⟩, ?_⟩
          by_cases hc : c = p.1
          · simpa [hc] using h6
          · simpa [hc] using h6
        · have e : (K.map cD).filterMap (fun d => (un cD d).bind fun c => if c ≠ p.1 then some d else none) = (K.filter fun c => decide (c ≠ p.1)).map cD := by
            rw [List.filterMap_map]
            refine fm_filter (fun c => decide (c ≠ p.1)) cD _ _ fun c _ => ?_
            show (un cD (cD c)).bind _ = _
            rw [un_of cD_inj]
            simp
          rw [e] at hq15
          have ho : ∀ c, c ∈ (K.filter fun c => decide (c ≠ p.1)) → c ∈ U.V ∧ c ≠ p.1 := fun c hc => by
            rw [List.mem_filter, decide_eq_true_eq] at hc
            exact ⟨(jn_V.mp (hKs c hc.1)).1, hc.2⟩
          have hol : (K.filter fun c => decide (c ≠ p.1)).length ≤ 500 := Nat.le_trans (List.length_filter_le _ _) hKl
          have hgo := fun k'' y7 y8 G6 s6 h6 => go k'' y7 y8 G6 s6 (by unfold kbk; rw [if_pos hpK]; exact h6)
          generalize (K.filter fun c => decide (c ≠ p.1)) = O at hq15 ho hol hgo
          simp [hq15]
          refine ⟨_, .inr ⟨q1, rfl, hq15⟩, ?_⟩
          refine lc_fm _ _ (fun d => (un cD d).map fun c => .bl (U.R p.1 c)) (by rw [List.length_map]; omega) (fun G6 s6 => s6 _ _ hq15) (fun d hd G6 s6 Q6 h6 => ?_) fun q2 G6 hq2 s6 hq26 => ?_
          · rw [List.mem_map] at hd
            obtain ⟨c, hc, rfl⟩ := hd
            have h7 := fun G' s => h6 G' s
            rw [un_of cD_inj] at h7
            simp
            exact ⟨U, p.1, c, rfl, oku, hjd.1.1, (ho c hc).1, Ne.symm (ho c hc).2, fun G7 s7 => h7 _ s7⟩
          · rw [fm_bl (fun c => U.R p.1 c) cD _ _ fun c _ => by rw [un_of cD_inj]; rfl] at hq26
            have hmem : (false ∈ O.map fun c => U.R p.1 c) ↔ ¬ (O.all fun c => U.R p.1 c) = true := by
              rw [List.mem_map, List.all_eq_true]
              constructor
              · rintro ⟨c, hc, e⟩ h
                rw [h c hc] at e
                cases e
              · intro h
                refine Classical.byContradiction fun n => h fun c hc => ?_
                cases e : U.R p.1 c with
                | true => rfl
                | false => exact absurd ⟨c, hc, e⟩ n
            refine ⟨q2, rfl, _, hq26, ?_⟩
            by_cases hall : (O.all fun c => U.R p.1 c) = true
            · rw [if_neg fun z => hmem.mp z hall]
              refine ⟨by rw [List.length_map, sizeLine_eq]; omega, fun z hz => hgo z _ _ _ ((s5.trans s6).trans (Sub.new hz)) ?_⟩
              rw [gup_same, if_pos hall, List.map_append]
              rfl
            · rw [if_pos (hmem.mpr hall)]
              refine ⟨by rw [List.length_map, sizeLine_eq]; omega, fun z hz => hgo z _ _ _ ((s5.trans s6).trans (Sub.new hz)) ?_⟩
              rw [gup_same, if_neg hall, List.map_append]
              rfl
      · rw [if_neg hpK]
        exact go k' _ _ G4 Sub.refl (by unfold kbk; rw [if_neg hpK]; exact hk4)
  · rintro ρ G4 ⟨k', x4, x5, x6, x7, x8, rfl, s4, hk4⟩
    rw [plen, Nat.sub_self, List.take_zero, List.drop_zero] at hk4
    simp
    refine rSort_lst hk4 fun z hz => ?_
    simp
    exact ⟨_, Fg.refl, hQ _ ((s3.trans s4).trans (Sub.new hz))⟩
/-! split_of -/
def sp_split_of : GSp := fun ds G Q => ∃ W : Wb, ds = [wD W] ∧ W.Ok ∧ W.V.length ≤ 500 ∧ (∀ l, Lg W l → (fnw W l).Full) ∧ ∀ (l : List (Cell × Cell)) (gs : List (List Cell)) G', Lg W l → gs.Perm (lotsOf W l) → Sub G G' → Q (.tup [.tup (gs.map rD), rD (srt (knb W l))]) G'
theorem p_split_of (ds : List D) (Γ : Gp) (R : GK) (h : sp_split_of ds Γ R) : t_split_of sp_log_of sp_groups sp_knot_back { nx := fun _ G' => R .non G', rt := R } (ds.map some ++ List.replicate (2 - ds.length) none) Γ := by
  obtain ⟨W, rfl, ok, hl, hf, hQ⟩ := h
  unfold t_split_of
  simp
  refine ⟨W, rfl, ok, hl, fun l G1 hlg hll s1 => ?_⟩
  refine ⟨W, l, rfl, ok, hl, hlg.lj ok, fun gs G2 hgs s2 => ?_⟩
  refine ⟨W, l, rfl, ok, hl, hlg.lj ok, by omega, hf l hlg, fun G3 s3 => ?_⟩
  exact ⟨_, Fg.refl, hQ l gs _ hlg hgs ((s1.trans s2).trans s3)⟩
end Hd
set_option Elab.async false
set_option linter.all false
set_option maxRecDepth 100000
set_option maxHeartbeats 4000000
namespace Hd
open PySem PySem.Spec PyProof.Rows L2 G
/-! ### fields are mutual -/
theorem rch_head {K : Cell → Prop} {succ : Cell → List Cell} {a b c : Cell} (h1 : b ∈ succ a) (h2 : K b) (h : Rch K succ b c) : Rch K succ a c := (Rch.base.step h1 h2).trans h
theorem rch_back {K : Cell → Prop} {dx dy : Int} {s c : Cell} (hs : K s) (h : Rch K (qs dx dy) s c) : Rch K (qs (-dx) (-dy)) c s := by
  induction h with
  | base => exact .base
  | @step c d h1 hd hk ih =>
    refine rch_head ?_ ?_ ih
    · simp only [qs, List.mem_cons, List.not_mem_nil, or_false] at hd ⊢
      rcases hd with rfl | rfl
      · exact .inl (Prod.ext (by simp; omega) rfl)
      · exact .inr (Prod.ext rfl (by simp; omega))
    · rcases rch_in h1 with e | e
      · rw [e]; exact hs
      · exact e
theorem unit_neg {d : Int} (h : Unit1 d) : Unit1 (-d) := by
  rcases h with rfl | rfl
  · exact .inr rfl
  · exact .inl rfl
theorem fld_sym {L : List Cell} {a b : Cell} (ha : a ∈ L) (h : b ∈ fld L a) : a ∈ fld L b := by
  rw [mem_fld] at *
  obtain ⟨dx, dy, hx, hy, h⟩ := h
  exact ⟨-dx, -dy, unit_neg hx, unit_neg hy, rch_back ha h⟩
theorem fld_mem {L : List Cell} {a b : Cell} (ha : a ∈ L) (h : b ∈ fld L a) : b ∈ L := by
  rcases fld_in (mem_fld.mp h) with e | e
  · rw [e]; exact ha
  · exact e
theorem fld_self (L : List Cell) (a : Cell) : a ∈ fld L a := mem_fld.mpr ⟨1, 1, .inl rfl, .inl rfl, .base⟩
theorem fld_asc (L : List Cell) (s : Cell) : Asc (fld L s) := lst_asc _ _
theorem tieB_sym (L : List Cell) (a b : Cell) : tieB L a b = tieB L b a := by
  unfold tieB
  rw [Bool.eq_iff_iff, List.any_eq_true, List.any_eq_true]
  constructor <;> rintro ⟨c, h1, h2⟩ <;> exact ⟨c, of_decide_eq_true h2, decide_eq_true h1⟩
theorem tieB_iff {L : List Cell} {a b : Cell} : tieB L a b = true ↔ ∃ c, c ∈ fld L a ∧ c ∈ fld L b := by
  unfold tieB
  rw [List.any_eq_true]
  exact ⟨fun ⟨c, h1, h2⟩ => ⟨c, h1, of_decide_eq_true h2⟩, fun ⟨c, h1, h2⟩ => ⟨c, h1, decide_eq_true h2⟩⟩
/-! ### counting -/
theorem nodup_of_dedup : ∀ {l : List Cell}, l.length ≤ (dedup l).length → l.Nodup := by
  have key : ∀ (l ks : List Cell), ks.length + l.length ≤ (l.foldl ins ks).length → l.Nodup ∧ ∀ c ∈ l, c ∉ ks := by
    intro l
    induction l with
    | nil => intro ks _; simp
    | cons c l ih =>
      intro ks h
      rw [List.foldl_cons, List.length_cons] at h
      have h1 := @foldl_ins_len l (ins ks c)
      by_cases hc : c ∈ ks
      · have e : ins ks c = ks := by unfold ins; rw [if_pos hc]
        rw [e] at h1 h
        omega
      · have e : ins ks c = ks ++ [c] := ins_new hc
        rw [e] at h
        obtain ⟨h2, h3⟩ := ih (ks ++ [c]) (by rw [List.length_append, List.length_singleton]; omega)
        refine ⟨List.nodup_cons.mpr ⟨fun hm => h3 c hm (by simp), h2⟩, fun d hd => ?_⟩
        rcases List.mem_cons.mp hd with e | hd
        · rw [e]; exact hc
        · exact fun q => h3 d hd (List.mem_append_left _ q)
  intro l h
  exact (key l [] (by simpa [dedup] using h)).1
theorem pick_len {α β : Type} [DecidableEq β] {P : α → β → Prop} : ∀ {K : List α} {S : List β}, K.Nodup → (∀ k ∈ K, ∃ s ∈ S, P k s) → (∀ k ∈ K, ∀ k' ∈ K, ∀ s, P k s → P k' s → k = k') → K.length ≤ S.length
  | [], _, _, _, _ => Nat.zero_le _
  | k :: K, S, nd, h1, h2 => by
    obtain ⟨s, hs, hp⟩ := h1 k List.mem_cons_self
    have nd' := List.nodup_cons.mp nd
    have ih := pick_len (P := P) (K := K) (S := S.erase s) nd'.2 (fun k' hk' => by
      obtain ⟨s', hs', hp'⟩ := h1 k' (List.mem_cons_of_mem _ hk')
      refine ⟨s', ?_, hp'⟩
      have hne : s' ≠ s := by
        rintro rfl
        exact nd'.1 (h2 k List.mem_cons_self k' (List.mem_cons_of_mem _ hk') s' hp hp' ▸ hk')
      exact (List.mem_erase_of_ne hne).mpr hs') fun k' hk' k'' hk'' => h2 k' (List.mem_cons_of_mem _ hk') k'' (List.mem_cons_of_mem _ hk'')
    rw [List.length_erase_of_mem hs] at ih
    have := List.length_pos_of_mem hs
    rw [List.length_cons]
    omega
/-- stalls that serve a lot are at least as many as spots of it apart -/
theorem apart_len {L K S : List Cell} (nd : K.Nodup) (hK : ∀ a ∈ K, ∀ b ∈ K, a ≠ b → tieB L a b = false) (hS : ∀ k ∈ K, ∃ s ∈ S, s ∈ fld L k) : K.length ≤ S.length :=
  pick_len (P := fun k s => s ∈ fld L k) nd hS fun k hk k' hk' s h1 h2 => Classical.byContradiction fun n => by
    have := hK k hk k' hk' n
    rw [tieB_iff.mpr ⟨s, h1, h2⟩] at this
    cases this
/-! ### hard spots -/
theorem lget_none {X : LC} {k : List Cell} : lget X k = none ↔ ∀ h, (k, h) ∉ X := by
  unfold lget
  rw [Option.map_eq_none_iff, List.find?_eq_none]
  constructor
  · intro h c hc
    exact h _ hc (by simp)
  · rintro h ⟨k', c⟩ hx e
    simp only [decide_eq_true_eq] at e
    exact h c (e ▸ hx)
theorem lget_some {X : LC} {k : List Cell} {c : Cell} (h : lget X k = some c) : (k, c) ∈ X := by
  unfold lget at h
  rw [Option.map_eq_some_iff] at h
  obtain ⟨⟨k', c'⟩, h1, h2⟩ := h
  have h3 := List.find?_some h1
  have h4 := List.mem_of_find?_eq_some h1
  simp only [decide_eq_true_eq] at h3
  have h2 : c' = c := h2
  subst h2
  exact h3 ▸ h4
structure HI (P : List (Cell × List Cell)) (Q : List (Cell × List Cell)) (X : LC) : Prop where
  nd : (X.map (·.2)).Nodup
  mem : ∀ x ∈ X, (x.2, x.1) ∈ Q ∧ ¬ (P.any fun q => wth q.2 x.1) = true
  cov : ∀ p ∈ Q, ¬ (P.any fun q => wth q.2 p.2) = true → ∃ h, (p.2, h) ∈ X
theorem hi_step {P Q : List (Cell × List Cell)} {X : LC} {p : Cell × List Cell} (h : HI P Q X) (hp : p.1 ∉ Q.map (·.1)) : HI P (Q ++ [p]) (hstep P X p) := by
  unfold hstep
  by_cases hc : (P.any fun q => wth q.2 p.2) = true
  · rw [if_pos hc]
    refine ⟨h.nd, fun x hx => ⟨List.mem_append_left _ (h.mem x hx).1, (h.mem x hx).2⟩, fun q hq hn => ?_⟩
    rcases List.mem_append.mp hq with hq | hq
    · exact h.cov q hq hn
    · rw [List.mem_singleton.mp hq] at hn; exact absurd hc hn
  · rw [if_neg hc]
    unfold lsetd
    cases hg : lget X p.2 with
    | some c =>
      rw [if_pos (by rfl)]
      refine ⟨h.nd, fun x hx => ⟨List.mem_append_left _ (h.mem x hx).1, (h.mem x hx).2⟩, fun q hq hn => ?_⟩
      rcases List.mem_append.mp hq with hq | hq
      · exact h.cov q hq hn
      · rw [List.mem_singleton.mp hq]; exact ⟨c, lget_some hg⟩
    | none =>
      rw [if_neg (by simp)]
      refine ⟨?_, fun x hx => ?_, fun q hq hn => ?_⟩
      · rw [List.map_append, List.nodup_append]
        refine ⟨h.nd, by simp, fun a ha b hb e => ?_⟩
        simp at hb
        subst hb e
        obtain ⟨x, hx, e⟩ := List.mem_map.mp ha
        exact hp (List.mem_map.mpr ⟨_, (h.mem x hx).1, e⟩)
      · rcases List.mem_append.mp hx with hx | hx
        · exact ⟨List.mem_append_left _ (h.mem x hx).1, (h.mem x hx).2⟩
        · rw [List.mem_singleton.mp hx]
          exact ⟨List.mem_append_right _ (by simp), hc⟩
      · rcases List.mem_append.mp hq with hq | hq
        · obtain ⟨c, hc⟩ := h.cov q hq hn
          exact ⟨c, List.mem_append_left _ hc⟩
        · rw [List.mem_singleton.mp hq]
          exact ⟨p.1, List.mem_append_right _ (by simp)⟩
theorem hi_all {P : List (Cell × List Cell)} : ∀ {R Q : List (Cell × List Cell)} {X : LC}, HI P Q X → ((Q ++ R).map (·.1)).Nodup → HI P (Q ++ R) (R.foldl (hstep P) X)
  | [], Q, X, h, _ => by simpa using h
  | p :: R, Q, X, h, nd => by
    have hp : p.1 ∉ Q.map (·.1) := fun hm => by
      rw [List.map_append, List.nodup_append] at nd
      exact nd.2.2 p.1 hm p.1 (by simp) rfl
    have := hi_all (R := R) (hi_step h hp) (by simpa using nd)
    simpa using this
theorem hkv_hi {P : List (Cell × List Cell)} (nd : (P.map (·.1)).Nodup) : HI P P (hkv P) := by
  have := hi_all (P := P) (R := P) (Q := []) (X := []) ⟨by simp, (fun x hx => by cases hx), (fun x hx => by cases hx)⟩ (by simpa using nd)
  simpa [hkv] using this
theorem hin_asc {L lot : List Cell} (nd : lot.Nodup) : Asc (hin L lot) := by
  have h := hkv_hi (P := lot.map fun c => (c, fld L c)) (by rw [List.map_map]; exact (List.map_id lot).symm ▸ nd)
  exact srt_asc h.nd
theorem hin_sub {L lot : List Cell} (nd : lot.Nodup) {c : Cell} (hc : c ∈ hin L lot) : c ∈ lot := by
  have h := hkv_hi (P := lot.map fun c => (c, fld L c)) (by rw [List.map_map]; exact (List.map_id lot).symm ▸ nd)
  have hc : c ∈ (hkv (lot.map fun c => (c, fld L c))).map (·.2) := srt_mem.mp hc
  obtain ⟨x, hx, rfl⟩ := List.mem_map.mp hc
  obtain ⟨d, hd, e⟩ := List.mem_map.mp (h.mem x hx).1
  have ea : d = x.2 := congrArg Prod.fst e
  rw [← ea]
  exact hd
theorem wth_iff {A B : List Cell} : wth A B = true ↔ A.length < B.length ∧ ∀ c ∈ A, c ∈ B := by unfold wth; simp
/-- below each spot of the lot lies a hard one -/
theorem hin_below {L lot : List Cell} (nd : lot.Nodup) : ∀ (n : Nat) {c : Cell}, (fld L c).length ≤ n → c ∈ lot → ∃ h ∈ hin L lot, ∀ x ∈ fld L h, x ∈ fld L c
  | 0, c, hn, _ => by
    have := List.length_pos_of_mem (fld_self L c)
    omega
  | n + 1, c, hn, hc => by
    have h := hkv_hi (P := lot.map fun c => (c, fld L c)) (by rw [List.map_map]; exact (List.map_id lot).symm ▸ nd)
    by_cases hq : ((lot.map fun c => (c, fld L c)).any fun q => wth q.2 (fld L c)) = true
    · obtain ⟨q, hq1, hq2⟩ := List.any_eq_true.mp hq
      obtain ⟨d, hd, rfl⟩ := List.mem_map.mp hq1
      obtain ⟨w1, w2⟩ := wth_iff.mp hq2
      obtain ⟨x, hx, hs⟩ := hin_below (L := L) nd n (c := d) (by have : (fld L d).length < (fld L c).length := w1; omega) hd
      exact ⟨x, hx, fun y hy => w2 y (hs y hy)⟩
    · obtain ⟨x, hx⟩ := h.cov (c, fld L c) (List.mem_map.mpr ⟨c, hc, rfl⟩) hq
      have h1 := (h.mem _ hx).1
      obtain ⟨d, hd, e⟩ := List.mem_map.mp h1
      have e1 : fld L x = fld L c := by
        have ea : d = x := congrArg Prod.fst e
        have eb : fld L d = fld L c := congrArg Prod.snd e
        rw [← ea]; exact eb
      refine ⟨x, ?_, fun y hy => by rw [← e1]; exact hy⟩
      show x ∈ srt _
      rw [srt_mem]
      exact List.mem_map.mpr ⟨_, hx, rfl⟩
/-! ### answers -/
structure Ans (L lot S K : List Cell) : Prop where
  sa : Asc S
  ss : ∀ s ∈ S, s ∈ L
  sv : ∀ c ∈ lot, ∃ s ∈ S, c ∈ fld L s
  ka : Asc K
  ks : ∀ k ∈ K, k ∈ lot
  ap : ∀ a ∈ K, ∀ b ∈ K, a ≠ b → tieB L a b = false
  len : S.length = K.length
/-- the web of the hard spots, contrary -/
noncomputable def hweb (L lot : List Cell) : Wb := ⟨hin L lot, fun a b => !tieB L a b⟩
theorem hweb_ok {L lot : List Cell} (nd : lot.Nodup) : (hweb L lot).Ok := ⟨hin_asc nd, fun a b => by show (!tieB L a b) = !tieB L b a; rw [tieB_sym]⟩
/-- what the room must keep: lots each two of which are tied have a stall; joining comes to an end where all are next to all -/
structure Fine (L lot : List Cell) : Prop where
  helly : ∀ g : List Cell, g ≠ [] → (∀ a ∈ g, a ∈ lot) → (∀ a ∈ g, ∀ b ∈ g, a ≠ b → tieB L a b = true) → com L g ≠ []
  full : ∀ l, Lg (hweb L lot) l → (fnw (hweb L lot) l).Full
noncomputable def st0 (L g : List Cell) : Cell := (com L g).headD (0, 0)
theorem st0_mem {L g : List Cell} (h : com L g ≠ []) : st0 L g ∈ com L g := by
  unfold st0
  cases e : com L g with
  | nil => exact absurd e h
  | cons a r => simp
theorem lot_groups {L lot : List Cell} (nd : lot.Nodup) (F : Fine L lot) {l : List (Cell × Cell)} (hl : Lg (hweb L lot) l) {g : List Cell} (hg : g ∈ lotsOf (hweb L lot) l) : com L g ≠ [] := by
  have ok := hweb_ok (L := L) nd
  have G := grp_ok ok ok hl Grp.start
  unfold lotsOf at hg
  obtain ⟨c, hc, rfl⟩ := List.mem_map.mp hg
  refine F.helly _ (fun e => ?_) (fun a ha => hin_sub nd (G.sub c hc a (srt_mem.mp ha))) fun a ha b hb hab => ?_
  · have := srt_mem.mpr (G.me c hc)
    rw [e] at this
    cases this
  · have := G.ind c hc a (srt_mem.mp ha) b (srt_mem.mp hb) hab
    have : (!tieB L a b) = false := this
    simpa using this
theorem ans_of {L lot : List Cell} (nd : lot.Nodup) (hsub : ∀ c ∈ lot, c ∈ L) (F : Fine L lot) {l : List (Cell × Cell)} (hl : Lg (hweb L lot) l) {gs : List (List Cell)} (hgs : gs.Perm (lotsOf (hweb L lot) l)) :
    Ans L lot (srt (gs.map (st0 L))) (srt (knb (hweb L lot) l)) := by
  have ok := hweb_ok (L := L) nd
  obtain ⟨K, eK⟩ := knb_ok ok hl (F.full l hl)
  have G := grp_ok ok ok hl Grp.start
  have hlen : (srt (gs.map (st0 L))).length = (srt (knb (hweb L lot) l)).length := by
    unfold srt
    rw [List.length_mergeSort, List.length_mergeSort, eK, List.length_map, hgs.length_eq]
    unfold lotsOf
    rw [List.length_map]
  have hsv : ∀ c ∈ lot, ∃ s ∈ srt (gs.map (st0 L)), c ∈ fld L s := fun c hc => by
    obtain ⟨h, hh, hs⟩ := hin_below nd _ (Nat.le_refl _) hc
    obtain ⟨d, hd, hhd⟩ := G.cov h hh
    have hm : srt (gr (fun c => [c]) l d) ∈ lotsOf (hweb L lot) l := List.mem_map.mpr ⟨d, hd, rfl⟩
    have h0 := st0_mem (lot_groups nd F hl hm)
    obtain ⟨h1, h2⟩ := mem_com.mp h0
    refine ⟨_, srt_mem.mpr (List.mem_map.mpr ⟨_, hgs.mem_iff.mpr hm, rfl⟩), ?_⟩
    exact fld_sym (hsub c hc) (hs _ (h2 h (srt_mem.mpr hhd)))
  have hks : ∀ k ∈ srt (knb (hweb L lot) l), k ∈ lot := fun k hk => hin_sub nd (K.sub k (srt_mem.mp hk))
  have hap : ∀ a ∈ srt (knb (hweb L lot) l), ∀ b ∈ srt (knb (hweb L lot) l), a ≠ b → tieB L a b = false := fun a ha b hb hab => by
    have := K.nx a (srt_mem.mp ha) b (srt_mem.mp hb) hab
    have : (!tieB L a b) = true := this
    simpa using this
  have hka := srt_asc K.nd
  have hss : ∀ s ∈ srt (gs.map (st0 L)), s ∈ L := fun s hs => by
    obtain ⟨g, hg, rfl⟩ := List.mem_map.mp (srt_mem.mp hs)
    exact (mem_com.mp (st0_mem (lot_groups nd F hl (hgs.mem_iff.mp hg)))).1
  refine ⟨srt_asc ?_, hss, hsv, hka, hks, hap, hlen⟩
  -- the stalls are unlike
  have h1 : (srt (knb (hweb L lot) l)).length ≤ (dedup (srt (gs.map (st0 L)))).length := by
    refine apart_len hka.nodup hap fun k hk => ?_
    obtain ⟨s, hs, hc⟩ := hsv k (hks k hk)
    exact ⟨s, mem_dedup.mpr hs, fld_sym (hss s hs) hc⟩
  rw [← hlen] at h1
  have h2 : (srt (gs.map (st0 L))).Nodup := nodup_of_dedup h1
  exact (List.mergeSort_perm _ _).nodup_iff.mp h2
end Hd
set_option Elab.async false
set_option linter.all false
set_option maxRecDepth 100000
set_option maxHeartbeats 4000000
namespace Hd
open PySem PySem.Spec PyProof.Rows L2 G
theorem hin_len {L lot : List Cell} (nd : lot.Nodup) : (hin L lot).length ≤ lot.length := nodup_len (hin_asc nd).nodup fun c hc => hin_sub nd hc
def sp_answer_for : GSp := fun ds G Q => ∃ L lot : List Cell, ds = [rD L, rD lot] ∧ L.length ≤ 500 ∧ lot.length ≤ 500 ∧ lot.Nodup ∧ (∀ c ∈ lot, c ∈ L) ∧ Fine L lot ∧ ∀ S K G', Ans L lot S K → Sub G G' → Q (.tup [rD S, rD K]) G'
theorem p_answer_for (ds : List D) (Γ : Gp) (R : GK) (h : sp_answer_for ds Γ R) : t_answer_for sp_split_of sp_contrary sp_web_of sp_hard_in sp_common_stalls { nx := fun _ G' => R .non G', rt := R } (ds.map some ++ List.replicate (5 - ds.length) none) Γ := by
  obtain ⟨L, lot, rfl, hL, hl, nd, hsub, F, hQ⟩ := h
  have hhl := hin_len (L := L) nd
  have ok := hweb_ok (L := L) nd
  unfold t_answer_for
  simp
  refine ⟨L, lot, rfl, by omega, by omega, fun G1 s1 => ?_⟩
  refine ⟨L, hin L lot, rfl, by omega, by omega, hin_asc nd, fun G2 s2 => ?_⟩
  refine ⟨⟨hin L lot, tieB L⟩, rfl, by show (hin L lot).length ≤ 500; omega, hin_asc nd, fun G3 s3 => ?_⟩
  refine ⟨hweb L lot, rfl, ok, by show (hin L lot).length ≤ 500; omega, F.full, fun l gs G4 hlg hgs s4 => ?_⟩
  have hglen : gs.length ≤ 500 := by
    rw [hgs.length_eq]
    unfold lotsOf
    rw [List.length_map]
    exact Nat.le_trans fnw_len (by show (hin L lot).length ≤ 500; omega)
  simp
  refine lc_fm _ _ (fun d => (un rD d).map fun g => cD (st0 L g)) (by rw [List.length_map]; omega) (fun _ _ => trivial) (fun d hd G5 s5 Q5 h5 => ?_) fun p G5 hp s5 hp5 => ?_
  · rw [List.mem_map] at hd
    obtain ⟨g, hg, rfl⟩ := hd
    have h6 := fun G' s => h5 G' s
    rw [un_of rD_inj] at h6
    simp
    refine ⟨L, g, rfl, by omega, fun G6 s6 => ⟨_, rfl, _, ?_, h6 _ s6⟩⟩
    have h0 := lot_groups nd F hlg (hgs.mem_iff.mp hg)
    have es : st0 L g = (com L g).headD (0, 0) := rfl
    show atI ((com L g).map cD) 0 = some (cD (st0 L g))
    rw [es]
    cases e : com L g with
    | nil => exact absurd e h0
    | cons a r => exact atI0 _ _
  · rw [fm_map rD (fun g => cD (st0 L g)) _ _ fun g _ => by rw [un_of rD_inj]; rfl] at hp5
    have e : (gs.map fun g => cD (st0 L g)) = (gs.map (st0 L)).map cD := by rw [List.map_map]; rfl
    rw [e] at hp5
    refine rSort_lst hp5 fun q hq => ?_
    exact ⟨_, .inr ⟨q, rfl, gup_same⟩, _, Fg.refl, hQ _ _ _ (ans_of nd hsub F hlg hgs) ((((s1.trans s2).trans s3).trans s4).trans (s5.trans (Sub.new hq)))⟩
def sp_answer : GSp := fun ds G Q => ∃ L : List Cell, ds = [rD L] ∧ L.length ≤ 500 ∧ L.Nodup ∧ Fine L L ∧ ∀ S K G', Ans L L S K → Sub G G' → Q (.tup [rD S, rD K]) G'
theorem p_answer (ds : List D) (Γ : Gp) (R : GK) (h : sp_answer ds Γ R) : t_answer sp_answer_for { nx := fun _ G' => R .non G', rt := R } (ds.map some ++ List.replicate (1 - ds.length) none) Γ := by
  obtain ⟨L, rfl, hL, nd, F, hQ⟩ := h
  unfold t_answer
  simp
  exact ⟨L, L, rfl, hL, hL, nd, fun _ h => h, F, fun S K G1 hA s1 => ⟨_, Fg.refl, hQ S K _ hA s1⟩⟩
def sp_fewest : GSp := fun ds G Q => ∃ L lot : List Cell, ds = [rD L, rD lot] ∧ L.length ≤ 500 ∧ lot.length ≤ 500 ∧ lot.Nodup ∧ (∀ c ∈ lot, c ∈ L) ∧ Fine L lot ∧ ∀ S K G', Ans L lot S K → Sub G G' → Q (.int (S.length : Nat)) G'
theorem p_fewest (ds : List D) (Γ : Gp) (R : GK) (h : sp_fewest ds Γ R) : t_fewest sp_answer_for { nx := fun _ G' => R .non G', rt := R } (ds.map some ++ List.replicate (2 - ds.length) none) Γ := by
  obtain ⟨L, lot, rfl, hL, hl, nd, hsub, F, hQ⟩ := h
  unfold t_fewest
  simp
  refine ⟨L, lot, rfl, hL, hl, nd, hsub, F, fun S K G1 hA s1 => ⟨_, rfl, _, atI0 _ _, S.length, .inl ⟨_, rfl, by rw [List.length_map]⟩, _, Fg.refl, hQ S K _ hA s1⟩⟩
/-! the judges -/
theorem drk_nil {L lot S : List Cell} (h : ∀ c ∈ lot, ∃ s ∈ S, c ∈ fld L s) : drk L lot S = [] := by
  unfold drk
  rw [List.filter_eq_nil_iff]
  intro c hc
  have := mem_litl.mpr (h c hc)
  simpa using this
def sp_dark_fault : GSp := fun ds G Q => ∃ L lot S : List Cell, ds = [rD L, rD lot, rD S] ∧ L.length ≤ 500 ∧ lot.length ≤ 500 ∧ S.length ≤ 500 ∧ (∀ c ∈ lot, ∃ s ∈ S, c ∈ fld L s) ∧ ∀ G', Sub G G' → Q .non G'
theorem p_dark_fault (ds : List D) (Γ : Gp) (R : GK) (h : sp_dark_fault ds Γ R) : t_dark_fault sp_dark_in { nx := fun _ G' => R .non G', rt := R } (ds.map some ++ List.replicate (4 - ds.length) none) Γ := by
  obtain ⟨L, lot, S, rfl, hL, hl, hS, hsv, hQ⟩ := h
  unfold t_dark_fault
  simp
  refine ⟨L, lot, S, rfl, by omega, by omega, ?_, fun G1 s1 => ?_⟩
  · have := Nat.mul_le_mul hS (Nat.succ_le_succ hL)
    have e : L.length + 1 = L.length.succ := rfl
    rw [e]
    omega
  · rw [drk_nil hsv]
    refine ⟨.inl ⟨rfl, rfl⟩, ?_⟩
    simp [rD]
    exact ⟨_, Fg.refl, hQ _ s1⟩
theorem com_two {L : List Cell} {a b : Cell} (ha : a ∈ L) : com L [a, b] ≠ [] ↔ tieB L a b = true := by
  rw [tieB_iff]
  constructor
  · intro h
    obtain ⟨c, hc⟩ := List.exists_mem_of_ne_nil _ h
    have := (mem_com.mp hc).2
    exact ⟨c, this a (by simp), this b (by simp)⟩
  · rintro ⟨c, h1, h2⟩ e
    have : c ∈ com L [a, b] := mem_com.mpr ⟨fld_mem ha h1, fun s hs => by
      simp only [List.mem_cons, List.not_mem_nil, or_false] at hs
      rcases hs with rfl | rfl
      · exact h1
      · exact h2⟩
    rw [e] at this
    cases this
def sp_spots_fault : GSp := fun ds G Q => ∃ L lot K : List Cell, ds = [rD L, rD lot, rD K] ∧ L.length ≤ 500 ∧ lot.length ≤ 500 ∧ K.length ≤ 500 ∧ K.Nodup ∧ (∀ k ∈ K, k ∈ lot) ∧ (∀ k ∈ K, k ∈ L) ∧ (∀ a ∈ K, ∀ b ∈ K, a ≠ b → tieB L a b = false) ∧ ∀ G', Sub G G' → Q .non G'
theorem p_spots_fault (ds : List D) (Γ : Gp) (R : GK) (h : sp_spots_fault ds Γ R) : t_spots_fault sp_are_tied { nx := fun _ G' => R .non G', rt := R } (ds.map some ++ List.replicate (7 - ds.length) none) Γ := by
  obtain ⟨L, lot, K, rfl, hL, hl, hK, nd, hKl, hKL, hap, hQ⟩ := h
  unfold t_spots_fault
  simp
  refine ⟨_, rfl, ?_⟩
  refine for_of (fun i ρ G' => ∃ x3, ρ = [some (rD L), some (rD lot), some (rD K), x3, none, none, none] ∧ G.Sub Γ G') ⟨none, rfl, Sub.refl⟩ (fun _ _ _ _ => trivial) ?_ ?_
  · rintro Z i d ρ G1 ed ⟨x3, rfl, s1⟩ hZ _ _ _
    rw [List.getElem?_map] at ed
    cases es : K[i]? with
    | none => rw [es] at ed; cases ed
    | some k =>
      rw [es] at ed
      cases ed
      simp
      refine ⟨_, rfl, cDs_okey 7 _, ?_⟩
      have : cD k ∈ lot.map cD := cD_mem.mpr (hKl k (List.mem_of_getElem? es))
      simp [this]
      first | exact hZ _ _ ⟨_, rfl, s1⟩ | exact ⟨hKl k (List.mem_of_getElem? es), hZ _ _ ⟨_, rfl, s1⟩⟩ | trace_state
  · rintro ρ G1 ⟨x3, rfl, s1⟩
    simp
    refine ⟨_, rfl, ?_⟩
    refine for_of (fun i ρ G' => ∃ x4 x5 x6, ρ = [some (rD L), some (rD lot), some (rD K), x3, x4, x5, x6] ∧ G.Sub Γ G') ⟨none, none, none, rfl, s1⟩ (fun _ _ _ _ => trivial) ?_ ?_
    · rintro Z i d ρ G2 ed ⟨x4, x5, x6, rfl, s2⟩ hZ _ _ _
      rw [List.getElem?_mapIdx, List.getElem?_map] at ed
      cases es : K[i]? with
      | none => rw [es] at ed; cases ed
      | some a =>
        rw [es] at ed
        cases ed
        have e : ((i : Int) + 1) = ((i + 1 : Nat) : Int) := by omega
        simp
        refine ⟨_, rfl, ?_⟩
        rw [e, cut_from]
        refine for_of (fun j ρ G' => ∃ x6, ρ = [some (rD L), some (rD lot), some (rD K), x3, some (.int i), some (cD a), x6] ∧ G.Sub Γ G') ⟨_, rfl, s2⟩ (fun _ _ _ _ => trivial) ?_ ?_
        · rintro Y j d ρ G3 ed ⟨x6, rfl, s3⟩ hY _ _ _
          rw [← List.map_drop, List.getElem?_map] at ed
          cases et : (K.drop (i + 1))[j]? with
          | none => rw [et] at ed; cases ed
          | some b =>
            rw [et] at ed
            cases ed
            have hb : b ∈ K := List.mem_of_mem_drop (List.mem_of_getElem? et)
            have ha : a ∈ K := List.mem_of_getElem? es
            have hne : a ≠ b := by
              rw [List.getElem?_drop] at et
              intro e
              subst e
              have h1 := (List.getElem?_eq_some_iff.mp es)
              have h2 := (List.getElem?_eq_some_iff.mp et)
              obtain ⟨l1, e1⟩ := h1
              obtain ⟨l2, e2⟩ := h2
              exact List.pairwise_iff_getElem.mp nd i (i + 1 + j) l1 l2 (by omega) (e1.trans e2.symm)
            simp
            have : decide (com L [a, b] ≠ []) = false := decide_eq_false fun h => by
              have h1 := (com_two (hKL a ha)).mp h
              rw [hap a ha b hb hne] at h1
              cases h1
            exact ⟨L, a, b, rfl, by omega, fun G4 s4 => .inl ⟨by rw [this], hY _ _ ⟨_, rfl, s3.trans s4⟩⟩⟩
        · rintro ρ G3 ⟨x6, rfl, s3⟩
          exact hZ _ _ ⟨_, _, _, rfl, s3⟩
    · rintro ρ G2 ⟨x4, x5, x6, rfl, s2⟩
      simp
      exact ⟨_, Fg.refl, hQ _ s2⟩
def sp_judge_answer : GSp := fun ds G Q => ∃ L lot S K : List Cell, ds = [rD L, rD lot, .tup [rD S, rD K]] ∧ L.length ≤ 500 ∧ lot.length ≤ 500 ∧ S.length ≤ 500 ∧ (∀ c ∈ lot, c ∈ L) ∧ Ans L lot S K ∧ ∀ G', Sub G G' → Q .non G'
theorem p_judge_answer (ds : List D) (Γ : Gp) (R : GK) (h : sp_judge_answer ds Γ R) : t_judge_answer sp_is_lot_in sp_dark_fault sp_spots_fault { nx := fun _ G' => R .non G', rt := R } (ds.map some ++ List.replicate (6 - ds.length) none) Γ := by
  obtain ⟨L, lot, S, K, rfl, hL, hl, hS, hsub, A, hQ⟩ := h
  have hK : K.length ≤ 500 := by rw [← A.len]; exact hS
  have hKL : ∀ k ∈ K, k ∈ L := fun k hk => hsub k (A.ks k hk)
  unfold t_judge_answer
  have e1 : isiD "tuple" (D.tup [rD S, rD K]) = some true := rfl
  simp [e1]
  refine ⟨.inl ⟨rfl, rfl⟩, S, L, rfl, by omega, by omega, A.sa, A.ss, fun G1 s1 => ?_⟩
  simp
  refine ⟨K, L, rfl, by omega, by omega, A.ka, hKL, fun G2 s2 => ?_⟩
  simp
  refine ⟨L, lot, S, rfl, hL, hl, hS, A.sv, fun G3 s3 => ?_⟩
  refine .inl ⟨rfl, L, lot, K, rfl, hL, hl, hK, A.ka.nodup, A.ks, hKL, A.ap, fun G4 s4 => ?_⟩
  refine ⟨rfl, .inr ⟨rfl, S.length, .inl ⟨_, rfl, by rw [List.length_map]⟩, K.length, .inl ⟨_, rfl, by rw [List.length_map]⟩, .inl ⟨rfl, rfl⟩, .inl ⟨by rw [A.len], _, Fg.refl, hQ _ (((s1.trans s2).trans s3).trans s4)⟩⟩⟩
def sp_judge_stalls : GSp := fun ds G Q => ∃ L lot S : List Cell, ds = [rD L, rD lot, rD S] ∧ L.length ≤ 500 ∧ lot.length ≤ 500 ∧ S.length ≤ 500 ∧ Asc S ∧ (∀ s ∈ S, s ∈ L) ∧ (∀ c ∈ lot, ∃ s ∈ S, c ∈ fld L s) ∧ ∀ G', Sub G G' → Q .non G'
theorem p_judge_stalls (ds : List D) (Γ : Gp) (R : GK) (h : sp_judge_stalls ds Γ R) : t_judge_stalls sp_is_lot_in sp_dark_fault { nx := fun _ G' => R .non G', rt := R } (ds.map some ++ List.replicate (3 - ds.length) none) Γ := by
  obtain ⟨L, lot, S, rfl, hL, hl, hS, ha, hs, hsv, hQ⟩ := h
  unfold t_judge_stalls
  simp
  refine ⟨S, L, rfl, by omega, by omega, ha, hs, fun G1 s1 => .inr ⟨rfl, L, lot, S, rfl, hL, hl, hS, hsv, fun G2 s2 => ⟨_, Fg.refl, hQ _ (s1.trans s2)⟩⟩⟩
def sp_judge_spots : GSp := fun ds G Q => ∃ L lot K : List Cell, ds = [rD L, rD lot, rD K] ∧ L.length ≤ 500 ∧ lot.length ≤ 500 ∧ K.length ≤ 500 ∧ Asc K ∧ (∀ k ∈ K, k ∈ lot) ∧ (∀ k ∈ K, k ∈ L) ∧ (∀ a ∈ K, ∀ b ∈ K, a ≠ b → tieB L a b = false) ∧ ∀ G', Sub G G' → Q .non G'
theorem p_judge_spots (ds : List D) (Γ : Gp) (R : GK) (h : sp_judge_spots ds Γ R) : t_judge_spots sp_is_lot_in sp_spots_fault { nx := fun _ G' => R .non G', rt := R } (ds.map some ++ List.replicate (3 - ds.length) none) Γ := by
  obtain ⟨L, lot, K, rfl, hL, hl, hK, ha, hs, hKL, hap, hQ⟩ := h
  unfold t_judge_spots
  simp
  refine ⟨K, L, rfl, by omega, by omega, ha, hKL, fun G1 s1 => .inr ⟨rfl, L, lot, K, rfl, hL, hl, hK, ha.nodup, hs, hKL, hap, fun G2 s2 => ⟨_, Fg.refl, hQ _ (s1.trans s2)⟩⟩⟩
end Hd
set_option Elab.async false
set_option linter.all false
set_option maxRecDepth 100000
set_option maxHeartbeats 4000000
namespace Hd
open PySem PySem.Spec PyProof.Rows L2 G
/-! ### ways -/
def sgn (a b : Cell) : List Dr :=
  if b.1 > a.1 then (if b.2 > a.2 then [.r, .u] else if b.2 < a.2 then [.d, .r] else [.r])
  else if b.1 < a.1 then (if b.2 > a.2 then [.l, .u] else if b.2 < a.2 then [.d, .l] else [.l])
  else (if b.2 > a.2 then [.u] else if b.2 < a.2 then [.d] else [])
def sp_signs_between : GSp := fun ds G Q => ∃ a b : Cell, ds = [cD a, cD b] ∧ ∀ G', Sub G G' → Q (.str (stS (sgn a b))) G'
theorem ms2 {α : Type} (le : α → α → Bool) (a b : α) : [a, b].mergeSort le = if le a b = true then [a, b] else [b, a] := by
  rw [List.mergeSort]
  simp [List.MergeSort.Internal.splitInTwo, List.merge]
theorem sortD_nil : sortD [] = [] := by unfold sortD; rw [List.mergeSort_nil]
theorem sortD_one (a : D) : sortD [a] = [a] := by unfold sortD; rw [List.mergeSort_singleton]
theorem sortD_yes {a b : D} (h : PySem.W.dataLe false toP a b = true) : sortD [a, b] = [a, b] := by unfold sortD; rw [ms2, if_pos h]
theorem sortD_no {a b : D} (h : PySem.W.dataLe false toP a b = false) : sortD [a, b] = [b, a] := by unfold sortD; rw [ms2, if_neg (by rw [h]; simp)]
theorem leaf {Γ : Gp} {R : GK} (s1 s2 : Str) (ss : List Str) (z : Str) (h1 : s1.length + s2.length ≤ sizeLine) (h2 : (s1 ++ s2).cps.size ≤ 1000) (h3 : sortD (strD (s1 ++ s2)) = ss.map D.str) (h4 : (ss.map (fun x => x.length)).sum + ss.length * (Str.ofString "").length ≤ 16777216) (h5 : Txt.join (Str.ofString "") ss = z)
    (k : ∀ G', G.Sub Γ G' → R (.str z) G') : s1.length + s2.length ≤ sizeLine ∧ (s1 ++ s2).cps.size ≤ 1000 ∧ ∀ (p : Addr), Γ p = none → ∃ x, sortD (strD (s1 ++ s2)) = List.map D.str x ∧ (List.map (fun x => x.length) x).sum + x.length * (Str.ofString "").length ≤ 16777216 ∧
      ∃ G2, Fg G2 (gup Γ p (GO.lst (sortD (strD (s1 ++ s2))))) ∧ R (D.str (Txt.join (Str.ofString "") x)) G2 :=
  ⟨h1, h2, fun p hp => ⟨ss, h3, h4, _, Fg.refl, by rw [h5]; exact k _ (Sub.new hp)⟩⟩
theorem p_signs_between (ds : List D) (Γ : Gp) (R : GK) (h : sp_signs_between ds Γ R) : t_signs_between { nx := fun _ G' => R .non G', rt := R } (ds.map some ++ List.replicate (7 - ds.length) none) Γ := by
  obtain ⟨⟨x, y⟩, ⟨a, b⟩, rfl, hQ⟩ := h
  unfold t_signs_between
  simp
  by_cases h1 : x < a
  · rw [if_pos h1]
    by_cases h3 : y < b
    · rw [if_pos h3]
      exact leaf _ _ ["r", "u"] _ (by decide +kernel) (by decide +kernel) (sortD_yes (by decide +kernel)) (by decide +kernel) (by unfold sgn; simp [h1, h3]; decide +kernel) hQ
    · rw [if_neg h3]
      by_cases h4 : b < y
      · rw [if_pos h4]
        exact leaf _ _ ["d", "r"] _ (by decide +kernel) (by decide +kernel) (sortD_no (by decide +kernel)) (by decide +kernel) (by unfold sgn; simp [h1, h3, h4]; decide +kernel) hQ
      · rw [if_neg h4]
        exact leaf _ _ ["r"] _ (by decide +kernel) (by decide +kernel) (sortD_one _) (by decide +kernel) (by unfold sgn; simp [h1, h3, h4]; decide +kernel) hQ
  · rw [if_neg h1]
    by_cases h2 : a < x
    · rw [if_pos h2]
      by_cases h3 : y < b
      · rw [if_pos h3]
        exact leaf _ _ ["l", "u"] _ (by decide +kernel) (by decide +kernel) (sortD_yes (by decide +kernel)) (by decide +kernel) (by unfold sgn; simp [h1, h2, h3]; decide +kernel) hQ
      · rw [if_neg h3]
        by_cases h4 : b < y
        · rw [if_pos h4]
          exact leaf _ _ ["d", "l"] _ (by decide +kernel) (by decide +kernel) (sortD_no (by decide +kernel)) (by decide +kernel) (by unfold sgn; simp [h1, h2, h3, h4]; decide +kernel) hQ
        · rw [if_neg h4]
          exact leaf _ _ ["l"] _ (by decide +kernel) (by decide +kernel) (sortD_one _) (by decide +kernel) (by unfold sgn; simp [h1, h2, h3, h4]; decide +kernel) hQ
    · rw [if_neg h2]
      by_cases h3 : y < b
      · rw [if_pos h3]
        exact leaf _ _ ["u"] _ (by decide +kernel) (by decide +kernel) (sortD_one _) (by decide +kernel) (by unfold sgn; simp [h1, h2, h3]; decide +kernel) hQ
      · rw [if_neg h3]
        by_cases h4 : b < y
        · rw [if_pos h4]
          exact leaf _ _ ["d"] _ (by decide +kernel) (by decide +kernel) (sortD_one _) (by decide +kernel) (by unfold sgn; simp [h1, h2, h3, h4]; decide +kernel) hQ
        · rw [if_neg h4]
          exact leaf _ _ [] _ (by decide +kernel) (by decide +kernel) sortD_nil (by decide +kernel) (by unfold sgn; simp [h1, h2, h3, h4]; decide +kernel) hQ
end Hd
set_option Elab.async false
set_option linter.all false
set_option maxRecDepth 100000
set_option maxHeartbeats 4000000
namespace Hd
open PySem PySem.Spec PyProof.Rows L2 G
/-- how many ways of n steps lead from a cell to the end -/
def wn (L : List Cell) (sg : List Dr) (e : Cell) : Nat → Cell → Int
  | 0, c => if c = e ∧ c ∈ L then 1 else 0
  | n + 1, c => if c ∈ L then (sg.map fun s => wn L sg e n (stp c s)).sum else 0
theorem wn_nonneg {L : List Cell} {sg : List Dr} {e : Cell} : ∀ (n : Nat) (c : Cell), 0 ≤ wn L sg e n c
  | 0, c => by unfold wn; split <;> omega
  | n + 1, c => by
    unfold wn
    split
    · have : ∀ l : List Dr, 0 ≤ (l.map fun s => wn L sg e n (stp c s)).sum := by
        intro l
        induction l with
        | nil => simp
        | cons s l ih =>
          rw [List.map_cons, List.sum_cons]
          have := wn_nonneg (L := L) (sg := sg) (e := e) n (stp c s)
          omega
      exact this sg
    · omega
theorem wn_out {L : List Cell} {sg : List Dr} {e : Cell} {c : Cell} (h : c ∉ L) : ∀ n, wn L sg e n c = 0
  | 0 => by unfold wn; rw [if_neg fun q => h q.2]
  | n + 1 => by unfold wn; rw [if_neg h]
theorem sum_ne {f : Dr → Int} : ∀ {l : List Dr}, (l.map f).sum ≠ 0 → ∃ s ∈ l, f s ≠ 0
  | [], h => absurd rfl h
  | s :: l, h => by
    by_cases hs : f s = 0
    · rw [List.map_cons, List.sum_cons, hs, Int.zero_add] at h
      obtain ⟨t, ht, hf⟩ := sum_ne h
      exact ⟨t, List.mem_cons_of_mem _ ht, hf⟩
    · exact ⟨s, List.mem_cons_self, hs⟩
structure Cone (sg : List Dr) (e c : Cell) : Prop where
  r : Dr.r ∈ sg → c.1 ≤ e.1
  l : Dr.l ∈ sg → e.1 ≤ c.1
  x : Dr.r ∉ sg → Dr.l ∉ sg → c.1 = e.1
  u : Dr.u ∈ sg → c.2 ≤ e.2
  d : Dr.d ∈ sg → e.2 ≤ c.2
  y : Dr.u ∉ sg → Dr.d ∉ sg → c.2 = e.2
theorem wn_cone {L : List Cell} {sg : List Dr} {e : Cell} (h1 : ¬ (Dr.r ∈ sg ∧ Dr.l ∈ sg)) (h2 : ¬ (Dr.u ∈ sg ∧ Dr.d ∈ sg)) : ∀ (n : Nat) {c : Cell}, wn L sg e n c ≠ 0 → Cone sg e c
  | 0, c, h => by
    unfold wn at h
    split at h
    · rename_i q
      rw [q.1]
      exact ⟨fun _ => Int.le_refl _, fun _ => Int.le_refl _, fun _ _ => rfl, fun _ => Int.le_refl _, fun _ => Int.le_refl _, fun _ _ => rfl⟩
    · exact absurd rfl h
  | n + 1, c, h => by
    unfold wn at h
    split at h
    · obtain ⟨s, hs, hf⟩ := sum_ne h
      have C := wn_cone h1 h2 n hf
      cases s
      · have a1 := C.r hs
        have a2 : Dr.l ∉ sg := fun q => h1 ⟨hs, q⟩
        simp only [stp, Dr.mv] at a1
        refine ⟨fun _ => by omega, fun q => absurd q a2, fun q => absurd hs q, fun q => by have := C.u q; simp only [stp, Dr.mv] at this; omega, fun q => by have := C.d q; simp only [stp, Dr.mv] at this; omega, fun q1 q2 => by have := C.y q1 q2; simp only [stp, Dr.mv] at this; omega⟩
      · have a1 := C.l hs
        have a2 : Dr.r ∉ sg := fun q => h1 ⟨q, hs⟩
        simp only [stp, Dr.mv] at a1
        refine ⟨fun q => absurd q a2, fun _ => by omega, fun _ q => absurd hs q, fun q => by have := C.u q; simp only [stp, Dr.mv] at this; omega, fun q => by have := C.d q; simp only [stp, Dr.mv] at this; omega, fun q1 q2 => by have := C.y q1 q2; simp only [stp, Dr.mv] at this; omega⟩
      · have a1 := C.u hs
        have a2 : Dr.d ∉ sg := fun q => h2 ⟨hs, q⟩
        simp only [stp, Dr.mv] at a1
        refine ⟨fun q => by have := C.r q; simp only [stp, Dr.mv] at this; omega, fun q => by have := C.l q; simp only [stp, Dr.mv] at this; omega, fun q1 q2 => by have := C.x q1 q2; simp only [stp, Dr.mv] at this; omega, fun _ => by omega, fun q => absurd q a2, fun q => absurd hs q⟩
      · have a1 := C.d hs
        have a2 : Dr.u ∉ sg := fun q => h2 ⟨q, hs⟩
        simp only [stp, Dr.mv] at a1
        refine ⟨fun q => by have := C.r q; simp only [stp, Dr.mv] at this; omega, fun q => by have := C.l q; simp only [stp, Dr.mv] at this; omega, fun q1 q2 => by have := C.x q1 q2; simp only [stp, Dr.mv] at this; omega, fun q => absurd q a2, fun _ => by omega, fun _ q => absurd hs q⟩
    · exact absurd rfl h
def InBox (a e c : Cell) : Prop := ((a.1 ≤ c.1 ∧ c.1 ≤ e.1) ∨ (e.1 ≤ c.1 ∧ c.1 ≤ a.1)) ∧ ((a.2 ≤ c.2 ∧ c.2 ≤ e.2) ∨ (e.2 ≤ c.2 ∧ c.2 ≤ a.2))
instance (a e c : Cell) : Decidable (InBox a e c) := by unfold InBox; exact inferInstance
def far (e c : Cell) : Nat := (e.1 - c.1).natAbs + (e.2 - c.2).natAbs
theorem sgn_mem (a e : Cell) : (Dr.r ∈ sgn a e ↔ a.1 < e.1) ∧ (Dr.l ∈ sgn a e ↔ e.1 < a.1) ∧ (Dr.u ∈ sgn a e ↔ a.2 < e.2) ∧ (Dr.d ∈ sgn a e ↔ e.2 < a.2) := by
  unfold sgn
  by_cases h1 : e.1 > a.1
  · by_cases h2 : e.2 > a.2
    · simp [h1, h2]; omega
    · by_cases h3 : e.2 < a.2
      · simp [h1, h2, h3]; omega
      · simp [h1, h2, h3]; omega
  · by_cases h4 : e.1 < a.1
    · by_cases h2 : e.2 > a.2
      · simp [h1, h2, h4]; omega
      · by_cases h3 : e.2 < a.2
        · simp [h1, h2, h3, h4]
        · simp [h1, h2, h3, h4]
    · by_cases h2 : e.2 > a.2
      · simp [h1, h2, h4]; omega
      · by_cases h3 : e.2 < a.2
        · simp [h1, h2, h3, h4]
        · simp [h1, h2, h3, h4]
theorem sgn_len (a e : Cell) : (sgn a e).length ≤ 2 := by
  unfold sgn
  by_cases h1 : e.1 > a.1
  · by_cases h2 : e.2 > a.2
    · simp [h1, h2]
    · by_cases h3 : e.2 < a.2 <;> simp [h1, h2, h3]
  · by_cases h4 : e.1 < a.1
    · by_cases h2 : e.2 > a.2
      · simp [h1, h2, h4]
      · by_cases h3 : e.2 < a.2 <;> simp [h1, h2, h3, h4]
    · by_cases h2 : e.2 > a.2
      · simp [h1, h2, h4]
      · by_cases h3 : e.2 < a.2 <;> simp [h1, h2, h3, h4]
/-- one step on within the box -/
theorem wn_late {L : List Cell} {a e c : Cell} (hb : InBox a e c) {s : Dr} (hs : s ∈ sgn a e) {n : Nat} (hn : far e c = n + 1) : (InBox a e (stp c s) → far e (stp c s) = n) ∧ (¬ InBox a e (stp c s) → wn L (sgn a e) e n (stp c s) = 0) := by
  obtain ⟨m1, m2, m3, m4⟩ := sgn_mem a e
  constructor
  · intro h
    unfold InBox at hb h
    unfold far at hn ⊢
    cases s
    · have := m1.mp hs; simp only [stp, Dr.mv] at h ⊢; omega
    · have := m2.mp hs; simp only [stp, Dr.mv] at h ⊢; omega
    · have := m3.mp hs; simp only [stp, Dr.mv] at h ⊢; omega
    · have := m4.mp hs; simp only [stp, Dr.mv] at h ⊢; omega
  · intro h
    refine Classical.byContradiction fun q => h ?_
    have C := wn_cone (by rw [m1, m2]; omega) (by rw [m3, m4]; omega) n q
    unfold InBox at hb ⊢
    cases s
    · have h1 := m1.mp hs; have h2 := C.r hs; simp only [stp, Dr.mv] at h2 ⊢; omega
    · have h1 := m2.mp hs; have h2 := C.l hs; simp only [stp, Dr.mv] at h2 ⊢; omega
    · have h1 := m3.mp hs; have h2 := C.u hs; simp only [stp, Dr.mv] at h2 ⊢; omega
    · have h1 := m4.mp hs; have h2 := C.d hs; simp only [stp, Dr.mv] at h2 ⊢; omega
def rg (lo hi : Int) : List Int := (List.range (hi - lo).toNat).map fun i => lo + (i : Nat)
theorem mem_rg {lo hi x : Int} : x ∈ rg lo hi ↔ lo ≤ x ∧ x < hi := by
  unfold rg
  rw [List.mem_map]
  constructor
  · rintro ⟨i, hi, rfl⟩
    rw [List.mem_range] at hi
    omega
  · rintro ⟨h1, h2⟩
    exact ⟨(x - lo).toNat, List.mem_range.mpr (by omega), by omega⟩
theorem rngD_rg (lo hi : Int) : rngD lo (hi - lo).toNat = (rg lo hi).map D.int := by unfold rngD rg; rw [List.map_map]; rfl
theorem rg_len (lo hi : Int) : (rg lo hi).length = (hi - lo).toNat := by unfold rg; rw [List.length_map, List.length_range]
def nearD (e c : Cell) : D := .tup [.int (far e c : Nat), cD c]
theorem nearD_inj {e : Cell} {a b : Cell} (h : nearD e a = nearD e b) : a = b := by
  unfold nearD at h
  simp only [D.tup.injEq, List.cons.injEq, and_true] at h
  exact cD_inj h.2
def boxl (a e : Cell) : List Cell := (rg (min a.1 e.1) (max a.1 e.1 + 1)).flatMap fun p => (rg (min a.2 e.2) (max a.2 e.2 + 1)).map fun q => (p, q)
theorem mem_boxl {a e c : Cell} : c ∈ boxl a e ↔ InBox a e c := by
  unfold boxl InBox
  rw [List.mem_flatMap]
  constructor
  · rintro ⟨p, hp, h⟩
    rw [List.mem_map] at h
    obtain ⟨q, hq, rfl⟩ := h
    rw [mem_rg] at hp hq
    simp only
    omega
  · intro h
    refine ⟨c.1, mem_rg.mpr (by omega), List.mem_map.mpr ⟨c.2, mem_rg.mpr (by omega), rfl⟩⟩
def nlt (e a b : Cell) : Prop := far e a < far e b ∨ (far e a = far e b ∧ clt a b)
instance (e a b : Cell) : Decidable (nlt e a b) := by unfold nlt; exact inferInstance
theorem dataLt_near {e a b : Cell} : PySem.W.dataLt (toP (nearD e a)) (toP (nearD e b)) = decide (nlt e a b) := by
  show PySem.W.dataLt (.tuple [.int (far e a : Nat), toP (cD a)]) (.tuple [.int (far e b : Nat), toP (cD b)]) = _
  rw [PySem.W.dataLt_pair (by simp [PySem.W.alike]) (alike_cells _ _), PySem.W.dataLt_int, eqv_cells, dataLt_cells]
  unfold nlt
  simp only [PyData.eqv, beq_iff_eq]
  by_cases h1 : far e a = far e b
  · by_cases h2 : a = b
    · simp [h2, clt_irrefl]
    · simp [h1, h2]
  · have h3 : ¬ ((far e a : Nat) : Int) = ((far e b : Nat) : Int) := by omega
    simp [h1, h3]
theorem nlt_trans {e a b c : Cell} (h1 : ¬ nlt e b a) (h2 : ¬ nlt e c b) : ¬ nlt e c a := by
  unfold nlt clt at *
  omega
theorem nears_okey (e : Cell) : ∀ l : List Cell, okeyAll 8 (l.map (nearD e)) = true
  | [] => rfl
  | c :: l => by
    rw [List.map_cons, okeyAll, nears_okey e l]
    rfl
theorem canSort_near (e : Cell) (l : List Cell) : CanSort (l.map (nearD e)) := by
  refine ⟨nears_okey e l, fun d hd d' hd' => ?_, .inl fun d hd => ?_⟩
  · simp only [List.map_map, List.mem_map, Function.comp] at hd hd'
    obtain ⟨a, _, rfl⟩ := hd
    obtain ⟨b, _, rfl⟩ := hd'
    show PySem.W.alike (.tuple [.int _, toP (cD a)]) (.tuple [.int _, toP (cD b)]) = true
    simp only [PySem.W.alike, PySem.W.alikeAll, alike_cells]
    rfl
  · simp only [List.map_map, List.mem_map, Function.comp] at hd
    obtain ⟨a, _, rfl⟩ := hd
    exact ⟨_, _, rfl⟩
/-- the near cells, sorted -/
def nsrt (e : Cell) (l : List Cell) : List Cell := l.mergeSort fun a b => !decide (nlt e b a)
theorem sortD_near (e : Cell) (l : List Cell) : sortD (l.map (nearD e)) = (nsrt e l).map (nearD e) := by
  unfold sortD nsrt
  symm
  refine List.map_mergeSort (f := nearD e) fun a _ b _ => ?_
  show _ = (!PySem.W.dataLt (toP (nearD e b)) (toP (nearD e a)))
  rw [dataLt_near]
theorem nsrt_mem {e c : Cell} {l : List Cell} : c ∈ nsrt e l ↔ c ∈ l := (List.mergeSort_perm l _).mem_iff
theorem nsrt_pw (e : Cell) (l : List Cell) : (nsrt e l).Pairwise fun a b => far e a ≤ far e b := by
  have : (nsrt e l).Pairwise fun a b => (!decide (nlt e b a)) = true := by
    refine List.pairwise_mergeSort (fun a b c h1 h2 => ?_) (fun a b => ?_) l
    · simp only [Bool.not_eq_true', decide_eq_false_iff_not] at *
      exact nlt_trans h1 h2
    · by_cases h : nlt e b a
      · have : ¬ nlt e a b := by unfold nlt clt at *; omega
        simp [h, this]
      · simp [h]
  refine this.imp fun {a b} h => ?_
  simp only [Bool.not_eq_true', decide_eq_false_iff_not] at h
  unfold nlt at h
  omega
theorem sg_inj {x y : Dr} (h : x.sg = y.sg) : x = y := by
  cases x <;> cases y <;> first | rfl | (exact absurd h (by decide))
theorem sgD_inj {x y : Dr} (h : D.str x.sg = D.str y.sg) : x = y := sg_inj (D.str.inj h)
def sp_numbers_to : GSp := fun ds G Q => ∃ (L : List Cell) (a e : Cell), ds = [rD L, cD a, cD e] ∧ L.length ≤ 500 ∧ (a.1.natAbs ≤ 200 ∧ a.2.natAbs ≤ 200 ∧ e.1.natAbs ≤ 200 ∧ e.2.natAbs ≤ 200) ∧
  ∀ t G' kvs, G t = none → Sub G G' → G' t = some (.dct kvs) → (∀ c, dget kvs (cD c) = if c ∈ L ∧ InBox a e c then some (.int (wn L (sgn a e) e (far e c) c)) else none) → Q (.ref t) G'
theorem p_numbers_to (ds : List D) (Γ : Gp) (R : GK) (h : sp_numbers_to ds Γ R) : t_numbers_to sp_signs_between sp_moves { nx := fun _ G' => R .non G', rt := R } (ds.map some ++ List.replicate (19 - ds.length) none) Γ := by
  obtain ⟨L, a, e, rfl, hL, ⟨z1, z2, z3, z4⟩, hQ⟩ := h
  unfold t_numbers_to
  simp
  refine ⟨a, e, rfl, fun G1 s1 => ?_⟩
  refine ⟨rfl, fun mv hmv => ?_⟩
  simp [rD]
  refine dset_fm _ true 6 (by simp) (by omega) (by simp) fun inn G2 hin s2 hin2 => ?_
  have s02 : G.Sub Γ G2 := s1.trans ((Sub.new hmv).trans s2)
  have mv2 : G2 mv = some (.dks mvs) := s2 _ _ gup_same
  intro nr hnr
  have m1 : (if e.1 < a.1 then e.1 else a.1) = min a.1 e.1 := by omega
  have m2 : (if a.1 < e.1 then e.1 else a.1) = max a.1 e.1 := by omega
  have m3 : (if e.2 < a.2 then e.2 else a.2) = min a.2 e.2 := by omega
  have m4 : (if a.2 < e.2 then e.2 else a.2) = max a.2 e.2 := by omega
  rw [m1, m2, rngD_rg]
  refine ⟨by omega, ?_⟩
  have hrow : ∀ p : Int, ((rg (min a.2 e.2) (max a.2 e.2 + 1)).map fun q => (p, q)).length ≤ 401 := fun p => by
    rw [List.length_map, rg_len]; omega
  have hcols : (rg (min a.1 e.1) (max a.1 e.1 + 1)).length ≤ 401 := by rw [rg_len]; omega
  have hfl : ∀ i, (((rg (min a.1 e.1) (max a.1 e.1 + 1)).take i).flatMap fun p => (rg (min a.2 e.2) (max a.2 e.2 + 1)).map fun q => (p, q)).length ≤ 401 * 401 := fun i => by
    refine Nat.le_trans (flat_len fun p _ => hrow p) ?_
    exact Nat.mul_le_mul_right _ (Nat.le_trans (List.length_take_le' ..) hcols)
  refine for_of (fun i ρ G' => ∃ x12 x13, ρ = [some (D.tup (L.map cD)), some (cD a), some (cD e), some (D.str (stS (sgn a e))), some (D.ref mv), some (D.ref inn), none, some (D.int a.1), some (D.int a.2), some (D.int e.1), some (D.int e.2), some (D.ref nr), x12, x13, none, none, none, none, none] ∧ G.Sub G2 G' ∧
      G' nr = some (.lst ((((rg (min a.1 e.1) (max a.1 e.1 + 1)).take i).flatMap fun p => (rg (min a.2 e.2) (max a.2 e.2 + 1)).map fun q => (p, q)).map (nearD e))))
    ⟨none, none, rfl, Sub.new hnr, by rw [gup_same]; rfl⟩ (fun _ _ _ _ => trivial) ?_ ?_
  · rintro Z i d ρ G3 ed ⟨x12, x13, rfl, s3, nr3⟩ hZ _ _ _
    rw [List.getElem?_map] at ed
    cases es : (rg (min a.1 e.1) (max a.1 e.1 + 1))[i]? with
    | none => rw [es] at ed; cases ed
    | some p =>
      rw [es] at ed
      cases ed
      have e5 : (rg (min a.1 e.1) (max a.1 e.1 + 1)).take (i + 1) = (rg (min a.1 e.1) (max a.1 e.1 + 1)).take i ++ [p] := by rw [List.take_succ, es]; rfl
      simp [nr3]
      rw [m3, m4, rngD_rg]
      refine ⟨by omega, ?_⟩
      refine lc_fm _ _ (fun d => match d with | .int q => some (nearD e (p, q)) | _ => none) (by rw [List.length_map, rg_len]; omega) (fun _ _ => trivial) (fun d hd G4 s4 Q4 h4 => ?_) fun t G4 ht s4 ht4 => ?_
      · rw [List.mem_map] at hd
        obtain ⟨q, _, rfl⟩ := hd
        have h5 := h4 G4 Sub.refl
        have en : D.tup [.int ((if e.1 - p < 0 then -(e.1 - p) else e.1 - p) + if e.2 - q < 0 then -(e.2 - q) else e.2 - q), cD (p, q)] = nearD e (p, q) := by
          unfold nearD far
          congr 2
          congr 1
          simp only
          omega
        simp
        rw [en]
        exact h5
      · have ef : ((rg (min a.2 e.2) (max a.2 e.2 + 1)).map D.int).filterMap (fun d => match d with | .int q => some (nearD e (p, q)) | _ => none) = ((rg (min a.2 e.2) (max a.2 e.2 + 1)).map fun q => (p, q)).map (nearD e) := by
          rw [List.filterMap_map, List.map_map]
          exact fm_some fun q _ => rfl
        rw [ef] at ht4
        have nr4 := s4 _ _ nr3
        refine ⟨t, rfl, _, nr4, _, ht4, ?_, ?_⟩
        · rw [List.length_map, List.length_map, sizeLine_eq]
          have := hfl i
          have := hrow p
          omega
        · refine hZ _ _ ⟨_, _, rfl, Sub.upd (s3.trans s4) hnr, ?_⟩
          rw [gup_same, e5, List.flatMap_append, List.map_append]
          simp
  · rintro ρ G3 ⟨x12, x13, rfl, s3, nr3⟩
    rw [List.length_map, List.take_length] at nr3
    have nr3 : G3 nr = some (.lst ((boxl a e).map (nearD e))) := nr3
    simp
    intro m hm
    have cl := nsrt_pw e (boxl a e)
    have cm : ∀ c, c ∈ nsrt e (boxl a e) ↔ InBox a e c := fun c => nsrt_mem.trans mem_boxl
    have hcl : (nsrt e (boxl a e)).length ≤ 401 * 401 := by
      unfold nsrt
      rw [List.length_mergeSort]
      exact Nat.le_trans (flat_len fun p _ => hrow p) (Nat.mul_le_mul_right _ hcols)
    have hnm : nr ≠ m := by rintro rfl; rw [nr3] at hm; cases hm
    refine ⟨_, canSort_near e _, ⟨nr, rfl, .inl ((gup_ne hnm).trans nr3)⟩, fun q hq => ?_⟩
    rw [sortD_near]
    have hqm : q ≠ m := by rintro rfl; rw [gup_same] at hq; cases hq
    have hqn : G3 q = none := by rwa [gup_ne hqm] at hq
    refine ⟨q, rfl, _, gup_same, ?_⟩
    have hmn : Γ m = none := by
      cases h : Γ m with
      | none => rfl
      | some u => rw [s3 _ _ (s02 _ _ h)] at hm; cases hm
    generalize hC : nsrt e (boxl a e) = C at cl cm hcl
    generalize hG4 : gup (gup G3 m (.dct [])) q (.lst (C.map (nearD e))) = G4
    have s4 : G.Sub G3 G4 := by rw [← hG4]; exact (Sub.new hm).trans (Sub.new hq)
    have q4 : G4 q = some (.lst (C.map (nearD e))) := by rw [← hG4, gup_same]
    have m4' : G4 m = some (.dct []) := by rw [← hG4, gup_ne (Ne.symm hqm), gup_same]
    have mv4 := s4 _ _ (s3 _ _ mv2)
    have inn4 := s4 _ _ (s3 _ _ hin2)
    have hqG : ∀ G', G.Sub G3 G' → True := fun _ _ => trivial
    refine for_of (fun i ρ G' => ∃ x6 x12 x13 x15 x16 x17 x18, ρ = [some (D.tup (L.map cD)), some (cD a), some (cD e), some (D.str (stS (sgn a e))), some (D.ref mv), some (D.ref inn), x6, some (D.int a.1), some (D.int a.2), some (D.int e.1), some (D.int e.2), some (D.ref nr), x12, x13, some (D.ref m), x15, x16, x17, x18] ∧ G.Sub G3 G' ∧ G' q = some (.lst (C.map (nearD e))) ∧
        ∃ kvs, G' m = some (.dct kvs) ∧ kvs.length ≤ i ∧ ∀ c, dget kvs (cD c) = if c ∈ L ∧ c ∈ C.take i then some (.int (wn L (sgn a e) e (far e c) c)) else none)
      ⟨none, x12, x13, none, none, none, none, rfl, s4, q4, [], m4', Nat.le_refl _, fun c => by simp [dget_nil]⟩ (fun i ρ G' ⟨_, _, _, _, _, _, _, _, _, s, _⟩ => s) ?_ ?_
    · rintro Z i d ρ G5 ed ⟨x6, x12, x13, x15, x16, x17, x18, rfl, s5, q5, kvs, m5, hkl, hk⟩ hZ _ _ _
      rw [List.getElem?_map] at ed
      cases es : C[i]? with
      | none => rw [es] at ed; cases ed
      | some c =>
        rw [es] at ed
        cases ed
        have e5 : C.take (i + 1) = C.take i ++ [c] := by rw [List.take_succ, es]; rfl
        have hlt := (List.getElem?_eq_some_iff.mp es).1
        have hcb : InBox a e c := (cm c).mp (List.mem_of_getElem? es)
        have inn5 := s5 _ _ (s3 _ _ hin2)
        have mv5 := s5 _ _ (s3 _ _ mv2)
        simp [nearD, inn5]
        by_cases hcL : c ∈ L
        · rw [if_pos (by simpa [mem_dedup] using hcL)]
          rw [strD_stS]
          refine lc_fm _ _ (fun d => (un (fun x : Dr => D.str x.sg) d).map fun s => cD (stp c s)) ?_ (fun _ _ => trivial) (fun d hd G6 s6 Q6 h6 => ?_) fun t G6 ht s6 ht6 => ?_
          · rw [List.length_map]
            have := sgn_len a e
            omega
          · rw [List.mem_map] at hd
            obtain ⟨x, _, rfl⟩ := hd
            have h7 := h6 G6 Sub.refl
            rw [un_of sgD_inj] at h7
            simp [s6 _ _ mv5, sget_mv]
            exact h7
          · rw [fm_map (fun x : Dr => D.str x.sg) (fun s => cD (stp c s)) _ _ fun x _ => by rw [un_of sgD_inj]; rfl] at ht6
            have m6 := s6 _ _ m5
            have hput : ∀ x12 x13 x16 x17 x18 G7, G.Sub G6 G7 → G7 m = some (.dct kvs) → Z.nx [some (D.tup (L.map cD)), some (cD a), some (cD e), some (D.str (stS (sgn a e))), some (D.ref mv), some (D.ref inn), some (cD c), some (D.int a.1), some (D.int a.2), some (D.int e.1), some (D.int e.2), some (D.ref nr), x12, x13, some (D.ref m), some (D.int (far e c : Nat)), x16, x17, x18] (gup G7 m (.dct (dput kvs (cD c) (.int (wn L (sgn a e) e (far e c) c))))) := by
              intro x12 x13 x16 x17 x18 G7 s7 m7
              have q7 := s7 _ _ (s6 _ _ q5)
              refine hZ _ _ ⟨_, _, _, _, _, _, _, rfl, Sub.upd ((s5.trans s6).trans s7) hm, (gup_ne hqm).trans q7, _, gup_same, ?_, fun x => ?_⟩
              · have := dput_len kvs (cD c) (.int (wn L (sgn a e) e (far e c) c)); omega
              · rw [dget_dput, hk, e5]
                by_cases hx : c = x
                · subst hx
                  rw [if_pos rfl, if_pos ⟨hcL, by simp⟩]
                · rw [if_neg fun q => hx (cD_inj q)]
                  have : x ∈ C.take i ++ [c] ↔ x ∈ C.take i := by simp [Ne.symm hx]
                  by_cases h1 : x ∈ L ∧ x ∈ C.take i
                  · rw [if_pos h1, if_pos ⟨h1.1, this.mpr h1.2⟩]
                  · rw [if_neg h1, if_neg fun q => h1 ⟨q.1, this.mp q.2⟩]
            refine ⟨.inl ⟨rfl, rfl⟩, ?_⟩
            by_cases hf : far e c = 0
            · rw [if_pos hf]
              refine ⟨_, m6, by rw [sizeLine_eq]; omega, ?_⟩
              have hce : c = e := by
                unfold far at hf
                exact Prod.ext (by omega) (by omega)
              have hw : wn L (sgn a e) e (far e c) c = 1 := by
                rw [hf]
                show (if c = e ∧ c ∈ L then (1 : Int) else 0) = 1
                rw [if_pos ⟨hce, hcL⟩]
              have := hput x12 x13 (some (D.ref t)) x17 x18 G6 Sub.refl m6
              rw [hw] at this
              exact this
            · rw [if_neg hf]
              obtain ⟨n, hn⟩ : ∃ n, far e c = n + 1 := ⟨far e c - 1, by omega⟩
              have hval : ∀ s ∈ sgn a e, (dget kvs (cD (stp c s))).getD (.int 0) = .int (wn L (sgn a e) e n (stp c s)) := by
                intro s hs
                obtain ⟨l1, l2⟩ := wn_late (L := L) hcb hs hn
                rw [hk]
                by_cases h1 : stp c s ∈ L
                · by_cases h2 : InBox a e (stp c s)
                  · have h3 : stp c s ∈ C.take i := by
                      have h4 := (cm _).mpr h2
                      have eL : C = C.take i ++ (c :: C.drop (i + 1)) := by
                        have h1 := List.drop_eq_getElem_cons hlt
                        rw [(List.getElem?_eq_some_iff.mp es).2] at h1
                        rw [← h1, List.take_append_drop]
                      have h5 := cl
                      rw [eL] at h4 h5
                      rcases List.mem_append.mp h4 with h4 | h4
                      · exact h4
                      · rw [List.pairwise_append] at h5
                        rcases List.mem_cons.mp h4 with h4 | h4
                        · have := l1 h2; rw [h4] at this; omega
                        · have := (List.pairwise_cons.mp h5.2.1).1 _ h4
                          rw [l1 h2] at this; omega
                    rw [if_pos ⟨h1, h3⟩, l1 h2]
                    rfl
                  · rw [if_neg fun q => h2 ((cm _).mp (List.mem_of_mem_take q.2)), l2 h2]
                    rfl
                · rw [if_neg fun q => h1 q.1, wn_out h1]
                  rfl
              refine ⟨t, rfl, _, ht6, ?_⟩
              refine lc_fm _ _ (fun d => (un cD d).map fun x => (dget kvs (cD x)).getD (.int 0)) ?_ (fun G7 s7 => s7 _ _ ht6) (fun d hd G7 s7 Q7 h7 => ?_) fun t2 G7 ht2 s7 ht27 => ?_
              · rw [List.length_map]
                have := sgn_len a e
                omega
              · rw [List.mem_map] at hd
                obtain ⟨x, _, rfl⟩ := hd
                have h8 := h7 G7 Sub.refl
                rw [un_of cD_inj] at h8
                have m7 := s7 _ _ m6
                simp [m7]
                exact h8
              · have ee : ((sgn a e).map fun s => cD (stp c s)).filterMap (fun d => (un cD d).map fun x => (dget kvs (cD x)).getD (D.int 0)) = ((sgn a e).map fun s => wn L (sgn a e) e n (stp c s)).map D.int := by
                  rw [List.filterMap_map, List.map_map]
                  refine fm_some fun s hs => ?_
                  show (un cD (cD (stp c s))).map _ = _
                  rw [un_of cD_inj]
                  show some ((dget kvs (cD (stp c s))).getD (D.int 0)) = _
                  rw [hval s hs]
                  rfl
                rw [ee] at ht27
                have m7 := s7 _ _ m6
                refine ⟨t2, rfl, _, ht27, _, m7, by rw [sizeLine_eq]; omega, ?_⟩
                have hw : wn L (sgn a e) e (far e c) c = ((sgn a e).map fun s => wn L (sgn a e) e n (stp c s)).sum := by
                  rw [hn]
                  show (if c ∈ L then _ else (0 : Int)) = _
                  rw [if_pos hcL]
                have := hput x12 x13 (some (D.ref t)) x17 x18 G7 s7 m7
                rw [hw] at this
                exact this
        · rw [if_neg (by simpa [mem_dedup] using hcL)]
          refine hZ _ _ ⟨_, _, _, _, _, _, _, rfl, s5, q5, kvs, m5, by omega, fun x => ?_⟩
          rw [hk, e5]
          by_cases hx : x = c
          · subst hx; simp [hcL]
          · simp [hx]
    · rintro ρ G5 ⟨x6, x12, x13, x15, x16, x17, x18, rfl, s5, q5, kvs, m5, hkl, hk⟩
      rw [List.length_map, List.take_length] at hk
      simp
      refine ⟨_, Fg.refl, hQ m G5 kvs hmn ((s02.trans s3).trans s5) m5 fun c => ?_⟩
      rw [hk]
      by_cases h1 : c ∈ L
      · by_cases h2 : InBox a e c
        · rw [if_pos ⟨h1, (cm c).mpr h2⟩, if_pos ⟨h1, h2⟩]
        · rw [if_neg fun q => h2 ((cm c).mp q.2), if_neg fun q => h2 q.2]
      · rw [if_neg fun q => h1 q.1, if_neg fun q => h1 q.1]
end Hd
set_option Elab.async false
set_option linter.all false
set_option maxRecDepth 100000
set_option maxHeartbeats 4000000
namespace Hd
open PySem PySem.Spec PyProof.Rows L2 G
def wm (L : List Cell) (a e : Cell) : Int := wn L (sgn a e) e (far e a) a
def Near (a e : Cell) : Prop := a.1.natAbs ≤ 200 ∧ a.2.natAbs ≤ 200 ∧ e.1.natAbs ≤ 200 ∧ e.2.natAbs ≤ 200
theorem box_self (a e : Cell) : InBox a e a := by unfold InBox; omega
def sp_ways_many : GSp := fun ds G Q => ∃ (L : List Cell) (a e : Cell), ds = [rD L, cD a, cD e] ∧ L.length ≤ 500 ∧ Near a e ∧ ∀ G', Sub G G' → Q (.int (wm L a e)) G'
theorem p_ways_many (ds : List D) (Γ : Gp) (R : GK) (h : sp_ways_many ds Γ R) : t_ways_many sp_numbers_to { nx := fun _ G' => R .non G', rt := R } (ds.map some ++ List.replicate (3 - ds.length) none) Γ := by
  obtain ⟨L, a, e, rfl, hL, hn, hQ⟩ := h
  unfold t_ways_many
  simp
  refine ⟨L, a, e, rfl, hL, hn, fun t G1 kvs ht s1 ht1 hk => ?_⟩
  refine ⟨⟨_, rfl, _, .inl ht1⟩, _, rfl, _, .inl ht1, _, Fg.refl, ?_⟩
  have e1 : (dget kvs (cD a)).getD (.int 0) = .int (wm L a e) := by
    rw [hk]
    unfold wm
    by_cases h1 : a ∈ L
    · rw [if_pos ⟨h1, box_self a e⟩]; rfl
    · rw [if_neg fun q => h1 q.1, wn_out h1]; rfl
  rw [e1]
  exact hQ _ s1
def sp_serves : GSp := fun ds G Q => ∃ (L : List Cell) (a e : Cell), ds = [rD L, cD a, cD e] ∧ L.length ≤ 500 ∧ Near a e ∧ ∀ G', Sub G G' → Q (.bl (decide (0 < wm L a e))) G'
theorem p_serves (ds : List D) (Γ : Gp) (R : GK) (h : sp_serves ds Γ R) : t_serves sp_ways_many { nx := fun _ G' => R .non G', rt := R } (ds.map some ++ List.replicate (3 - ds.length) none) Γ := by
  obtain ⟨L, a, e, rfl, hL, hn, hQ⟩ := h
  unfold t_serves
  simp
  exact ⟨L, a, e, rfl, hL, hn, fun G1 s1 => ⟨_, rfl, _, Fg.refl, hQ _ s1⟩⟩
/-- the least way -/
def fp (L : List Cell) (sg : List Dr) (e : Cell) : Nat → Cell → List Dr
  | 0, _ => []
  | n + 1, c => match sg.find? fun s => decide (0 < wn L sg e n (stp c s)) with
    | some s => s :: fp L sg e n (stp c s)
    | none => []
theorem wn_some {L : List Cell} {sg : List Dr} {e c : Cell} {n : Nat} (h : 0 < wn L sg e (n + 1) c) : c ∈ L ∧ ∃ s ∈ sg, 0 < wn L sg e n (stp c s) := by
  have hc : c ∈ L := Classical.byContradiction fun q => by rw [wn_out q] at h; omega
  refine ⟨hc, ?_⟩
  have h2 : wn L sg e (n + 1) c = (sg.map fun s => wn L sg e n (stp c s)).sum := by
    show (if c ∈ L then _ else (0 : Int)) = _
    rw [if_pos hc]
  rw [h2] at h
  obtain ⟨s, hs, hf⟩ := sum_ne (f := fun s => wn L sg e n (stp c s)) (l := sg) (by omega)
  have := wn_nonneg (L := L) (sg := sg) (e := e) n (stp c s)
  exact ⟨s, hs, by have hf : wn L sg e n (stp c s) ≠ 0 := hf; omega⟩
theorem num_late {L : List Cell} {a e h : Cell} {kvs : List (D × D)} (hk : ∀ c, dget kvs (cD c) = if c ∈ L ∧ InBox a e c then some (.int (wn L (sgn a e) e (far e c) c)) else none) (hb : InBox a e h) {n : Nat} (hn : far e h = n + 1) {s : Dr} (hs : s ∈ sgn a e) :
    (dget kvs (cD (stp h s))).getD (.int 0) = .int (wn L (sgn a e) e n (stp h s)) := by
  obtain ⟨l1, l2⟩ := wn_late (L := L) hb hs hn
  rw [hk]
  by_cases h1 : stp h s ∈ L
  · by_cases h2 : InBox a e (stp h s)
    · rw [if_pos ⟨h1, h2⟩, l1 h2]; rfl
    · rw [if_neg fun q => h2 q.2, l2 h2]; rfl
  · rw [if_neg fun q => h1 q.1, wn_out h1]; rfl
theorem stS_snoc (p : List Dr) (s : Dr) : stS (p ++ [s]) = stS p ++ s.sg := by
  unfold stS
  rw [List.map_append]
  have key : ∀ a b : List Nat, (⟨(a ++ b).toArray⟩ : Str) = (⟨a.toArray⟩ : Str) ++ (⟨b.toArray⟩ : Str) := fun a b => by
    show (⟨(a ++ b).toArray⟩ : Str) = ⟨a.toArray ++ b.toArray⟩
    simp
  exact key _ _
theorem stS_len (p : List Dr) : (stS p).length = p.length := by
  show (stS p).cps.size = _
  unfold stS
  simp
def sp_way_at : GSp := fun ds G Q => ∃ (L : List Cell) (a e : Cell), ds = [rD L, cD a, cD e, .int 0] ∧ L.length ≤ 500 ∧ Near a e ∧ 0 < wm L a e ∧ ∀ G', Sub G G' → Q (.str (stS (fp L (sgn a e) e (far e a) a))) G'
theorem p_way_at (ds : List D) (Γ : Gp) (R : GK) (h : sp_way_at ds Γ R) : t_way_at sp_numbers_to sp_signs_between sp_moves { nx := fun _ G' => R .non G', rt := R } (ds.map some ++ List.replicate (11 - ds.length) none) Γ := by
  obtain ⟨L, a, e, rfl, hL, hn, hp, hQ⟩ := h
  unfold t_way_at
  simp
  refine ⟨L, a, e, rfl, hL, hn, fun t G1 kvs ht s1 ht1 hk => ?_⟩
  refine ⟨a, e, rfl, fun G2 s2 => ⟨rfl, fun mv hmv => ?_⟩⟩
  generalize hG3 : gup G2 mv (.dks mvs) = G3
  have s3 : G.Sub G1 G3 := by rw [← hG3]; exact s2.trans (Sub.new hmv)
  have mv3 : G3 mv = some (.dks mvs) := by rw [← hG3, gup_same]
  have t3 := s3 _ _ ht1
  refine while_of (fun m ρ G' => ∃ h p x9 x10, ρ = [some (rD L), some (cD a), some (cD e), some (.int 0), some (.ref t), some (.str (stS (sgn a e))), some (.ref mv), some (cD h), some (.str (stS p)), x9, x10] ∧ G.Sub G3 G' ∧ InBox a e h ∧ 0 < wn L (sgn a e) e (far e h) h ∧ p ++ fp L (sgn a e) e (far e h) h = fp L (sgn a e) e (far e a) a ∧ p.length + far e h ≤ 1000 ∧ m = far e h)
    _ ⟨a, [], none, none, rfl, Sub.refl, box_self a e, hp, rfl, ?_, rfl⟩ ?_
  · unfold far
    obtain ⟨z1, z2, z3, z4⟩ := hn
    simp
    omega
  · rintro Y m ρ G4 ⟨h, p, x9, x10, rfl, s4, hb, hw, hfp, hlen, rfl⟩ hnx _ hbk hrt
    simp
    refine ⟨.inl ⟨cD_okey 7 _, cD_okey 7 _⟩, ?_⟩
    by_cases hhe : h = e
    · subst hhe
      refine .inl ⟨rfl, ?_⟩
      have f0 : far h h = 0 := by unfold far; omega
      rw [f0] at hfp
      have : p = fp L (sgn a h) h (far h a) a := by rw [← hfp]; simp [fp]
      rw [this]
      exact ⟨_, Fg.refl, hQ _ ((s1.trans s3).trans s4)⟩
    · refine .inr ⟨hhe, ?_⟩
      obtain ⟨n, hfn⟩ : ∃ n, far e h = n + 1 := by
        refine ⟨far e h - 1, ?_⟩
        have : far e h ≠ 0 := fun q => hhe (by unfold far at q; exact Prod.ext (by omega) (by omega))
        omega
      have hval := fun s hs => num_late hk hb hfn (s := s) hs
      rw [hfn] at hw hfp
      obtain ⟨hhL, hex⟩ := wn_some hw
      have t4 := s4 _ _ t3
      have mv4 := s4 _ _ mv3
      rw [strD_stS]
      refine for_of (fun i ρ G' => ∃ x9 x10, ρ = [some (rD L), some (cD a), some (cD e), some (.int 0), some (.ref t), some (.str (stS (sgn a e))), some (.ref mv), some (cD h), some (.str (stS p)), x9, x10] ∧ G.Sub G3 G' ∧ ∀ s ∈ (sgn a e).take i, ¬ 0 < wn L (sgn a e) e n (stp h s))
        ⟨x9, x10, rfl, s4, by simp⟩ (fun _ _ _ _ => trivial) ?_ ?_
      · rintro Z i d ρ G5 ed ⟨x9, x10, rfl, s5, no⟩ hZ _ hbk2 _
        rw [List.getElem?_map] at ed
        cases es : (sgn a e)[i]? with
        | none => rw [es] at ed; cases ed
        | some s =>
          rw [es] at ed
          cases ed
          have hs := List.mem_of_getElem? es
          have e5 : (sgn a e).take (i + 1) = (sgn a e).take i ++ [s] := by rw [List.take_succ, es]; rfl
          have t5 := s5 _ _ t3
          have mv5 := s5 _ _ mv3
          have hv := hval s hs
          have hst : D.tup [D.int (h.1 + s.mv.1), D.int (h.2 + s.mv.2)] = cD (stp h s) := rfl
          simp [mv5, sget_mv, t5]
          refine ⟨_, hv, ?_⟩
          by_cases hpos : 0 < wn L (sgn a e) e n (stp h s)
          · rw [if_pos hpos]
            refine ⟨by rw [stS_len, show s.sg.length = 1 from rfl, sizeLine_eq]; omega, ?_⟩
            have hin : InBox a e (stp h s) := Classical.byContradiction fun q => by
              rw [(wn_late (L := L) hb hs hfn).2 q] at hpos
              omega
            have hfar := (wn_late (L := L) hb hs hfn).1 hin
            have hfind : (sgn a e).find? (fun s => decide (0 < wn L (sgn a e) e n (stp h s))) = some s := by
              have eL : sgn a e = (sgn a e).take i ++ (s :: (sgn a e).drop (i + 1)) := by
                have h1 := List.drop_eq_getElem_cons (List.getElem?_eq_some_iff.mp es).1
                rw [(List.getElem?_eq_some_iff.mp es).2] at h1
                rw [← h1, List.take_append_drop]
              rw [congrArg (List.find? _) eL, List.find?_append, List.find?_eq_none.mpr fun x hx => by simpa using no x hx, List.find?_cons]
              simp [hpos]
            show Z.bk _ G5
            rw [hbk2]
            rw [← stS_snoc]
            refine hnx n _ _ (by omega) ⟨stp h s, p ++ [s], _, _, rfl, s5, hin, by rw [hfar]; exact hpos, ?_, by rw [List.length_append, List.length_singleton, hfar]; omega, hfar.symm⟩
            rw [← hfp, hfar]
            have : fp L (sgn a e) e (n + 1) h = s :: fp L (sgn a e) e n (stp h s) := by
              rw [fp, hfind]
            rw [this, List.append_assoc]
            rfl
          · rw [if_neg hpos]
            refine ⟨_, rfl, ?_⟩
            have h0 : wn L (sgn a e) e n (stp h s) = 0 := by
              have := wn_nonneg (L := L) (sg := sgn a e) (e := e) n (stp h s)
              omega
            simp [t5]
            refine ⟨_, hv, ?_⟩
            rw [h0]
            refine hZ _ _ ⟨_, _, rfl, s5, fun x hx => ?_⟩
            rw [e5] at hx
            rcases List.mem_append.mp hx with hx | hx
            · exact no x hx
            · rw [List.mem_singleton.mp hx]; exact hpos
      · rintro ρ G5 ⟨x9, x10, rfl, s5, no⟩
        rw [List.length_map, List.take_length] at no
        obtain ⟨s, hs, hp⟩ := hex
        exact absurd hp (no s hs)
def sp_first_way : GSp := fun ds G Q => ∃ (L : List Cell) (a e : Cell), ds = [rD L, cD a, cD e] ∧ L.length ≤ 500 ∧ Near a e ∧ ∀ G', Sub G G' → Q (if 0 < wm L a e then .str (stS (fp L (sgn a e) e (far e a) a)) else .non) G'
theorem p_first_way (ds : List D) (Γ : Gp) (R : GK) (h : sp_first_way ds Γ R) : t_first_way sp_serves sp_way_at { nx := fun _ G' => R .non G', rt := R } (ds.map some ++ List.replicate (3 - ds.length) none) Γ := by
  obtain ⟨L, a, e, rfl, hL, hn, hQ⟩ := h
  unfold t_first_way
  simp
  refine ⟨L, a, e, rfl, hL, hn, fun G1 s1 => ?_⟩
  by_cases hp : 0 < wm L a e
  · rw [if_pos hp] at hQ
    refine .inr ⟨by rw [decide_eq_true hp], L, a, e, rfl, hL, hn, hp, fun G2 s2 => ⟨_, Fg.refl, hQ _ (s1.trans s2)⟩⟩
  · rw [if_neg hp] at hQ
    exact .inl ⟨by rw [decide_eq_false hp], _, Fg.refl, hQ _ s1⟩
end Hd
set_option Elab.async false
set_option linter.all false
set_option maxRecDepth 100000
set_option maxHeartbeats 4000000
namespace Hd
open PySem PySem.Spec PyProof.Rows L2 G
/-! ### corridors: texts of steps -/
def pl (p : List Dr) : Bool := !(decide (Dr.r ∈ p) && decide (Dr.l ∈ p)) && !(decide (Dr.u ∈ p) && decide (Dr.d ∈ p))
theorem code_mem (x : Dr) (p : List Dr) : x.code ∈ (stS p).cps.toList ↔ x ∈ p := by
  show x.code ∈ ((p.map Dr.code).toArray).toList ↔ _
  simp only [List.mem_map]
  constructor
  · rintro ⟨y, hy, e⟩
    have : y = x := by cases x <;> cases y <;> first | rfl | (exact absurd e (by decide))
    exact this ▸ hy
  · intro h; exact ⟨x, h, rfl⟩
/-- steps i .. j - 1 -/
def sl (p : List Dr) (i j : Nat) : List Dr := (p.drop i).take (j - i)
theorem cutS_stS (p : List Dr) {i j : Nat} (hj : j ≤ p.length) (hi : i ≤ j) : cutS (stS p) (some (i : Int)) (some (j : Int)) = stS (sl p i j) := by
  unfold cutS sl
  rw [stS_len, HT.sIx_nat, HT.sIx_nat, Nat.min_eq_left hj, Nat.min_eq_left (by omega)]
  unfold stS
  simp [List.map_take, List.map_drop]
theorem r_code : (Str.ofString "r") = ⟨#[114]⟩ := by decide +kernel
theorem l_code : (Str.ofString "l") = ⟨#[108]⟩ := by decide +kernel
theorem u_code : (Str.ofString "u") = ⟨#[117]⟩ := by decide +kernel
theorem d_code : (Str.ofString "d") = ⟨#[100]⟩ := by decide +kernel
def sp_is_plain : GSp := fun ds G Q => ∃ p : List Dr, ds = [.str (stS p)] ∧ ∀ G', Sub G G' → Q (.bl (pl p)) G'
theorem plain_fin (p : List Dr) {Γ : Gp} {R : GK} (hq : R (.bl (pl p)) Γ) : (if 114 ∈ (stS p).cps then
    (108 ∈ (stS p).cps ∧ ∃ G2, Fg G2 Γ ∧ R (D.bl false) G2) ∨
      ¬108 ∈ (stS p).cps ∧
        if 117 ∈ (stS p).cps then ∃ G2, Fg G2 Γ ∧ R (D.bl !decide (100 ∈ (stS p).cps)) G2
        else ∃ G2, Fg G2 Γ ∧ R (D.bl true) G2
  else
    if 117 ∈ (stS p).cps then ∃ G2, Fg G2 Γ ∧ R (D.bl !decide (100 ∈ (stS p).cps)) G2
    else ∃ G2, Fg G2 Γ ∧ R (D.bl true) G2) := by
  have h1 : 114 ∈ (stS p).cps ↔ Dr.r ∈ p := Array.mem_def.trans (code_mem .r p)
  have h2 : 108 ∈ (stS p).cps ↔ Dr.l ∈ p := Array.mem_def.trans (code_mem .l p)
  have h3 : 117 ∈ (stS p).cps ↔ Dr.u ∈ p := Array.mem_def.trans (code_mem .u p)
  have h4 : 100 ∈ (stS p).cps ↔ Dr.d ∈ p := Array.mem_def.trans (code_mem .d p)
  have e4 : decide (100 ∈ (stS p).cps) = decide (Dr.d ∈ p) := decide_eq_decide.mpr h4
  unfold pl at hq
  rw [e4]
  by_cases k1 : Dr.r ∈ p
  · rw [if_pos (h1.mpr k1)]
    by_cases k2 : Dr.l ∈ p
    · refine .inl ⟨h2.mpr k2, _, Fg.refl, ?_⟩
      simpa [k1, k2] using hq
    · refine .inr ⟨fun q => k2 (h2.mp q), ?_⟩
      by_cases k3 : Dr.u ∈ p
      · rw [if_pos (h3.mpr k3)]
        refine ⟨_, Fg.refl, ?_⟩
        simpa [k1, k2, k3] using hq
      · rw [if_neg fun q => k3 (h3.mp q)]
        refine ⟨_, Fg.refl, ?_⟩
        simpa [k1, k2, k3] using hq
  · rw [if_neg fun q => k1 (h1.mp q)]
    by_cases k3 : Dr.u ∈ p
    · rw [if_pos (h3.mpr k3)]
      refine ⟨_, Fg.refl, ?_⟩
      simpa [k1, k3] using hq
    · rw [if_neg fun q => k3 (h3.mp q)]
      refine ⟨_, Fg.refl, ?_⟩
      simpa [k1, k3] using hq
theorem p_is_plain (ds : List D) (Γ : Gp) (R : GK) (h : sp_is_plain ds Γ R) : t_is_plain { nx := fun _ G' => R .non G', rt := R } (ds.map some ++ List.replicate (1 - ds.length) none) Γ := by
  obtain ⟨p, rfl, hQ⟩ := h
  unfold t_is_plain
  simp only [r_code, l_code, u_code, d_code]
  simp
  exact plain_fin p (hQ Γ Sub.refl)
def sp__law_is_plain : GSp := sp_is_plain
theorem p__law_is_plain (ds : List D) (Γ : Gp) (R : GK) (h : sp__law_is_plain ds Γ R) : t__law_is_plain { nx := fun _ G' => R .non G', rt := R } (ds.map some ++ List.replicate (1 - ds.length) none) Γ := p_is_plain ds Γ R h
/-! how far steps go on plainly -/
theorem pl_mono {p q : List Dr} (h : ∀ x ∈ q, x ∈ p) (hp : pl p = true) : pl q = true := by
  unfold pl at *
  simp only [Bool.and_eq_true, Bool.not_eq_true', Bool.and_eq_false_iff, decide_eq_false_iff_not] at *
  exact ⟨hp.1.elim (fun a => .inl fun b => a (h _ b)) (fun a => .inr fun b => a (h _ b)), hp.2.elim (fun a => .inl fun b => a (h _ b)) (fun a => .inr fun b => a (h _ b))⟩
def lpk (q : List Dr) : Nat → Nat
  | 0 => 0
  | k + 1 => if pl (q.take (k + 1)) = true then k + 1 else lpk q k
def lp (q : List Dr) : Nat := lpk q q.length
theorem lpk_le (q : List Dr) : ∀ k, lpk q k ≤ k
  | 0 => Nat.le_refl _
  | k + 1 => by
    unfold lpk
    split
    · exact Nat.le_refl _
    · exact Nat.le_succ_of_le (lpk_le q k)
theorem lpk_pl (q : List Dr) : ∀ k, pl (q.take (lpk q k)) = true
  | 0 => by simp [lpk, pl]
  | k + 1 => by
    unfold lpk
    split
    · assumption
    · exact lpk_pl q k
theorem lpk_no (q : List Dr) : ∀ k j, lpk q k < j → j ≤ k → pl (q.take j) = false
  | 0, j, h1, h2 => by omega
  | k + 1, j, h1, h2 => by
    unfold lpk at h1
    split at h1
    · omega
    · rename_i h
      by_cases e : j = k + 1
      · rw [e]; simpa using h
      · exact lpk_no q k j h1 (by omega)
theorem lp_le (q : List Dr) : lp q ≤ q.length := lpk_le q _
theorem lp_iff {q : List Dr} {j : Nat} (hj : j ≤ q.length) : pl (q.take j) = true ↔ j ≤ lp q := by
  constructor
  · intro h
    refine Nat.not_lt.mp fun q' => ?_
    rw [lpk_no q q.length j q' hj] at h
    cases h
  · intro h
    refine pl_mono (fun x hx => ?_) (lpk_pl q q.length)
    have : q.take j = (q.take (lp q)).take j := by rw [List.take_take, Nat.min_eq_left h]
    rw [this] at hx
    exact List.mem_of_mem_take hx
/-- the last number that i reaches -/
def hi (p : List Dr) (i : Nat) : Nat := i + lp (p.drop i)
/-- the first number that i reaches -/
def lo (p : List Dr) (i : Nat) : Nat := i - lp (p.take i).reverse
theorem hi_ge (p : List Dr) (i : Nat) : i ≤ hi p i := Nat.le_add_right _ _
theorem hi_le {p : List Dr} {i : Nat} (h : i ≤ p.length) : hi p i ≤ p.length := by
  have := lp_le (p.drop i)
  rw [List.length_drop] at this
  unfold hi
  omega
theorem hi_iff {p : List Dr} {i j : Nat} (h : i ≤ j) (hj : j ≤ p.length) : pl (sl p i j) = true ↔ j ≤ hi p i := by
  unfold sl hi
  rw [lp_iff (by rw [List.length_drop]; omega)]
  omega
theorem pl_rev (p : List Dr) : pl p.reverse = pl p := by unfold pl; simp
theorem sl_rev {p : List Dr} {i j : Nat} (h : i ≤ j) (hj : j ≤ p.length) : (sl p i j).reverse = (p.take j).reverse.take (j - i) := by
  unfold sl
  rw [List.take_reverse, List.length_take, Nat.min_eq_left hj, show j - (j - i) = i by omega, List.drop_take]
theorem lo_iff {p : List Dr} {i j : Nat} (h : i ≤ j) (hj : j ≤ p.length) : pl (sl p i j) = true ↔ lo p j ≤ i := by
  rw [← pl_rev, sl_rev h hj, lp_iff (by rw [List.length_reverse, List.length_take]; omega)]
  have := lp_le (p.take j).reverse
  rw [List.length_reverse, List.length_take] at this
  unfold lo
  omega
theorem lo_le (p : List Dr) (i : Nat) : lo p i ≤ i := Nat.sub_le _ _
/-! corridor_stretch -/
def sp_corridor_stretch : GSp := fun ds G Q => ∃ (p : List Dr) (i : Nat), ds = [.str (stS p), .int i] ∧ p.length ≤ 500 ∧ i ≤ p.length ∧ ∀ G', Sub G G' → Q (.tup [.int (lo p i : Nat), .int (hi p i : Nat)]) G'
theorem stretch2 {R : GK} {p : List Dr} {i : Nat} {Γ : Gp} (hp : p.length ≤ 500) (hi' : i ≤ p.length) (hQ : ∀ G', G.Sub Γ G' → R (.tup [.int (lo p i : Nat), .int (hi p i : Nat)]) G') {G2 : Gp} (s2 : G.Sub Γ G2) :
    gSeq (gWhile (gAnd (gTest (gOp (rI fun i j => .bl (decide (i < j))) (gVar 3) (gCB rLen [(gVar 0)]))) (gTest (gCall sp_is_plain [(gSliceX (gVar 0) (gPart (gVar 1)) (gPart (gOp (rI fun i j => .int (i + j)) (gVar 3) (gC (.int 1)))))]))) (gAug 3 (gC (.int 1)) (rI fun i j => .int (i + j)))) (gRet (gTup [(gVar 2), (gVar 3)])) { nx := fun _ G' => R .non G', rt := R } [some (.str (stS p)), some (.int i), some (.int (lo p i : Nat)), some (.int i)] G2 := by
  have hsz : (stS p).length ≤ sizeLine := by rw [stS_len, sizeLine_eq]; omega
  have hh := hi_le hi'
  simp
  refine while_of (fun m ρ G' => ∃ f : Nat, ρ = [some (.str (stS p)), some (.int i), some (.int (lo p i : Nat)), some (.int f)] ∧ G.Sub Γ G' ∧ i ≤ f ∧ f ≤ hi p i ∧ m = p.length - f)
    _ ⟨i, rfl, s2, Nat.le_refl _, hi_ge p i, rfl⟩ ?_
  rintro Y m ρ G3 ⟨f, rfl, s3, k1, k2, rfl⟩ hnx _ _ hrt
  simp
  refine ⟨p.length, ⟨hsz, by rw [stS_len]⟩, ?_⟩
  by_cases hf : f < p.length
  · rw [if_pos (by omega)]
    refine ⟨hsz, ?_⟩
    have e : ((f : Int) + 1) = ((f + 1 : Nat) : Int) := by omega
    rw [e, cutS_stS p (by omega) (by omega)]
    refine ⟨_, rfl, fun G4 s4 => ?_⟩
    by_cases hpl : pl (sl p i (f + 1)) = true
    · have k3 := (hi_iff (p := p) (i := i) (j := f + 1) (by omega) (by omega)).mp hpl
      refine .inr ⟨by rw [hpl], _, rfl, ?_⟩
      simp
      rw [e]
      exact hnx (p.length - (f + 1)) _ _ (by omega) ⟨f + 1, rfl, s3.trans s4, by omega, k3, rfl⟩
    · have k3 : ¬ f + 1 ≤ hi p i := fun q => hpl ((hi_iff (p := p) (i := i) (j := f + 1) (by omega) (by omega)).mpr q)
      refine .inl ⟨by rw [Bool.eq_false_iff.mpr hpl], _, Fg.refl, ?_⟩
      have : f = hi p i := by omega
      rw [this]
      exact hQ _ (s3.trans s4)
  · rw [if_neg (by omega)]
    have : f = hi p i := by omega
    rw [this]
    exact ⟨_, Fg.refl, hQ _ s3⟩
theorem p_corridor_stretch (ds : List D) (Γ : Gp) (R : GK) (h : sp_corridor_stretch ds Γ R) : t_corridor_stretch sp_is_plain { nx := fun _ G' => R .non G', rt := R } (ds.map some ++ List.replicate (4 - ds.length) none) Γ := by
  obtain ⟨p, i, rfl, hp, hi', hQ⟩ := h
  have hsz : (stS p).length ≤ sizeLine := by rw [stS_len, sizeLine_eq]; omega
  unfold t_corridor_stretch
  simp only [gSeq, gPar]
  simp
  refine while_of (fun m ρ G' => ∃ f : Nat, ρ = [some (.str (stS p)), some (.int i), some (.int f), some (.int i)] ∧ G.Sub Γ G' ∧ lo p i ≤ f ∧ f ≤ i ∧ m = f)
    _ ⟨i, rfl, Sub.refl, lo_le p i, Nat.le_refl _, rfl⟩ ?_
  rintro Y f ρ G1 ⟨f', rfl, s1, l1, l2, rfl⟩ hnx _ _ hrt
  simp
  by_cases hf : 0 < f
  · rw [if_pos hf]
    refine ⟨hsz, ?_⟩
    have e : ((f : Int) - 1) = ((f - 1 : Nat) : Int) := by omega
    rw [e, cutS_stS p (by omega) (by omega)]
    refine ⟨_, rfl, fun G4 s4 => ?_⟩
    by_cases hpl : pl (sl p (f - 1) i) = true
    · have k3 := (lo_iff (p := p) (i := f - 1) (j := i) (by omega) (by omega)).mp hpl
      refine .inr ⟨by rw [hpl], _, rfl, ?_⟩
      simp
      rw [e]
      exact hnx (f - 1) _ _ (by omega) ⟨f - 1, rfl, s1.trans s4, k3, by omega, rfl⟩
    · have k3 : ¬ lo p i ≤ f - 1 := fun q => hpl ((lo_iff (p := p) (i := f - 1) (j := i) (by omega) (by omega)).mpr q)
      refine .inl ⟨by rw [Bool.eq_false_iff.mpr hpl], ?_⟩
      have : f = lo p i := by omega
      subst this
      have := stretch2 hp hi' hQ (s1.trans s4)
      simpa using this
  · rw [if_neg hf]
    have : f = lo p i := by omega
    subst this
    have := stretch2 hp hi' hQ s1
    simpa using this
end Hd
set_option Elab.async false
set_option linter.all false
set_option maxRecDepth 100000
set_option maxHeartbeats 4000000
namespace Hd
open PySem PySem.Spec PyProof.Rows L2 G
def cc (p : List Dr) : List Cell := trl (0, 0) p
def sp_corridor_cells : GSp := fun ds G Q => ∃ p : List Dr, ds = [.str (stS p)] ∧ p.length ≤ 500 ∧ ∀ G', Sub G G' → Q (rD (cc p)) G'
theorem p_corridor_cells (ds : List D) (Γ : Gp) (R : GK) (h : sp_corridor_cells ds Γ R) : t_corridor_cells sp_trail { nx := fun _ G' => R .non G', rt := R } (ds.map some ++ List.replicate (1 - ds.length) none) Γ := by
  obtain ⟨p, rfl, hp, hQ⟩ := h
  unfold t_corridor_cells
  simp
  exact ⟨(0, 0), p, rfl, by omega, fun G1 s1 => ⟨_, Fg.refl, hQ _ s1⟩⟩
def sp_corridor : GSp := fun ds G Q => ∃ p : List Dr, ds = [.str (stS p)] ∧ p.length ≤ 500 ∧ ∀ G', Sub G G' → Q (rD (srt (cc p))) G'
theorem p_corridor (ds : List D) (Γ : Gp) (R : GK) (h : sp_corridor ds Γ R) : t_corridor sp_corridor_cells { nx := fun _ G' => R .non G', rt := R } (ds.map some ++ List.replicate (1 - ds.length) none) Γ := by
  obtain ⟨p, rfl, hp, hQ⟩ := h
  unfold t_corridor
  simp
  refine ⟨p, rfl, hp, fun G1 s1 => ⟨_, rfl, canSort_cells _, fun q hq => ?_⟩⟩
  rw [sortD_cells]
  exact ⟨_, Fg.refl, hQ _ (s1.trans (Sub.new hq))⟩
def tD (t : Nat × Nat) : D := .tup [.int (t.1 : Nat), .int (t.2 : Nat)]
theorem tD_inj {a b : Nat × Nat} (h : tD a = tD b) : a = b := by
  unfold tD at h
  simp only [D.tup.injEq, List.cons.injEq, D.int.injEq, and_true] at h
  exact Prod.ext (by omega) (by omega)
def trn (p : List Dr) : Nat → Nat → List (Nat × Nat)
  | 0, _ => []
  | k + 1, i => if i ≤ p.length then (i, hi p i) :: trn p k (hi p (hi p i) + 1) else []
def turns (p : List Dr) : List (Nat × Nat) := trn p (p.length + 1) 0
theorem trn_done {p : List Dr} {i : Nat} (h : p.length < i) : ∀ k, trn p k i = []
  | 0 => rfl
  | k + 1 => by unfold trn; rw [if_neg (by omega)]
theorem trn_len (p : List Dr) : ∀ k i, (trn p k i).length ≤ k
  | 0, _ => Nat.le_refl _
  | k + 1, i => by
    unfold trn
    split
    · rw [List.length_cons]; exact Nat.succ_le_succ (trn_len p k _)
    · exact Nat.zero_le _
theorem turns_len (p : List Dr) : (turns p).length ≤ p.length + 1 := trn_len p _ _
def sp_corridor_turns : GSp := fun ds G Q => ∃ p : List Dr, ds = [.str (stS p)] ∧ p.length ≤ 500 ∧ ∀ q G', G q = none → Sub G G' → G' q = some (.lst ((turns p).map tD)) → Q (.ref q) G'
theorem p_corridor_turns (ds : List D) (Γ : Gp) (R : GK) (h : sp_corridor_turns ds Γ R) : t_corridor_turns sp_corridor_stretch { nx := fun _ G' => R .non G', rt := R } (ds.map some ++ List.replicate (4 - ds.length) none) Γ := by
  obtain ⟨p, rfl, hp, hQ⟩ := h
  have hsz : (stS p).length ≤ sizeLine := by rw [stS_len, sizeLine_eq]; omega
  unfold t_corridor_turns
  simp
  intro f hf
  refine while_of (fun m ρ G' => ∃ (pre : List (Nat × Nat)) (i k : Nat) (x3 : Option D), ρ = [some (.str (stS p)), some (.ref f), some (.int i), x3] ∧ G.Sub Γ G' ∧ G' f = some (.lst (pre.map tD)) ∧ pre ++ trn p k i = turns p ∧ p.length + 1 ≤ k + i ∧ m = p.length + 1 - i)
    _ ⟨[], 0, p.length + 1, none, rfl, Sub.new hf, gup_same, rfl, by omega, rfl⟩ ?_
  rintro Y m ρ G1 ⟨pre, i, k, x3, rfl, s1, f1, hpre, hk, rfl⟩ hnx _ _ hrt
  have hpl : pre.length ≤ p.length + 1 := by
    have := congrArg List.length hpre
    rw [List.length_append] at this
    have := turns_len p
    omega
  simp
  refine ⟨p.length, ⟨hsz, by rw [stS_len]⟩, ?_⟩
  by_cases hi1 : i ≤ p.length
  · rw [if_pos (by omega)]
    have h2 := hi_le hi1
    refine ⟨p, i, rfl, hp, hi1, fun G2 s2 => ?_⟩
    simp [s2 _ _ f1]
    refine ⟨by rw [sizeLine_eq]; omega, ?_⟩
    refine ⟨p, hi p i, rfl, hp, h2, fun G3 s3 => ?_⟩
    simp
    obtain ⟨k', rfl⟩ : ∃ k', k = k' + 1 := ⟨k - 1, by omega⟩
    have g1 := hi_ge p i
    have g2 := hi_ge p (hi p i)
    refine hnx (p.length + 1 - (hi p (hi p i) + 1)) _ _ (by omega) ⟨pre ++ [(i, hi p i)], hi p (hi p i) + 1, k', _, rfl, (Sub.upd (s1.trans s2) hf).trans s3, ?_, ?_, by omega, rfl⟩
    · rw [s3 _ _ gup_same, List.map_append]; rfl
    · rw [← hpre]
      rw [show trn p (k' + 1) i = (i, hi p i) :: trn p k' (hi p (hi p i) + 1) by rw [trn, if_pos hi1], List.append_assoc]
      rfl
  · rw [if_neg (by omega)]
    rw [trn_done (by omega), List.append_nil] at hpre
    rw [hpre] at f1
    exact ⟨_, Fg.refl, hQ f G1 hf s1 f1⟩
def intT (l : List Nat) : D := .tup (l.map fun i => D.int (i : Nat))
def sp_corridor_stalls : GSp := fun ds G Q => ∃ p : List Dr, ds = [.str (stS p)] ∧ p.length ≤ 500 ∧ ∀ G', Sub G G' → Q (intT ((turns p).map (·.2))) G'
theorem p_corridor_stalls (ds : List D) (Γ : Gp) (R : GK) (h : sp_corridor_stalls ds Γ R) : t_corridor_stalls sp_corridor_turns { nx := fun _ G' => R .non G', rt := R } (ds.map some ++ List.replicate (3 - ds.length) none) Γ := by
  obtain ⟨p, rfl, hp, hQ⟩ := h
  unfold t_corridor_stalls
  simp
  refine ⟨p, rfl, hp, fun q G1 hq s1 hq1 => ⟨q, rfl, _, hq1, ?_⟩⟩
  refine lc_fm _ _ (fun d => (un tD d).map fun t => .int (t.2 : Nat)) (by rw [List.length_map]; have := turns_len p; omega) (fun G2 s2 => s2 _ _ hq1) (fun d hd G2 s2 Q2 h2 => ?_) fun r G2 hr s2 hr2 => ?_
  · rw [List.mem_map] at hd
    obtain ⟨t, _, rfl⟩ := hd
    have h3 := h2 G2 Sub.refl
    rw [un_of tD_inj] at h3
    simp [tD]
    exact h3
  · rw [fm_map tD (fun t => D.int (t.2 : Nat)) _ _ fun t _ => by rw [un_of tD_inj]; rfl] at hr2
    refine ⟨_, .inr ⟨r, rfl, hr2⟩, _, Fg.refl, ?_⟩
    have := hQ _ (s1.trans s2)
    unfold intT at this
    rw [List.map_map] at this
    exact this
def sp_corridor_spots : GSp := fun ds G Q => ∃ p : List Dr, ds = [.str (stS p)] ∧ p.length ≤ 500 ∧ ∀ G', Sub G G' → Q (intT ((turns p).map (·.1))) G'
theorem p_corridor_spots (ds : List D) (Γ : Gp) (R : GK) (h : sp_corridor_spots ds Γ R) : t_corridor_spots sp_corridor_turns { nx := fun _ G' => R .non G', rt := R } (ds.map some ++ List.replicate (3 - ds.length) none) Γ := by
  obtain ⟨p, rfl, hp, hQ⟩ := h
  unfold t_corridor_spots
  simp
  refine ⟨p, rfl, hp, fun q G1 hq s1 hq1 => ⟨q, rfl, _, hq1, ?_⟩⟩
  refine lc_fm _ _ (fun d => (un tD d).map fun t => .int (t.1 : Nat)) (by rw [List.length_map]; have := turns_len p; omega) (fun G2 s2 => s2 _ _ hq1) (fun d hd G2 s2 Q2 h2 => ?_) fun r G2 hr s2 hr2 => ?_
  · rw [List.mem_map] at hd
    obtain ⟨t, _, rfl⟩ := hd
    have h3 := h2 G2 Sub.refl
    rw [un_of tD_inj] at h3
    simp [tD]
    exact h3
  · rw [fm_map tD (fun t => D.int (t.1 : Nat)) _ _ fun t _ => by rw [un_of tD_inj]; rfl] at hr2
    refine ⟨_, .inr ⟨r, rfl, hr2⟩, _, Fg.refl, ?_⟩
    have := hQ _ (s1.trans s2)
    unfold intT at this
    rw [List.map_map] at this
    exact this
/-! the law's own goes -/
theorem if_sg (y x : Dr) : (if x.sg = y.sg then (1 : Int) else 0) = if x = y then 1 else 0 := by
  by_cases h : x = y
  · rw [if_pos h, if_pos (by rw [h])]
  · rw [if_neg h, if_neg fun q => h (sg_inj q)]
def sp__law_goes : GSp := fun ds G Q => ∃ p : List Dr, ds = [.str (stS p)] ∧ p.length ≤ 500 ∧ ∀ q G', G q = none → Sub G G' → G' q = some (.lst ((cc p).map cD)) → Q (.ref q) G'
theorem p__law_goes (ds : List D) (Γ : Gp) (R : GK) (h : sp__law_goes ds Γ R) : t__law_goes { nx := fun _ G' => R .non G', rt := R } (ds.map some ++ List.replicate (5 - ds.length) none) Γ := by
  obtain ⟨p, rfl, hp, hQ⟩ := h
  unfold t__law_goes
  simp
  intro f hf
  rw [strD_stS]
  refine for_of (fun i ρ G' => ∃ x2 x3 x4, ρ = [some (.str (stS p)), some (.ref f), x2, x3, x4] ∧ G.Sub Γ G' ∧ G' f = some (.lst ((trl (0, 0) (p.take i)).map cD)))
    ⟨none, none, none, rfl, Sub.new hf, gup_same⟩ (fun _ _ _ _ => trivial) ?_ ?_
  · rintro Z i d ρ G1 ed ⟨x2, x3, x4, rfl, s1, hf1⟩ hZ _ _ _
    rw [List.getElem?_map] at ed
    cases es : p[i]? with
    | none => rw [es] at ed; cases ed
    | some x =>
      rw [es] at ed
      cases ed
      obtain ⟨I, eI⟩ := trl_last (p.take i) (0, 0)
      have e5 : p.take (i + 1) = p.take i ++ [x] := by rw [List.take_succ, es]; rfl
      have hl : (trl (0, 0) (p.take i)).length ≤ 501 := by rw [trl_len, List.length_take]; omega
      have hat : atI ((trl (0, 0) (p.take i)).map cD) (-1) = some (cD (endc (0, 0) (p.take i))) := by
        rw [eI, List.map_append]
        exact atI_last _ _
      have fin := hZ [some (.str (stS p)), some (.ref f), some (.str x.sg), some (.int (endc (0, 0) (p.take i)).1), some (.int (endc (0, 0) (p.take i)).2)] (gup G1 f (.lst ((trl (0, 0) (p.take i)).map cD ++ [cD (stp (endc (0, 0) (p.take i)) x)]))) ⟨_, _, _, rfl, Sub.upd s1 hf, by
        rw [gup_same, e5, trl_snoc, List.map_append, endc_snoc]; rfl⟩
      have hx : ∀ y : Dr, eqOk (D.str x.sg) (D.str y.sg) := fun y => .inl ⟨rfl, rfl⟩
      have hlt : (trl (0, 0) (p.take i)).length < sizeLine := by rw [sizeLine_eq]; omega
      simp [hf1, hat]
      refine ⟨hx .r, hx .l, hx .u, hx .d, hlt, ?_⟩
      have hc : (((endc (0, 0) (p.take i)).1 + if x.sg = Str.ofString "r" then 1 else 0) - (if x.sg = Str.ofString "l" then 1 else 0), ((endc (0, 0) (p.take i)).2 + if x.sg = Str.ofString "u" then 1 else 0) - (if x.sg = Str.ofString "d" then 1 else 0)) = stp (endc (0, 0) (p.take i)) x := by
        rw [show Str.ofString "r" = Dr.r.sg from r_code, show Str.ofString "l" = Dr.l.sg from l_code, show Str.ofString "u" = Dr.u.sg from u_code, show Str.ofString "d" = Dr.d.sg from d_code, if_sg .r x, if_sg .l x, if_sg .u x, if_sg .d x]
        unfold stp
        cases x <;> simp [Dr.mv] <;> omega
      rw [hc]
      exact fin
  · rintro ρ G1 ⟨x2, x3, x4, rfl, s1, hf1⟩
    rw [List.length_map, List.take_length] at hf1
    simp
    exact ⟨_, Fg.refl, hQ f _ hf s1 hf1⟩
end Hd
set_option Elab.async false
set_option linter.all false
set_option maxRecDepth 100000
set_option maxHeartbeats 4000000
namespace Hd
open PySem PySem.Spec PyProof.Rows L2 G
def sides (c : Cell) : List Cell := [(c.1 + 1, c.2), (c.1, c.2 + 1), (c.1 - 1, c.2), (c.1, c.2 - 1)]
def sp__law_sides : GSp := fun ds G Q => ∃ c : Cell, ds = [cD c] ∧ ∀ q G', G q = none → Sub G G' → G' q = some (.lst ((sides c).map cD)) → Q (.ref q) G'
theorem p__law_sides (ds : List D) (Γ : Gp) (R : GK) (h : sp__law_sides ds Γ R) : t__law_sides { nx := fun _ G' => R .non G', rt := R } (ds.map some ++ List.replicate (3 - ds.length) none) Γ := by
  obtain ⟨c, rfl, hQ⟩ := h
  unfold t__law_sides
  simp
  exact fun q hq => ⟨_, Fg.refl, hQ q _ hq (Sub.new hq) gup_same⟩
/-! turns -/
theorem rng_get {lo : Int} {n t : Nat} {d : D} (h : (rngD lo n)[t]? = some d) : t < n ∧ d = .int (lo + (t : Nat)) := by
  unfold rngD at h
  rw [List.getElem?_map] at h
  cases ex : (List.range n)[t]? with
  | none => rw [ex] at h; cases h
  | some y =>
    rw [ex] at h
    obtain ⟨h1, h2⟩ := List.getElem?_eq_some_iff.mp ex
    rw [List.length_range] at h1
    rw [List.getElem_range] at h2
    subst h2
    exact ⟨h1, (Option.some.inj h).symm⟩
theorem rngD_len (lo : Int) (n : Nat) : (rngD lo n).length = n := by unfold rngD; rw [List.length_map, List.length_range]
def sp__law_turns : GSp := fun ds G Q => ∃ p : List Dr, ds = [.str (stS p)] ∧ p.length ≤ 500 ∧ ∀ q G', G q = none → Sub G G' → G' q = some (.lst ((turns p).map tD)) → Q (.ref q) G'
theorem p__law_turns (ds : List D) (Γ : Gp) (R : GK) (h : sp__law_turns ds Γ R) : t__law_turns sp__law_is_plain { nx := fun _ G' => R .non G', rt := R } (ds.map some ++ List.replicate (6 - ds.length) none) Γ := by
  obtain ⟨p, rfl, hp, hQ⟩ := h
  have hsz : (stS p).length ≤ sizeLine := by rw [stS_len, sizeLine_eq]; omega
  unfold t__law_turns
  simp
  intro f hf
  refine ⟨p.length, ⟨hsz, by rw [stS_len]⟩, by omega, by omega, ?_⟩
  refine for_of (fun n ρ G' => ∃ (pre : List (Nat × Nat)) (i k : Nat) (x3 x4 x5 : Option D), ρ = [some (.str (stS p)), some (.ref f), some (.int i), x3, x4, x5] ∧ G.Sub Γ G' ∧ G' f = some (.lst (pre.map tD)) ∧ pre ++ trn p k i = turns p ∧ p.length + 1 ≤ k + i ∧ n ≤ i)
    ⟨[], 0, p.length + 1, none, none, none, rfl, Sub.new hf, gup_same, rfl, by omega, Nat.le_refl _⟩ (fun _ _ _ _ => trivial) ?_ ?_
  · rintro Z n d ρ G1 ed ⟨pre, i, k, x3, x4, x5, rfl, s1, f1, hpre, hk, hni⟩ hZ _ hbk _
    obtain ⟨hn, rfl⟩ := rng_get ed
    have hpl : pre.length ≤ p.length + 1 := by
      have := congrArg List.length hpre
      rw [List.length_append] at this
      have := turns_len p
      omega
    simp
    refine ⟨p.length, ⟨hsz, by rw [stS_len]⟩, ?_⟩
    by_cases hi1 : i ≤ p.length
    · rw [if_neg (by omega)]
      have h2 := hi_le hi1
      have g1 := hi_ge p i
      obtain ⟨k', rfl⟩ : ∃ k', k = k' + 1 := ⟨k - 1, by omega⟩
      refine ⟨p.length, ⟨hsz, by rw [stS_len]⟩, by omega, ?_⟩
      refine for_of (fun t ρ G' => ∃ (x3 x5 : Option D), ρ = [some (.str (stS p)), some (.ref f), some (.int i), x3, some (.int (max i (min (hi p i) (i + t - 1)) : Nat)), x5] ∧ G.Sub Γ G' ∧ G' f = some (.lst (pre.map tD)))
        ⟨_, x5, by have : max i (min (hi p i) (i + 0 - 1)) = i := by omega
                   rw [this], s1, f1⟩ (fun _ _ _ _ => trivial) ?_ ?_
      · rintro Y t d ρ G2 ed ⟨x3, x5, rfl, s2, f2⟩ hY _ _ _
        obtain ⟨ht, rfl⟩ := rng_get ed
        have ej : (i : Int) + (t : Nat) = ((i + t : Nat) : Int) := by omega
        have hjl : i + t ≤ p.length := by omega
        simp
        refine ⟨hsz, ?_⟩
        rw [ej, cutS_stS p hjl (by omega)]
        refine ⟨_, rfl, fun G3 s3 => ?_⟩
        have hh := hi_iff (p := p) (i := i) (j := i + t) (by omega) hjl
        by_cases hpl2 : pl (sl p i (i + t)) = true
        · have := hh.mp hpl2
          have e6 : max i (min (hi p i) (i + (t + 1) - 1)) = i + t := by omega
          exact .inr ⟨by rw [hpl2], hY _ _ ⟨x3, some (.int (i + t : Nat)), by rw [e6], s2.trans s3, s3 _ _ f2⟩⟩
        · have : ¬ i + t ≤ hi p i := fun q => hpl2 (hh.mpr q)
          have e6 : max i (min (hi p i) (i + (t + 1) - 1)) = max i (min (hi p i) (i + t - 1)) := by omega
          exact .inl ⟨by rw [Bool.eq_false_iff.mpr hpl2], hY _ _ ⟨x3, some (.int (i + t : Nat)), by rw [e6], s2.trans s3, s3 _ _ f2⟩⟩
      · rintro ρ G2 ⟨x3, x5, rfl, s2, f2⟩
        rw [rngD_len]
        have e6 : max i (min (hi p i) (i + (p.length + 1 - i) - 1)) = hi p i := by omega
        rw [e6]
        simp [f2]
        refine ⟨by rw [sizeLine_eq]; omega, p.length, ⟨hsz, by rw [stS_len]⟩, by omega, ?_⟩
        refine lc_fm _ _ (fun d => match d with | .int j => if pl (sl p (hi p i) j.toNat) = true then some (.int j) else none | _ => none) (by rw [rngD_len]; omega) (fun _ _ => trivial) (fun d hd G3 s3 Q3 h3 => ?_) fun r G3 hr s3 hr3 => ?_
        · obtain ⟨t, ht⟩ := List.mem_iff_getElem?.mp hd
          obtain ⟨h4, rfl⟩ := rng_get ht
          have ej : ((hi p i : Nat) : Int) + (t : Nat) = ((hi p i + t : Nat) : Int) := by omega
          have hjl : hi p i + t ≤ p.length := by omega
          have h5 := fun G' s => h3 G' s
          rw [ej] at h5 ⊢
          simp only [Int.toNat_natCast] at h5
          simp
          refine ⟨hsz, ?_⟩
          rw [ej, cutS_stS p hjl (by omega)]
          refine ⟨_, rfl, fun G4 s4 => ?_⟩
          have h6 := h5 G4 s4
          by_cases hpl2 : pl (sl p (hi p i) (hi p i + t)) = true
          · rw [if_pos hpl2] at h6
            exact .inr ⟨by rw [hpl2], h6⟩
          · rw [if_neg hpl2] at h6
            exact .inl ⟨by rw [Bool.eq_false_iff.mpr hpl2], h6⟩
        · have eX : rngD ((hi p i : Nat) : Int) ((p.length : Int) + 1 - (hi p i : Nat)).toNat = ((List.range ((p.length : Int) + 1 - (hi p i : Nat)).toNat).map fun t => ((hi p i : Nat) : Int) + (t : Nat)).map D.int := by
            unfold rngD; rw [List.map_map]; rfl
          have hmem : ∀ m : Int, m ∈ ((List.range ((p.length : Int) + 1 - (hi p i : Nat)).toNat).map fun t => ((hi p i : Nat) : Int) + (t : Nat)).filter (fun j => pl (sl p (hi p i) j.toNat)) ↔ ((hi p i : Nat) : Int) ≤ m ∧ m ≤ (hi p (hi p i) : Nat) := fun m => by
            rw [List.mem_filter, List.mem_map]
            have g2 := hi_ge p (hi p i)
            have g3 := hi_le h2
            constructor
            · rintro ⟨⟨t, ht, rfl⟩, hq⟩
              rw [List.mem_range] at ht
              have e7 : (((hi p i : Nat) : Int) + (t : Nat)).toNat = hi p i + t := by omega
              rw [e7] at hq
              have := (hi_iff (p := p) (i := hi p i) (j := hi p i + t) (by omega) (by omega)).mp hq
              omega
            · rintro ⟨m1, m2⟩
              refine ⟨⟨(m - (hi p i : Nat)).toNat, List.mem_range.mpr (by omega), by omega⟩, ?_⟩
              exact (hi_iff (p := p) (i := hi p i) (j := m.toNat) (by omega) (by omega)).mpr (by omega)
          have ef := fm_filter (fun j : Int => pl (sl p (hi p i) j.toNat)) D.int (fun j => if pl (sl p (hi p i) j.toNat) = true then some (D.int j) else none) ((List.range ((p.length : Int) + 1 - (hi p i : Nat)).toNat).map fun t => ((hi p i : Nat) : Int) + (t : Nat)) fun _ _ => rfl
          generalize hX : ((List.range ((p.length : Int) + 1 - (hi p i : Nat)).toNat).map fun t => ((hi p i : Nat) : Int) + (t : Nat)) = X at eX hmem ef
          have er3 : (rngD ((hi p i : Nat) : Int) ((p.length : Int) + 1 - (hi p i : Nat)).toNat).filterMap (fun d => match d with | .int j => if pl (sl p (hi p i) j.toNat) = true then some (D.int j) else none | _ => none) = (X.filter fun j => pl (sl p (hi p i) j.toNat)).map D.int := by
            rw [eX, List.filterMap_map]
            exact ef
          have hr4 : G3 r = some (.lst ((X.filter fun j => pl (sl p (hi p i) j.toNat)).map D.int)) := by
            rw [← er3]
            simpa using hr3
          have g2 := hi_ge p (hi p i)
          have hin : ((hi p (hi p i) : Nat) : Int) ∈ X.filter fun j => pl (sl p (hi p i) j.toNat) := (hmem _).mpr ⟨by omega, Int.le_refl _⟩
          refine ⟨r, rfl, _, hr4, List.length_pos_of_mem hin, fun m hm1 hm2 => ?_⟩
          have hm3 := hm2 _ hin
          have hm4 := (hmem m).mp hm1
          have em : m = ((hi p (hi p i) : Nat) : Int) := by omega
          subst em
          refine hZ _ _ ⟨pre ++ [(i, hi p i)], hi p (hi p i) + 1, k', x3, _, _, rfl, (Sub.upd s2 hf).trans s3, ?_, ?_, by omega, by omega⟩
          · rw [s3 _ _ gup_same, List.map_append]; rfl
          · rw [← hpre]
            rw [show trn p (k' + 1) i = (i, hi p i) :: trn p k' (hi p (hi p i) + 1) by rw [trn, if_pos hi1], List.append_assoc]
            rfl
    · rw [if_pos (by omega)]
      show Z.bk _ G1
      rw [hbk]
      rw [trn_done (by omega), List.append_nil] at hpre
      rw [hpre] at f1
      simp
      exact ⟨_, Fg.refl, hQ f G1 hf s1 f1⟩
  · rintro ρ G1 ⟨pre, i, k, x3, x4, x5, rfl, s1, f1, hpre, hk, hni⟩
    rw [rngD_len] at hni
    rw [trn_done (by omega), List.append_nil] at hpre
    rw [hpre] at f1
    simp
    exact ⟨_, Fg.refl, hQ f G1 hf s1 f1⟩
end Hd
set_option Elab.async false
set_option linter.all false
set_option maxRecDepth 100000
set_option maxHeartbeats 4000000
namespace Hd
open PySem PySem.Spec PyProof.Rows L2 G
def clsd (p c : Addr) (Γ : Gp) : Gp := fun a => if a = p then some .src else if a = c then none else unsrc (Γ a)
def sp__law_open_cells : GSp := fun ds G Q => ∃ ns : List Int, ds = [.frl ns] ∧ ns.length ≤ 1000 ∧ (∀ a, G a ≠ some .src) ∧ ∀ p G', G p = none → Sub G G' → G' p = some .src → Q (.ref p) G'
theorem p__law_open_cells (ds : List D) (Γ : Gp) (R : GK) (h : sp__law_open_cells ds Γ R) : t__law_open_cells { nx := fun _ G' => R .non G', rt := R } (ds.map some ++ List.replicate (4 - ds.length) none) Γ := by
  obtain ⟨ns, rfl, hz, hsrc, hQ⟩ := h
  unfold t__law_open_cells
  simp
  refine for_of (fun i ρ G' => ∃ (s : Int) (x2 x3 : Option D), ρ = [some (.frl ns), some (.int s), x2, x3] ∧ G' = Γ) ⟨11, none, none, rfl, rfl⟩ (fun _ _ _ _ => trivial) ?_ ?_
  · rintro Z i d ρ G1 ed ⟨s, x2, x3, rfl, rfl⟩ hZ _ _ _
    rw [List.getElem?_map] at ed
    cases es : ns[i]? with
    | none => rw [es] at ed; cases ed
    | some n =>
      rw [es] at ed
      cases ed
      simp
      refine ⟨.inr ⟨by omega, by omega⟩, .inr ⟨by omega, by omega⟩, hZ _ _ ⟨_, _, _, rfl, rfl⟩⟩
  · rintro ρ G1 ⟨s, x2, x3, rfl, rfl⟩
    simp
    refine lc_fm _ _ (fun d => match d with | .int n => some (.int n.natAbs) | _ => none) (by rw [List.length_map]; omega) (fun _ _ => trivial) (fun d hd G2 s2 Q2 h2 => ?_) fun q G2 hq s2 hq2 => ?_
    · rw [List.mem_map] at hd
      obtain ⟨n, _, rfl⟩ := hd
      have h3 := h2 G2 Sub.refl
      have e : (if n < 0 then -n else n) = (n.natAbs : Int) := by omega
      simp
      rw [e]
      exact h3
    · have e : (ns.map D.int).filterMap (fun d => match d with | .int n => some (D.int n.natAbs) | _ => none) = (ns.map fun n => (n.natAbs : Int)).map D.int := by
        rw [List.filterMap_map, List.map_map]
        exact fm_some fun _ _ => rfl
      rw [e] at hq2
      intro p hp
      simp
      have hpq : q ≠ p := by rintro rfl; rw [hq2] at hp; cases hp
      refine ⟨_, (gup_ne hpq).trans hq2, fun r hr => ?_⟩
      have hrp : r ≠ p := by rintro rfl; rw [gup_same] at hr; cases hr
      have hr2 : G2 r = none := by rwa [gup_ne hrp] at hr
      refine ⟨by rw [gup_ne (Ne.symm hrp), gup_same], ?_⟩
      rw [← List.map_reverse]
      generalize hG3 : gup (gup (gup G2 p (.dks [])) r (.lst ((ns.map fun n => (n.natAbs : Int)).reverse.map D.int))) p (.dks [(Str.ofString "cells", D.ref r), (Str.ofString "left", D.int 1), (Str.ofString "mixed", D.int s), (Str.ofString "turn", D.int 0)]) = G3
      have p3 : G3 p = some (.dks (srcO r 1 s 0)) := by rw [← hG3, gup_same]; rfl
      have r3 : G3 r = some (.lst ((ns.map fun n => (n.natAbs : Int)).reverse.map D.int)) := by rw [← hG3, gup_ne hrp, gup_same]
      have hnn : ∀ n ∈ (ns.map fun n => (n.natAbs : Int)).reverse, 0 ≤ n := fun n hn => by
        rw [List.mem_reverse, List.mem_map] at hn
        obtain ⟨m, _, rfl⟩ := hn
        omega
      have fresh : ∀ a, G2 a = none → G1 a = none := fun a e => by
        cases h : G1 a with
        | none => rfl
        | some u => rw [s2 _ _ h] at e; cases e
      refine ⟨clsd p r G3, src_close p3 r3 hnn (by omega), hQ p _ (fresh p hp) (fun a o e => ?_) (by unfold clsd; rw [if_pos rfl])⟩
      have ap : a ≠ p := by rintro rfl; rw [fresh a hp] at e; cases e
      have ar : a ≠ r := by rintro rfl; rw [fresh a hr2] at e; cases e
      unfold clsd
      rw [if_neg ap, if_neg ar, ← hG3, gup_ne ap, gup_ne ar, gup_ne ap, s2 _ _ e]
      cases o with
      | src => exact absurd e (hsrc a)
      | _ => rfl
theorem src_cells (c : Addr) (l m t : Int) : sget (srcO c l m t) (Str.ofString "cells") = some (.ref c) := rfl
theorem src_left (c : Addr) (l m t : Int) : sget (srcO c l m t) (Str.ofString "left") = some (.int l) := rfl
theorem src_mixed (c : Addr) (l m t : Int) : sget (srcO c l m t) (Str.ofString "mixed") = some (.int m) := rfl
theorem src_turn (c : Addr) (l m t : Int) : sget (srcO c l m t) (Str.ofString "turn") = some (.int t) := rfl
theorem src_setL (c : Addr) (l m t v : Int) : sput (srcO c l m t) (Str.ofString "left") (.int v) = srcO c v m t := rfl
theorem src_setT (c : Addr) (l m t v : Int) : sput (srcO c l m t) (Str.ofString "turn") (.int v) = srcO c l m v := rfl
theorem srcO_len (c : Addr) (l m t : Int) : (srcO c l m t).length < sizeLine := by rw [sizeLine_eq]; show 4 < _; omega
theorem sub_clsd {P : Program} {w : World} {K : PySem.W.Frag} {H : Hp} {Γ Γ' : Gp} {p c : Addr} (g : GH P w K Γ H) (hp : Γ p = some .src) (hc : Γ c = none) (h : ∀ a, a ≠ p → a ≠ c → Γ' a = Γ a) : G.Sub Γ (clsd p c Γ') := fun a o e => by
  unfold clsd
  by_cases ap : a = p
  · subst ap; rw [if_pos rfl, ← e, hp]
  · rw [if_neg ap]
    have ac : a ≠ c := by rintro rfl; rw [hc] at e; cases e
    rw [if_neg ac, h a ap ac, e]
    cases o with
    | src => exact absurd (g.one a p e hp) ap
    | _ => rfl
def sp__law_pick : GSp := fun ds G Q => ∃ (p : Addr) (n : Int), ds = [.ref p, .int n] ∧ G p = some .src ∧ n < 1073741824 ∧ ∀ r G', 0 ≤ r → (r < n ∨ r = 0) → Sub G G' → Q (.int r) G'
theorem p__law_pick (ds : List D) (Γ : Gp) (R : GK) (h : sp__law_pick ds Γ R) {P : Program} {w : World} {K : PySem.W.Frag} {H : Hp} (g : GH P w K Γ H) : ∃ G1, GH P w K G1 H ∧ t__law_pick { nx := fun _ G' => R .non G', rt := R } (ds.map some ++ List.replicate (6 - ds.length) none) G1 := by
  obtain ⟨p, n, rfl, hp, hn, hQ⟩ := h
  obtain ⟨c, l, m, t, ns, hc, hcp, hns, hl, g2⟩ := src_open g hp
  refine ⟨_, g2, ?_⟩
  have fin : ∀ (l m t : Int) (ns : List Int) (r : Int) (G' : Gp), G' p = some (.dks (srcO c l m t)) → G' c = some (.lst (ns.map D.int)) → (∀ n ∈ ns, 0 ≤ n) → 0 ≤ l → (∀ a, a ≠ p → a ≠ c → G' a = Γ a) → 0 ≤ r → (r < n ∨ r = 0) → ∃ G2, Fg G2 G' ∧ R (.int r) G2 :=
    fun l m t ns r G' h1 h2 h3 h4 h5 h6 h7 => ⟨clsd p c G', src_close h1 h2 h3 h4, hQ r _ h6 h7 (sub_clsd g hp hc h5)⟩
  unfold t__law_pick
  simp
  generalize hG1 : gup (gup Γ p (.dks (srcO c l m t))) c (.lst (ns.map D.int)) = G1
  have p1 : G1 p = some (.dks (srcO c l m t)) := by rw [← hG1, gup_ne (Ne.symm hcp), gup_same]
  have c1 : G1 c = some (.lst (ns.map D.int)) := by rw [← hG1, gup_same]
  have o1 : ∀ a, a ≠ p → a ≠ c → G1 a = Γ a := fun a h1 h2 => by rw [← hG1, gup_ne h2, gup_ne h1]
  by_cases h2 : n < 2
  · rw [if_pos h2]
    exact fin l m t ns 0 G1 p1 c1 hns hl o1 (Int.le_refl _) (.inr rfl)
  · rw [if_neg h2]
    simp [p1]
    refine ⟨_, src_cells .., ?_⟩
    refine while_of (fun k ρ G' => ∃ (l : Int) (ns : List Int) (x3 x4 x5 : Option D), ρ = [some (.ref p), some (.int n), some (.ref c), x3, x4, x5] ∧ G' p = some (.dks (srcO c l m t)) ∧ G' c = some (.lst (ns.map D.int)) ∧ (∀ n ∈ ns, 0 ≤ n) ∧ 0 ≤ l ∧ (∀ a, a ≠ p → a ≠ c → G' a = Γ a) ∧ k = ns.length)
      _ ⟨l, ns, none, none, none, rfl, p1, c1, hns, hl, o1, rfl⟩ ?_
    rintro Y k ρ G2 ⟨l, ns, x3, x4, x5, rfl, p2, c2, hns, hl, o2, rfl⟩ hnx _ _ hrt
    have rest : ∀ x3 x4 x5, gSeq (gAsg (gOp rGetS (gVar 0) (gC (D.str (Str.ofString "left")))) (G.gName 3))
              (gSeq
                (gIf (gTest (gOp (G.rI fun i j => D.bl (decide (j < i))) (gVar 3) (gC (D.int 1))))
                  (gSeq
                    (gAsg (gOp (rIc CDiv fun i j => D.int (i / j)) (gVar 3) (gVar 1))
                      (gSubT (gVar 0) (gC (D.str (Str.ofString "left"))) rSetS))
                    (gRet (gOp (rIc (fun x j => 0 < j) fun i j => D.int (i % j)) (gCB rInt [gVar 3]) (gVar 1))))
                  gNext)
                (gSeq
                  (gAsg
                    (gOp (G.rI fun i j => D.int (i + j)) (gOp rGetS (gVar 0) (gC (D.str (Str.ofString "turn"))))
                      (gC (D.int 1)))
                    (gSubT (gVar 0) (gC (D.str (Str.ofString "turn"))) rSetS))
                  (gSeq (gAsg (gOp rGetS (gVar 0) (gC (D.str (Str.ofString "turn")))) (G.gName 4))
                    (gSeq
                      (gAsg
                        (gOp (rIc (fun x j => 0 < j) fun i j => D.int (i % j))
                          (gCB rInt
                            [gOp (G.rI fun i j => D.int (i + j))
                                (gOp rGetS (gVar 0) (gC (D.str (Str.ofString "mixed"))))
                                (gOp (rIc CMul fun i j => D.int (i * j)) (gVar 4) (gC (D.int 104729)))])
                          (gC (D.int 998244353)))
                        (G.gName 5))
                      (gSeq
                        (gAsg
                          (gOp (rIc (fun x j => 0 < j) fun i j => D.int (i % j))
                            (gCB rInt
                              [gOp (G.rI fun i j => D.int (i + j)) (gOp (rIc CMul fun i j => D.int (i * j)) (gVar 5) (gVar 5))
                                  (gOp (rIc CMul fun i j => D.int (i * j)) (gVar 4) (gC (D.int 17)))])
                            (gC (D.int 2147483647)))
                          (G.gName 5))
                        (gRet
                          (gOp (rIc (fun x j => 0 < j) fun i j => D.int (i % j))
                            (gCB rInt [gOp (rIc CDiv fun i j => D.int (i / j)) (gVar 5) (gC (D.int 16))]) (gVar 1)))))))) { nx := fun x G' => R D.non G', rt := R } [some (.ref p), some (.int n), some (.ref c), x3, x4, x5] G2 := by
      intro x3 x4 x5
      simp [p2]
      refine ⟨_, src_left .., l, rfl, ?_⟩
      by_cases h1 : 1 < l
      · rw [if_pos h1]
        refine ⟨l, rfl, ⟨by omega, hn⟩, srcO_len .., .inl ⟨l, rfl, by omega, ?_⟩⟩
        rw [src_setL]
        exact fin (l / n) m t ns (l % n) _ gup_same (by rw [gup_ne hcp]; exact c2) hns (Int.ediv_nonneg hl (by omega)) (fun a h3 h4 => by rw [gup_ne h3]; exact o2 a h3 h4) (Int.emod_nonneg _ (by omega)) (.inl (Int.emod_lt_of_pos _ (by omega)))
      · rw [if_neg h1]
        refine ⟨_, src_turn .., t, rfl, srcO_len .., ?_⟩
        rw [src_setT]
        refine ⟨_, src_turn .., ?_⟩
        refine ⟨_, src_mixed .., t + 1, rfl, .inr ⟨by omega, by omega⟩, m, rfl, .inl ⟨by omega, by omega⟩, t + 1, rfl, .inr ⟨by omega, by omega⟩, ⟨by omega, by omega⟩, by omega, ?_⟩
        exact fin l m (t + 1) ns _ _ gup_same (by rw [gup_ne hcp]; exact c2) hns hl (fun a h3 h4 => by rw [gup_ne h3]; exact o2 a h3 h4) (Int.emod_nonneg _ (by omega)) (.inl (Int.emod_lt_of_pos _ (by omega)))
    simp [p2, c2]
    refine ⟨_, src_left .., l, rfl, ?_⟩
    have r2 := rest x3 x4 x5
    simp [p2] at r2
    by_cases h1 : l < 2
    · rw [if_pos h1]
      rcases List.eq_nil_or_concat ns with hnil | ⟨ns', x, hcat⟩
      · subst hnil
        rw [if_neg (by simp)]
        exact r2
      · rw [List.concat_eq_append] at hcat
        subst hcat
        rw [if_pos (by simp)]
        rw [List.map_append] at c2
        refine pop_of c2 ?_
        refine ⟨_, (gup_ne (Ne.symm hcp)).trans p2, srcO_len .., ?_⟩
        rw [src_setL]
        refine hnx ns'.length _ _ (by simp) ⟨x, ns', _, _, _, rfl, gup_same, by rw [gup_ne hcp, gup_same], fun y hy => hns y (List.mem_append_left _ hy), hns x (by simp), fun a h3 h4 => by rw [gup_ne h3, gup_ne h4]; exact o2 a h3 h4, rfl⟩
    · rw [if_neg h1]
      exact r2
end Hd
set_option Elab.async false
set_option linter.all false
set_option maxRecDepth 100000
set_option maxHeartbeats 4000000
namespace Hd
open PySem PySem.Spec PyProof.Rows L2 G
/-! ### is_corridor -/
structure IsCor (p : List Dr) : Prop where
  nd : (cc p).Nodup
  sd : ∀ (i j : Nat) (a b : Cell), (cc p)[i]? = some a → (cc p)[j]? = some b → b ∈ sides a → j ≤ i + 1 ∧ i ≤ j + 1
theorem dputs_id : ∀ {kvs acc : List (D × D)}, ((acc ++ kvs).map (·.1)).Nodup → dputs acc kvs = acc ++ kvs
  | [], acc, _ => by simp [dputs]
  | p :: kvs, acc, h => by
    have hn : dget acc p.1 = none := by
      cases e : dget acc p.1 with
      | none => rfl
      | some v =>
        exfalso
        unfold dget at e
        rw [Option.map_eq_some_iff] at e
        obtain ⟨q, hq, _⟩ := e
        have h1 := List.find?_some hq
        have h2 := List.mem_of_find?_eq_some hq
        simp only [decide_eq_true_eq] at h1
        rw [List.map_append, List.nodup_append] at h
        exact h.2.2 q.1 (List.mem_map.mpr ⟨q, h2, rfl⟩) p.1 (by simp) h1
    show dputs (dput acc p.1 p.2) kvs = _
    have e : dput acc p.1 p.2 = acc ++ [p] := by unfold dput; rw [hn]; rfl
    rw [e, dputs_id (kvs := kvs) (acc := acc ++ [p]) (by simpa using h)]
    simp
theorem dget_mem {kvs : List (D × D)} (nd : (kvs.map (·.1)).Nodup) {q : D × D} (h : q ∈ kvs) : dget kvs q.1 = some q.2 := by
  induction kvs with
  | nil => cases h
  | cons t T ih =>
    rw [dget_cons]
    rw [List.map_cons, List.nodup_cons] at nd
    rcases List.mem_cons.mp h with e | h
    · subst e; simp
    · have h2 : ¬ t.1 = q.1 := fun e => nd.1 (by rw [e]; exact List.mem_map.mpr ⟨q, h, rfl⟩)
      rw [if_neg h2]
      exact ih nd.2 h
theorem dget_nomem {kvs : List (D × D)} {k : D} (h : k ∉ kvs.map (·.1)) : dget kvs k = none := by
  induction kvs with
  | nil => rfl
  | cons t T ih =>
    rw [List.map_cons, List.mem_cons, not_or] at h
    rw [dget_cons, if_neg (Ne.symm h.1)]
    exact ih h.2
/-- cells with their numbers -/
def nums (L : List Cell) : List (D × D) := L.mapIdx fun i c => (cD c, .int i)
theorem nums_keys (L : List Cell) : (nums L).map (·.1) = L.map cD := by
  unfold nums
  apply List.ext_getElem?
  intro i
  rw [List.getElem?_map, List.getElem?_mapIdx, List.getElem?_map]
  cases L[i]? <;> rfl
theorem cDs_nodup {L : List Cell} (h : L.Nodup) : (L.map cD).Nodup := by
  rw [List.Nodup, List.pairwise_map]
  exact h.imp fun {a b} hn e => hn (cD_inj e)
theorem nums_get {L : List Cell} (nd : L.Nodup) {j : Nat} {s : Cell} (h : L[j]? = some s) : dget (nums L) (cD s) = some (.int j) := by
  refine dget_mem (q := (cD s, .int j)) (by rw [nums_keys]; exact cDs_nodup nd) ?_
  refine List.mem_of_getElem? (i := j) ?_
  unfold nums
  rw [List.getElem?_mapIdx, h]
  rfl
theorem nums_none {L : List Cell} {s : Cell} (h : s ∉ L) : dget (nums L) (cD s) = none := by
  refine dget_nomem ?_
  rw [nums_keys]
  exact fun q => h (cD_mem.mp q)
open Classical in
noncomputable def nv (L : List Cell) (s : Cell) (i : Int) : Int := if h : ∃ j : Nat, L[j]? = some s then (h.choose : Nat) else i
theorem idx_inj {L : List Cell} (nd : L.Nodup) {i j : Nat} {s : Cell} (h1 : L[i]? = some s) (h2 : L[j]? = some s) : i = j := by
  obtain ⟨a1, a2⟩ := List.getElem?_eq_some_iff.mp h1
  obtain ⟨b1, b2⟩ := List.getElem?_eq_some_iff.mp h2
  rcases Nat.lt_trichotomy i j with h | h | h
  · exact absurd (a2.trans b2.symm) (List.pairwise_iff_getElem.mp nd i j a1 b1 h)
  · exact h
  · exact absurd (b2.trans a2.symm) (List.pairwise_iff_getElem.mp nd j i b1 a1 h)
theorem nv_at {L : List Cell} (nd : L.Nodup) {j : Nat} {s : Cell} (h : L[j]? = some s) (i : Int) : nv L s i = j := by
  unfold nv
  have hx : ∃ j : Nat, L[j]? = some s := ⟨j, h⟩
  rw [dif_pos hx, idx_inj nd hx.choose_spec h]
theorem nums_getD {L : List Cell} (nd : L.Nodup) (s : Cell) (i : Int) : (dget (nums L) (cD s)).getD (.int i) = .int (nv L s i) := by
  by_cases h : ∃ j : Nat, L[j]? = some s
  · obtain ⟨j, hj⟩ := h
    rw [nums_get nd hj, nv_at nd hj]
    rfl
  · rw [nums_none fun q => h (List.mem_iff_getElem?.mp q)]
    unfold nv
    rw [dif_neg h]
    rfl
def sp__law_is_corridor : GSp := fun ds G Q => ∃ p : List Dr, ds = [.str (stS p)] ∧ p.length ≤ 60 ∧ ∀ b G', (b = true → IsCor p) → Sub G G' → Q (.bl b) G'
theorem p__law_is_corridor (ds : List D) (Γ : Gp) (R : GK) (h : sp__law_is_corridor ds Γ R) : t__law_is_corridor sp__law_goes sp__law_sides { nx := fun _ G' => R .non G', rt := R } (ds.map some ++ List.replicate (6 - ds.length) none) Γ := by
  obtain ⟨p, rfl, hp, hQ⟩ := h
  have hcl : (cc p).length ≤ 61 := by unfold cc; rw [trl_len]; omega
  unfold t__law_is_corridor
  simp
  refine ⟨p, rfl, by omega, fun q G1 hq s1 hq1 => ?_⟩
  have eks : (cc p).map cD = ((cc p).map fun c => [c.1, c.2]).map fun k => D.tup (k.map D.int) := by rw [List.map_map]; rfl
  have ekn : ((cc p).map fun c => [c.1, c.2]).Nodup ↔ (cc p).Nodup := by
    rw [List.Nodup, List.pairwise_map]
    refine ⟨fun h => h.imp fun {a b} hn e => hn (by rw [e]), fun h => h.imp fun {a b} hn e => hn ?_⟩
    simp only [List.cons.injEq, and_true] at e
    exact Prod.ext e.1 e.2
  refine ⟨q, rfl, _, by rw [hq1, eks], by rw [List.length_map]; omega, fun n hn1 hn2 => ?_⟩
  rw [List.length_map, ekn] at hn1
  simp [hq1]
  refine ⟨.inl ⟨rfl, rfl⟩, ?_⟩
  by_cases hnd : (cc p).Nodup
  · refine .inl ⟨by rw [hn1.mpr hnd], ?_⟩
    have emi : ((cc p).map cD).mapIdx (fun i d => D.tup [D.int (i : Nat), d]) = (cc p).mapIdx fun i c => D.tup [D.int (i : Nat), cD c] := by
      apply List.ext_getElem?
      intro i
      rw [List.getElem?_mapIdx, List.getElem?_mapIdx, List.getElem?_map]
      cases (cc p)[i]? <;> rfl
    rw [emi]
    refine lc_fm _ _ (fun d => match d with | .tup [a, b] => some (.tup [b, a]) | _ => none) (by rw [List.length_mapIdx]; omega) (fun G2 s2 => s2 _ _ hq1) (fun d hd G2 s2 Q2 h2 => ?_) fun r G2 hr s2 hr2 => ?_
    · rw [List.mem_mapIdx] at hd
      obtain ⟨i, hi, rfl⟩ := hd
      have h3 := h2 G2 Sub.refl
      simp
      exact h3
    · have ef : ((cc p).mapIdx fun i c => D.tup [D.int (i : Nat), cD c]).filterMap (fun d => match d with | .tup [a, b] => some (D.tup [b, a]) | _ => none) = (nums (cc p)).map fun q => D.tup [q.1, q.2] := by
        have : ∀ d ∈ ((cc p).mapIdx fun i c => D.tup [D.int (i : Nat), cD c]), (fun d => match d with | .tup [a, b] => some (D.tup [b, a]) | _ => none) d = some ((fun d => match d with | .tup [a, b] => D.tup [b, a] | _ => .non) d) := fun d hd => by
          rw [List.mem_mapIdx] at hd
          obtain ⟨i, hi, rfl⟩ := hd
          rfl
        rw [fm_some this]
        unfold nums
        apply List.ext_getElem?
        intro i
        rw [List.getElem?_map, List.getElem?_mapIdx, List.getElem?_map, List.getElem?_mapIdx]
        cases (cc p)[i]? <;> rfl
      rw [ef] at hr2
      have hkd : (nums (cc p)).map (·.1) = (cc p).map cD := nums_keys _
      refine ⟨r, rfl, _, hr2, fun a b hab => ?_, fun t ht => ?_⟩
      · have : a ∈ (nums (cc p)).map (·.1) := List.mem_map.mpr ⟨(a, b), hab, rfl⟩
        rw [hkd, List.mem_map] at this
        obtain ⟨c, _, rfl⟩ := this
        exact cD_key c
      · have edp : dputs [] (nums (cc p)) = nums (cc p) := by
          have := dputs_id (kvs := nums (cc p)) (acc := []) (by rw [List.nil_append, hkd]; exact cDs_nodup hnd)
          simpa using this
        rw [edp]
        have q2 := s2 _ _ hq1
        have hqt : q ≠ t := by rintro rfl; rw [q2] at ht; cases ht
        refine ⟨_, (gup_ne hqt).trans q2, ?_⟩
        rw [emi]
        generalize hG3 : gup G2 t (.dct (nums (cc p))) = G3
        have s3 : G.Sub G2 G3 := by rw [← hG3]; exact Sub.new ht
        have t3 : G3 t = some (.dct (nums (cc p))) := by rw [← hG3, gup_same]
        refine for_of (fun i ρ G' => ∃ x3 x4 x5, ρ = [some (.str (stS p)), some (.ref q), some (.ref t), x3, x4, x5] ∧ G.Sub G3 G' ∧ ∀ j c, j < i → (cc p)[j]? = some c → ∀ s ∈ sides c, nv (cc p) s j - j ≤ 1 ∧ (j : Int) - nv (cc p) s j ≤ 1)
          ⟨none, none, none, rfl, Sub.refl, fun j c h => absurd h (Nat.not_lt_zero _)⟩ (fun i ρ G' ⟨_, _, _, _, s, _⟩ => s _ _ (s3 _ _ q2)) ?_ ?_
        · rintro Z i d ρ G4 ed ⟨x3, x4, x5, rfl, s4, hok⟩ hZ _ _ hrt
          rw [List.getElem?_mapIdx] at ed
          cases es : (cc p)[i]? with
          | none => rw [es] at ed; cases ed
          | some c =>
            rw [es] at ed
            cases ed
            simp
            refine ⟨c, rfl, fun u G5 hu s5 hu5 => ⟨u, rfl, _, hu5, ?_⟩⟩
            refine lc_fm _ _ (fun d => (un cD d).bind fun s => if nv (cc p) s i - i > 1 ∨ (i : Int) - nv (cc p) s i > 1 then some d else none) (by rw [List.length_map]; show 4 ≤ _; omega) (fun G6 s6 => s6 _ _ hu5) (fun d hd G6 s6 Q6 h6 => ?_) fun v G6 hv s6 hv6 => ?_
            · rw [List.mem_map] at hd
              obtain ⟨s, _, rfl⟩ := hd
              have h7 := h6 G6 Sub.refl
              rw [un_of cD_inj] at h7
              have t6 := s6 _ _ (s5 _ _ (s4 _ _ t3))
              simp [t6]
              refine ⟨_, nums_getD hnd s i, ?_⟩
              by_cases hc : nv (cc p) s i - i > 1 ∨ (i : Int) - nv (cc p) s i > 1
              · rw [if_pos (by split <;> omega)]
                simpa [hc] using h7
              · rw [if_neg (by split <;> omega)]
                simpa [hc] using h7
            · have eX : ((sides c).map cD).filterMap (fun d => (un cD d).bind fun s => if nv (cc p) s i - i > 1 ∨ (i : Int) - nv (cc p) s i > 1 then some d else none) = ((sides c).filter fun s => decide (nv (cc p) s i - i > 1 ∨ (i : Int) - nv (cc p) s i > 1)).map cD := by
                rw [List.filterMap_map]
                refine fm_filter (fun s => decide (nv (cc p) s i - i > 1 ∨ (i : Int) - nv (cc p) s i > 1)) cD _ _ fun s _ => ?_
                show (un cD (cD s)).bind _ = _
                rw [un_of cD_inj]
                simp
              rw [eX] at hv6
              intro z hz
              have hvz : v ≠ z := by rintro rfl; rw [hv6] at hz; cases hz
              have g6 : G.Sub Γ (gup G6 z (.lst [])) := ((((s1.trans s2).trans s3).trans s4).trans (s5.trans s6)).trans (Sub.new hz)
              refine ⟨v, rfl, _, (gup_ne hvz).trans hv6, cDs_okey 7 _, rfl, ?_⟩
              by_cases hX : ((sides c).filter fun s => decide (nv (cc p) s i - i > 1 ∨ (i : Int) - nv (cc p) s i > 1)) = []
              · refine .inl ⟨by rw [hX]; rfl, hZ _ _ ⟨_, _, _, rfl, s4.trans ((s5.trans s6).trans (Sub.new hz)), fun j c' hj hc' s hs => ?_⟩⟩
                by_cases hji : j < i
                · exact hok j c' hji hc' s hs
                · have : j = i := by omega
                  subst this
                  rw [es] at hc'
                  cases hc'
                  have := List.filter_eq_nil_iff.mp hX s hs
                  simp only [decide_eq_true_eq] at this
                  omega
              · refine .inr ⟨fun q => hX (List.map_eq_nil_iff.mp q), _, Fg.refl, ?_⟩
                rw [hrt]
                exact hQ false _ (fun h => by cases h) g6
        · rintro ρ G4 ⟨x3, x4, x5, rfl, s4, hok⟩
          rw [List.length_mapIdx] at hok
          simp
          refine ⟨_, Fg.refl, hQ true G4 (fun _ => ⟨hnd, fun i j a b ha hb hs => ?_⟩) (((s1.trans s2).trans s3).trans s4)⟩
          have h1 := hok i a (List.getElem?_eq_some_iff.mp ha).1 ha b hs
          rw [nv_at hnd hb] at h1
          omega
  · refine .inr ⟨fun e => hnd (hn1.mp (by omega)), _, Fg.refl, hQ false G1 (fun h => by cases h) s1⟩
end Hd
set_option Elab.async false
set_option linter.all false
set_option maxRecDepth 100000
set_option maxHeartbeats 4000000
namespace Hd
open PySem PySem.Spec PyProof.Rows L2 G
theorem isCor_nil : IsCor [] where
  nd := by show [((0, 0) : Cell)].Nodup; simp
  sd := fun i j a b ha hb _ => by
    have h1 := (List.getElem?_eq_some_iff.mp ha).1
    have h2 := (List.getElem?_eq_some_iff.mp hb).1
    have e : (cc []).length = 1 := rfl
    omega
theorem cut_tail (p : List Dr) (x : Dr) : cutS (stS (p ++ [x])) (some (-1)) none = x.sg := by
  unfold cutS
  have e1 : HT.sIx (stS (p ++ [x])).length (stS (p ++ [x])).length none = p.length + 1 := by rw [HT.sIx_none, stS_len]; simp
  have e2 : HT.sIx (stS (p ++ [x])).length 0 (some (-1)) = p.length := by
    rw [stS_len]
    unfold HT.sIx
    simp
    omega
  rw [e1, e2]
  unfold stS
  simp
  rfl
theorem rlud_cps : (Str.ofString "rlud").cps.toList = [114, 108, 117, 100] := by decide +kernel
def sp__law_draw_corridor : GSp := fun ds G Q => ∃ (s : Addr) (n : Nat), ds = [.ref s, .int n] ∧ G s = some .src ∧ n ≤ 50 ∧ ∀ (p : List Dr) G', IsCor p → p.length ≤ n → Sub G G' → Q (.str (stS p)) G'
theorem p__law_draw_corridor (ds : List D) (Γ : Gp) (R : GK) (h : sp__law_draw_corridor ds Γ R) : t__law_draw_corridor sp__law_pick sp__law_is_corridor { nx := fun _ G' => R .non G', rt := R } (ds.map some ++ List.replicate (5 - ds.length) none) Γ := by
  obtain ⟨s, n, rfl, hs, hn, hQ⟩ := h
  unfold t__law_draw_corridor
  simp
  refine ⟨s, (n : Int) + 1, rfl, hs, by omega, fun r G1 hr0 hr1 s1 => ?_⟩
  refine ⟨r, rfl, by omega, by omega, ?_⟩
  refine for_of (fun i ρ G' => ∃ (p : List Dr) (x3 x4 : Option D), ρ = [some (.ref s), some (.int n), some (.str (stS p)), x3, x4] ∧ G.Sub Γ G' ∧ IsCor p ∧ p.length ≤ i ∧ i ≤ n)
    ⟨[], none, none, rfl, s1, isCor_nil, Nat.le_refl _, Nat.zero_le _⟩ (fun _ _ _ _ => trivial) ?_ ?_
  · rintro Z i d ρ G2 ed ⟨p, x3, x4, rfl, s2, hc, hpi, hin⟩ hZ _ _ _
    obtain ⟨hi, rfl⟩ := rng_get ed
    have hsz : (stS p).length ≤ sizeLine := by rw [stS_len, sizeLine_eq]; omega
    have cor : ∀ (x : Dr) (z : Str) G3, z = x.sg → G.Sub G2 G3 → sp__law_is_corridor [D.str (stS p ++ z)] G3 fun d G' =>
        d = D.bl false ∧ Z.nx [some (D.ref s), some (D.int n), some (D.str (stS p)), some (D.int i), some (D.str (stS p ++ z))] G' ∨
        d = D.bl true ∧ Z.nx [some (D.ref s), some (D.int n), some (D.str (stS p ++ z)), some (D.int i), some (D.str (stS p ++ z))] G' := by
      rintro x z G3 rfl s3
      rw [← stS_snoc]
      refine ⟨p ++ [x], rfl, by rw [List.length_append, List.length_singleton]; omega, fun b G4 hb s4 => ?_⟩
      cases b with
      | false => exact .inl ⟨rfl, hZ _ _ ⟨p, _, _, rfl, (s2.trans s3).trans s4, hc, by omega, by omega⟩⟩
      | true => exact .inr ⟨rfl, hZ _ _ ⟨p ++ [x], _, _, rfl, (s2.trans s3).trans s4, hb rfl, by rw [List.length_append, List.length_singleton]; omega, by omega⟩⟩
    have pick : ∀ G3, G.Sub G2 G3 → sp__law_pick [D.ref s, D.int 4] G3 fun y G2 =>
                ∃ x,
                  y = D.int x ∧
                    (Str.ofString "rlud").length ≤ sizeLine ∧
                      ∃ x_1,
                        atI (Str.ofString "rlud").cps.toList x = some x_1 ∧
                          (stS p).length + ({ cps := #[x_1] } : Str).length ≤ sizeLine ∧
                            sp__law_is_corridor [D.str (stS p ++ { cps := #[x_1] })] G2 fun d G' =>
                              d = D.bl false ∧
                                  Z.nx
                                    [some (D.ref s), some (D.int n), some (D.str (stS p)), some (D.int i),
                                      some (D.str (stS p ++ { cps := #[x_1] }))]
                                    G' ∨
                                d = D.bl true ∧
                                  Z.nx
                                    [some (D.ref s), some (D.int n), some (D.str (stS p ++ { cps := #[x_1] })),
                                      some (D.int i), some (D.str (stS p ++ { cps := #[x_1] }))]
                                    G' := by
      intro G3 s3
      refine ⟨s, 4, rfl, s3 _ _ (s2 _ _ hs), by omega, fun r G4 r0 r1 s4 => ⟨r, rfl, by decide +kernel, ?_⟩⟩
      rw [rlud_cps]
      have hl1 : ∀ k : Nat, (stS p).length + ({ cps := #[k] } : Str).length ≤ sizeLine := fun k => by
        rw [stS_len, show ({ cps := #[k] } : Str).length = 1 from rfl, sizeLine_eq]; omega
      have : r = 0 ∨ r = 1 ∨ r = 2 ∨ r = 3 := by omega
      rcases this with rfl | rfl | rfl | rfl
      · exact ⟨114, by decide +kernel, hl1 _, cor .r _ _ rfl (s3.trans s4)⟩
      · exact ⟨108, by decide +kernel, hl1 _, cor .l _ _ rfl (s3.trans s4)⟩
      · exact ⟨117, by decide +kernel, hl1 _, cor .u _ _ rfl (s3.trans s4)⟩
      · exact ⟨100, by decide +kernel, hl1 _, cor .d _ _ rfl (s3.trans s4)⟩
    simp
    refine ⟨s, 3, rfl, s2 _ _ hs, by omega, fun r G3 _ _ s3 => ⟨.inl ⟨rfl, rfl⟩, ?_⟩⟩
    have eD : (D.int r = D.int 0) = (r = 0) := by simp
    by_cases hr : r = 0
    · rw [if_pos (by rw [hr])]
      refine ⟨.inl ⟨rfl, rfl⟩, ?_⟩
      rcases List.eq_nil_or_concat p with hnil | ⟨q, x, hcat⟩
      · exact .inl ⟨by rw [hnil]; rfl, pick G3 s3⟩
      · rw [List.concat_eq_append] at hcat
        refine .inr ⟨fun e => ?_, hsz, ?_⟩
        · have := congrArg Str.length e
          rw [stS_len, hcat] at this
          simp at this
          have z : (Str.ofString "").length = 0 := by decide +kernel
          omega
        · have ec : cutS (stS p) (some (-1)) none = x.sg := by rw [hcat]; exact cut_tail q x
          rw [ec]
          exact ⟨by rw [stS_len, show x.sg.length = 1 from rfl, sizeLine_eq]; omega, cor x _ _ rfl s3⟩
    · rw [if_neg (by rw [eD]; exact hr)]
      exact pick G3 s3
  · rintro ρ G2 ⟨p, x3, x4, rfl, s2, hc, hpi, hin⟩
    rw [rngD_len] at hpi hin
    simp
    exact ⟨_, Fg.refl, hQ p G2 hc (by omega) s2⟩
end Hd
set_option Elab.async false
set_option linter.all false
set_option maxRecDepth 100000
set_option maxHeartbeats 4000000
namespace Hd
open PySem PySem.Spec PyProof.Rows L2 G
/-! ### the law's own field -/
def dv (i : Nat) : Int := if i = 0 then 1 else -1
theorem dv_unit (i : Nat) : Unit1 (dv i) := by
  unfold dv
  split
  · exact .inl rfl
  · exact .inr rfl
def Dn (L : List Cell) (s : Cell) (i j : Nat) (c : Cell) : Prop := c = s ∨ ∃ a b, b < 2 ∧ (a < i ∨ (a = i ∧ b < j)) ∧ Rch (· ∈ dedup L) (qs (dv a) (dv b)) s c
theorem rch_dedup {L : List Cell} {dx dy : Int} {s c : Cell} : Rch (· ∈ dedup L) (qs dx dy) s c ↔ Rch (· ∈ L) (qs dx dy) s c := by
  have e : (fun c => c ∈ dedup L) = (fun c => c ∈ L) := funext fun c => propext mem_dedup
  rw [e]
theorem dn_all {L : List Cell} {s c : Cell} : Dn L s 2 0 c ↔ Fld L s c := by
  unfold Dn Fld
  constructor
  · rintro (rfl | ⟨a, b, hb, hab, h⟩)
    · exact ⟨1, 1, .inl rfl, .inl rfl, .base⟩
    · exact ⟨_, _, dv_unit a, dv_unit b, rch_dedup.mp h⟩
  · rintro ⟨dx, dy, hx, hy, h⟩
    right
    have k : ∀ d, Unit1 d → ∃ i, i < 2 ∧ dv i = d := fun d hd => by
      rcases hd with rfl | rfl
      · exact ⟨0, by omega, rfl⟩
      · exact ⟨1, by omega, rfl⟩
    obtain ⟨a, ha, rfl⟩ := k dx hx
    obtain ⟨b, hb, rfl⟩ := k dy hy
    exact ⟨a, b, hb, .inl ha, rch_dedup.mpr h⟩
theorem dn_next {L : List Cell} {s c : Cell} {i j : Nat} (hj : j < 2) : Dn L s i (j + 1) c ↔ Dn L s i j c ∨ Rch (· ∈ dedup L) (qs (dv i) (dv j)) s c := by
  unfold Dn
  constructor
  · rintro (h | ⟨a, b, hb, hab, h⟩)
    · exact .inl (.inl h)
    · by_cases e : a = i ∧ b = j
      · rw [e.1, e.2] at h; exact .inr h
      · exact .inl (.inr ⟨a, b, hb, by omega, h⟩)
  · rintro ((h | ⟨a, b, hb, hab, h⟩) | h)
    · exact .inl h
    · exact .inr ⟨a, b, hb, by omega, h⟩
    · exact .inr ⟨i, j, hj, .inr ⟨rfl, by omega⟩, h⟩
theorem dn_row {L : List Cell} {s c : Cell} {i : Nat} : Dn L s i 2 c ↔ Dn L s (i + 1) 0 c := by
  unfold Dn
  constructor
  · rintro (h | ⟨a, b, hb, hab, h⟩)
    · exact .inl h
    · exact .inr ⟨a, b, hb, by omega, h⟩
  · rintro (h | ⟨a, b, hb, hab, h⟩)
    · exact .inl h
    · exact .inr ⟨a, b, hb, by omega, h⟩
theorem dn_in {L : List Cell} {s c : Cell} {i j : Nat} (h : Dn L s i j c) : c ∈ s :: L := by
  rcases h with rfl | ⟨_, _, _, _, h⟩
  · exact List.mem_cons_self
  · rcases rch_in h with rfl | h
    · exact List.mem_cons_self
    · exact List.mem_cons_of_mem _ (mem_dedup.mp h)
def sp__law_field : GSp := fun ds G Q => ∃ (L : List Cell) (s : Cell), ds = [rD L, cD s] ∧ L.length ≤ 5000 ∧ ∀ G', Sub G G' → Q (rD (fld L s)) G'
theorem p__law_field (ds : List D) (Γ : Gp) (R : GK) (h : sp__law_field ds Γ R) : t__law_field { nx := fun _ G' => R .non G', rt := R } (ds.map some ++ List.replicate (12 - ds.length) none) Γ := by
  obtain ⟨L, s, rfl, hL, hQ⟩ := h
  unfold t__law_field
  simp [rD]
  refine lc_fm _ _ (fun d => some (.tup [d, .int 0])) (by rw [List.length_map]; omega) (fun _ _ => trivial) (fun d hd G1 s1 Q1 h1 => ?_) fun q G1 hq s1 hq1 => ?_
  · simp
    exact h1 _ Sub.refl
  · have e1 : (L.map cD).filterMap (fun d => some (D.tup [d, .int 0])) = (L.map fun c => (cD c, D.int 0)).map fun q => D.tup [q.1, q.2] := by
      rw [List.filterMap_map, List.map_map]
      exact fm_some fun _ _ => rfl
    rw [e1] at hq1
    refine ⟨q, rfl, _, hq1, fun a b hab => ?_, fun h hh => ?_⟩
    · obtain ⟨c, _, e⟩ := List.mem_map.mp hab
      cases e
      exact cD_key c
    · rw [dputs_nil]
      intro f hf
      have hfh : f ≠ h := by rintro rfl; rw [gup_same] at hf; cases hf
      have fresh : ∀ a, G1 a = none → Γ a = none := fun a e => by
        cases h : Γ a with
        | none => rfl
        | some u => rw [s1 _ _ h] at e; cases e
      have hhn := fresh h hh
      have hfn : Γ f = none := fresh f (by rwa [gup_ne hfh] at hf)
      generalize hG2 : gup (gup G1 h (.dct (cset (dedup L) (.int 0)))) f (.dct [(cD s, D.int 0)]) = G2
      have s2 : G.Sub Γ G2 := by rw [← hG2]; exact s1.trans ((Sub.new hh).trans (Sub.new hf))
      have h2 : G2 h = some (.dct (cset (dedup L) (.int 0))) := by rw [← hG2, gup_ne (Ne.symm hfh), gup_same]
      have f2 : G2 f = some (.dct (cset [s] (.int 0))) := by rw [← hG2, gup_same]; rfl
      have two : ∀ (i : Nat) (d : D), [D.int 1, D.int (-1)][i]? = some d → i < 2 ∧ d = .int (dv i) := by
        intro i d e
        match i, e with
        | 0, e => cases e; exact ⟨by omega, rfl⟩
        | 1, e => cases e; exact ⟨by omega, rfl⟩
      refine for_of (fun i ρ G' => ∃ Fd x5 x6 x7 x8 x9 x10 x11, ρ = [some (D.tup (L.map cD)), some (cD s), some (D.ref h), some (D.ref f), none, x5, x6, x7, x8, x9, x10, x11] ∧ G.Sub Γ G' ∧ G' h = some (.dct (cset (dedup L) (.int 0))) ∧ G' f = some (.dct (cset Fd (.int 0))) ∧ Fd.Nodup ∧ ∀ c, c ∈ Fd ↔ Dn L s i 0 c)
        ⟨[s], none, none, none, none, none, none, none, rfl, s2, h2, f2, by simp, fun c => by unfold Dn; simp⟩ (fun _ _ _ _ => trivial) ?_ ?_
      · rintro Z i d ρ G3 ed ⟨Fd, x5, x6, x7, x8, x9, x10, x11, rfl, s3, h3, f3, nd, hm⟩ hZ _ _ _
        obtain ⟨hi, rfl⟩ := two i d ed
        simp
        refine for_of (fun j ρ G' => ∃ Fd x6 x7 x8 x9 x10 x11, ρ = [some (D.tup (L.map cD)), some (cD s), some (D.ref h), some (D.ref f), none, some (.int (dv i)), x6, x7, x8, x9, x10, x11] ∧ G.Sub Γ G' ∧ G' h = some (.dct (cset (dedup L) (.int 0))) ∧ G' f = some (.dct (cset Fd (.int 0))) ∧ Fd.Nodup ∧ ∀ c, c ∈ Fd ↔ Dn L s i j c)
          ⟨Fd, x6, x7, x8, x9, x10, x11, rfl, s3, h3, f3, nd, hm⟩ (fun _ _ _ _ => trivial) ?_ ?_
        · rintro Y j d ρ G4 ed ⟨Fd, x6, x7, x8, x9, x10, x11, rfl, s4, h4, f4, nd, hm⟩ hY _ _ _
          obtain ⟨hj, rfl⟩ := two j d ed
          simp
          intro m hmm r hr
          have hrm : r ≠ m := by rintro rfl; rw [gup_same] at hr; cases hr
          have hrn : G4 r = none := by rwa [gup_ne hrm] at hr
          have hmf : m ≠ f := by rintro rfl; rw [f4] at hmm; cases hmm
          have hmh : m ≠ h := by rintro rfl; rw [h4] at hmm; cases hmm
          have hrf : r ≠ f := by rintro rfl; rw [f4] at hrn; cases hrn
          have hrh : r ≠ h := by rintro rfl; rw [h4] at hrn; cases hrn
          have hmn : Γ m = none := by
            cases e : Γ m with
            | none => rfl
            | some u => rw [s4 _ _ e] at hmm; cases hmm
          have hrnn : Γ r = none := by
            cases e : Γ r with
            | none => rfl
            | some u => rw [s4 _ _ e] at hrn; cases hrn
          refine while_of (fun k ρ G' => ∃ F S Fd x9 x10 x11, ρ = [some (D.tup (L.map cD)), some (cD s), some (D.ref h), some (D.ref f), none, some (.int (dv i)), some (.int (dv j)), some (.ref m), some (.ref r), x9, x10, x11] ∧ G.Sub Γ G' ∧ G' h = some (.dct (cset (dedup L) (.int 0))) ∧ G' f = some (.dct (cset Fd (.int 0))) ∧ Fd.Nodup ∧ (∀ c, c ∈ Fd ↔ Dn L s i j c ∨ c ∈ F) ∧ G' m = some (.dct (cset F (.int 0))) ∧ G' r = some (.lst (S.map cD)) ∧ FI (dedup L) (qs (dv i) (dv j)) s (F, S) ∧ k = fmeas (dedup L) (F, S))
            _ ⟨[s], [s], Fd, x9, x10, x11, rfl, (s4.trans (Sub.new hmm)).trans (Sub.new hr), by rw [gup_ne (Ne.symm hrh), gup_ne (Ne.symm hmh)]; exact h4, by rw [gup_ne (Ne.symm hrf), gup_ne (Ne.symm hmf)]; exact f4, nd, fun c => by
              rw [hm]
              constructor
              · exact .inl
              · rintro (h | h)
                · exact h
                · rw [List.mem_singleton.mp h]; exact .inl rfl, by rw [gup_ne (Ne.symm hrm), gup_same]; rfl, gup_same, FI.start .., rfl⟩ ?_
          rintro V k ρ G5 ⟨F, S, Fd, x9, x10, x11, rfl, s5, h5, f5, nd, hm, m5, r5, inv, rfl⟩ hnx _ _ _
          have FL : ∀ {F S : List Cell}, FI (dedup L) (qs (dv i) (dv j)) s (F, S) → F.length ≤ 5001 ∧ S.length ≤ 5001 := fun inv => by
            have h1 := inv.len
            have h2 := dedup_len L
            simp only at h1
            omega
          simp [r5]
          intro z hz
          have hzr : r ≠ z := by rintro rfl; rw [r5] at hz; cases hz
          refine ⟨_, (gup_ne hzr).trans r5, cDs_okey 7 _, rfl, ?_⟩
          rcases snoc_or S with rfl | ⟨S, c, rfl⟩
          · refine .inl ⟨rfl, hY _ _ ⟨Fd, _, _, _, _, _, _, rfl, s5.trans (Sub.new hz), (Sub.new hz) _ _ h5, (Sub.new hz) _ _ f5, nd, fun c => ?_⟩⟩
            rw [hm, inv.all]
            exact (dn_next hj).symm
          · refine .inr ⟨by simp, ⟨_, (gup_ne hzr).trans r5⟩, ?_⟩
            generalize hG6 : gup G5 z (.lst []) = G6
            have s6 : G.Sub G5 G6 := by rw [← hG6]; exact Sub.new hz
            have r6 := s6 _ _ r5
            rw [List.map_append] at r6
            refine pop_of r6 ⟨_, rfl, rfl, _, _, rfl, _, _, rfl, rfl, _, rfl, _, rfl, ?_⟩
            generalize hG7 : gup G6 r (.lst (S.map cD)) = G7
            have s7 : G.Sub Γ G7 := by rw [← hG7]; exact Sub.upd (s5.trans s6) hrnn
            have h7 : G7 h = some (.dct (cset (dedup L) (.int 0))) := by rw [← hG7, gup_ne (Ne.symm hrh)]; exact s6 _ _ h5
            have f7 : G7 f = some (.dct (cset Fd (.int 0))) := by rw [← hG7, gup_ne (Ne.symm hrf)]; exact s6 _ _ f5
            have m7 : G7 m = some (.dct (cset F (.int 0))) := by rw [← hG7, gup_ne (Ne.symm hrm)]; exact s6 _ _ m5
            have r7 : G7 r = some (.lst (S.map cD)) := by rw [← hG7, gup_same]
            refine for_of (fun k ρ G' => ∃ F' S' Fd x11, ρ = [some (D.tup (L.map cD)), some (cD s), some (D.ref h), some (D.ref f), none, some (.int (dv i)), some (.int (dv j)), some (.ref m), some (.ref r), some (.int c.1), some (.int c.2), x11] ∧ G.Sub Γ G' ∧ G' h = some (.dct (cset (dedup L) (.int 0))) ∧ G' f = some (.dct (cset Fd (.int 0))) ∧ Fd.Nodup ∧ (∀ c, c ∈ Fd ↔ Dn L s i j c ∨ c ∈ F') ∧ G' m = some (.dct (cset F' (.int 0))) ∧ G' r = some (.lst (S'.map cD)) ∧ ((qs (dv i) (dv j) c).take k).foldl (visit (dedup L)) (F, S) = (F', S'))
              ⟨F, S, Fd, x11, rfl, s7, h7, f7, nd, hm, m7, r7, rfl⟩ (fun _ _ _ _ => trivial) ?_ ?_
            · rintro U k d ρ G8 ed ⟨F', S', Fd, x11, rfl, s8, h8, f8, nd, hm, m8, r8, hv⟩ hU _ _ _
              have hmm' : ∃ e : Cell, d = cD e ∧ (qs (dv i) (dv j) c)[k]? = some e := by
                match k, ed with
                | 0, ed => cases ed; exact ⟨(c.1 + dv i, c.2), rfl, rfl⟩
                | 1, ed => cases ed; exact ⟨(c.1, c.2 + dv j), rfl, rfl⟩
              obtain ⟨e, rfl, ee⟩ := hmm'
              have e5 : (qs (dv i) (dv j) c).take (k + 1) = (qs (dv i) (dv j) c).take k ++ [e] := by rw [List.take_succ, ee]; rfl
              have hv2 : ((qs (dv i) (dv j) c).take (k + 1)).foldl (visit (dedup L)) (F, S) = visit (dedup L) (F', S') e := by rw [e5, List.foldl_append, hv]; rfl
              have hft := ((inv.pop).visits ((qs (dv i) (dv j) c).take k) fun d hd => List.mem_of_mem_take hd)
              rw [hv] at hft
              have hlen : F'.length ≤ (dedup L).length + 1 ∧ S'.length ≤ (dedup L).length + 1 := hft.len
              have hdl := dedup_len L
              have hFl : Fd.length ≤ L.length + 1 := by
                have := nodup_len nd (B := s :: L) fun x hx => by
                  rcases (hm x).mp hx with h | h
                  · exact dn_in h
                  · rcases rch_in (hft.rch x h) with e | e
                    · rw [e]; exact List.mem_cons_self
                    · exact List.mem_cons_of_mem _ (mem_dedup.mp e)
                simpa using this
              simp [h8, m8]
              by_cases h1 : e ∈ dedup L
              · rw [if_pos h1]
                by_cases h2 : e ∈ F'
                · rw [if_pos h2]
                  exact hU _ _ ⟨F', S', Fd, _, rfl, s8, h8, f8, nd, hm, m8, r8, by rw [hv2]; simp [visit, h2]⟩
                · rw [if_neg h2]
                  refine ⟨by rw [sizeLine_eq]; omega, _, (gup_ne (Ne.symm hmf)).trans f8, by rw [cset_len, sizeLine_eq]; omega, ?_⟩
                  have hr9 : ∀ u v, gup (gup G8 m u) f v r = some (.lst (S'.map cD)) := fun u v => by rw [gup_ne hrf, gup_ne hrm]; exact r8
                  refine ⟨⟨_, hr9 _ _⟩, _, hr9 _ _, by rw [List.length_map, sizeLine_eq]; omega, ?_⟩
                  rw [dput_cset]
                  refine hU _ _ ⟨ins F' e, S' ++ [e], ins Fd e, _, rfl, Sub.upd (Sub.upd (Sub.upd s8 hmn) hfn) hrnn, ?_, ?_, ins_nodup nd, fun x => ?_, ?_, ?_, ?_⟩
                  · rw [gup_ne (Ne.symm hrh), gup_ne hfh.symm, gup_ne (Ne.symm hmh)]; exact h8
                  · rw [gup_ne (Ne.symm hrf), gup_same]
                  · rw [G.mem_ins, G.mem_ins, hm, or_assoc]
                  · rw [gup_ne (Ne.symm hrm), gup_ne hmf, gup_same]
                  · rw [gup_same, List.map_append]; rfl
                  · rw [hv2]; simp [visit, h1, h2, ins_new]
              · rw [if_neg h1]
                exact hU _ _ ⟨F', S', Fd, _, rfl, s8, h8, f8, nd, hm, m8, r8, by rw [hv2]; simp [visit, h1]⟩
            · rintro ρ G8 ⟨F', S', Fd, x11, rfl, s8, h8, f8, nd, hm, m8, r8, hv⟩
              have ev : (qs (dv i) (dv j) c).take [D.tup [D.int (c.1 + dv i), D.int c.2], D.tup [D.int c.1, D.int (c.2 + dv j)]].length = qs (dv i) (dv j) c := rfl
              rw [ev] at hv
              refine hnx (fmeas (dedup L) (F', S')) _ _ ?_ ⟨F', S', Fd, _, _, _, rfl, s8, h8, f8, nd, hm, m8, r8, by rw [← hv]; exact inv.turn, rfl⟩
              rw [← hv]
              exact turn_meas F S c _
        · rintro ρ G4 ⟨Fd, x6, x7, x8, x9, x10, x11, rfl, s4, h4, f4, nd, hm⟩
          exact hZ _ _ ⟨Fd, _, _, _, _, _, _, _, rfl, s4, h4, f4, nd, fun c => (hm c).trans dn_row⟩
      · rintro ρ G3 ⟨Fd, x5, x6, x7, x8, x9, x10, x11, rfl, s3, h3, f3, nd, hm⟩
        have hm : ∀ c, c ∈ Fd ↔ Dn L s 2 0 c := hm
        simp [f3]
        intro z hz
        have e : (cset Fd (D.int 0)).map (fun x => x.1) = Fd.map cD := cset_keys _ _
        rw [e]
        refine rSort_lst gup_same fun y hy => ?_
        simp
        have eF : srt Fd = fld L s := (srt_asc nd).ext (fld_asc L s) fun c => by rw [srt_mem, hm, mem_fld]; exact dn_all
        rw [eF]
        exact ⟨_, Fg.refl, hQ _ ((s3.trans (Sub.new hz)).trans (Sub.new hy))⟩
end Hd
set_option Elab.async false
set_option linter.all false
set_option maxRecDepth 100000
set_option maxHeartbeats 4000000
namespace Hd
open PySem PySem.Spec PyProof.Rows L2 G
/-! ### corridors, in plain Lean -/
def ck (p : List Dr) (k : Nat) : Cell := endc (0, 0) (p.take k)
theorem trl_get : ∀ (p : List Dr) (s : Cell) (k : Nat), (trl s p)[k]? = if k ≤ p.length then some (endc s (p.take k)) else none
  | [], s, 0 => rfl
  | [], s, k + 1 => rfl
  | x :: p, s, 0 => rfl
  | x :: p, s, k + 1 => by
    show (trl (stp s x) p)[k]? = _
    rw [trl_get p (stp s x) k]
    by_cases h : k ≤ p.length
    · rw [if_pos h, if_pos (by simpa using h)]; rfl
    · rw [if_neg h, if_neg (by simpa using h)]
theorem cc_get {p : List Dr} {k : Nat} (h : k ≤ p.length) : (cc p)[k]? = some (ck p k) := by unfold cc; rw [trl_get, if_pos h]; rfl
theorem mem_cc {p : List Dr} {c : Cell} : c ∈ cc p ↔ ∃ k, k ≤ p.length ∧ c = ck p k := by
  rw [List.mem_iff_getElem?]
  constructor
  · rintro ⟨k, hk⟩
    unfold cc at hk
    rw [trl_get] at hk
    split at hk
    · exact ⟨k, by assumption, (Option.some.inj hk).symm⟩
    · cases hk
  · rintro ⟨k, hk, rfl⟩
    exact ⟨k, cc_get hk⟩
theorem ck_succ {p : List Dr} {k : Nat} {x : Dr} (h : p[k]? = some x) : ck p (k + 1) = stp (ck p k) x := by
  unfold ck
  rw [show p.take (k + 1) = p.take k ++ [x] by rw [List.take_succ, h]; rfl, endc_snoc]
theorem step_at {p : List Dr} {k : Nat} (h : k < p.length) : ∃ x, p[k]? = some x := ⟨p[k], List.getElem?_eq_getElem h⟩
def op : Dr → Dr | .r => .l | .l => .r | .u => .d | .d => .u
theorem op_op (x : Dr) : op (op x) = x := by cases x <;> rfl
theorem stp_inj {c : Cell} {x y : Dr} (h : stp c x = stp c y) : x = y := by
  have h1 : c.1 + x.mv.1 = c.1 + y.mv.1 := congrArg Prod.fst h
  have h2 : c.2 + x.mv.2 = c.2 + y.mv.2 := congrArg Prod.snd h
  cases x <;> cases y <;> simp [Dr.mv] at h1 h2 <;> first | rfl | omega
theorem stp_back {c d : Cell} {x y : Dr} (h1 : d = stp c x) (h2 : c = stp d y) : y = op x := by
  subst h1
  refine stp_inj (c := stp c x) (h2.symm.trans ?_)
  have e1 : c.1 = c.1 + x.mv.1 + (op x).mv.1 := by cases x <;> simp [Dr.mv, op] <;> omega
  have e2 : c.2 = c.2 + x.mv.2 + (op x).mv.2 := by cases x <;> simp [Dr.mv, op] <;> omega
  exact Prod.ext e1 e2
theorem stp_sides (c : Cell) (x : Dr) : stp c x ∈ sides c := by
  unfold sides stp
  cases x <;> simp [Dr.mv]
  all_goals first | (exact .inl (by omega)) | omega | skip
theorem stp_ne (c : Cell) (x : Dr) : stp c x ≠ c := by
  intro h
  have h1 : c.1 + x.mv.1 = c.1 := congrArg Prod.fst h
  have h2 : c.2 + x.mv.2 = c.2 := congrArg Prod.snd h
  cases x <;> simp [Dr.mv] at h1 h2 <;> omega
section
variable {p : List Dr} (C : IsCor p)
include C
theorem ck_inj {i j : Nat} (hi : i ≤ p.length) (hj : j ≤ p.length) (h : ck p i = ck p j) : i = j := idx_inj C.nd (cc_get hi) (by rw [cc_get hj, h])
/-- a step within the room goes along the corridor -/
theorem ck_step {i j : Nat} {x : Dr} (hi : i ≤ p.length) (hj : j ≤ p.length) (h : ck p j = stp (ck p i) x) : (j = i + 1 ∧ p[i]? = some x) ∨ (i = j + 1 ∧ p[j]? = some (op x)) := by
  have h1 := C.sd i j _ _ (cc_get hi) (cc_get hj) (by rw [h]; exact stp_sides _ _)
  have hne : i ≠ j := by rintro rfl; exact stp_ne _ _ h.symm
  by_cases e : j = i + 1
  · subst e
    obtain ⟨y, hy⟩ := step_at (p := p) (k := i) (by omega)
    have := ck_succ hy
    rw [h] at this
    exact .inl ⟨rfl, by rw [hy, stp_inj this]⟩
  · have e : i = j + 1 := by omega
    subst e
    obtain ⟨y, hy⟩ := step_at (p := p) (k := j) (by omega)
    have h2 := ck_succ hy
    have := stp_back h2 h
    exact .inr ⟨rfl, by rw [hy, this, op_op]⟩
end
/-! quarters -/
def qX (dx : Int) : Dr := if dx = 1 then .r else .l
def qY (dy : Int) : Dr := if dy = 1 then .u else .d
theorem qs_stp {dx dy : Int} (hx : Unit1 dx) (hy : Unit1 dy) (c : Cell) : qs dx dy c = [stp c (qX dx), stp c (qY dy)] := by
  unfold qs stp qX qY
  rcases hx with rfl | rfl <;> rcases hy with rfl | rfl <;> simp [Dr.mv]
def InQ (dx dy : Int) (x : Dr) : Prop := x = qX dx ∨ x = qY dy
theorem inQ_op {dx dy : Int} {x : Dr} (h1 : InQ dx dy x) (h2 : InQ dx dy (op x)) : False := by
  unfold InQ qX qY at *
  by_cases hx : dx = 1 <;> by_cases hy : dy = 1 <;> simp [hx, hy] at h1 h2 <;> cases x <;> simp [op] at h1 h2
theorem pl_iff {q : List Dr} : pl q = true ↔ ∃ dx dy, Unit1 dx ∧ Unit1 dy ∧ ∀ x ∈ q, InQ dx dy x := by
  unfold pl InQ
  simp only [Bool.and_eq_true, Bool.not_eq_true', Bool.and_eq_false_iff, decide_eq_false_iff_not]
  constructor
  · rintro ⟨h1, h2⟩
    have hX : ∃ dx, Unit1 dx ∧ (∀ x ∈ q, x = .r ∨ x = .l → x = qX dx) := by
      rcases h1 with h1 | h1
      · exact ⟨-1, .inr rfl, fun x hx e => e.elim (fun e => absurd (e ▸ hx) h1) fun e => e⟩
      · exact ⟨1, .inl rfl, fun x hx e => e.elim (fun e => e) fun e => absurd (e ▸ hx) h1⟩
    have hY : ∃ dy, Unit1 dy ∧ (∀ x ∈ q, x = .u ∨ x = .d → x = qY dy) := by
      rcases h2 with h2 | h2
      · exact ⟨-1, .inr rfl, fun x hx e => e.elim (fun e => absurd (e ▸ hx) h2) fun e => e⟩
      · exact ⟨1, .inl rfl, fun x hx e => e.elim (fun e => e) fun e => absurd (e ▸ hx) h2⟩
    obtain ⟨dx, ux, hX⟩ := hX
    obtain ⟨dy, uy, hY⟩ := hY
    refine ⟨dx, dy, ux, uy, fun x hx => ?_⟩
    cases x
    · exact .inl (hX _ hx (.inl rfl))
    · exact .inl (hX _ hx (.inr rfl))
    · exact .inr (hY _ hx (.inl rfl))
    · exact .inr (hY _ hx (.inr rfl))
  · rintro ⟨dx, dy, ux, uy, h⟩
    have no : ∀ x, x ∈ q → op x ∈ q → False := fun x h1 h2 => inQ_op (dx := dx) (dy := dy) (h x h1) (h _ h2)
    refine ⟨?_, ?_⟩
    · by_cases e : Dr.r ∈ q
      · exact .inr fun e2 => no _ e e2
      · exact .inl e
    · by_cases e : Dr.u ∈ q
      · exact .inr fun e2 => no _ e e2
      · exact .inl e
theorem mem_sl {p : List Dr} {i j : Nat} {x : Dr} : x ∈ sl p i j ↔ ∃ t, i ≤ t ∧ t < j ∧ p[t]? = some x := by
  unfold sl
  rw [List.mem_iff_getElem?]
  constructor
  · rintro ⟨t, ht⟩
    rw [List.getElem?_take] at ht
    split at ht
    · rw [List.getElem?_drop] at ht
      exact ⟨i + t, by omega, by omega, ht⟩
    · cases ht
  · rintro ⟨t, h1, h2, h3⟩
    refine ⟨t - i, ?_⟩
    rw [List.getElem?_take, if_pos (by omega), List.getElem?_drop, show i + (t - i) = t by omega]
    exact h3
/-- along the corridor within a quarter -/
def Alo (p : List Dr) (dx dy : Int) (i k : Nat) : Prop := (i ≤ k ∧ ∀ t x, i ≤ t → t < k → p[t]? = some x → InQ dx dy x) ∨ (k ≤ i ∧ ∀ t x, k ≤ t → t < i → p[t]? = some x → InQ dx dy (op x))
theorem rch_alo {p : List Dr} (C : IsCor p) {L : List Cell} (hL : ∀ c, c ∈ L ↔ c ∈ cc p) {dx dy : Int} (hx : Unit1 dx) (hy : Unit1 dy) {i : Nat} (hi : i ≤ p.length) {c : Cell} (h : Rch (· ∈ L) (qs dx dy) (ck p i) c) : ∃ k, k ≤ p.length ∧ c = ck p k ∧ Alo p dx dy i k := by
  induction h with
  | base => exact ⟨i, hi, rfl, .inl ⟨Nat.le_refl _, fun t x h1 h2 => by omega⟩⟩
  | @step c d _ hd hk ih =>
    obtain ⟨k, hk1, rfl, ha⟩ := ih
    obtain ⟨j, hj, rfl⟩ := mem_cc.mp ((hL _).mp hk)
    refine ⟨j, hj, rfl, ?_⟩
    rw [qs_stp hx hy] at hd
    have : ∃ x, InQ dx dy x ∧ ck p j = stp (ck p k) x := by
      simp only [List.mem_cons, List.not_mem_nil, or_false] at hd
      rcases hd with h | h
      · exact ⟨_, .inl rfl, h⟩
      · exact ⟨_, .inr rfl, h⟩
    obtain ⟨x, hxq, hx⟩ := this
    rcases ck_step C hk1 hj hx with ⟨rfl, hp⟩ | ⟨rfl, hp⟩
    · rcases ha with ⟨h1, h2⟩ | ⟨h1, h2⟩
      · refine .inl ⟨by omega, fun t y t1 t2 ty => ?_⟩
        by_cases e : t = k
        · subst e; rw [hp] at ty; cases ty; exact hxq
        · exact h2 t y t1 (by omega) ty
      · by_cases e : k = i
        · subst e
          refine .inl ⟨by omega, fun t y t1 t2 ty => ?_⟩
          have : t = k := by omega
          subst this; rw [hp] at ty; cases ty; exact hxq
        · exact absurd (h2 k x (Nat.le_refl _) (by omega) hp) fun q => inQ_op hxq q
    · rcases ha with ⟨h1, h2⟩ | ⟨h1, h2⟩
      · by_cases e : j + 1 = i
        · refine .inr ⟨by omega, fun t y t1 t2 ty => ?_⟩
          have : t = j := by omega
          subst this; rw [hp] at ty; cases ty; rw [op_op]; exact hxq
        · exact absurd (h2 j _ (by omega) (by omega) hp) fun q => inQ_op hxq q
      · refine .inr ⟨by omega, fun t y t1 t2 ty => ?_⟩
        by_cases e : t = j
        · subst e; rw [hp] at ty; cases ty; rw [op_op]; exact hxq
        · exact h2 t y (by omega) t2 ty
theorem alo_up {p : List Dr} {L : List Cell} (hL : ∀ c, c ∈ L ↔ c ∈ cc p) {dx dy : Int} (hx : Unit1 dx) (hy : Unit1 dy) {i : Nat} : ∀ {k : Nat}, k ≤ p.length → i ≤ k → (∀ t x, i ≤ t → t < k → p[t]? = some x → InQ dx dy x) → Rch (· ∈ L) (qs dx dy) (ck p i) (ck p k)
  | 0, _, h, _ => by
    have : i = 0 := by omega
    subst this
    exact .base
  | k + 1, hk, h, ha => by
    by_cases e : i = k + 1
    · subst e; exact .base
    · have ih := alo_up hL hx hy (i := i) (k := k) (by omega) (by omega) fun t x h1 h2 => ha t x h1 (by omega)
      obtain ⟨x, hpx⟩ := step_at (p := p) (k := k) (by omega)
      refine ih.step ?_ ((hL _).mpr (mem_cc.mpr ⟨k + 1, hk, rfl⟩))
      rw [qs_stp hx hy, ck_succ hpx]
      rcases ha k x (by omega) (by omega) hpx with e | e <;> rw [e] <;> simp
/-- the field of a corridor's cell -/
theorem fld_cor {p : List Dr} (C : IsCor p) {L : List Cell} (hL : ∀ c, c ∈ L ↔ c ∈ cc p) {i k : Nat} (hi' : i ≤ p.length) (hk : k ≤ p.length) : ck p k ∈ fld L (ck p i) ↔ lo p i ≤ k ∧ k ≤ hi p i := by
  have a1 := lo_le p i
  have a2 := hi_ge p i
  rw [mem_fld]
  constructor
  · rintro ⟨dx, dy, hx, hy, h⟩
    obtain ⟨k', hk', e, ha⟩ := rch_alo C hL hx hy hi' h
    have := ck_inj C hk hk' e
    subst this
    rcases ha with ⟨h1, h2⟩ | ⟨h1, h2⟩
    · refine ⟨by omega, (hi_iff h1 hk).mp (pl_iff.mpr ⟨dx, dy, hx, hy, fun x hx => ?_⟩)⟩
      obtain ⟨t, t1, t2, t3⟩ := mem_sl.mp hx
      exact h2 t x t1 t2 t3
    · refine ⟨(lo_iff h1 hi').mp (pl_iff.mpr ⟨-dx, -dy, unit_neg hx, unit_neg hy, fun x hx' => ?_⟩), by omega⟩
      obtain ⟨t, t1, t2, t3⟩ := mem_sl.mp hx'
      have := h2 t x t1 t2 t3
      unfold InQ qX qY at this ⊢
      rcases hx with rfl | rfl <;> rcases hy with rfl | rfl <;> cases x <;> simp [op] at this ⊢
  · rintro ⟨h1, h2⟩
    by_cases h : i ≤ k
    · obtain ⟨dx, dy, hx, hy, hq⟩ := pl_iff.mp ((hi_iff h hk).mpr h2)
      exact ⟨dx, dy, hx, hy, alo_up hL hx hy hk h fun t x t1 t2 t3 => hq x (mem_sl.mpr ⟨t, t1, t2, t3⟩)⟩
    · obtain ⟨dx, dy, hx, hy, hq⟩ := pl_iff.mp ((lo_iff (by omega) hi').mpr h1)
      have := alo_up hL hx hy hi' (by omega) fun t x t1 t2 t3 => hq x (mem_sl.mpr ⟨t, t1, t2, t3⟩)
      exact ⟨-dx, -dy, unit_neg hx, unit_neg hy, rch_back ((hL _).mpr (mem_cc.mpr ⟨k, hk, rfl⟩)) this⟩
end Hd
set_option Elab.async false
set_option linter.all false
set_option maxRecDepth 100000
set_option maxHeartbeats 4000000
namespace Hd
open PySem PySem.Spec PyProof.Rows L2 G
/-! ### webs of stretches: a two-pair is there till all are next to all -/
def Ivl (W : Wb) : Prop := ∃ a b : Cell → Int, (∀ c ∈ W.V, a c ≤ b c) ∧ ∀ c ∈ W.V, ∀ d ∈ W.V, c ≠ d → (W.R c d = true ↔ b c < a d ∨ b d < a c)
theorem ivl_join {W : Wb} (ok : W.Ok) (h : Ivl W) {x y : Cell} (hx : x ∈ W.V) (hy : y ∈ W.V) (hxy : x ≠ y) (hr : W.R x y = false) : Ivl (jn W x y) := by
  obtain ⟨a, b, h1, h2⟩ := h
  have hm : ¬ (b x < a y ∨ b y < a x) := fun q => by
    have := (h2 x hx y hy hxy).mpr q
    rw [hr] at this; cases this
  have kx := h1 x hx
  have ky := h1 y hy
  refine ⟨fun c => if c = x then max (a x) (a y) else a c, fun c => if c = x then min (b x) (b y) else b c, fun c hc => ?_, fun c hc d hd hcd => ?_⟩
  · have hc' := jn_V.mp hc
    simp only
    split
    · omega
    · exact h1 c hc'.1
  · have hc' := jn_V.mp hc
    have hd' := jn_V.mp hd
    simp only
    by_cases ec : c = x
    · have ed : d ≠ x := fun q => hcd (ec.trans q.symm)
      subst ec
      rw [jn_Ra, Bool.or_eq_true, h2 c hx d hd'.1 hcd, h2 y hy d hd'.1 (Ne.symm hd'.2), if_pos rfl, if_pos rfl, if_neg ed, if_neg ed]
      omega
    · by_cases ed : d = x
      · subst ed
        rw [jn_Rb ec, Bool.or_eq_true, h2 d hx c hc'.1 (Ne.symm hcd), h2 y hy c hc'.1 (Ne.symm hc'.2), if_pos rfl, if_pos rfl, if_neg ec, if_neg ec]
        omega
      · rw [jn_R ec ed, if_neg ec, if_neg ed, if_neg ec, if_neg ed]
        exact h2 c hc'.1 d hd'.1 hcd
theorem least_of {α : Type} (f : α → Int) : ∀ {l : List α}, l ≠ [] → ∃ x ∈ l, ∀ y ∈ l, f x ≤ f y
  | [a], _ => ⟨a, by simp, fun y hy => by rw [List.mem_singleton.mp hy]; exact Int.le_refl _⟩
  | a :: b :: l, _ => by
    obtain ⟨x, hx, h⟩ := least_of f (l := b :: l) (by simp)
    by_cases e : f a ≤ f x
    · refine ⟨a, List.mem_cons_self, fun y hy => ?_⟩
      rcases List.mem_cons.mp hy with rfl | hy
      · exact Int.le_refl _
      · exact Int.le_trans e (h y hy)
    · refine ⟨x, List.mem_cons_of_mem _ hx, fun y hy => ?_⟩
      rcases List.mem_cons.mp hy with rfl | hy
      · omega
      · exact h y hy
open Classical in
theorem ivl_full {W : Wb} (ok : W.Ok) (h : Ivl W) (e : f2p W = none) : W.Full := by
  obtain ⟨a, b, h1, h2⟩ := h
  refine Classical.byContradiction fun nf => ?_
  unfold Wb.Full at nf
  -- members that meet another one
  let M := W.V.filter fun c => decide (∃ d ∈ W.V, c ≠ d ∧ W.R c d = false)
  have hM : M ≠ [] := by
    intro q
    refine nf fun c hc d hd hcd => ?_
    cases hr : W.R c d with
    | true => rfl
    | false =>
      have := List.filter_eq_nil_iff.mp q c hc
      simp only [decide_eq_true_eq] at this
      exact absurd ⟨d, hd, hcd, hr⟩ this
  obtain ⟨x, hx, least⟩ := least_of b hM
  rw [List.mem_filter, decide_eq_true_eq] at hx
  obtain ⟨hxV, y, hyV, hxy, hr⟩ := hx
  have inM : ∀ c ∈ W.V, ∀ d ∈ W.V, c ≠ d → W.R c d = false → b x ≤ b c := fun c hc d hd hcd hr => least c (List.mem_filter.mpr ⟨hc, decide_eq_true ⟨d, hd, hcd, hr⟩⟩)
  -- each member that is not next to both meets y
  have meets : ∀ c ∈ W.V, c ≠ y → ¬ (c ∈ nbl W x ∧ c ∈ nbl W y) → W.R c y = false := by
    intro c hc hcy hn
    cases hcr : W.R c y with
    | false => rfl
    | true =>
      exfalso
      have hyc : W.R y c = true := by rw [ok.sym]; exact hcr
      have hcx : c ≠ x := by rintro rfl; rw [hr] at hcr; cases hcr
      have hxc : W.R x c = false := by
        cases hq : W.R x c with
        | false => rfl
        | true => exact absurd ⟨mem_nbl.mpr ⟨hc, hcx, hq⟩, mem_nbl.mpr ⟨hc, hcy, hyc⟩⟩ hn
      have m1 : ¬ (b x < a c ∨ b c < a x) := fun q => by
        have := (h2 x hxV c hc (Ne.symm hcx)).mpr q
        rw [hxc] at this; cases this
      have m2 : ¬ (b x < a y ∨ b y < a x) := fun q => by
        have := (h2 x hxV y hyV hxy).mpr q
        rw [hr] at this; cases this
      have m3 := (h2 c hc y hyV hcy).mp hcr
      have l1 := inM c hc x hxV hcx (by rw [ok.sym]; exact hxc)
      have l2 := inM y hyV x hxV (Ne.symm hxy) (by rw [ok.sym]; exact hr)
      omega
  have no1 : ¬ Rchd W x y := by
    rintro ⟨c, hc, hy⟩
    have hyc := mem_nbl.mp hy
    have hcV : c ∈ W.V ∧ ¬ (c ∈ nbl W x ∧ c ∈ nbl W y) := by
      rcases rch_in hc with e | h
      · rw [e]; exact ⟨hxV, fun q => (mem_nbl.mp q.1).2.1 rfl⟩
      · exact mem_unc.mp h
    have := meets c hcV.1 (Ne.symm hyc.2.1) hcV.2
    rw [hyc.2.2] at this
    cases this
  have no2 : ¬ Rchd W y x := by
    rintro ⟨c, hc, hx2⟩
    have key : ∀ c, Rch (· ∈ unc W y x) (nbl W) y c → c = y := by
      intro c hc
      induction hc with
      | base => rfl
      | @step c d _ hd hk ih =>
        rw [ih] at hd
        obtain ⟨d1, d2, d3⟩ := mem_nbl.mp hd
        have hu := (mem_unc.mp hk).2
        have := meets d d1 d2 fun q => hu ⟨q.2, q.1⟩
        rw [ok.sym, d3] at this
        cases this
    have := key c hc
    rw [this] at hx2
    have := (mem_nbl.mp hx2).2.2
    rw [ok.sym, hr] at this
    cases this
  rcases clt_tri hxy with q | q
  · rcases f2p_none ok e hxV hyV q with h | h
    · rw [hr] at h; cases h
    · exact no1 h
  · rcases f2p_none ok e hyV hxV q with h | h
    · rw [ok.sym, hr] at h; cases h
    · exact no2 h
theorem ivl_log : ∀ {l : List (Cell × Cell)} {W : Wb}, W.Ok → Ivl W → Lg W l → (fnw W l).Full
  | [], W, ok, h, hl => ivl_full ok h hl
  | q :: l, W, ok, h, hl => by
    obtain ⟨h1, h2, h3, h4, h5⟩ := f2p_some ok hl.1
    exact ivl_log (l := l) (W := jnp W q) (jn_ok ok) (ivl_join ok h h1 h2 (clt_ne h3) h4) hl.2
/-! ### corridors -/
open Classical in
noncomputable def ix (p : List Dr) (c : Cell) : Nat := if h : ∃ k, k ≤ p.length ∧ c = ck p k then h.choose else 0
theorem ix_at {p : List Dr} {c : Cell} (h : c ∈ cc p) : ix p c ≤ p.length ∧ ck p (ix p c) = c := by
  have hx := mem_cc.mp h
  unfold ix
  rw [dif_pos hx]
  exact ⟨hx.choose_spec.1, hx.choose_spec.2.symm⟩
theorem tie_cor {p : List Dr} (C : IsCor p) {L : List Cell} (hL : ∀ c, c ∈ L ↔ c ∈ cc p) {i j : Nat} (hi' : i ≤ p.length) (hj : j ≤ p.length) : tieB L (ck p i) (ck p j) = true ↔ lo p i ≤ hi p j ∧ lo p j ≤ hi p i := by
  have a1 := lo_le p i
  have a2 := hi_ge p i
  have b1 := lo_le p j
  have b2 := hi_ge p j
  have c1 := hi_le hi'
  have c2 := hi_le hj
  rw [tieB_iff]
  constructor
  · rintro ⟨c, h1, h2⟩
    have hcL := fld_mem ((hL _).mpr (mem_cc.mpr ⟨i, hi', rfl⟩)) h1
    obtain ⟨k, hk, rfl⟩ := mem_cc.mp ((hL _).mp hcL)
    have e1 := (fld_cor C hL hi' hk).mp h1
    have e2 := (fld_cor C hL hj hk).mp h2
    omega
  · rintro ⟨h1, h2⟩
    refine ⟨ck p (max (lo p i) (lo p j)), (fld_cor C hL hi' (by omega)).mpr (by omega), (fld_cor C hL hj (by omega)).mpr (by omega)⟩
theorem fine_cor {p : List Dr} (C : IsCor p) {L : List Cell} (hL : ∀ c, c ∈ L ↔ c ∈ cc p) {lot : List Cell} (nd : lot.Nodup) (hs : ∀ c ∈ lot, c ∈ L) : Fine L lot where
  helly := fun g hg hgl ht => by
    have hgc : ∀ s ∈ g, s ∈ cc p := fun s hs' => (hL _).mp (hs _ (hgl s hs'))
    obtain ⟨s0, hs0, hmax⟩ := least_of (fun s => -((lo p (ix p s) : Nat) : Int)) hg
    have h0 := ix_at (hgc s0 hs0)
    have hlo := lo_le p (ix p s0)
    have hin : ck p (lo p (ix p s0)) ∈ com L g := by
      refine mem_com.mpr ⟨(hL _).mpr (mem_cc.mpr ⟨_, by omega, rfl⟩), fun s hs' => ?_⟩
      have h1 := ix_at (hgc s hs')
      rw [← h1.2]
      refine (fld_cor C hL h1.1 (by omega)).mpr ⟨by have := hmax s hs'; omega, ?_⟩
      by_cases e : s = s0
      · rw [e]; have := hi_ge p (ix p s0); omega
      · have := ht s hs' s0 hs0 e
        rw [← h1.2, ← h0.2, tie_cor C hL h1.1 h0.1] at this
        exact this.2
    intro e
    rw [e] at hin
    cases hin
  full := fun l hl => by
    refine ivl_log (hweb_ok nd) ⟨fun c => (lo p (ix p c) : Nat), fun c => (hi p (ix p c) : Nat), fun c _ => ?_, fun c hc d hd hcd => ?_⟩ hl
    · have h1 := lo_le p (ix p c)
      have h2 := hi_ge p (ix p c)
      simp only
      omega
    · have hcl := ix_at ((hL _).mp (hs _ (hin_sub nd hc)))
      have hdl := ix_at ((hL _).mp (hs _ (hin_sub nd hd)))
      show (!tieB L c d) = true ↔ (((hi p (ix p c) : Nat) : Int) < ((lo p (ix p d) : Nat) : Int) ∨ ((hi p (ix p d) : Nat) : Int) < ((lo p (ix p c) : Nat) : Int))
      have := tie_cor C hL hcl.1 hdl.1
      rw [hcl.2, hdl.2] at this
      rw [Bool.not_eq_true']
      constructor
      · intro h
        have hn : ¬ (lo p (ix p c) ≤ hi p (ix p d) ∧ lo p (ix p d) ≤ hi p (ix p c)) := fun q => by
          rw [this.mpr q] at h; cases h
        omega
      · intro h
        cases hq : tieB L c d with
        | false => rfl
        | true => have := this.mp hq; omega
theorem ans_len {L lot S K S' K' : List Cell} (hs : ∀ c ∈ lot, c ∈ L) (A : Ans L lot S K) (B : Ans L lot S' K') : S.length = S'.length := by
  have h1 : K.length ≤ S'.length := apart_len A.ka.nodup A.ap fun k hk => by
    obtain ⟨s, h1, h2⟩ := B.sv k (A.ks k hk)
    exact ⟨s, h1, fld_sym (B.ss s h1) h2⟩
  have h2 : K'.length ≤ S.length := apart_len B.ka.nodup B.ap fun k hk => by
    obtain ⟨s, h1, h2⟩ := A.sv k (B.ks k hk)
    exact ⟨s, h1, fld_sym (A.ss s h1) h2⟩
  have := A.len
  have := B.len
  omega
/-! ### the walk along it -/
structure TI (p : List Dr) (i : Nat) (l : List (Nat × Nat)) : Prop where
  bd : ∀ t ∈ l, i ≤ t.1 ∧ t.1 ≤ p.length ∧ t.2 = hi p t.1 ∧ t.2 ≤ p.length
  up : l.Pairwise fun t u => hi p t.2 < u.1
  cov : ∀ k, i ≤ k → k ≤ p.length → ∃ t ∈ l, lo p t.2 ≤ k ∧ k ≤ hi p t.2
theorem reach_sym {p : List Dr} {i k : Nat} (hi' : i ≤ p.length) (hk : k ≤ p.length) (h : lo p i ≤ k ∧ k ≤ hi p i) : lo p k ≤ i ∧ i ≤ hi p k := by
  have a1 := lo_le p k
  have a2 := hi_ge p k
  by_cases e : i ≤ k
  · exact ⟨(lo_iff e hk).mp ((hi_iff e hk).mpr h.2), by omega⟩
  · exact ⟨by omega, (hi_iff (by omega) hi').mp ((lo_iff (by omega) hi').mpr h.1)⟩
theorem pw_tri {α : Type} {r : α → α → Prop} : ∀ {l : List α} {t u : α}, l.Pairwise r → t ∈ l → u ∈ l → t = u ∨ r t u ∨ r u t
  | [], _, _, _, ht, _ => by cases ht
  | x :: l, t, u, hp, ht, hu => by
    have hp' := List.pairwise_cons.mp hp
    rcases List.mem_cons.mp ht with e1 | h1 <;> rcases List.mem_cons.mp hu with e2 | h2
    · exact .inl (e1.trans e2.symm)
    · rw [e1]; exact .inr (.inl (hp'.1 u h2))
    · rw [e2]; exact .inr (.inr (hp'.1 t h1))
    · exact pw_tri hp'.2 h1 h2
theorem trn_ti (p : List Dr) : ∀ (k i : Nat), p.length + 1 ≤ k + i → TI p i (trn p k i)
  | 0, i, h => ⟨fun t ht => (by cases ht), by simp [trn], fun k h1 h2 => by omega⟩
  | k + 1, i, h => by
    unfold trn
    split
    · rename_i hi1
      have a1 := hi_ge p i
      have a2 := hi_le hi1
      have b1 := hi_ge p (hi p i)
      have ih := trn_ti p k (hi p (hi p i) + 1) (by omega)
      refine ⟨fun t ht => ?_, List.pairwise_cons.mpr ⟨fun t ht => ?_, ih.up⟩, fun m h1 h2 => ?_⟩
      · rcases List.mem_cons.mp ht with rfl | ht
        · exact ⟨Nat.le_refl _, hi1, rfl, a2⟩
        · have := ih.bd t ht
          exact ⟨by omega, this.2⟩
      · have := (ih.bd t ht).1
        simp only
        omega
      · by_cases e : m ≤ hi p (hi p i)
        · refine ⟨_, List.mem_cons_self, ?_, e⟩
          have := (reach_sym hi1 a2 ⟨by have := lo_le p i; omega, Nat.le_refl _⟩).1
          simp only
          omega
        · obtain ⟨t, ht, h3⟩ := ih.cov m (by omega) h2
          exact ⟨t, List.mem_cons_of_mem _ ht, h3⟩
    · exact ⟨fun t ht => (by cases ht), by simp, fun m h1 h2 => by omega⟩
theorem ans_turns {p : List Dr} (C : IsCor p) {L : List Cell} (hL : ∀ c, c ∈ L ↔ c ∈ cc p) : Ans L L (srt ((turns p).map fun t => ck p t.2)) (srt ((turns p).map fun t => ck p t.1)) := by
  have T := trn_ti p (p.length + 1) 0 (by omega)
  have hT : trn p (p.length + 1) 0 = turns p := rfl
  rw [hT] at T
  have mL : ∀ k, k ≤ p.length → ck p k ∈ L := fun k hk => (hL _).mpr (mem_cc.mpr ⟨k, hk, rfl⟩)
  have nd2 : ((turns p).map fun t => ck p t.2).Nodup := by
    rw [List.Nodup, List.pairwise_map]
    refine (List.Pairwise.and_mem.mp T.up).imp fun {t u} ⟨ht, hu, h⟩ e => ?_
    have h1 := T.bd t ht
    have h2 := T.bd u hu
    have := ck_inj C h1.2.2.2 h2.2.2.2 e
    have := hi_ge p t.2
    have := hi_ge p u.1
    omega
  have nd1 : ((turns p).map fun t => ck p t.1).Nodup := by
    rw [List.Nodup, List.pairwise_map]
    refine (List.Pairwise.and_mem.mp T.up).imp fun {t u} ⟨ht, hu, h⟩ e => ?_
    have h1 := T.bd t ht
    have h2 := T.bd u hu
    have := ck_inj C h1.2.1 h2.2.1 e
    have := hi_ge p t.2
    have := hi_ge p t.1
    omega
  refine ⟨srt_asc nd2, fun s hs => ?_, fun c hc => ?_, srt_asc nd1, fun s hs => ?_, fun a ha b hb hab => ?_, ?_⟩
  · obtain ⟨t, ht, rfl⟩ := List.mem_map.mp (srt_mem.mp hs)
    exact mL _ (T.bd t ht).2.2.2
  · obtain ⟨k, hk, rfl⟩ := mem_cc.mp ((hL _).mp hc)
    obtain ⟨t, ht, h1, h2⟩ := T.cov k (Nat.zero_le _) hk
    exact ⟨_, srt_mem.mpr (List.mem_map.mpr ⟨t, ht, rfl⟩), (fld_cor C hL (T.bd t ht).2.2.2 hk).mpr ⟨h1, h2⟩⟩
  · obtain ⟨t, ht, rfl⟩ := List.mem_map.mp (srt_mem.mp hs)
    exact mL _ (T.bd t ht).2.1
  · obtain ⟨t, ht, rfl⟩ := List.mem_map.mp (srt_mem.mp ha)
    obtain ⟨u, hu, rfl⟩ := List.mem_map.mp (srt_mem.mp hb)
    have h1 := T.bd t ht
    have h2 := T.bd u hu
    -- one of the two is ahead
    have key : ∀ t ∈ turns p, ∀ u ∈ turns p, hi p t.2 < u.1 → tieB L (ck p t.1) (ck p u.1) = false := fun t ht u hu h => by
      have h1 := T.bd t ht
      have h2 := T.bd u hu
      cases hq : tieB L (ck p t.1) (ck p u.1) with
      | false => rfl
      | true =>
        have q := (tie_cor C hL h1.2.1 h2.2.1).mp hq
        rw [← h1.2.2.1] at q
        have g := hi_ge p t.2
        have g1 := hi_ge p u.1
        have := reach_sym h2.2.1 h1.2.2.2 ⟨q.2, by omega⟩
        omega
    have tri := pw_tri T.up ht hu
    rcases tri with rfl | h | h
    · exact absurd rfl hab
    · exact key t ht u hu h
    · rw [tieB_sym]; exact key u hu t ht h
  · unfold srt
    rw [List.length_mergeSort, List.length_mergeSort, List.length_map, List.length_map]
end Hd
set_option Elab.async false
set_option linter.all false
set_option maxRecDepth 100000
set_option maxHeartbeats 4000000
namespace Hd
open PySem PySem.Spec PyProof.Rows L2 G
/-! ### ways in corridors -/
theorem sum_zero {f : Dr → Int} : ∀ {l : List Dr}, (∀ s ∈ l, f s = 0) → (l.map f).sum = 0
  | [], _ => rfl
  | s :: l, h => by
    rw [List.map_cons, List.sum_cons, h s List.mem_cons_self, sum_zero fun t ht => h t (List.mem_cons_of_mem _ ht)]
    rfl
theorem sum_one {f : Dr → Int} {s0 : Dr} : ∀ {l : List Dr}, l.Nodup → s0 ∈ l → f s0 = 1 → (∀ s ∈ l, s ≠ s0 → f s = 0) → (l.map f).sum = 1
  | [], _, h, _, _ => by cases h
  | s :: l, nd, h, h1, h0 => by
    have nd' := List.nodup_cons.mp nd
    rw [List.map_cons, List.sum_cons]
    rcases List.mem_cons.mp h with rfl | h
    · rw [h1, sum_zero fun t ht => h0 t (List.mem_cons_of_mem _ ht) fun e => nd'.1 (e ▸ ht)]
      rfl
    · rw [h0 s List.mem_cons_self fun e => nd'.1 (e ▸ h), sum_one nd'.2 h h1 fun t ht => h0 t (List.mem_cons_of_mem _ ht)]
      rfl
theorem stp_op (c : Cell) (x : Dr) : stp (stp c x) (op x) = c := by
  have e1 : c.1 + x.mv.1 + (op x).mv.1 = c.1 := by cases x <;> simp [Dr.mv, op] <;> omega
  have e2 : c.2 + x.mv.2 + (op x).mv.2 = c.2 := by cases x <;> simp [Dr.mv, op] <;> omega
  exact Prod.ext e1 e2
def Vd (p : List Dr) (sg : List Dr) (j m k : Nat) : Prop := (j = k + m ∧ ∀ t x, k ≤ t → t < j → p[t]? = some x → x ∈ sg) ∨ (k = j + m ∧ ∀ t x, j ≤ t → t < k → p[t]? = some x → op x ∈ sg)
theorem wn_cor {p : List Dr} (C : IsCor p) {L : List Cell} (hL : ∀ c, c ∈ L ↔ c ∈ cc p) {sg : List Dr} (nd : sg.Nodup) (no : ∀ x ∈ sg, op x ∉ sg) {j : Nat} (hj : j ≤ p.length) : ∀ (m k : Nat), k ≤ p.length → (Vd p sg j m k → wn L sg (ck p j) m (ck p k) = 1) ∧ (¬ Vd p sg j m k → wn L sg (ck p j) m (ck p k) = 0)
  | 0, k, hk => by
    have hkL : ck p k ∈ L := (hL _).mpr (mem_cc.mpr ⟨k, hk, rfl⟩)
    have hw : wn L sg (ck p j) 0 (ck p k) = if ck p k = ck p j ∧ ck p k ∈ L then 1 else 0 := rfl
    rw [hw]
    constructor
    · intro h
      have : k = j := by rcases h with h | h <;> omega
      rw [this, if_pos ⟨rfl, by rw [← this]; exact hkL⟩]
    · intro h
      rw [if_neg]
      rintro ⟨e, _⟩
      have := ck_inj C hk hj e
      exact h (.inl ⟨by omega, fun t x h1 h2 => by omega⟩)
  | m + 1, k, hk => by
    have hkL : ck p k ∈ L := (hL _).mpr (mem_cc.mpr ⟨k, hk, rfl⟩)
    have hw : wn L sg (ck p j) (m + 1) (ck p k) = (sg.map fun s => wn L sg (ck p j) m (stp (ck p k) s)).sum := by
      show (if ck p k ∈ L then _ else (0 : Int)) = _
      rw [if_pos hkL]
    -- where a step leads
    have lead : ∀ s, wn L sg (ck p j) m (stp (ck p k) s) ≠ 0 → (∃ k', k' = k + 1 ∧ k' ≤ p.length ∧ p[k]? = some s ∧ Vd p sg j m k') ∨ (∃ k', k = k' + 1 ∧ p[k']? = some (op s) ∧ Vd p sg j m k') := by
      intro s hs
      have hsL : stp (ck p k) s ∈ L := Classical.byContradiction fun q => hs (wn_out q m)
      obtain ⟨k', hk', e⟩ := mem_cc.mp ((hL _).mp hsL)
      have hv : Vd p sg j m k' := Classical.byContradiction fun q => hs (by rw [e]; exact (wn_cor C hL nd no hj m k' hk').2 q)
      rcases ck_step C hk hk' e.symm with ⟨h1, h2⟩ | ⟨h1, h2⟩
      · exact .inl ⟨k', h1, hk', h2, hv⟩
      · exact .inr ⟨k', h1, h2, hv⟩
    rw [hw]
    constructor
    · rintro (⟨h1, h2⟩ | ⟨h1, h2⟩)
      · obtain ⟨x, hx⟩ := step_at (p := p) (k := k) (by omega)
        have hxs := h2 k x (Nat.le_refl _) (by omega) hx
        refine sum_one nd hxs ?_ fun s hs hne => Classical.byContradiction fun q => ?_
        · rw [← ck_succ hx]
          exact (wn_cor C hL nd no hj m (k + 1) (by omega)).1 (.inl ⟨by omega, fun t y t1 t2 => h2 t y (by omega) t2⟩)
        · rcases lead s q with ⟨k', e1, _, e2, _⟩ | ⟨k', e1, _, hv⟩
          · rw [hx] at e2; exact hne (Option.some.inj e2).symm
          · rcases hv with ⟨v1, _⟩ | ⟨v1, _⟩ <;> omega
      · obtain ⟨k0, rfl⟩ : ∃ k0, k = k0 + 1 := ⟨k - 1, by omega⟩
        obtain ⟨x, hx⟩ := step_at (p := p) (k := k0) (by omega)
        have hxs := h2 k0 x (by omega) (by omega) hx
        refine sum_one nd hxs ?_ fun s hs hne => Classical.byContradiction fun q => ?_
        · rw [ck_succ hx, stp_op]
          exact (wn_cor C hL nd no hj m k0 (by omega)).1 (.inr ⟨by omega, fun t y t1 t2 => h2 t y t1 (by omega)⟩)
        · rcases lead s q with ⟨k', e1, _, _, hv⟩ | ⟨k', e1, e2, _⟩
          · rcases hv with ⟨v1, _⟩ | ⟨v1, _⟩ <;> omega
          · have : k' = k0 := by omega
            subst this
            rw [hx] at e2
            have := Option.some.inj e2
            exact hne (by rw [this, op_op])
    · intro hn
      refine sum_zero fun s hs => Classical.byContradiction fun q => ?_
      rcases lead s q with ⟨k', rfl, hk', e2, hv⟩ | ⟨k', rfl, e2, hv⟩
      · rcases hv with ⟨v1, v2⟩ | ⟨v1, v2⟩
        · refine hn (.inl ⟨by omega, fun t x t1 t2 hx => ?_⟩)
          by_cases e : t = k
          · subst e; rw [e2] at hx; cases hx; exact hs
          · exact v2 t x (by omega) t2 hx
        · by_cases hm : m = 0
          · refine hn (.inl ⟨by omega, fun t x t1 t2 hx => ?_⟩)
            have : t = k := by omega
            subst this; rw [e2] at hx; cases hx; exact hs
          · exact no s hs (v2 k s (by omega) (by omega) e2)
      · rcases hv with ⟨v1, v2⟩ | ⟨v1, v2⟩
        · by_cases hm : m = 0
          · refine hn (.inr ⟨by omega, fun t x t1 t2 hx => ?_⟩)
            have : t = k' := by omega
            subst this; rw [e2] at hx; cases hx; rw [op_op]; exact hs
          · exact no s hs (v2 k' (op s) (by omega) (by omega) e2)
        · refine hn (.inr ⟨by omega, fun t x t1 t2 hx => ?_⟩)
          by_cases e : t = k'
          · subst e; rw [e2] at hx; cases hx; rw [op_op]; exact hs
          · exact v2 t x t1 (by omega) hx
/-! from signs to plain steps -/
theorem sgn_nodup (a b : Cell) : (sgn a b).Nodup := by
  unfold sgn
  by_cases h1 : b.1 > a.1
  · by_cases h2 : b.2 > a.2
    · simp [h1, h2]
    · by_cases h3 : b.2 < a.2 <;> simp [h1, h2, h3]
  · by_cases h4 : b.1 < a.1
    · by_cases h2 : b.2 > a.2
      · simp [h1, h2, h4]
      · by_cases h3 : b.2 < a.2 <;> simp [h1, h2, h3, h4]
    · by_cases h2 : b.2 > a.2
      · simp [h1, h2, h4]
      · by_cases h3 : b.2 < a.2 <;> simp [h1, h2, h3, h4]
theorem sgn_no (a b : Cell) : ∀ x ∈ sgn a b, op x ∉ sgn a b := by
  obtain ⟨m1, m2, m3, m4⟩ := sgn_mem a b
  intro x hx hy
  cases x
  · have := m1.mp hx; have := m2.mp hy; omega
  · have := m2.mp hx; have := m1.mp hy; omega
  · have := m3.mp hx; have := m4.mp hy; omega
  · have := m4.mp hx; have := m3.mp hy; omega
theorem pl_no {q : List Dr} (h : ∀ x ∈ q, op x ∉ q) : pl q = true := by
  unfold pl
  simp only [Bool.and_eq_true, Bool.not_eq_true', Bool.and_eq_false_iff, decide_eq_false_iff_not]
  refine ⟨?_, ?_⟩
  · by_cases e : Dr.r ∈ q
    · exact .inr (h _ e)
    · exact .inl e
  · by_cases e : Dr.u ∈ q
    · exact .inr (h _ e)
    · exact .inl e
theorem disp {p : List Dr} {dx dy : Int} (hx : Unit1 dx) (hy : Unit1 dy) {i : Nat} : ∀ {j : Nat}, i ≤ j → j ≤ p.length → (∀ t x, i ≤ t → t < j → p[t]? = some x → InQ dx dy x) →
    ∃ a b : Nat, a + b = j - i ∧ (ck p j).1 = (ck p i).1 + dx * a ∧ (ck p j).2 = (ck p i).2 + dy * b ∧ ∀ t x, i ≤ t → t < j → p[t]? = some x → (x = qX dx ∧ 0 < a) ∨ (x = qY dy ∧ 0 < b)
  | 0, h, _, _ => by
    have : i = 0 := by omega
    subst this
    exact ⟨0, 0, rfl, by simp, by simp, fun t x t1 t2 => by omega⟩
  | j + 1, h, hj, hq => by
    by_cases e : i = j + 1
    · subst e
      exact ⟨0, 0, by omega, by simp, by simp, fun t x t1 t2 => by omega⟩
    · obtain ⟨a, b, h1, h2, h3, h4⟩ := disp hx hy (i := i) (j := j) (by omega) (by omega) fun t x t1 t2 => hq t x t1 (by omega)
      obtain ⟨x, hpx⟩ := step_at (p := p) (k := j) (by omega)
      have hc := ck_succ hpx
      rcases hq j x (by omega) (by omega) hpx with ex | ex
      · refine ⟨a + 1, b, by omega, ?_, ?_, fun t y t1 t2 hy' => ?_⟩
        · rw [hc]
          show (ck p j).1 + x.mv.1 = _
          have : x.mv.1 = dx := by rw [ex]; unfold qX; rcases hx with rfl | rfl <;> simp [Dr.mv]
          rw [h2, this]
          rcases hx with rfl | rfl <;> omega
        · rw [hc]
          show (ck p j).2 + x.mv.2 = _
          have : x.mv.2 = 0 := by rw [ex]; unfold qX; rcases hx with rfl | rfl <;> simp [Dr.mv]
          rw [h3, this]
          omega
        · by_cases et : t = j
          · subst et; rw [hpx] at hy'; cases hy'; exact .inl ⟨ex, by omega⟩
          · rcases h4 t y t1 (by omega) hy' with ⟨q1, q2⟩ | q
            · exact .inl ⟨q1, by omega⟩
            · exact .inr q
      · refine ⟨a, b + 1, by omega, ?_, ?_, fun t y t1 t2 hy' => ?_⟩
        · rw [hc]
          show (ck p j).1 + x.mv.1 = _
          have : x.mv.1 = 0 := by rw [ex]; unfold qY; rcases hy with rfl | rfl <;> simp [Dr.mv]
          rw [h2, this]
          omega
        · rw [hc]
          show (ck p j).2 + x.mv.2 = _
          have : x.mv.2 = dy := by rw [ex]; unfold qY; rcases hy with rfl | rfl <;> simp [Dr.mv]
          rw [h3, this]
          rcases hy with rfl | rfl <;> omega
        · by_cases et : t = j
          · subst et; rw [hpx] at hy'; cases hy'; exact .inr ⟨ex, by omega⟩
          · rcases h4 t y t1 (by omega) hy' with q | ⟨q1, q2⟩
            · exact .inl q
            · exact .inr ⟨q1, by omega⟩
/-- steps i .. j - 1 are plain: told by the signs -/
theorem pl_up {p : List Dr} {i j : Nat} (h : i ≤ j) (hj : j ≤ p.length) (hp : pl (sl p i j) = true) : far (ck p j) (ck p i) = j - i ∧ (∀ t x, i ≤ t → t < j → p[t]? = some x → x ∈ sgn (ck p i) (ck p j)) ∧ far (ck p i) (ck p j) = j - i ∧ ∀ t x, i ≤ t → t < j → p[t]? = some x → op x ∈ sgn (ck p j) (ck p i) := by
  obtain ⟨dx, dy, hx, hy, hq⟩ := pl_iff.mp hp
  obtain ⟨a, b, h1, h2, h3, h4⟩ := disp hx hy h hj fun t x t1 t2 t3 => hq x (mem_sl.mpr ⟨t, t1, t2, t3⟩)
  obtain ⟨m1, m2, m3, m4⟩ := sgn_mem (ck p i) (ck p j)
  obtain ⟨n1, n2, n3, n4⟩ := sgn_mem (ck p j) (ck p i)
  refine ⟨?_, fun t x t1 t2 t3 => ?_, ?_, fun t x t1 t2 t3 => ?_⟩
  · unfold far
    rcases hx with rfl | rfl <;> rcases hy with rfl | rfl <;> omega
  · rcases h4 t x t1 t2 t3 with ⟨ex, ha⟩ | ⟨ex, hb⟩
    · rw [ex]; unfold qX
      rcases hx with rfl | rfl
      · rw [if_pos rfl, m1]; omega
      · rw [if_neg (by omega), m2]; omega
    · rw [ex]; unfold qY
      rcases hy with rfl | rfl
      · rw [if_pos rfl, m3]; omega
      · rw [if_neg (by omega), m4]; omega
  · unfold far
    rcases hx with rfl | rfl <;> rcases hy with rfl | rfl <;> omega
  · rcases h4 t x t1 t2 t3 with ⟨ex, ha⟩ | ⟨ex, hb⟩
    · rw [ex]; unfold qX
      rcases hx with rfl | rfl
      · rw [if_pos rfl]; show Dr.l ∈ _; rw [n2]; omega
      · rw [if_neg (by omega)]; show Dr.r ∈ _; rw [n1]; omega
    · rw [ex]; unfold qY
      rcases hy with rfl | rfl
      · rw [if_pos rfl]; show Dr.d ∈ _; rw [n4]; omega
      · rw [if_neg (by omega)]; show Dr.u ∈ _; rw [n3]; omega
/-- the steps between two cells -/
def btw (p : List Dr) (i j : Nat) : List Dr := sl p (min i j) (max i j)
theorem wm_cor {p : List Dr} (C : IsCor p) {L : List Cell} (hL : ∀ c, c ∈ L ↔ c ∈ cc p) {i j : Nat} (hi' : i ≤ p.length) (hj : j ≤ p.length) : wm L (ck p i) (ck p j) = if pl (btw p i j) = true then 1 else 0 := by
  obtain ⟨w1, w2⟩ := wn_cor C hL (sgn_nodup (ck p i) (ck p j)) (sgn_no _ _) hj (far (ck p j) (ck p i)) i hi'
  unfold wm btw
  by_cases hp : pl (sl p (min i j) (max i j)) = true
  · rw [if_pos hp]
    refine w1 ?_
    by_cases h : i ≤ j
    · rw [Nat.min_eq_left h, Nat.max_eq_right h] at hp
      obtain ⟨h1, h2, _, _⟩ := pl_up h hj hp
      exact .inl ⟨by omega, h2⟩
    · rw [Nat.min_eq_right (by omega), Nat.max_eq_left (by omega)] at hp
      obtain ⟨_, _, h3, h4⟩ := pl_up (by omega) hi' hp
      exact .inr ⟨by omega, h4⟩
  · rw [if_neg hp]
    refine w2 fun h => hp ?_
    rcases h with ⟨h1, h2⟩ | ⟨h1, h2⟩
    · rw [Nat.min_eq_left (by omega), Nat.max_eq_right (by omega)]
      refine pl_mono (fun x hx => ?_) (pl_no (sgn_no (ck p i) (ck p j)))
      obtain ⟨t, t1, t2, t3⟩ := mem_sl.mp hx
      exact h2 t x t1 t2 t3
    · rw [Nat.min_eq_right (by omega), Nat.max_eq_left (by omega)]
      refine pl_mono (p := (sgn (ck p i) (ck p j)).map op) (fun x hx => ?_) (pl_no fun x hx hy => ?_)
      · obtain ⟨t, t1, t2, t3⟩ := mem_sl.mp hx
        exact List.mem_map.mpr ⟨op x, h2 t x t1 t2 t3, op_op x⟩
      · obtain ⟨y, hy1, rfl⟩ := List.mem_map.mp hx
        obtain ⟨z, hz1, e⟩ := List.mem_map.mp hy
        rw [op_op] at e
        have : z = op y := by rw [← e, op_op]
        rw [this] at hz1
        exact sgn_no _ _ y hy1 hz1
theorem find_one {α : Type} {P : α → Bool} {x : α} : ∀ {l : List α}, x ∈ l → P x = true → (∀ y ∈ l, P y = true → y = x) → l.find? P = some x
  | [], h, _, _ => by cases h
  | a :: l, h, hx, hu => by
    rw [List.find?_cons]
    by_cases ha : P a = true
    · rw [hu a List.mem_cons_self ha]; simp [hx]
    · have : P a = false := by simpa using ha
      rw [this]
      rcases List.mem_cons.mp h with rfl | h
      · exact absurd hx ha
      · exact find_one h hx fun y hy => hu y (List.mem_cons_of_mem _ hy)
theorem sl_cons {p : List Dr} {k j : Nat} {x : Dr} (h : k < j) (hx : p[k]? = some x) : sl p k j = x :: sl p (k + 1) j := by
  unfold sl
  obtain ⟨hl, e⟩ := List.getElem?_eq_some_iff.mp hx
  rw [List.drop_eq_getElem_cons hl, e, show j - k = (j - (k + 1)) + 1 by omega, List.take_succ_cons]
theorem fp_cor {p : List Dr} (C : IsCor p) {L : List Cell} (hL : ∀ c, c ∈ L ↔ c ∈ cc p) {sg : List Dr} (nd : sg.Nodup) (no : ∀ x ∈ sg, op x ∉ sg) {j : Nat} (hj : j ≤ p.length) : ∀ (m k : Nat), j = k + m → (∀ t x, k ≤ t → t < j → p[t]? = some x → x ∈ sg) → fp L sg (ck p j) m (ck p k) = sl p k j
  | 0, k, h, _ => by
    have : sl p k j = [] := by unfold sl; rw [show j - k = 0 by omega]; rfl
    rw [this]
    rfl
  | m + 1, k, h, hs => by
    obtain ⟨x, hx⟩ := step_at (p := p) (k := k) (by omega)
    have hxs := hs k x (Nat.le_refl _) (by omega) hx
    have hs' : ∀ t y, k + 1 ≤ t → t < j → p[t]? = some y → y ∈ sg := fun t y t1 t2 => hs t y (by omega) t2
    have ih := fp_cor C hL nd no hj m (k + 1) (by omega) hs'
    have hv : wn L sg (ck p j) m (stp (ck p k) x) = 1 := by
      rw [← ck_succ hx]
      exact (wn_cor C hL nd no hj m (k + 1) (by omega)).1 (.inl ⟨by omega, hs'⟩)
    have hf : sg.find? (fun s => decide (0 < wn L sg (ck p j) m (stp (ck p k) s))) = some x := by
      refine find_one hxs (by rw [hv]; rfl) fun y hy hpy => ?_
      simp only [decide_eq_true_eq] at hpy
      have hyL : stp (ck p k) y ∈ L := Classical.byContradiction fun q => by rw [wn_out q m] at hpy; omega
      obtain ⟨k', hk', e⟩ := mem_cc.mp ((hL _).mp hyL)
      have hvd : Vd p sg j m k' := Classical.byContradiction fun q => by
        rw [e, (wn_cor C hL nd no hj m k' hk').2 q] at hpy
        omega
      rcases ck_step C (by omega) hk' e.symm with ⟨h1, h2⟩ | ⟨h1, h2⟩
      · rw [hx] at h2; exact (Option.some.inj h2).symm
      · rcases hvd with ⟨v1, _⟩ | ⟨v1, _⟩ <;> omega
    rw [fp, hf, sl_cons (by omega) hx]
    show x :: fp L sg (ck p j) m (stp (ck p k) x) = _
    rw [← ck_succ hx, ih]
end Hd
set_option Elab.async false
set_option linter.all false
set_option maxRecDepth 100000
set_option maxHeartbeats 4000000
namespace Hd
open PySem PySem.Spec PyProof.Rows L2 G
theorem ck_near (p : List Dr) : ∀ k, (ck p k).1.natAbs ≤ k ∧ (ck p k).2.natAbs ≤ k
  | 0 => by unfold ck; simp [endc]
  | k + 1 => by
    have ih := ck_near p k
    by_cases h : k < p.length
    · obtain ⟨x, hx⟩ := step_at h
      rw [ck_succ hx]
      unfold stp
      cases x <;> simp only [Dr.mv] <;> omega
    · have : ck p (k + 1) = ck p k := by
        unfold ck
        rw [List.take_of_length_le (by omega), List.take_of_length_le (by omega)]
      rw [this]
      omega
theorem cc_range (p : List Dr) : cc p = (List.range (p.length + 1)).map (ck p) := by
  apply List.ext_getElem?
  intro k
  rw [List.getElem?_map]
  by_cases h : k ≤ p.length
  · rw [cc_get h, List.getElem?_range (by omega)]
    rfl
  · have h1 : (cc p)[k]? = none := by unfold cc; rw [trl_get, if_neg h]
    have h2 : (List.range (p.length + 1))[k]? = none := List.getElem?_eq_none (by rw [List.length_range]; omega)
    rw [h1, h2]
    rfl
theorem cc_items (p : List Dr) : ((cc p).map cD).mapIdx (fun i d => D.tup [.int (i : Nat), d]) = (List.range (p.length + 1)).map fun k => D.tup [.int (k : Nat), cD (ck p k)] := by
  apply List.ext_getElem?
  intro k
  rw [List.getElem?_mapIdx, List.getElem?_map, List.getElem?_map]
  by_cases h : k ≤ p.length
  · rw [cc_get h, List.getElem?_range (by omega)]
    rfl
  · have h1 : (cc p)[k]? = none := by unfold cc; rw [trl_get, if_neg h]
    have h2 : (List.range (p.length + 1))[k]? = none := List.getElem?_eq_none (by rw [List.length_range]; omega)
    rw [h1, h2]
    rfl
theorem btw_self (p : List Dr) (i j : Nat) : btw p (min i j) (max i j) = btw p i j := by
  unfold btw
  rw [show min (min i j) (max i j) = min i j by omega, show max (min i j) (max i j) = max i j by omega]
theorem btw_iff {p : List Dr} {i k : Nat} (hi' : i ≤ p.length) (hk : k ≤ p.length) : pl (btw p i k) = true ↔ lo p i ≤ k ∧ k ≤ hi p i := by
  have a1 := lo_le p i
  have a2 := hi_ge p i
  unfold btw
  by_cases h : i ≤ k
  · rw [Nat.min_eq_left h, Nat.max_eq_right h, hi_iff h hk]; omega
  · rw [Nat.min_eq_right (by omega), Nat.max_eq_left (by omega), lo_iff (by omega) hi']; omega
theorem way_cor {p : List Dr} (C : IsCor p) {L : List Cell} (hL : ∀ c, c ∈ L ↔ c ∈ cc p) {i j : Nat} (hi' : i ≤ p.length) (hj : j ≤ p.length) :
    (if 0 < wm L (ck p (min i j)) (ck p (max i j)) then D.str (stS (fp L (sgn (ck p (min i j)) (ck p (max i j))) (ck p (max i j)) (far (ck p (max i j)) (ck p (min i j))) (ck p (min i j)))) else D.non) = if pl (btw p i j) = true then D.str (stS (btw p i j)) else D.non := by
  rw [wm_cor C hL (by omega) (by omega), btw_self]
  by_cases h : pl (btw p i j) = true
  · rw [if_pos h, if_pos (by omega), if_pos h]
    have hb : btw p i j = sl p (min i j) (max i j) := rfl
    rw [hb] at h ⊢
    obtain ⟨h1, h2, _, _⟩ := pl_up (p := p) (i := min i j) (j := max i j) (by omega) (by omega) h
    rw [fp_cor C hL (sgn_nodup _ _) (sgn_no _ _) (by omega) _ (min i j) (by omega) h2]
  · rw [if_neg h, if_neg (by omega), if_neg h]
def sp_law : GSp := fun ds G Q => ∃ ns : List Int, ds = [.frl ns] ∧ ns.length ≤ 1000 ∧ (∀ a, G a ≠ some .src) ∧ ∀ G', Sub G G' → Q (.bl true) G'
theorem p_law (ds : List D) (Γ : Gp) (R : GK) (h : sp_law ds Γ R) : t_law sp__law_open_cells sp__law_draw_corridor sp_corridor_cells sp_corridor sp__law_goes sp__law_turns sp_corridor_stalls sp_corridor_spots sp_answer sp_fewest sp_judge_answer sp_judge_stalls sp_judge_spots sp__law_pick sp_first_way sp_serves sp__law_is_plain sp_ways_many sp_field sp__law_field { nx := fun _ G' => R .non G', rt := R } (ds.map some ++ List.replicate (19 - ds.length) none) Γ := by
  obtain ⟨ns, rfl, hz, hsrc, hQ⟩ := h
  unfold t_law
  simp
  refine ⟨ns, rfl, hz, hsrc, fun s G1 hs s1 hs1 => ?_⟩
  refine ⟨s, 24, rfl, hs1, by omega, fun p G2 C hp s2 => ?_⟩
  have hccl : (cc p).length = p.length + 1 := by unfold cc; rw [trl_len]
  refine ⟨p, rfl, by omega, fun G3 s3 => ?_⟩
  refine ⟨p, rfl, by omega, fun G4 s4 => ?_⟩
  have hccn : (cc p).map cD = (cc p).map cD := rfl
  refine ⟨_, .inl ⟨rfl, by rw [List.length_map, sizeLine_eq]; omega⟩, fun a1 ha1 => ?_⟩
  refine ⟨p, rfl, by omega, fun a2 G5 ha2 s5 ha25 => ⟨a2, rfl, _, s5 _ _ gup_same, _, ha25, cDs_okey 7 _, cDs_okey 7 _, .inl ⟨rfl, ?_⟩⟩⟩
  refine ⟨_, .inl ⟨rfl, by rw [List.length_map, sizeLine_eq]; unfold srt; rw [List.length_mergeSort]; omega⟩, fun a3 ha3 => ?_⟩
  refine ⟨p, rfl, by omega, fun a4 G6 ha4 s6 ha46 => ?_⟩
  refine rSort_lst ha46 fun a5 ha5 => ?_
  have n35 : a3 ≠ a5 := by rintro rfl; rw [s6 _ _ gup_same] at ha5; cases ha5
  refine ⟨a5, rfl, _, (gup_ne n35).trans (s6 _ _ gup_same), _, gup_same, cDs_okey 7 _, cDs_okey 7 _, .inl ⟨rfl, ?_⟩⟩
  generalize hG7 : gup G6 a5 (.lst ((srt (cc p)).map cD)) = G7
  have s07 : G.Sub Γ G7 := by
    rw [← hG7]
    exact (s1.trans (s2.trans (s3.trans s4))).trans ((Sub.new ha1).trans (s5.trans ((Sub.new ha3).trans (s6.trans (Sub.new ha5)))))
  have src7 : G7 s = some .src := by
    rw [← hG7]
    exact (s2.trans (s3.trans s4)).trans ((Sub.new ha1).trans (s5.trans ((Sub.new ha3).trans (s6.trans (Sub.new ha5))))) _ _ hs1
  clear hG7 ha5 n35 ha46 ha4 ha3 ha25 ha2 ha1 s6 s5 s4 s3
  refine ⟨p, rfl, by omega, fun du G8 hdu s8 hdu8 => ⟨du, rfl, _, hdu8, ?_⟩⟩
  have htl := turns_len p
  have T := trn_ti p (p.length + 1) 0 (by omega)
  have hT : trn p (p.length + 1) 0 = turns p := rfl
  rw [hT] at T
  have cells_at : ∀ k : Nat, k ≤ p.length → atI ((cc p).map cD) (k : Int) = some (cD (ck p k)) := fun k hk => by
    unfold atI ixN
    rw [if_pos (by omega), if_pos (by rw [List.length_map]; omega)]
    show ((cc p).map cD)[((k : Nat) : Int).toNat]? = _
    rw [Int.toNat_natCast, List.getElem?_map, cc_get hk]
    rfl
  refine lc_fm _ _ (fun d => (un tD d).map fun t => cD (ck p t.2)) (by rw [List.length_map]; omega) (fun G9 s9 => s9 _ _ hdu8) (fun d hd G9 s9 Q9 h9 => ?_) fun b1 G9 hb1 s9 hb19 => ?_
  · rw [List.mem_map] at hd
    obtain ⟨t, ht, rfl⟩ := hd
    have h10 := h9 G9 Sub.refl
    rw [un_of tD_inj] at h10
    simp [tD, rD]
    exact ⟨_, cells_at _ (T.bd t ht).2.2.2, h10⟩
  rw [fm_map tD (fun t => cD (ck p t.2)) _ _ fun t _ => by rw [un_of tD_inj]; rfl] at hb19
  have eS : ((turns p).map fun t => cD (ck p t.2)) = ((turns p).map fun t => ck p t.2).map cD := by rw [List.map_map]; rfl
  rw [eS] at hb19
  refine rSort_lst hb19 fun b2 hb2 => ?_
  refine ⟨_, .inr ⟨b2, rfl, gup_same⟩, ?_⟩
  generalize hG10 : gup G9 b2 (.lst ((srt ((turns p).map fun t => ck p t.2)).map cD)) = G10
  have s10 : G.Sub G8 G10 := by rw [← hG10]; exact s9.trans (Sub.new hb2)
  clear hG10 hb2 hb19 hb1 s9
  have du10 := s10 _ _ hdu8
  refine ⟨du, rfl, _, du10, ?_⟩
  refine lc_fm _ _ (fun d => (un tD d).map fun t => cD (ck p t.1)) (by rw [List.length_map]; omega) (fun G9 s9 => s9 _ _ du10) (fun d hd G9 s9 Q9 h9 => ?_) fun b3 G11 hb3 s11 hb311 => ?_
  · rw [List.mem_map] at hd
    obtain ⟨t, ht, rfl⟩ := hd
    have h10 := h9 G9 Sub.refl
    rw [un_of tD_inj] at h10
    simp [tD, rD]
    exact ⟨_, cells_at _ (T.bd t ht).2.1, h10⟩
  rw [fm_map tD (fun t => cD (ck p t.1)) _ _ fun t _ => by rw [un_of tD_inj]; rfl] at hb311
  have eK : ((turns p).map fun t => cD (ck p t.1)) = ((turns p).map fun t => ck p t.1).map cD := by rw [List.map_map]; rfl
  rw [eK] at hb311
  refine rSort_lst hb311 fun b4 hb4 => ?_
  refine ⟨_, .inr ⟨b4, rfl, gup_same⟩, ?_⟩
  generalize hG12 : gup G11 b4 (.lst ((srt ((turns p).map fun t => ck p t.1)).map cD)) = G12
  have s12 : G.Sub G10 G12 := by rw [← hG12]; exact s11.trans (Sub.new hb4)
  clear hG12 hb4 hb311 hb3 s11
  have intOk : ∀ l : List Nat, pureD (intT l) = true := fun l => by
    show okeyAll 7 (l.map fun i => D.int (i : Nat)) = true
    induction l with
    | nil => rfl
    | cons a l ih => rw [List.map_cons, okeyAll, ih]; rfl
  refine ⟨p, rfl, by omega, fun G13 s13 => ?_⟩
  have du13 := s13 _ _ (s12 _ _ du10)
  refine ⟨du, rfl, _, du13, ?_⟩
  refine lc_fm _ _ (fun d => (un tD d).map fun t => .int (t.2 : Nat)) (by rw [List.length_map]; omega) (fun G9 s9 => s9 _ _ du13) (fun d hd G9 s9 Q9 h9 => ?_) fun b5 G14 hb5 s14 hb514 => ?_
  · rw [List.mem_map] at hd
    obtain ⟨t, ht, rfl⟩ := hd
    have h10 := h9 G9 Sub.refl
    rw [un_of tD_inj] at h10
    simp [tD]
    exact h10
  rw [fm_map tD (fun t => D.int (t.2 : Nat)) _ _ fun t _ => by rw [un_of tD_inj]; rfl] at hb514
  have e2 : D.tup ((turns p).map fun t => D.int (t.2 : Nat)) = intT ((turns p).map (·.2)) := by unfold intT; rw [List.map_map]; rfl
  refine ⟨_, .inr ⟨b5, rfl, hb514⟩, ?_⟩
  rw [e2]
  refine ⟨.inl ⟨intOk _, intOk _⟩, .inl ⟨rfl, p, rfl, by omega, fun G15 s15 => ?_⟩⟩
  have du15 := s15 _ _ (s14 _ _ du13)
  refine ⟨du, rfl, _, du15, ?_⟩
  refine lc_fm _ _ (fun d => (un tD d).map fun t => .int (t.1 : Nat)) (by rw [List.length_map]; omega) (fun G9 s9 => s9 _ _ du15) (fun d hd G9 s9 Q9 h9 => ?_) fun b6 G16 hb6 s16 hb616 => ?_
  · rw [List.mem_map] at hd
    obtain ⟨t, ht, rfl⟩ := hd
    have h10 := h9 G9 Sub.refl
    rw [un_of tD_inj] at h10
    simp [tD]
    exact h10
  rw [fm_map tD (fun t => D.int (t.1 : Nat)) _ _ fun t _ => by rw [un_of tD_inj]; rfl] at hb616
  have e3 : D.tup ((turns p).map fun t => D.int (t.1 : Nat)) = intT ((turns p).map (·.1)) := by unfold intT; rw [List.map_map]; rfl
  refine ⟨_, .inr ⟨b6, rfl, hb616⟩, ?_⟩
  rw [e3]
  have s16' : G.Sub G8 G16 := s10.trans (s12.trans (s13.trans (s14.trans (s15.trans s16))))
  clear hb616 hb6 s16 du15 s15 hb514 hb5 s14 du13 s13 s12 du10 s10
  -- the room
  have hL : ∀ c, c ∈ srt (cc p) ↔ c ∈ cc p := fun c => srt_mem
  have hLl : (srt (cc p)).length ≤ 500 := by unfold srt; rw [List.length_mergeSort]; omega
  have hLa : Asc (srt (cc p)) := srt_asc C.nd
  have F := fine_cor C hL hLa.nodup fun c hc => hc
  have A0 := ans_turns C hL
  have A0l : (srt ((turns p).map fun t => ck p t.2)).length = (turns p).length := by unfold srt; rw [List.length_mergeSort, List.length_map]
  refine ⟨.inl ⟨intOk _, intOk _⟩, .inl ⟨rfl, srt (cc p), rfl, hLl, hLa.nodup, F, fun S K G17 A s17 => ?_⟩⟩
  have hSl : S.length = (turns p).length := (ans_len (fun c hc => hc) A A0).trans A0l
  have hKl : K.length = (turns p).length := A.len.symm.trans hSl
  have du17 := s17 _ _ (s16' _ _ hdu8)
  have lenDu : ∀ G', G.Sub G8 G' → ∃ n : Nat, True := fun _ _ => ⟨0, trivial⟩
  refine ⟨_, rfl, _, atI0 _ _, S.length, .inl ⟨_, rfl, (List.length_map ..).symm⟩, (turns p).length, .inr (.inl ⟨du, rfl, _, du17, (List.length_map ..).symm⟩), .inl ⟨rfl, rfl⟩, .inl ⟨by rw [hSl], ?_⟩⟩
  refine ⟨_, rfl, _, atI1 _ _ _, K.length, .inl ⟨_, rfl, (List.length_map ..).symm⟩, (turns p).length, .inr (.inl ⟨du, rfl, _, du17, (List.length_map ..).symm⟩), .inl ⟨rfl, rfl⟩, .inl ⟨by rw [hKl], ?_⟩⟩
  refine ⟨srt (cc p), srt (cc p), rfl, hLl, hLl, hLa.nodup, fun _ h => h, F, fun S' K' G18 A' s18 => ?_⟩
  have hSl' : S'.length = (turns p).length := (ans_len (fun c hc => hc) A' A0).trans A0l
  have du18 := s18 _ _ du17
  refine ⟨(turns p).length, .inr (.inl ⟨du, rfl, _, du18, (List.length_map ..).symm⟩), .inl ⟨rfl, rfl⟩, .inl ⟨by rw [hSl'], ?_⟩⟩
  refine ⟨srt (cc p), srt (cc p), srt ((turns p).map fun t => ck p t.2), srt ((turns p).map fun t => ck p t.1), rfl, hLl, hLl, by omega, fun _ h => h, A0, fun G19 s19 => ⟨rfl, .inl ⟨rfl, ?_⟩⟩⟩
  refine ⟨srt (cc p), srt (cc p), S, K, rfl, hLl, hLl, by omega, fun _ h => h, A, fun G20 s20 => ⟨rfl, .inl ⟨rfl, ?_⟩⟩⟩
  refine ⟨srt (cc p), srt (cc p), srt ((turns p).map fun t => ck p t.2), rfl, hLl, hLl, by omega, A0.sa, A0.ss, A0.sv, fun G21 s21 => ⟨rfl, .inl ⟨rfl, ?_⟩⟩⟩
  refine ⟨srt (cc p), srt (cc p), srt ((turns p).map fun t => ck p t.1), rfl, hLl, hLl, by have := A0.len; omega, A0.ka, A0.ks, A0.ks, A0.ap, fun G22 s22 => ⟨rfl, .inl ⟨rfl, ?_⟩⟩⟩
  have s22' : G.Sub G7 G22 := s8.trans (s16'.trans (s17.trans (s18.trans (s19.trans (s20.trans (s21.trans s22))))))
  clear du18 du17 s22 s21 s20 s19 s18 s17 s16'
  refine for_of (fun k ρ G' => ∃ x7 x8 x11 x12 x13 x14 x15 x16 x17 x18, ρ = [some (D.frl ns), some (D.ref s), some (D.str (stS p)), some (rD (cc p)), some (rD (srt (cc p))), some (D.ref du),
      some (D.tup (List.map cD (srt (List.map (fun t => ck p t.2) (turns p))))), x7, x8,
      some (D.tup (List.map cD (srt (List.map (fun t => ck p t.1) (turns p))))), some (D.tup [rD S, rD K]), x11, x12, x13, x14, x15, x16, x17, x18] ∧ G.Sub G7 G')
    ⟨none, none, none, none, none, none, none, none, none, none, rfl, s22'⟩ (fun _ _ _ _ => trivial) ?_ ?_
  · rintro Z k d ρ G23 ed ⟨x7, x8, x11, x12, x13, x14, x15, x16, x17, x18, rfl, s23⟩ hZ _ _ _
    have hsz : (stS p).length ≤ sizeLine := by rw [stS_len, sizeLine_eq]; omega
    simp
    refine ⟨p.length + 1, .inl ⟨_, rfl, by rw [List.length_map, hccl]⟩, s, _, rfl, s23 _ _ src7, by omega, fun r1 G24 r10 r11 s24 => ?_⟩
    refine ⟨p.length + 1, .inl ⟨_, rfl, by rw [List.length_map, hccl]⟩, s, _, rfl, s24 _ _ (s23 _ _ src7), by omega, fun r2 G25 r20 r21 s25 => ?_⟩
    obtain ⟨i, rfl⟩ : ∃ i : Nat, r1 = i := ⟨r1.toNat, by omega⟩
    obtain ⟨j, rfl⟩ : ∃ j : Nat, r2 = j := ⟨r2.toNat, by omega⟩
    have hi1 : i ≤ p.length := by omega
    have hj1 : j ≤ p.length := by omega
    have emin : ∀ a b : Nat, (if (b : Int) < (a : Int) then (b : Int) else (a : Int)) = ((min a b : Nat) : Int) := fun a b => by split <;> omega
    have emax : ∀ a b : Nat, (if (a : Int) < (b : Int) then (b : Int) else (a : Int)) = ((max a b : Nat) : Int) := fun a b => by split <;> omega
    have near : ∀ a b : Nat, a ≤ p.length → b ≤ p.length → Near (ck p a) (ck p b) := fun a b ha hb => by
      have h1 := ck_near p a
      have h2 := ck_near p b
      exact ⟨by omega, by omega, by omega, by omega⟩
    refine ⟨i, j, ⟨rfl, rfl⟩, i, j, ⟨rfl, rfl⟩, hsz, i, j, ⟨rfl, rfl⟩, _, rfl, cD (ck p (min i j)), by rw [emin]; exact cells_at _ (by omega), i, j, ⟨rfl, rfl⟩, _, rfl, cD (ck p (max i j)), by rw [emax]; exact cells_at _ (by omega), ?_⟩
    rw [emin, emax, cutS_stS p (by omega) (by omega)]
    have hb : sl p (min i j) (max i j) = btw p i j := rfl
    rw [hb]
    refine ⟨srt (cc p), ck p (min i j), ck p (max i j), rfl, hLl, near _ _ (by omega) (by omega), fun G26 s26 => ?_⟩
    rw [way_cor C hL hi1 hj1]
    refine ⟨_, rfl, i, rfl, _, cells_at i hi1, _, rfl, j, rfl, _, cells_at j hj1, srt (cc p), ck p i, ck p j, rfl, hLl, near _ _ hi1 hj1, fun G27 s27 => ?_⟩
    have ew := wm_cor C hL hi1 hj1
    have es : decide (0 < wm (srt (cc p)) (ck p i) (ck p j)) = pl (btw p i j) := by
      rw [ew]
      by_cases h : pl (btw p i j) = true
      · rw [if_pos h, h]; rfl
      · rw [if_neg h, Bool.eq_false_iff.mpr h]; rfl
    rw [es]
    have hst : ∀ z : Str, eqOk (D.str z) (D.str z) := fun z => .inl ⟨rfl, rfl⟩
    cases hpl : pl (btw p i j)
    case' false =>
      rw [hpl] at ew
      refine .inl ⟨rfl, btw p i j, rfl, fun G28 s28 => .inl ⟨by rw [hpl], hst _, btw p i j, rfl, fun G29 s29 => .inl ⟨by rw [hpl], .inl ⟨rfl, rfl⟩, .inl ⟨rfl, _, rfl, i, rfl, _, cells_at i hi1, _, rfl, j, rfl, _, cells_at j hj1, srt (cc p), ck p i, ck p j, rfl, hLl, near _ _ hi1 hj1, fun G30 s30 => ⟨btw p i j, rfl, fun G31 s31 => .inl ⟨by rw [hpl], .inl ⟨rfl, rfl⟩, .inl ⟨by rw [ew]; rfl, _, rfl, ?_⟩⟩⟩⟩⟩⟩⟩
    case' true =>
      rw [hpl] at ew
      refine .inr ⟨rfl, btw p i j, rfl, fun G28 s28 => .inr ⟨by rw [hpl], hst _, btw p i j, rfl, fun G29 s29 => .inr ⟨by rw [hpl], hst _, .inl ⟨rfl, _, rfl, i, rfl, _, cells_at i hi1, _, rfl, j, rfl, _, cells_at j hj1, srt (cc p), ck p i, ck p j, rfl, hLl, near _ _ hi1 hj1, fun G30 s30 => ⟨btw p i j, rfl, fun G31 s31 => .inr ⟨by rw [hpl], .inl ⟨rfl, rfl⟩, .inl ⟨by rw [ew]; rfl, _, rfl, ?_⟩⟩⟩⟩⟩⟩⟩
    all_goals
      rw [cc_items]
      refine lc_fm _ _ (fun d => match d with | .tup [.int k, c] => if pl (btw p i k.toNat) = true then some c else none | _ => none) (by rw [List.length_map, List.length_range]; omega) (fun _ _ => trivial) (fun d hd G32 s32 Q32 h32 => ?_) fun v G32 hv s32 hv32 => ?_
      · rw [List.mem_map] at hd
        obtain ⟨k2, hk2, rfl⟩ := hd
        rw [List.mem_range] at hk2
        have h33 := fun G' s => h32 G' s
        simp only [Int.toNat_natCast] at h33
        simp
        refine ⟨hsz, ?_⟩
        rw [show (if k2 < i then (k2 : Int) else (i : Int)) = ((min i k2 : Nat) : Int) by split <;> omega, show (if i < k2 then (k2 : Int) else (i : Int)) = ((max i k2 : Nat) : Int) by split <;> omega, cutS_stS p (by omega) (by omega)]
        refine ⟨btw p i k2, rfl, fun G34 s34 => ?_⟩
        have h35 := h33 G34 s34
        by_cases hq : pl (btw p i k2) = true
        · rw [if_pos hq] at h35; exact .inr ⟨by rw [hq], h35⟩
        · rw [if_neg hq] at h35; exact .inl ⟨by rw [Bool.eq_false_iff.mpr hq], h35⟩
      · have eSV : ((List.range (p.length + 1)).map fun k => D.tup [.int (k : Nat), cD (ck p k)]).filterMap (fun d => match d with | .tup [.int k, c] => if pl (btw p i k.toNat) = true then some c else none | _ => none) = (((List.range (p.length + 1)).filter fun k => pl (btw p i k)).map (ck p)).map cD := by
          rw [List.filterMap_map, List.map_map]
          exact fm_filter (fun k => pl (btw p i k)) (fun k => cD (ck p k)) _ _ fun k _ => rfl
        rw [eSV] at hv32
        have nSV : (((List.range (p.length + 1)).filter fun k => pl (btw p i k)).map (ck p)).Nodup := by
          refine List.Nodup.sublist (List.Sublist.map (ck p) List.filter_sublist) ?_
          rw [← cc_range]
          exact C.nd
        have srtSV : srt (((List.range (p.length + 1)).filter fun k => pl (btw p i k)).map (ck p)) = fld (srt (cc p)) (ck p i) := by
          refine srt_eq nSV (fld_asc _ _) fun c => ?_
          rw [List.mem_map]
          constructor
          · rintro ⟨k, hk, rfl⟩
            rw [List.mem_filter, List.mem_range] at hk
            exact (fld_cor C hL hi1 (by omega)).mpr ((btw_iff hi1 (by omega)).mp hk.2)
          · intro hc
            obtain ⟨k, hk, rfl⟩ := mem_cc.mp ((hL _).mp (fld_mem ((hL _).mpr (mem_cc.mpr ⟨i, hi1, rfl⟩)) hc))
            exact ⟨k, List.mem_filter.mpr ⟨List.mem_range.mpr (by omega), (btw_iff hi1 hk).mpr ((fld_cor C hL hi1 hk).mp hc)⟩, rfl⟩
        refine ⟨_, rfl, i, rfl, _, cells_at i hi1, srt (cc p), ck p i, rfl, by omega, fun G33 s33 => ⟨_, .inl ⟨rfl, by rw [List.length_map, sizeLine_eq]; have := fld_len (srt (cc p)) (ck p i); omega⟩, fun w2 hw2 => ?_⟩⟩
        have nvw : v ≠ w2 := by rintro rfl; rw [s33 _ _ hv32] at hw2; cases hw2
        refine rSort_lst ((gup_ne nvw).trans (s33 _ _ hv32)) fun y hy => ?_
        have nwy : w2 ≠ y := by rintro rfl; rw [gup_same] at hy; cases hy
        rw [srtSV]
        refine ⟨y, rfl, _, (gup_ne nwy).trans gup_same, _, gup_same, cDs_okey 7 _, cDs_okey 7 _, .inl ⟨rfl, ?_⟩⟩
        refine ⟨_, rfl, i, rfl, _, cells_at i hi1, srt (cc p), ck p i, rfl, by omega, fun G35 s35 => ?_⟩
        refine ⟨_, rfl, i, rfl, _, cells_at i hi1, srt (cc p), ck p i, rfl, by omega, fun G36 s36 => ?_⟩
        refine ⟨.inl ⟨rD_okey 6 _, rD_okey 6 _⟩, .inl ⟨rfl, ?_⟩⟩
        exact hZ _ _ ⟨_, _, _, _, _, _, _, _, _, _, rfl, s23.trans (s24.trans (s25.trans (s26.trans (s27.trans (s28.trans (s29.trans (s30.trans (s31.trans (s32.trans (s33.trans ((Sub.new hw2).trans ((Sub.new hy).trans (s35.trans s36)))))))))))))⟩
  · rintro ρ G23 ⟨x7, x8, x11, x12, x13, x14, x15, x16, x17, x18, rfl, s23⟩
    simp
    exact ⟨_, Fg.refl, hQ _ (s07.trans s23)⟩
end Hd
set_option Elab.async false
set_option linter.all false
set_option maxRecDepth 100000
set_option maxHeartbeats 0
namespace Hd
open PySem PySem.Spec PyProof.Rows L2 G
def top (i : Nat) : Stmt := PySem.Challenge.pw_nodetour_k74_whole_corridors_answered.main.body.getD i (.Pass ⟨0, 0, 0, 0⟩)
abbrev s1 : Stmt := top 1
abbrev N_moves : List Str := []
theorem sc_moves : FnScope N_moves [] (defScope s1) := ⟨rfl, rfl, rfl, by decide +kernel, rfl, by decide +kernel, by decide +kernel⟩
theorem g_moves {P : Program} {w : World} {K : PySem.W.Frag} {mg : Str → Option Value} {base : Heap} {f : Addr} {k : Nat} (cdv : Value) (A : Around) (outer : List Env) (s : Shared) (H : Hp) (E : XK) (hr : Room k (A.deeper (envOfC "moves" (defScope s1) s.heap.objs.size f cdv))) :
    GSs (cxOf CX0 P w K mg base N_moves "moves" (defScope s1) f cdv A outer s H E).nox (defBody s1) (t_moves) :=
  (gss_one (gs_ret (ge_dispS (gps_cons (ge_tup (ga_cons ge_int (ga_cons ge_int ga_nil))) (gps_cons (ge_tup (ga_cons (ge_un gnegG ge_int) (ga_cons ge_int ga_nil))) (gps_cons (ge_tup (ga_cons ge_int (ga_cons ge_int ga_nil))) (gps_cons (ge_tup (ga_cons ge_int (ga_cons (ge_un gnegG ge_int) ga_nil))) gps_nil)))))))
abbrev s2 : Stmt := top 2
abbrev N_trail : List Str := ["start", "steps", "found", "to", "step", "x", "y"]
theorem sc_trail : FnScope N_trail ["start", "steps"] (defScope s2) := ⟨rfl, rfl, rfl, by decide +kernel, rfl, by decide +kernel, by decide +kernel⟩
theorem g_trail {P : Program} {w : World} {K : PySem.W.Frag} {mg : Str → Option Value} {base : Heap} {f : Addr} {k : Nat} {sp_moves : GSp} (F_moves : FU P w K mg base k "moves" 0 sp_moves) (m_tuple : mg "tuple" = none) (cdv : Value) (A : Around) (outer : List Env) (s : Shared) (H : Hp) (E : XK) (hr : Room k (A.deeper (envOfC "trail" (defScope s2) s.heap.objs.size f cdv))) :
    GSs (cxOf CX0 P w K mg base N_trail "trail" (defScope s2) f cdv A outer s H E).nox (defBody s2) (t_trail sp_moves) :=
  (gss_cons (gs_par sc_trail.nd (ga_cons (ge_lst (ga_cons (gv 0) ga_nil)) (ga_cons (ge_callU0 F_moves hr) ga_nil))) (gss_cons (gs_for (gi_str (gv 1)) (gg_name sc_trail.nd) (gss_cons (gs_asg (ge_ix ixL (gv 2) (ge_un gnegG ge_int)) (gg_tup (ggs_cons (gg_name sc_trail.nd) (ggs_cons (gg_name sc_trail.nd) ggs_nil)))) (gss_one (gs_expr (ge_bm PySem.F.slot_list_append PySem.F.type_list_append mapp (gv 2) (ga_cons (ge_tup (ga_cons (ge_op gadd (gv 5) (ge_ix ixT (ge_getS hr.units (gv 3) (gv 4)) ge_int)) (ga_cons (ge_op gadd (gv 6) (ge_ix ixT (ge_getS hr.units (gv 3) (gv 4)) ge_int)) ga_nil))) ga_nil)))))) (gss_one (gs_ret (ge_ct cTuple m_tuple (by decide +kernel) (ga_cons (gv 2) ga_nil))))))
abbrev s3 : Stmt := top 3
abbrev N_signs_between : List Str := ["start", "end", "x", "y", "a", "b", "found"]
theorem sc_signs_between : FnScope N_signs_between ["start", "end"] (defScope s3) := ⟨rfl, rfl, rfl, by decide +kernel, rfl, by decide +kernel, by decide +kernel⟩
theorem g_signs_between {P : Program} {w : World} {K : PySem.W.Frag} {mg : Str → Option Value} {base : Heap} {f : Addr} {k : Nat} (m_sorted : mg "sorted" = none) (cdv : Value) (A : Around) (outer : List Env) (s : Shared) (H : Hp) (E : XK) (hr : Room k (A.deeper (envOfC "signs_between" (defScope s3) s.heap.objs.size f cdv))) :
    GSs (cxOf CX0 P w K mg base N_signs_between "signs_between" (defScope s3) f cdv A outer s H E).nox (defBody s3) (t_signs_between) :=
  (gss_cons (gs_asg (ge_tup (ga_cons (gv 0) (ga_cons (gv 1) ga_nil))) (gg_tup (ggs_cons (gg_tup (ggs_cons (gg_name sc_signs_between.nd) (ggs_cons (gg_name sc_signs_between.nd) ggs_nil))) (ggs_cons (gg_tup (ggs_cons (gg_name sc_signs_between.nd) (ggs_cons (gg_name sc_signs_between.nd) ggs_nil))) ggs_nil)))) (gss_cons (gs_set sc_signs_between.nd (ge_op gcatS (ge_if (gt_cmp ggt (gv 4) (gv 2)) ge_str (ge_if (gt_cmp glt (gv 4) (gv 2)) ge_str ge_str)) (ge_if (gt_cmp ggt (gv 5) (gv 3)) ge_str (ge_if (gt_cmp glt (gv 5) (gv 3)) ge_str ge_str)))) (gss_one (gs_ret (ge_join ge_str (ge_cb (cSortX rfl hr.units) m_sorted (by decide +kernel) (ga_cons (gv 6) ga_nil)))))))
abbrev s4 : Stmt := top 4
abbrev N_numbers_to : List Str := ["room", "start", "end", "signs", "to", "inner", "cell", "x", "y", "a", "b", "near", "p", "q", "many", "far", "late", "sign", "one"]
theorem sc_numbers_to : FnScope N_numbers_to ["room", "start", "end"] (defScope s4) := ⟨rfl, rfl, rfl, by decide +kernel, rfl, by decide +kernel, by decide +kernel⟩
theorem g_numbers_to {P : Program} {w : World} {K : PySem.W.Frag} {mg : Str → Option Value} {base : Heap} {f : Addr} {k : Nat} {sp_signs_between : GSp} (F_signs_between : FU P w K mg base k "signs_between" 2 sp_signs_between) {sp_moves : GSp} (F_moves : FU P w K mg base k "moves" 0 sp_moves) (m_range : mg "range" = none) (m_min : mg "min" = none) (m_max : mg "max" = none) (m_abs : mg "abs" = none) (m_sorted : mg "sorted" = none) (m_sum : mg "sum" = none) (cdv : Value) (A : Around) (outer : List Env) (s : Shared) (H : Hp) (E : XK) (hr : Room k (A.deeper (envOfC "numbers_to" (defScope s4) s.heap.objs.size f cdv))) :
    GSs (cxOf CX0 P w K mg base N_numbers_to "numbers_to" (defScope s4) f cdv A outer s H E).nox (defBody s4) (t_numbers_to sp_signs_between sp_moves) :=
  (gss_cons (gs_asg (ge_tup (ga_cons (ge_callU F_signs_between hr (ga_cons (gv 1) (ga_cons (gv 2) ga_nil))) (ga_cons (ge_callU0 F_moves hr) (ga_cons (ge_dc [("cell", 6)] hr.units sc_numbers_to.nd (gi_tup (gv 0)) (blkOk_by rfl) (fun _ _ _ _ _ => (gw_name sc_numbers_to.nd)) (fun _ _ _ _ _ => gts_nil) (fun _ _ _ _ _ => (gv 6)) (fun _ _ _ _ _ => ge_bl)) ga_nil)))) (gg_tup (ggs_cons (gg_name sc_numbers_to.nd) (ggs_cons (gg_name sc_numbers_to.nd) (ggs_cons (gg_name sc_numbers_to.nd) ggs_nil))))) (gss_cons (gs_asg (ge_tup (ga_cons (gv 1) (ga_cons (gv 2) ga_nil))) (gg_tup (ggs_cons (gg_tup (ggs_cons (gg_name sc_numbers_to.nd) (ggs_cons (gg_name sc_numbers_to.nd) ggs_nil))) (ggs_cons (gg_tup (ggs_cons (gg_name sc_numbers_to.nd) (ggs_cons (gg_name sc_numbers_to.nd) ggs_nil))) ggs_nil)))) (gss_cons (gs_set sc_numbers_to.nd (ge_lst ga_nil)) (gss_cons (gs_for (gi_rng2 rfl m_range (ga_cons (ge_cb (cMin2 rfl) m_min (by decide +kernel) (ga_cons (gv 7) (ga_cons (gv 9) ga_nil))) (ga_cons (ge_op gadd (ge_cb (cMax2 rfl) m_max (by decide +kernel) (ga_cons (gv 7) (ga_cons (gv 9) ga_nil))) ge_int) ga_nil))) (gg_name sc_numbers_to.nd) (gss_one (gs_expr (ge_bm PySem.F.slot_list_extend PySem.F.type_list_extend mext (gv 11) (ga_cons (ge_lc [("q", 13)] sc_numbers_to.nd (gi_rng2 rfl m_range (ga_cons (ge_cb (cMin2 rfl) m_min (by decide +kernel) (ga_cons (gv 8) (ga_cons (gv 10) ga_nil))) (ga_cons (ge_op gadd (ge_cb (cMax2 rfl) m_max (by decide +kernel) (ga_cons (gv 8) (ga_cons (gv 10) ga_nil))) ge_int) ga_nil))) (blkOk_by rfl) (fun _ _ _ _ _ => (gw_name sc_numbers_to.nd)) (fun _ _ _ _ _ => gts_nil) (fun _ _ _ _ _ => (ge_tup (ga_cons (ge_op gadd (ge_cb cAbs m_abs (by decide +kernel) (ga_cons (ge_op gsub (gv 9) (gv 12)) ga_nil)) (ge_cb cAbs m_abs (by decide +kernel) (ga_cons (ge_op gsub (gv 10) (gv 13)) ga_nil))) (ga_cons (ge_tup (ga_cons (gv 12) (ga_cons (gv 13) ga_nil))) ga_nil))))) ga_nil))))) (gss_cons (gs_set sc_numbers_to.nd ge_newD) (gss_cons (gs_for (gi_list (ge_cb (cSort rfl hr.units) m_sorted (by decide +kernel) (ga_cons (gv 11) ga_nil))) (gg_tup (ggs_cons (gg_name sc_numbers_to.nd) (ggs_cons (gg_name sc_numbers_to.nd) ggs_nil))) (gss_one (gs_if (gt_cmp (op_inD hr.units) (gv 6) (gv 5)) (gss_cons (gs_setLc [("sign", 17)] sc_numbers_to.nd (gi_str (gv 3)) (blkOk_by rfl) (fun _ _ _ _ _ => (gw_name sc_numbers_to.nd)) (fun _ _ _ _ _ => gts_nil) (fun _ _ _ _ _ => (ge_tup (ga_cons (ge_op gadd (ge_ix ixT (gv 6) ge_int) (ge_ix ixT (ge_getS hr.units (gv 4) (gv 17)) ge_int)) (ga_cons (ge_op gadd (ge_ix ixT (gv 6) ge_int) (ge_ix ixT (ge_getS hr.units (gv 4) (gv 17)) ge_int)) ga_nil))))) (gss_one (gs_asg (ge_if (gt_cmp (op_eqG hr.units) (gv 15) ge_int) ge_int (ge_cb (cSum rfl) m_sum (by decide +kernel) (ga_cons (ge_lc [("one", 18)] sc_numbers_to.nd (gi_list (gv 16)) (blkOk_by rfl) (fun _ _ _ _ _ => (gw_name sc_numbers_to.nd)) (fun _ _ _ _ _ => gts_nil) (fun _ _ _ _ _ => (ge_dm PySem.F.slot_dict_get PySem.F.type_dict_get (mgetOrD hr.units) (gv 14) (ga_cons (gv 18) (ga_cons ge_int ga_nil))))) ga_nil))) (gg_sub (gv 14) (gv 6) (setD hr.units))))) gss_nil))) (gss_one (gs_ret (gv 14)))))))))
abbrev s5 : Stmt := top 5
abbrev N_ways_many : List Str := ["room", "start", "end"]
theorem sc_ways_many : FnScope N_ways_many ["room", "start", "end"] (defScope s5) := ⟨rfl, rfl, rfl, by decide +kernel, rfl, by decide +kernel, by decide +kernel⟩
theorem g_ways_many {P : Program} {w : World} {K : PySem.W.Frag} {mg : Str → Option Value} {base : Heap} {f : Addr} {k : Nat} {sp_numbers_to : GSp} (F_numbers_to : FU P w K mg base k "numbers_to" 3 sp_numbers_to) (cdv : Value) (A : Around) (outer : List Env) (s : Shared) (H : Hp) (E : XK) (hr : Room k (A.deeper (envOfC "ways_many" (defScope s5) s.heap.objs.size f cdv))) :
    GSs (cxOf CX0 P w K mg base N_ways_many "ways_many" (defScope s5) f cdv A outer s H E).nox (defBody s5) (t_ways_many sp_numbers_to) :=
  (gss_one (gs_ret (ge_dm PySem.F.slot_dict_get PySem.F.type_dict_get (mgetOrD hr.units) (ge_callU F_numbers_to hr (ga_cons (gv 0) (ga_cons (gv 1) (ga_cons (gv 2) ga_nil)))) (ga_cons (gv 1) (ga_cons ge_int ga_nil)))))
abbrev s6 : Stmt := top 6
abbrev N_way_at : List Str := ["room", "start", "end", "n", "many", "signs", "to", "here", "steps", "sign", "late"]
theorem sc_way_at : FnScope N_way_at ["room", "start", "end", "n"] (defScope s6) := ⟨rfl, rfl, rfl, by decide +kernel, rfl, by decide +kernel, by decide +kernel⟩
theorem g_way_at {P : Program} {w : World} {K : PySem.W.Frag} {mg : Str → Option Value} {base : Heap} {f : Addr} {k : Nat} {sp_numbers_to : GSp} (F_numbers_to : FU P w K mg base k "numbers_to" 3 sp_numbers_to) {sp_signs_between : GSp} (F_signs_between : FU P w K mg base k "signs_between" 2 sp_signs_between) {sp_moves : GSp} (F_moves : FU P w K mg base k "moves" 0 sp_moves) (cdv : Value) (A : Around) (outer : List Env) (s : Shared) (H : Hp) (E : XK) (hr : Room k (A.deeper (envOfC "way_at" (defScope s6) s.heap.objs.size f cdv))) :
    GSs (cxOf CX0 P w K mg base N_way_at "way_at" (defScope s6) f cdv A outer s H E).nox (defBody s6) (t_way_at sp_numbers_to sp_signs_between sp_moves) :=
  (gss_cons (gs_par3 sc_way_at.nd (ga_cons (ge_callU F_numbers_to hr (ga_cons (gv 0) (ga_cons (gv 1) (ga_cons (gv 2) ga_nil)))) (ga_cons (ge_callU F_signs_between hr (ga_cons (gv 1) (ga_cons (gv 2) ga_nil))) (ga_cons (ge_callU0 F_moves hr) ga_nil)))) (gss_cons (gs_par sc_way_at.nd (ga_cons (gv 1) (ga_cons ge_str ga_nil))) (gss_cons (gs_while (gt_cmp (op_neG hr.units) (gv 7) (gv 2)) (gss_one (gs_for (gi_str (gv 5)) (gg_name sc_way_at.nd) (gss_cons (gs_set sc_way_at.nd (ge_tup (ga_cons (ge_op gadd (ge_ix ixT (gv 7) ge_int) (ge_ix ixT (ge_getS hr.units (gv 6) (gv 9)) ge_int)) (ga_cons (ge_op gadd (ge_ix ixT (gv 7) ge_int) (ge_ix ixT (ge_getS hr.units (gv 6) (gv 9)) ge_int)) ga_nil)))) (gss_cons (gs_if (gt_cmp glt (gv 3) (ge_dm PySem.F.slot_dict_get PySem.F.type_dict_get (mgetOrD hr.units) (gv 4) (ga_cons (gv 10) (ga_cons ge_int ga_nil)))) (gss_cons (gs_par sc_way_at.nd (ga_cons (gv 10) (ga_cons (ge_op gcatS (gv 8) (gv 9)) ga_nil))) (gss_one gs_break)) gss_nil) (gss_one (gs_aug sc_way_at.nd (ge_dm PySem.F.slot_dict_get PySem.F.type_dict_get (mgetOrD hr.units) (gv 4) (ga_cons (gv 10) (ga_cons ge_int ga_nil))) gip_sub))))))) (gss_one (gs_ret (gv 8))))))
abbrev s7 : Stmt := top 7
abbrev N_first_way : List Str := ["room", "start", "end"]
theorem sc_first_way : FnScope N_first_way ["room", "start", "end"] (defScope s7) := ⟨rfl, rfl, rfl, by decide +kernel, rfl, by decide +kernel, by decide +kernel⟩
theorem g_first_way {P : Program} {w : World} {K : PySem.W.Frag} {mg : Str → Option Value} {base : Heap} {f : Addr} {k : Nat} {sp_serves : GSp} (F_serves : FU P w K mg base k "serves" 3 sp_serves) {sp_way_at : GSp} (F_way_at : FU P w K mg base k "way_at" 4 sp_way_at) (cdv : Value) (A : Around) (outer : List Env) (s : Shared) (H : Hp) (E : XK) (hr : Room k (A.deeper (envOfC "first_way" (defScope s7) s.heap.objs.size f cdv))) :
    GSs (cxOf CX0 P w K mg base N_first_way "first_way" (defScope s7) f cdv A outer s H E).nox (defBody s7) (t_first_way sp_serves sp_way_at) :=
  (gss_one (gs_ret (ge_if (gt_val (ge_callU F_serves hr (ga_cons (gv 0) (ga_cons (gv 1) (ga_cons (gv 2) ga_nil))))) (ge_callU F_way_at hr (ga_cons (gv 0) (ga_cons (gv 1) (ga_cons (gv 2) (ga_cons ge_int ga_nil))))) ge_non)))
abbrev s8 : Stmt := top 8
abbrev N_serves : List Str := ["room", "stall", "spot"]
theorem sc_serves : FnScope N_serves ["room", "stall", "spot"] (defScope s8) := ⟨rfl, rfl, rfl, by decide +kernel, rfl, by decide +kernel, by decide +kernel⟩
theorem g_serves {P : Program} {w : World} {K : PySem.W.Frag} {mg : Str → Option Value} {base : Heap} {f : Addr} {k : Nat} {sp_ways_many : GSp} (F_ways_many : FU P w K mg base k "ways_many" 3 sp_ways_many) (cdv : Value) (A : Around) (outer : List Env) (s : Shared) (H : Hp) (E : XK) (hr : Room k (A.deeper (envOfC "serves" (defScope s8) s.heap.objs.size f cdv))) :
    GSs (cxOf CX0 P w K mg base N_serves "serves" (defScope s8) f cdv A outer s H E).nox (defBody s8) (t_serves sp_ways_many) :=
  (gss_one (gs_ret (ge_cmp ggt (ge_callU F_ways_many hr (ga_cons (gv 0) (ga_cons (gv 1) (ga_cons (gv 2) ga_nil)))) ge_int)))
abbrev s10 : Stmt := top 10
abbrev N_corner_field : List Str := ["inner", "stall", "signs", "found", "rest", "x", "y", "p", "q", "sign", "cell"]
theorem sc_corner_field : FnScope N_corner_field ["inner", "stall", "signs"] (defScope s10) := ⟨rfl, rfl, rfl, by decide +kernel, rfl, by decide +kernel, by decide +kernel⟩
theorem g_corner_field {P : Program} {w : World} {K : PySem.W.Frag} {mg : Str → Option Value} {base : Heap} {f : Addr} {k : Nat} {sp_moves : GSp} (F_moves : FU P w K mg base k "moves" 0 sp_moves) (m_tuple : mg "tuple" = none) (m_sorted : mg "sorted" = none) (cdv : Value) (A : Around) (outer : List Env) (s : Shared) (H : Hp) (E : XK) (hr : Room k (A.deeper (envOfC "corner_field" (defScope s10) s.heap.objs.size f cdv))) :
    GSs (cxOf CX0 P w K mg base N_corner_field "corner_field" (defScope s10) f cdv A outer s H E).nox (defBody s10) (t_corner_field sp_moves) :=
  (gss_cons (gs_par sc_corner_field.nd (ga_cons (ge_disp1 hr.units (gv 1) ge_bl) (ga_cons (ge_lst (ga_cons (gv 1) ga_nil)) ga_nil))) (gss_cons (gs_while (gt_truth (gv 4)) (gss_cons (gs_asg (ge_bm0 PySem.F.slot_list_pop PySem.F.type_list_pop mpop (gv 4)) (gg_tup (ggs_cons (gg_name sc_corner_field.nd) (ggs_cons (gg_name sc_corner_field.nd) ggs_nil)))) (gss_one (gs_for (gi_list (ge_lc [("sign", 9)] sc_corner_field.nd (gi_str (gv 2)) (blkOk_by rfl) (fun _ _ _ _ _ => (gw_name sc_corner_field.nd)) (fun _ _ _ _ _ => gts_nil) (fun _ _ _ _ _ => (ge_getS hr.units (ge_callU0 F_moves hr) (gv 9))))) (gg_tup (ggs_cons (gg_name sc_corner_field.nd) (ggs_cons (gg_name sc_corner_field.nd) ggs_nil))) (gss_cons (gs_set sc_corner_field.nd (ge_tup (ga_cons (ge_op gadd (gv 5) (gv 7)) (ga_cons (ge_op gadd (gv 6) (gv 8)) ga_nil)))) (gss_one (gs_if (GW.gt (gw_and (gt_cmp (op_inD hr.units) (gv 10) (gv 0)) (gw_and1 (gt_cmp (op_notinD hr.units) (gv 10) (gv 3))))) (gss_cons (gs_asg ge_bl (gg_sub (gv 3) (gv 10) (setD hr.units))) (gss_one (gs_expr (ge_bm PySem.F.slot_list_append PySem.F.type_list_append mapp (gv 4) (ga_cons (gv 10) ga_nil))))) gss_nil))))))) (gss_one (gs_ret (ge_ct cTuple m_tuple (by decide +kernel) (ga_cons (ge_cb (cSort rfl hr.units) m_sorted (by decide +kernel) (ga_cons (gv 3) ga_nil)) ga_nil))))))
abbrev s11 : Stmt := top 11
abbrev N_corner_fields : List Str := ["room", "stall", "inner", "cell", "signs"]
theorem sc_corner_fields : FnScope N_corner_fields ["room", "stall"] (defScope s11) := ⟨rfl, rfl, rfl, by decide +kernel, rfl, by decide +kernel, by decide +kernel⟩
theorem g_corner_fields {P : Program} {w : World} {K : PySem.W.Frag} {mg : Str → Option Value} {base : Heap} {f : Addr} {k : Nat} {sp_corner_field : GSp} (F_corner_field : FU P w K mg base k "corner_field" 3 sp_corner_field) (m_tuple : mg "tuple" = none) (cdv : Value) (A : Around) (outer : List Env) (s : Shared) (H : Hp) (E : XK) (hr : Room k (A.deeper (envOfC "corner_fields" (defScope s11) s.heap.objs.size f cdv))) :
    GSs (cxOf CX0 P w K mg base N_corner_fields "corner_fields" (defScope s11) f cdv A outer s H E).nox (defBody s11) (t_corner_fields sp_corner_field) :=
  (gss_cons (gs_set sc_corner_fields.nd (ge_dc [("cell", 3)] hr.units sc_corner_fields.nd (gi_tup (gv 0)) (blkOk_by rfl) (fun _ _ _ _ _ => (gw_name sc_corner_fields.nd)) (fun _ _ _ _ _ => gts_nil) (fun _ _ _ _ _ => (gv 3)) (fun _ _ _ _ _ => ge_bl))) (gss_one (gs_ret (ge_ct cTuple m_tuple (by decide +kernel) (ga_cons (ge_lc [("signs", 4)] sc_corner_fields.nd (gi_tup (ge_tup (ga_cons ge_str (ga_cons ge_str (ga_cons ge_str (ga_cons ge_str ga_nil)))))) (blkOk_by rfl) (fun _ _ _ _ _ => (gw_name sc_corner_fields.nd)) (fun _ _ _ _ _ => gts_nil) (fun _ _ _ _ _ => (ge_callU F_corner_field hr (ga_cons (gv 2) (ga_cons (gv 1) (ga_cons (gv 4) ga_nil)))))) ga_nil)))))
abbrev s12 : Stmt := top 12
abbrev N_field : List Str := ["room", "stall", "part", "cell"]
theorem sc_field : FnScope N_field ["room", "stall"] (defScope s12) := ⟨rfl, rfl, rfl, by decide +kernel, rfl, by decide +kernel, by decide +kernel⟩
theorem g_field {P : Program} {w : World} {K : PySem.W.Frag} {mg : Str → Option Value} {base : Heap} {f : Addr} {k : Nat} {sp_corner_fields : GSp} (F_corner_fields : FU P w K mg base k "corner_fields" 2 sp_corner_fields) (m_tuple : mg "tuple" = none) (m_sorted : mg "sorted" = none) (cdv : Value) (A : Around) (outer : List Env) (s : Shared) (H : Hp) (E : XK) (hr : Room k (A.deeper (envOfC "field" (defScope s12) s.heap.objs.size f cdv))) :
    GSs (cxOf CX0 P w K mg base N_field "field" (defScope s12) f cdv A outer s H E).nox (defBody s12) (t_field sp_corner_fields) :=
  (gss_one (gs_ret (ge_ct cTuple m_tuple (by decide +kernel) (ga_cons (ge_cb (cSort rfl hr.units) m_sorted (by decide +kernel) (ga_cons (ge_dc2 [("part", 2), ("cell", 3)] [3] hr.units sc_field.nd (gi_tup (ge_callU F_corner_fields hr (ga_cons (gv 0) (ga_cons (gv 1) ga_nil)))) (blkOk_by rfl) (fun _ _ _ _ _ => (gw_name sc_field.nd)) (fun _ _ _ _ _ => gts_nil) (fun _ _ _ _ _ => (gi_tup (gv 2))) (fun _ _ _ _ _ => (gw_name sc_field.nd)) (fun _ _ _ _ _ => gts_nil) (fun _ _ _ _ _ => (gv 3)) (fun _ _ _ _ _ => ge_bl)) ga_nil)) ga_nil))))
abbrev s13 : Stmt := top 13
abbrev N_common_stalls : List Str := ["room", "lot", "found", "spot", "here", "cell"]
theorem sc_common_stalls : FnScope N_common_stalls ["room", "lot"] (defScope s13) := ⟨rfl, rfl, rfl, by decide +kernel, rfl, by decide +kernel, by decide +kernel⟩
theorem g_common_stalls {P : Program} {w : World} {K : PySem.W.Frag} {mg : Str → Option Value} {base : Heap} {f : Addr} {k : Nat} {sp_field : GSp} (F_field : FU P w K mg base k "field" 2 sp_field) (m_list : mg "list" = none) (m_tuple : mg "tuple" = none) (cdv : Value) (A : Around) (outer : List Env) (s : Shared) (H : Hp) (E : XK) (hr : Room k (A.deeper (envOfC "common_stalls" (defScope s13) s.heap.objs.size f cdv))) :
    GSs (cxOf CX0 P w K mg base N_common_stalls "common_stalls" (defScope s13) f cdv A outer s H E).nox (defBody s13) (t_common_stalls sp_field) :=
  (gss_cons (gs_set sc_common_stalls.nd (ge_ct cList m_list (by decide +kernel) (ga_cons (gv 0) ga_nil))) (gss_cons (gs_for (gi_tup (gv 1)) (gg_name sc_common_stalls.nd) (gss_cons (gs_set sc_common_stalls.nd (ge_dc [("cell", 5)] hr.units sc_common_stalls.nd (gi_tup (ge_callU F_field hr (ga_cons (gv 0) (ga_cons (gv 3) ga_nil)))) (blkOk_by rfl) (fun _ _ _ _ _ => (gw_name sc_common_stalls.nd)) (fun _ _ _ _ _ => gts_nil) (fun _ _ _ _ _ => (gv 5)) (fun _ _ _ _ _ => ge_bl))) (gss_one (gs_setLc [("cell", 5)] sc_common_stalls.nd (gi_list (gv 2)) (blkOk_by rfl) (fun _ _ _ _ _ => (gw_name sc_common_stalls.nd)) (fun _ _ _ _ _ => (gts_one (gt_cmp (op_inD hr.units) (gv 5) (gv 4)))) (fun _ _ _ _ _ => (gv 5)))))) (gss_one (gs_ret (ge_ct cTuple m_tuple (by decide +kernel) (ga_cons (gv 2) ga_nil))))))
abbrev s14 : Stmt := top 14
abbrev N_are_tied : List Str := ["room", "one", "other"]
theorem sc_are_tied : FnScope N_are_tied ["room", "one", "other"] (defScope s14) := ⟨rfl, rfl, rfl, by decide +kernel, rfl, by decide +kernel, by decide +kernel⟩
theorem g_are_tied {P : Program} {w : World} {K : PySem.W.Frag} {mg : Str → Option Value} {base : Heap} {f : Addr} {k : Nat} {sp_common_stalls : GSp} (F_common_stalls : FU P w K mg base k "common_stalls" 2 sp_common_stalls) (cdv : Value) (A : Around) (outer : List Env) (s : Shared) (H : Hp) (E : XK) (hr : Room k (A.deeper (envOfC "are_tied" (defScope s14) s.heap.objs.size f cdv))) :
    GSs (cxOf CX0 P w K mg base N_are_tied "are_tied" (defScope s14) f cdv A outer s H E).nox (defBody s14) (t_are_tied sp_common_stalls) :=
  (gss_one (gs_ret (ge_cmp (op_neG hr.units) (ge_callU F_common_stalls hr (ga_cons (gv 0) (ga_cons (ge_tup (ga_cons (gv 1) (ga_cons (gv 2) ga_nil))) ga_nil))) (ge_tup ga_nil))))
abbrev s15 : Stmt := top 15
abbrev N_is_within : List Str := ["one", "other", "here", "cell"]
theorem sc_is_within : FnScope N_is_within ["one", "other"] (defScope s15) := ⟨rfl, rfl, rfl, by decide +kernel, rfl, by decide +kernel, by decide +kernel⟩
theorem g_is_within {P : Program} {w : World} {K : PySem.W.Frag} {mg : Str → Option Value} {base : Heap} {f : Addr} {k : Nat} (m_len : mg "len" = none) (m_all : mg "all" = none) (cdv : Value) (A : Around) (outer : List Env) (s : Shared) (H : Hp) (E : XK) (hr : Room k (A.deeper (envOfC "is_within" (defScope s15) s.heap.objs.size f cdv))) :
    GSs (cxOf CX0 P w K mg base N_is_within "is_within" (defScope s15) f cdv A outer s H E).nox (defBody s15) (t_is_within) :=
  (gss_cons (gs_set sc_is_within.nd (ge_dc [("cell", 3)] hr.units sc_is_within.nd (gi_tup (gv 1)) (blkOk_by rfl) (fun _ _ _ _ _ => (gw_name sc_is_within.nd)) (fun _ _ _ _ _ => gts_nil) (fun _ _ _ _ _ => (gv 3)) (fun _ _ _ _ _ => ge_bl))) (gss_one (gs_ret (ge_and (ge_cmp glt (ge_cb cLen m_len (by decide +kernel) (ga_cons (gv 0) ga_nil)) (ge_cb cLen m_len (by decide +kernel) (ga_cons (gv 1) ga_nil))) (ge_one (ge_cb (cAll rfl) m_all (by decide +kernel) (ga_cons (ge_lc [("cell", 3)] sc_is_within.nd (gi_tup (gv 0)) (blkOk_by rfl) (fun _ _ _ _ _ => (gw_name sc_is_within.nd)) (fun _ _ _ _ _ => gts_nil) (fun _ _ _ _ _ => (ge_cmp (op_inD hr.units) (gv 3) (gv 2)))) ga_nil)))))))
abbrev s16 : Stmt := top 16
abbrev N_hard_of : List Str := ["pairs", "found", "cell", "lot", "late", "other"]
theorem sc_hard_of : FnScope N_hard_of ["pairs"] (defScope s16) := ⟨rfl, rfl, rfl, by decide +kernel, rfl, by decide +kernel, by decide +kernel⟩
theorem g_hard_of {P : Program} {w : World} {K : PySem.W.Frag} {mg : Str → Option Value} {base : Heap} {f : Addr} {k : Nat} {sp_is_within : GSp} (F_is_within : FU P w K mg base k "is_within" 2 sp_is_within) (m_any : mg "any" = none) (m_tuple : mg "tuple" = none) (m_sorted : mg "sorted" = none) (cdv : Value) (A : Around) (outer : List Env) (s : Shared) (H : Hp) (E : XK) (hr : Room k (A.deeper (envOfC "hard_of" (defScope s16) s.heap.objs.size f cdv))) :
    GSs (cxOf CX0 P w K mg base N_hard_of "hard_of" (defScope s16) f cdv A outer s H E).nox (defBody s16) (t_hard_of sp_is_within) :=
  (gss_cons (gs_set sc_hard_of.nd ge_newD) (gss_cons (gs_for (gi_list (gv 0)) (gg_tup (ggs_cons (gg_name sc_hard_of.nd) (ggs_cons (gg_name sc_hard_of.nd) ggs_nil))) (gss_one (gs_if (gt_not (gt_val (ge_cb (cAny rfl) m_any (by decide +kernel) (ga_cons (ge_lc [("late", 4), ("other", 5)] sc_hard_of.nd (gi_list (gv 0)) (blkOk_by rfl) (fun _ _ _ _ _ => (gw_tup (gws_cons (gw_name sc_hard_of.nd) (gws_cons (gw_name sc_hard_of.nd) gws_nil)))) (fun _ _ _ _ _ => gts_nil) (fun _ _ _ _ _ => (ge_callU F_is_within hr (ga_cons (gv 5) (ga_cons (gv 3) ga_nil))))) ga_nil)))) (gss_one (gs_expr (ge_dm PySem.F.slot_dict_setdefault PySem.F.type_dict_setdefault (msetDf hr.units) (gv 1) (ga_cons (gv 3) (ga_cons (gv 2) ga_nil))))) gss_nil))) (gss_one (gs_ret (ge_ct cTuple m_tuple (by decide +kernel) (ga_cons (ge_sortV rfl hr.units (gv 1) m_sorted) ga_nil))))))
abbrev s17 : Stmt := top 17
abbrev N_hard_in : List Str := ["room", "lot", "cell"]
theorem sc_hard_in : FnScope N_hard_in ["room", "lot"] (defScope s17) := ⟨rfl, rfl, rfl, by decide +kernel, rfl, by decide +kernel, by decide +kernel⟩
theorem g_hard_in {P : Program} {w : World} {K : PySem.W.Frag} {mg : Str → Option Value} {base : Heap} {f : Addr} {k : Nat} {sp_hard_of : GSp} (F_hard_of : FU P w K mg base k "hard_of" 1 sp_hard_of) {sp_field : GSp} (F_field : FU P w K mg base k "field" 2 sp_field) (cdv : Value) (A : Around) (outer : List Env) (s : Shared) (H : Hp) (E : XK) (hr : Room k (A.deeper (envOfC "hard_in" (defScope s17) s.heap.objs.size f cdv))) :
    GSs (cxOf CX0 P w K mg base N_hard_in "hard_in" (defScope s17) f cdv A outer s H E).nox (defBody s17) (t_hard_in sp_hard_of sp_field) :=
  (gss_one (gs_ret (ge_callU F_hard_of hr (ga_cons (ge_lc [("cell", 2)] sc_hard_in.nd (gi_tup (gv 1)) (blkOk_by rfl) (fun _ _ _ _ _ => (gw_name sc_hard_in.nd)) (fun _ _ _ _ _ => gts_nil) (fun _ _ _ _ _ => (ge_tup (ga_cons (gv 2) (ga_cons (ge_callU F_field hr (ga_cons (gv 0) (ga_cons (gv 2) ga_nil))) ga_nil))))) ga_nil))))
abbrev s18 : Stmt := top 18
abbrev N_lit : List Str := ["room", "stalls", "stall", "cell"]
theorem sc_lit : FnScope N_lit ["room", "stalls"] (defScope s18) := ⟨rfl, rfl, rfl, by decide +kernel, rfl, by decide +kernel, by decide +kernel⟩
theorem g_lit {P : Program} {w : World} {K : PySem.W.Frag} {mg : Str → Option Value} {base : Heap} {f : Addr} {k : Nat} {sp_field : GSp} (F_field : FU P w K mg base k "field" 2 sp_field) (m_tuple : mg "tuple" = none) (m_sorted : mg "sorted" = none) (cdv : Value) (A : Around) (outer : List Env) (s : Shared) (H : Hp) (E : XK) (hr : Room k (A.deeper (envOfC "lit" (defScope s18) s.heap.objs.size f cdv))) :
    GSs (cxOf CX0 P w K mg base N_lit "lit" (defScope s18) f cdv A outer s H E).nox (defBody s18) (t_lit sp_field) :=
  (gss_one (gs_ret (ge_ct cTuple m_tuple (by decide +kernel) (ga_cons (ge_cb (cSort rfl hr.units) m_sorted (by decide +kernel) (ga_cons (ge_dc2 [("stall", 2), ("cell", 3)] [3] hr.units sc_lit.nd (gi_tup (gv 1)) (blkOk_by rfl) (fun _ _ _ _ _ => (gw_name sc_lit.nd)) (fun _ _ _ _ _ => gts_nil) (fun _ _ _ _ _ => (gi_tup (ge_callU F_field hr (ga_cons (gv 0) (ga_cons (gv 2) ga_nil))))) (fun _ _ _ _ _ => (gw_name sc_lit.nd)) (fun _ _ _ _ _ => gts_nil) (fun _ _ _ _ _ => (gv 3)) (fun _ _ _ _ _ => ge_bl)) ga_nil)) ga_nil))))
abbrev s19 : Stmt := top 19
abbrev N_dark_in : List Str := ["room", "lot", "stalls", "here", "cell"]
theorem sc_dark_in : FnScope N_dark_in ["room", "lot", "stalls"] (defScope s19) := ⟨rfl, rfl, rfl, by decide +kernel, rfl, by decide +kernel, by decide +kernel⟩
theorem g_dark_in {P : Program} {w : World} {K : PySem.W.Frag} {mg : Str → Option Value} {base : Heap} {f : Addr} {k : Nat} {sp_lit : GSp} (F_lit : FU P w K mg base k "lit" 2 sp_lit) (m_tuple : mg "tuple" = none) (cdv : Value) (A : Around) (outer : List Env) (s : Shared) (H : Hp) (E : XK) (hr : Room k (A.deeper (envOfC "dark_in" (defScope s19) s.heap.objs.size f cdv))) :
    GSs (cxOf CX0 P w K mg base N_dark_in "dark_in" (defScope s19) f cdv A outer s H E).nox (defBody s19) (t_dark_in sp_lit) :=
  (gss_cons (gs_set sc_dark_in.nd (ge_dc [("cell", 4)] hr.units sc_dark_in.nd (gi_tup (ge_callU F_lit hr (ga_cons (gv 0) (ga_cons (gv 2) ga_nil)))) (blkOk_by rfl) (fun _ _ _ _ _ => (gw_name sc_dark_in.nd)) (fun _ _ _ _ _ => gts_nil) (fun _ _ _ _ _ => (gv 4)) (fun _ _ _ _ _ => ge_bl))) (gss_one (gs_ret (ge_ct cTuple m_tuple (by decide +kernel) (ga_cons (ge_lc [("cell", 4)] sc_dark_in.nd (gi_tup (gv 1)) (blkOk_by rfl) (fun _ _ _ _ _ => (gw_name sc_dark_in.nd)) (fun _ _ _ _ _ => (gts_one (gt_cmp (op_notinD hr.units) (gv 4) (gv 3)))) (fun _ _ _ _ _ => (gv 4))) ga_nil)))))
abbrev s21 : Stmt := top 21
abbrev N_is_integer : List Str := ["value"]
theorem sc_is_integer : FnScope N_is_integer ["value"] (defScope s21) := ⟨rfl, rfl, rfl, by decide +kernel, rfl, by decide +kernel, by decide +kernel⟩
theorem g_is_integer {P : Program} {w : World} {K : PySem.W.Frag} {mg : Str → Option Value} {base : Heap} {f : Addr} {k : Nat} (m_isinstance : mg "isinstance" = none) (m_int : mg "int" = none) (m_bool : mg "bool" = none) (cdv : Value) (A : Around) (outer : List Env) (s : Shared) (H : Hp) (E : XK) (hr : Room k (A.deeper (envOfC "is_integer" (defScope s21) s.heap.objs.size f cdv))) :
    GSs (cxOf CX0 P w K mg base N_is_integer "is_integer" (defScope s21) f cdv A outer s H E).nox (defBody s21) (t_is_integer) :=
  (gss_one (gs_ret (ge_and (ge_isi (T := "int") (gv 0) m_isinstance m_int (by decide +kernel)) (ge_one (ge_not (ge_isi (T := "bool") (gv 0) m_isinstance m_bool (by decide +kernel)))))))
abbrev s22 : Stmt := top 22
abbrev N_is_cell : List Str := ["value"]
theorem sc_is_cell : FnScope N_is_cell ["value"] (defScope s22) := ⟨rfl, rfl, rfl, by decide +kernel, rfl, by decide +kernel, by decide +kernel⟩
theorem g_is_cell {P : Program} {w : World} {K : PySem.W.Frag} {mg : Str → Option Value} {base : Heap} {f : Addr} {k : Nat} {sp_is_integer : GSp} (F_is_integer : FU P w K mg base k "is_integer" 1 sp_is_integer) (m_isinstance : mg "isinstance" = none) (m_tuple : mg "tuple" = none) (m_len : mg "len" = none) (cdv : Value) (A : Around) (outer : List Env) (s : Shared) (H : Hp) (E : XK) (hr : Room k (A.deeper (envOfC "is_cell" (defScope s22) s.heap.objs.size f cdv))) :
    GSs (cxOf CX0 P w K mg base N_is_cell "is_cell" (defScope s22) f cdv A outer s H E).nox (defBody s22) (t_is_cell sp_is_integer) :=
  (gss_one (gs_ret (ge_and (ge_isi (T := "tuple") (gv 0) m_isinstance m_tuple (by decide +kernel)) (ge_and (ge_cmp (op_eqG hr.units) (ge_cb cLen m_len (by decide +kernel) (ga_cons (gv 0) ga_nil)) ge_int) (ge_and (ge_callU F_is_integer hr (ga_cons (ge_ix ixT (gv 0) ge_int) ga_nil)) (ge_one (ge_callU F_is_integer hr (ga_cons (ge_ix ixT (gv 0) ge_int) ga_nil))))))))
abbrev s23 : Stmt := top 23
abbrev N_is_lot : List Str := ["value", "cell", "one", "other"]
theorem sc_is_lot : FnScope N_is_lot ["value"] (defScope s23) := ⟨rfl, rfl, rfl, by decide +kernel, rfl, by decide +kernel, by decide +kernel⟩
theorem g_is_lot {P : Program} {w : World} {K : PySem.W.Frag} {mg : Str → Option Value} {base : Heap} {f : Addr} {k : Nat} {sp_is_cell : GSp} (F_is_cell : FU P w K mg base k "is_cell" 1 sp_is_cell) (m_isinstance : mg "isinstance" = none) (m_tuple : mg "tuple" = none) (m_all : mg "all" = none) (m_zip : mg "zip" = none) (cdv : Value) (A : Around) (outer : List Env) (s : Shared) (H : Hp) (E : XK) (hr : Room k (A.deeper (envOfC "is_lot" (defScope s23) s.heap.objs.size f cdv))) :
    GSs (cxOf CX0 P w K mg base N_is_lot "is_lot" (defScope s23) f cdv A outer s H E).nox (defBody s23) (t_is_lot sp_is_cell) :=
  (gss_cons (gs_if (GW.gt (gw_or (gt_not (gt_val (ge_isi (T := "tuple") (gv 0) m_isinstance m_tuple (by decide +kernel)))) (gw_or1 (gt_not (gt_val (ge_cb (cAll rfl) m_all (by decide +kernel) (ga_cons (ge_lc [("cell", 1)] sc_is_lot.nd (gi_tup (gv 0)) (blkOk_by rfl) (fun _ _ _ _ _ => (gw_name sc_is_lot.nd)) (fun _ _ _ _ _ => gts_nil) (fun _ _ _ _ _ => (ge_callU F_is_cell hr (ga_cons (gv 1) ga_nil)))) ga_nil))))))) (gss_one (gs_ret ge_bl)) gss_nil) (gss_one (gs_ret (ge_cb (cAll rfl) m_all (by decide +kernel) (ga_cons (ge_lc [("one", 2), ("other", 3)] sc_is_lot.nd (gi_zip rfl m_zip (ga_cons (gv 0) (ga_cons (ge_sliceT (gv 0) (go_some ge_int) go_none) ga_nil))) (blkOk_by rfl) (fun _ _ _ _ _ => (gw_tup (gws_cons (gw_name sc_is_lot.nd) (gws_cons (gw_name sc_is_lot.nd) gws_nil)))) (fun _ _ _ _ _ => gts_nil) (fun _ _ _ _ _ => (ge_cmp (gltC hr.units) (gv 2) (gv 3)))) ga_nil)))))
abbrev s24 : Stmt := top 24
abbrev N_taken_out : List Str := ["one", "other", "inner", "cell"]
theorem sc_taken_out : FnScope N_taken_out ["one", "other"] (defScope s24) := ⟨rfl, rfl, rfl, by decide +kernel, rfl, by decide +kernel, by decide +kernel⟩
theorem g_taken_out {P : Program} {w : World} {K : PySem.W.Frag} {mg : Str → Option Value} {base : Heap} {f : Addr} {k : Nat} (m_tuple : mg "tuple" = none) (cdv : Value) (A : Around) (outer : List Env) (s : Shared) (H : Hp) (E : XK) (hr : Room k (A.deeper (envOfC "taken_out" (defScope s24) s.heap.objs.size f cdv))) :
    GSs (cxOf CX0 P w K mg base N_taken_out "taken_out" (defScope s24) f cdv A outer s H E).nox (defBody s24) (t_taken_out) :=
  (gss_cons (gs_set sc_taken_out.nd (ge_dc [("cell", 3)] hr.units sc_taken_out.nd (gi_tup (gv 1)) (blkOk_by rfl) (fun _ _ _ _ _ => (gw_name sc_taken_out.nd)) (fun _ _ _ _ _ => gts_nil) (fun _ _ _ _ _ => (gv 3)) (fun _ _ _ _ _ => ge_bl))) (gss_one (gs_ret (ge_ct cTuple m_tuple (by decide +kernel) (ga_cons (ge_lc [("cell", 3)] sc_taken_out.nd (gi_tup (gv 0)) (blkOk_by rfl) (fun _ _ _ _ _ => (gw_name sc_taken_out.nd)) (fun _ _ _ _ _ => (gts_one (gt_cmp (op_notinD hr.units) (gv 3) (gv 2)))) (fun _ _ _ _ _ => (gv 3))) ga_nil)))))
abbrev s25 : Stmt := top 25
abbrev N_lies_in : List Str := ["one", "other"]
theorem sc_lies_in : FnScope N_lies_in ["one", "other"] (defScope s25) := ⟨rfl, rfl, rfl, by decide +kernel, rfl, by decide +kernel, by decide +kernel⟩
theorem g_lies_in {P : Program} {w : World} {K : PySem.W.Frag} {mg : Str → Option Value} {base : Heap} {f : Addr} {k : Nat} {sp_taken_out : GSp} (F_taken_out : FU P w K mg base k "taken_out" 2 sp_taken_out) (cdv : Value) (A : Around) (outer : List Env) (s : Shared) (H : Hp) (E : XK) (hr : Room k (A.deeper (envOfC "lies_in" (defScope s25) s.heap.objs.size f cdv))) :
    GSs (cxOf CX0 P w K mg base N_lies_in "lies_in" (defScope s25) f cdv A outer s H E).nox (defBody s25) (t_lies_in sp_taken_out) :=
  (gss_one (gs_ret (ge_cmp (op_eqG hr.units) (ge_callU F_taken_out hr (ga_cons (gv 0) (ga_cons (gv 1) ga_nil))) (ge_tup ga_nil))))
abbrev s27 : Stmt := top 27
abbrev N_pairs_of : List Str := ["members", "i", "a", "b"]
theorem sc_pairs_of : FnScope N_pairs_of ["members"] (defScope s27) := ⟨rfl, rfl, rfl, by decide +kernel, rfl, by decide +kernel, by decide +kernel⟩
theorem g_pairs_of {P : Program} {w : World} {K : PySem.W.Frag} {mg : Str → Option Value} {base : Heap} {f : Addr} {k : Nat} (m_enumerate : mg "enumerate" = none) (cdv : Value) (A : Around) (outer : List Env) (s : Shared) (H : Hp) (E : XK) (hr : Room k (A.deeper (envOfC "pairs_of" (defScope s27) s.heap.objs.size f cdv))) :
    GSs (cxOf CX0 P w K mg base N_pairs_of "pairs_of" (defScope s27) f cdv A outer s H E).nox (defBody s27) (t_pairs_of) :=
  (gss_one (gs_ret (ge_lc2 [("i", 1), ("a", 2), ("b", 3)] [3] sc_pairs_of.nd (gi_enumT rfl m_enumerate (ga_cons (gv 0) ga_nil)) (blkOk_by rfl) (fun _ _ _ _ _ => (gw_tup (gws_cons (gw_name sc_pairs_of.nd) (gws_cons (gw_name sc_pairs_of.nd) gws_nil)))) (fun _ _ _ _ _ => gts_nil) (fun _ _ _ _ _ => (gi_tup (ge_sliceT (gv 0) (go_some (ge_op gadd (gv 1) ge_int)) go_none))) (fun _ _ _ _ _ => (gw_name sc_pairs_of.nd)) (fun _ _ _ _ _ => gts_nil) (fun _ _ _ _ _ => (ge_tup (ga_cons (gv 2) (ga_cons (gv 3) ga_nil)))))))
abbrev s28 : Stmt := top 28
abbrev N_web_of : List Str := ["room", "lot", "served", "cell", "spot", "ties", "a", "b"]
theorem sc_web_of : FnScope N_web_of ["room", "lot"] (defScope s28) := ⟨rfl, rfl, rfl, by decide +kernel, rfl, by decide +kernel, by decide +kernel⟩
theorem g_web_of {P : Program} {w : World} {K : PySem.W.Frag} {mg : Str → Option Value} {base : Heap} {f : Addr} {k : Nat} {sp_field : GSp} (F_field : FU P w K mg base k "field" 2 sp_field) {sp_pairs_of : GSp} (F_pairs_of : FU P w K mg base k "pairs_of" 1 sp_pairs_of) (m_any : mg "any" = none) (m_tuple : mg "tuple" = none) (cdv : Value) (A : Around) (outer : List Env) (s : Shared) (H : Hp) (E : XK) (hr : Room k (A.deeper (envOfC "web_of" (defScope s28) s.heap.objs.size f cdv))) :
    GSs (cxOf CX0 P w K mg base N_web_of "web_of" (defScope s28) f cdv A outer s H E).nox (defBody s28) (t_web_of sp_field sp_pairs_of) :=
  (gss_cons (gs_set sc_web_of.nd (ge_dc [("spot", 4)] hr.units sc_web_of.nd (gi_tup (gv 1)) (blkOk_by rfl) (fun _ _ _ _ _ => (gw_name sc_web_of.nd)) (fun _ _ _ _ _ => gts_nil) (fun _ _ _ _ _ => (gv 4)) (fun _ _ _ _ _ => (ge_dc [("cell", 3)] hr.units sc_web_of.nd (gi_tup (ge_callU F_field hr (ga_cons (gv 0) (ga_cons (gv 4) ga_nil)))) (blkOk_by rfl) (fun _ _ _ _ _ => (gw_name sc_web_of.nd)) (fun _ _ _ _ _ => gts_nil) (fun _ _ _ _ _ => (gv 3)) (fun _ _ _ _ _ => ge_bl))))) (gss_cons (gs_setLc [("a", 6), ("b", 7)] sc_web_of.nd (gi_list (ge_callU F_pairs_of hr (ga_cons (gv 1) ga_nil))) (blkOk_by rfl) (fun _ _ _ _ _ => (gw_tup (gws_cons (gw_name sc_web_of.nd) (gws_cons (gw_name sc_web_of.nd) gws_nil)))) (fun _ _ _ _ _ => (gts_one (gt_val (ge_cb (cAny rfl) m_any (by decide +kernel) (ga_cons (ge_lock (ge_lc [("cell", 3)] sc_web_of.nd (gi_frd (ge_getD hr.units (gv 2) (gv 6))) (blkOk_by rfl) (fun _ _ _ _ _ => (gw_name sc_web_of.nd)) (fun _ _ _ _ _ => gts_nil) (fun _ _ _ _ _ => (ge_cmp (op_inD hr.units) (gv 3) (ge_getD hr.units (gv 2) (gv 7)))))) ga_nil))))) (fun _ _ _ _ _ => (ge_tup (ga_cons (gv 6) (ga_cons (gv 7) ga_nil))))) (gss_one (gs_ret (ge_tup (ga_cons (gv 1) (ga_cons (ge_ct cTuple m_tuple (by decide +kernel) (ga_cons (gv 5) ga_nil)) ga_nil)))))))
abbrev s29 : Stmt := top 29
abbrev N_contrary : List Str := ["web", "here", "tie", "pair"]
theorem sc_contrary : FnScope N_contrary ["web"] (defScope s29) := ⟨rfl, rfl, rfl, by decide +kernel, rfl, by decide +kernel, by decide +kernel⟩
theorem g_contrary {P : Program} {w : World} {K : PySem.W.Frag} {mg : Str → Option Value} {base : Heap} {f : Addr} {k : Nat} {sp_pairs_of : GSp} (F_pairs_of : FU P w K mg base k "pairs_of" 1 sp_pairs_of) (m_tuple : mg "tuple" = none) (cdv : Value) (A : Around) (outer : List Env) (s : Shared) (H : Hp) (E : XK) (hr : Room k (A.deeper (envOfC "contrary" (defScope s29) s.heap.objs.size f cdv))) :
    GSs (cxOf CX0 P w K mg base N_contrary "contrary" (defScope s29) f cdv A outer s H E).nox (defBody s29) (t_contrary sp_pairs_of) :=
  (gss_cons (gs_set sc_contrary.nd (ge_dc [("tie", 2)] hr.units sc_contrary.nd (gi_tup (ge_ix ixT (gv 0) ge_int)) (blkOk_by rfl) (fun _ _ _ _ _ => (gw_name sc_contrary.nd)) (fun _ _ _ _ _ => gts_nil) (fun _ _ _ _ _ => (gv 2)) (fun _ _ _ _ _ => ge_bl))) (gss_one (gs_ret (ge_tup (ga_cons (ge_ix ixT (gv 0) ge_int) (ga_cons (ge_ct cTuple m_tuple (by decide +kernel) (ga_cons (ge_lc [("pair", 3)] sc_contrary.nd (gi_list (ge_callU F_pairs_of hr (ga_cons (ge_ix ixT (gv 0) ge_int) ga_nil))) (blkOk_by rfl) (fun _ _ _ _ _ => (gw_name sc_contrary.nd)) (fun _ _ _ _ _ => (gts_one (gt_cmp (op_notinD hr.units) (gv 3) (gv 1)))) (fun _ _ _ _ _ => (gv 3))) ga_nil)) ga_nil))))))
abbrev s30 : Stmt := top 30
abbrev N_next_table : List Str := ["web", "table", "a", "b"]
theorem sc_next_table : FnScope N_next_table ["web"] (defScope s30) := ⟨rfl, rfl, rfl, by decide +kernel, rfl, by decide +kernel, by decide +kernel⟩
theorem g_next_table {P : Program} {w : World} {K : PySem.W.Frag} {mg : Str → Option Value} {base : Heap} {f : Addr} {k : Nat} (cdv : Value) (A : Around) (outer : List Env) (s : Shared) (H : Hp) (E : XK) (hr : Room k (A.deeper (envOfC "next_table" (defScope s30) s.heap.objs.size f cdv))) :
    GSs (cxOf CX0 P w K mg base N_next_table "next_table" (defScope s30) f cdv A outer s H E).nox (defBody s30) (t_next_table) :=
  (gss_cons (gs_setDc [("a", 2)] hr.units sc_next_table.nd (gi_tup (ge_ix ixT (gv 0) ge_int)) (blkOk_by rfl) (fun _ _ _ _ _ => (gw_name sc_next_table.nd)) (fun _ _ _ _ _ => gts_nil) (fun _ _ _ _ _ => (gv 2)) (fun _ _ _ _ _ => ge_newD)) (gss_cons (gs_for (gi_tup (ge_ix ixT (gv 0) ge_int)) (gg_tup (ggs_cons (gg_name sc_next_table.nd) (ggs_cons (gg_name sc_next_table.nd) ggs_nil))) (gss_cons (gs_asg ge_bl (gg_sub (ge_getD hr.units (gv 1) (gv 2)) (gv 3) (setD hr.units))) (gss_one (gs_asg ge_bl (gg_sub (ge_getD hr.units (gv 1) (gv 3)) (gv 2) (setD hr.units)))))) (gss_one (gs_ret (gv 1)))))
abbrev s31 : Stmt := top 31
abbrev N_are_next : List Str := ["web", "a", "b"]
theorem sc_are_next : FnScope N_are_next ["web", "a", "b"] (defScope s31) := ⟨rfl, rfl, rfl, by decide +kernel, rfl, by decide +kernel, by decide +kernel⟩
theorem g_are_next {P : Program} {w : World} {K : PySem.W.Frag} {mg : Str → Option Value} {base : Heap} {f : Addr} {k : Nat} (m_min : mg "min" = none) (m_max : mg "max" = none) (cdv : Value) (A : Around) (outer : List Env) (s : Shared) (H : Hp) (E : XK) (hr : Room k (A.deeper (envOfC "are_next" (defScope s31) s.heap.objs.size f cdv))) :
    GSs (cxOf CX0 P w K mg base N_are_next "are_next" (defScope s31) f cdv A outer s H E).nox (defBody s31) (t_are_next) :=
  (gss_one (gs_ret (ge_cmp (op_inT hr.units) (ge_tup (ga_cons (ge_cb (cMin2D rfl hr.units) m_min (by decide +kernel) (ga_cons (gv 1) (ga_cons (gv 2) ga_nil))) (ga_cons (ge_cb (cMax2D rfl hr.units) m_max (by decide +kernel) (ga_cons (gv 1) (ga_cons (gv 2) ga_nil))) ga_nil))) (ge_ix ixT (gv 0) ge_int))))
abbrev s32 : Stmt := top 32
abbrev N_is_reached : List Str := ["table", "a", "b", "seen", "rest", "here", "late", "c"]
theorem sc_is_reached : FnScope N_is_reached ["table", "a", "b"] (defScope s32) := ⟨rfl, rfl, rfl, by decide +kernel, rfl, by decide +kernel, by decide +kernel⟩
theorem g_is_reached {P : Program} {w : World} {K : PySem.W.Frag} {mg : Str → Option Value} {base : Heap} {f : Addr} {k : Nat} (cdv : Value) (A : Around) (outer : List Env) (s : Shared) (H : Hp) (E : XK) (hr : Room k (A.deeper (envOfC "is_reached" (defScope s32) s.heap.objs.size f cdv))) :
    GSs (cxOf CX0 P w K mg base N_is_reached "is_reached" (defScope s32) f cdv A outer s H E).nox (defBody s32) (t_is_reached) :=
  (gss_cons (gs_asg (ge_tup (ga_cons (ge_disp1 hr.units (gv 1) ge_bl) (ga_cons (ge_lst (ga_cons (gv 1) ga_nil)) ga_nil))) (gg_tup (ggs_cons (gg_name sc_is_reached.nd) (ggs_cons (gg_name sc_is_reached.nd) ggs_nil)))) (gss_cons (gs_while (gt_truth (gv 4)) (gss_cons (gs_set sc_is_reached.nd (ge_bm0 PySem.F.slot_list_pop PySem.F.type_list_pop mpop (gv 4))) (gss_cons (gs_if (gt_cmp (op_inD hr.units) (gv 2) (ge_getD hr.units (gv 0) (gv 5))) (gss_one (gs_ret ge_bl)) gss_nil) (gss_cons (gs_lock (gs_setLc [("c", 7)] sc_is_reached.nd (gi_frd (ge_getD hr.units (gv 0) (gv 5))) (blkOk_by rfl) (fun _ _ _ _ _ => (gw_name sc_is_reached.nd)) (fun _ _ _ _ _ => (gts_one (GW.gt (gw_and (gt_cmp (op_notinD hr.units) (gv 7) (gv 3)) (gw_and1 (gt_not (GW.gt (gw_and (gt_cmp (op_inD hr.units) (gv 7) (ge_getD hr.units (gv 0) (gv 1))) (gw_and1 (gt_cmp (op_inD hr.units) (gv 7) (ge_getD hr.units (gv 0) (gv 2)))))))))))) (fun _ _ _ _ _ => (gv 7)))) (gss_cons (gs_expr (ge_dm PySem.F.slot_dict_update PySem.F.type_dict_update ((mupdP rfl) hr.units) (gv 3) (ga_cons (ge_lc [("c", 7)] sc_is_reached.nd (gi_list (gv 6)) (blkOk_by rfl) (fun _ _ _ _ _ => (gw_name sc_is_reached.nd)) (fun _ _ _ _ _ => gts_nil) (fun _ _ _ _ _ => (ge_tup (ga_cons (gv 7) (ga_cons ge_bl ga_nil))))) ga_nil))) (gss_one (gs_expr (ge_bm PySem.F.slot_list_extend PySem.F.type_list_extend mext (gv 4) (ga_cons (gv 6) ga_nil))))))))) (gss_one (gs_ret ge_bl))))
abbrev s33 : Stmt := top 33
abbrev N_first_two_pair : List Str := ["web", "table", "a", "b"]
theorem sc_first_two_pair : FnScope N_first_two_pair ["web"] (defScope s33) := ⟨rfl, rfl, rfl, by decide +kernel, rfl, by decide +kernel, by decide +kernel⟩
theorem g_first_two_pair {P : Program} {w : World} {K : PySem.W.Frag} {mg : Str → Option Value} {base : Heap} {f : Addr} {k : Nat} {sp_next_table : GSp} (F_next_table : FU P w K mg base k "next_table" 1 sp_next_table) {sp_pairs_of : GSp} (F_pairs_of : FU P w K mg base k "pairs_of" 1 sp_pairs_of) {sp_is_reached : GSp} (F_is_reached : FU P w K mg base k "is_reached" 3 sp_is_reached) (cdv : Value) (A : Around) (outer : List Env) (s : Shared) (H : Hp) (E : XK) (hr : Room k (A.deeper (envOfC "first_two_pair" (defScope s33) s.heap.objs.size f cdv))) :
    GSs (cxOf CX0 P w K mg base N_first_two_pair "first_two_pair" (defScope s33) f cdv A outer s H E).nox (defBody s33) (t_first_two_pair sp_next_table sp_pairs_of sp_is_reached) :=
  (gss_cons (gs_set sc_first_two_pair.nd (ge_callU F_next_table hr (ga_cons (gv 0) ga_nil))) (gss_cons (gs_for (gi_list (ge_callU F_pairs_of hr (ga_cons (ge_ix ixT (gv 0) ge_int) ga_nil))) (gg_tup (ggs_cons (gg_name sc_first_two_pair.nd) (ggs_cons (gg_name sc_first_two_pair.nd) ggs_nil))) (gss_one (gs_if (GW.gt (gw_and (gt_cmp (op_notinD hr.units) (gv 3) (ge_getD hr.units (gv 1) (gv 2))) (gw_and1 (gt_not (gt_val (ge_callU F_is_reached hr (ga_cons (gv 1) (ga_cons (gv 2) (ga_cons (gv 3) ga_nil))))))))) (gss_one (gs_ret (ge_tup (ga_cons (gv 2) (ga_cons (gv 3) ga_nil))))) gss_nil))) (gss_one (gs_ret ge_non))))
abbrev s34 : Stmt := top 34
abbrev N_all_next : List Str := ["web"]
theorem sc_all_next : FnScope N_all_next ["web"] (defScope s34) := ⟨rfl, rfl, rfl, by decide +kernel, rfl, by decide +kernel, by decide +kernel⟩
theorem g_all_next {P : Program} {w : World} {K : PySem.W.Frag} {mg : Str → Option Value} {base : Heap} {f : Addr} {k : Nat} {sp_pairs_of : GSp} (F_pairs_of : FU P w K mg base k "pairs_of" 1 sp_pairs_of) (m_len : mg "len" = none) (cdv : Value) (A : Around) (outer : List Env) (s : Shared) (H : Hp) (E : XK) (hr : Room k (A.deeper (envOfC "all_next" (defScope s34) s.heap.objs.size f cdv))) :
    GSs (cxOf CX0 P w K mg base N_all_next "all_next" (defScope s34) f cdv A outer s H E).nox (defBody s34) (t_all_next sp_pairs_of) :=
  (gss_one (gs_ret (ge_cmp (op_eqG hr.units) (ge_cb cLen m_len (by decide +kernel) (ga_cons (ge_ix ixT (gv 0) ge_int) ga_nil)) (ge_cb cLen m_len (by decide +kernel) (ga_cons (ge_callU F_pairs_of hr (ga_cons (ge_ix ixT (gv 0) ge_int) ga_nil)) ga_nil)))))
abbrev s36 : Stmt := top 36
abbrev N_joined : List Str := ["web", "a", "b", "ties", "c", "d"]
theorem sc_joined : FnScope N_joined ["web", "a", "b"] (defScope s36) := ⟨rfl, rfl, rfl, by decide +kernel, rfl, by decide +kernel, by decide +kernel⟩
theorem g_joined {P : Program} {w : World} {K : PySem.W.Frag} {mg : Str → Option Value} {base : Heap} {f : Addr} {k : Nat} (m_min : mg "min" = none) (m_max : mg "max" = none) (m_tuple : mg "tuple" = none) (m_sorted : mg "sorted" = none) (m_list : mg "list" = none) (cdv : Value) (A : Around) (outer : List Env) (s : Shared) (H : Hp) (E : XK) (hr : Room k (A.deeper (envOfC "joined" (defScope s36) s.heap.objs.size f cdv))) :
    GSs (cxOf CX0 P w K mg base N_joined "joined" (defScope s36) f cdv A outer s H E).nox (defBody s36) (t_joined) :=
  (gss_cons (gs_set sc_joined.nd ge_newD) (gss_cons (gs_for (gi_tup (ge_ix ixT (gv 0) ge_int)) (gg_tup (ggs_cons (gg_name sc_joined.nd) (ggs_cons (gg_name sc_joined.nd) ggs_nil))) (gss_cons (gs_par sc_joined.nd (ga_cons (ge_if (gt_cmp (op_eqG hr.units) (gv 4) (gv 2)) (gv 1) (gv 4)) (ga_cons (ge_if (gt_cmp (op_eqG hr.units) (gv 5) (gv 2)) (gv 1) (gv 5)) ga_nil))) (gss_one (gs_asg ge_bl (gg_sub (gv 3) (ge_tup (ga_cons (ge_cb (cMin2D rfl hr.units) m_min (by decide +kernel) (ga_cons (gv 4) (ga_cons (gv 5) ga_nil))) (ga_cons (ge_cb (cMax2D rfl hr.units) m_max (by decide +kernel) (ga_cons (gv 4) (ga_cons (gv 5) ga_nil))) ga_nil))) (setD hr.units)))))) (gss_one (gs_ret (ge_tup (ga_cons (ge_ct cTuple m_tuple (by decide +kernel) (ga_cons (ge_lc [("c", 4)] sc_joined.nd (gi_tup (ge_ix ixT (gv 0) ge_int)) (blkOk_by rfl) (fun _ _ _ _ _ => (gw_name sc_joined.nd)) (fun _ _ _ _ _ => (gts_one (gt_cmp (op_neG hr.units) (gv 4) (gv 2)))) (fun _ _ _ _ _ => (gv 4))) ga_nil)) (ga_cons (ge_ct cTuple m_tuple (by decide +kernel) (ga_cons (ge_cb (cSort rfl hr.units) m_sorted (by decide +kernel) (ga_cons (ge_ct (cListD rfl) m_list (by decide +kernel) (ga_cons (gv 3) ga_nil)) ga_nil)) ga_nil)) ga_nil)))))))
abbrev s37 : Stmt := top 37
abbrev N_webs_ahead : List Str := ["web", "log", "found", "a", "b"]
theorem sc_webs_ahead : FnScope N_webs_ahead ["web", "log"] (defScope s37) := ⟨rfl, rfl, rfl, by decide +kernel, rfl, by decide +kernel, by decide +kernel⟩
theorem g_webs_ahead {P : Program} {w : World} {K : PySem.W.Frag} {mg : Str → Option Value} {base : Heap} {f : Addr} {k : Nat} {sp_joined : GSp} (F_joined : FU P w K mg base k "joined" 3 sp_joined) (cdv : Value) (A : Around) (outer : List Env) (s : Shared) (H : Hp) (E : XK) (hr : Room k (A.deeper (envOfC "webs_ahead" (defScope s37) s.heap.objs.size f cdv))) :
    GSs (cxOf CX0 P w K mg base N_webs_ahead "webs_ahead" (defScope s37) f cdv A outer s H E).nox (defBody s37) (t_webs_ahead sp_joined) :=
  (gss_cons (gs_set sc_webs_ahead.nd (ge_lst (ga_cons (gv 0) ga_nil))) (gss_cons (gs_for (gi_tup (gv 1)) (gg_tup (ggs_cons (gg_name sc_webs_ahead.nd) (ggs_cons (gg_name sc_webs_ahead.nd) ggs_nil))) (gss_one (gs_expr (ge_bm PySem.F.slot_list_append PySem.F.type_list_append mapp (gv 2) (ga_cons (ge_callU F_joined hr (ga_cons (ge_ix ixL (gv 2) (ge_un gnegG ge_int)) (ga_cons (gv 3) (ga_cons (gv 4) ga_nil)))) ga_nil))))) (gss_one (gs_ret (gv 2)))))
abbrev s38 : Stmt := top 38
abbrev N_groups : List Str := ["web", "log", "lots", "a", "b", "lot"]
theorem sc_groups : FnScope N_groups ["web", "log"] (defScope s38) := ⟨rfl, rfl, rfl, by decide +kernel, rfl, by decide +kernel, by decide +kernel⟩
theorem g_groups {P : Program} {w : World} {K : PySem.W.Frag} {mg : Str → Option Value} {base : Heap} {f : Addr} {k : Nat} (m_tuple : mg "tuple" = none) (m_sorted : mg "sorted" = none) (cdv : Value) (A : Around) (outer : List Env) (s : Shared) (H : Hp) (E : XK) (hr : Room k (A.deeper (envOfC "groups" (defScope s38) s.heap.objs.size f cdv))) :
    GSs (cxOf CX0 P w K mg base N_groups "groups" (defScope s38) f cdv A outer s H E).nox (defBody s38) (t_groups) :=
  (gss_cons (gs_setDc [("a", 3)] hr.units sc_groups.nd (gi_tup (ge_ix ixT (gv 0) ge_int)) (blkOk_by rfl) (fun _ _ _ _ _ => (gw_name sc_groups.nd)) (fun _ _ _ _ _ => gts_nil) (fun _ _ _ _ _ => (gv 3)) (fun _ _ _ _ _ => (ge_lst (ga_cons (gv 3) ga_nil)))) (gss_cons (gs_for (gi_tup (gv 1)) (gg_tup (ggs_cons (gg_name sc_groups.nd) (ggs_cons (gg_name sc_groups.nd) ggs_nil))) (gss_one (gs_asg (ge_op gcat (ge_getD hr.units (gv 2) (gv 3)) (ge_dm PySem.F.slot_dict_pop PySem.F.type_dict_pop (mpopD hr.units) (gv 2) (ga_cons (gv 4) ga_nil))) (gg_sub (gv 2) (gv 3) (setD hr.units))))) (gss_one (gs_ret (ge_ct cTuple m_tuple (by decide +kernel) (ga_cons (ge_cb (cSort rfl hr.units) m_sorted (by decide +kernel) (ga_cons (ge_lock (ge_lc [("lot", 5)] sc_groups.nd (gi_frv (gv 2)) (blkOk_by rfl) (fun _ _ _ _ _ => (gw_name sc_groups.nd)) (fun _ _ _ _ _ => gts_nil) (fun _ _ _ _ _ => (ge_ct cTuple m_tuple (by decide +kernel) (ga_cons (ge_cb (cSort rfl hr.units) m_sorted (by decide +kernel) (ga_cons (gv 5) ga_nil)) ga_nil))))) ga_nil)) ga_nil))))))
abbrev s39 : Stmt := top 39
abbrev N_log_of : List Str := ["web", "log", "pair"]
theorem sc_log_of : FnScope N_log_of ["web"] (defScope s39) := ⟨rfl, rfl, rfl, by decide +kernel, rfl, by decide +kernel, by decide +kernel⟩
theorem g_log_of {P : Program} {w : World} {K : PySem.W.Frag} {mg : Str → Option Value} {base : Heap} {f : Addr} {k : Nat} {sp_first_two_pair : GSp} (F_first_two_pair : FU P w K mg base k "first_two_pair" 1 sp_first_two_pair) {sp_joined : GSp} (F_joined : FU P w K mg base k "joined" 3 sp_joined) (m_tuple : mg "tuple" = none) (cdv : Value) (A : Around) (outer : List Env) (s : Shared) (H : Hp) (E : XK) (hr : Room k (A.deeper (envOfC "log_of" (defScope s39) s.heap.objs.size f cdv))) :
    GSs (cxOf CX0 P w K mg base N_log_of "log_of" (defScope s39) f cdv A outer s H E).nox (defBody s39) (t_log_of sp_first_two_pair sp_joined) :=
  (gss_cons (gs_set sc_log_of.nd (ge_lst ga_nil)) (gss_cons (gs_set sc_log_of.nd (ge_callU F_first_two_pair hr (ga_cons (gv 0) ga_nil))) (gss_cons (gs_while (gt_cmp gnotN (gv 2) ge_non) (gss_cons (gs_expr (ge_bm PySem.F.slot_list_append PySem.F.type_list_append mapp (gv 1) (ga_cons (gv 2) ga_nil))) (gss_cons (gs_set sc_log_of.nd (ge_callS F_joined hr (gas_cons (gv 0) (gas_star (gv 2) gas_nil)))) (gss_one (gs_set sc_log_of.nd (ge_callU F_first_two_pair hr (ga_cons (gv 0) ga_nil))))))) (gss_one (gs_ret (ge_ct cTuple m_tuple (by decide +kernel) (ga_cons (gv 1) ga_nil)))))))
abbrev s40 : Stmt := top 40
abbrev s41 : Stmt := top 41
abbrev s42 : Stmt := top 42
abbrev N_knot_back : List Str := ["web", "log", "webs", "knot", "a", "b", "early", "others", "c"]
theorem sc_knot_back : FnScope N_knot_back ["web", "log"] (defScope s42) := ⟨rfl, rfl, rfl, by decide +kernel, rfl, by decide +kernel, by decide +kernel⟩
theorem g_knot_back {P : Program} {w : World} {K : PySem.W.Frag} {mg : Str → Option Value} {base : Heap} {f : Addr} {k : Nat} {sp_webs_ahead : GSp} (F_webs_ahead : FU P w K mg base k "webs_ahead" 2 sp_webs_ahead) {sp_all_next : GSp} (F_all_next : FU P w K mg base k "all_next" 1 sp_all_next) {sp_are_next : GSp} (F_are_next : FU P w K mg base k "are_next" 3 sp_are_next) (m_list : mg "list" = none) (m_zip : mg "zip" = none) (m_all : mg "all" = none) (m_tuple : mg "tuple" = none) (m_sorted : mg "sorted" = none) (cdv : Value) (A : Around) (outer : List Env) (s : Shared) (H : Hp) (E : XK) (hr : Room k (A.deeper (envOfC "knot_back" (defScope s42) s.heap.objs.size f cdv))) :
    GSs (cxOf CX0 P w K mg base N_knot_back "knot_back" (defScope s42) f cdv A outer s H E).nox (defBody s42) (t_knot_back sp_webs_ahead sp_all_next sp_are_next) :=
  (gss_cons (gs_set sc_knot_back.nd (ge_callU F_webs_ahead hr (ga_cons (gv 0) (ga_cons (gv 1) ga_nil)))) (gss_cons (gs_set sc_knot_back.nd (ge_if (gt_val (ge_callU F_all_next hr (ga_cons (ge_ix ixL (gv 2) (ge_un gnegG ge_int)) ga_nil))) (ge_ct cList m_list (by decide +kernel) (ga_cons (ge_ix ixT (ge_ix ixL (gv 2) (ge_un gnegG ge_int)) ge_int) ga_nil)) (ge_ct cList m_list (by decide +kernel) (ga_cons ge_bot ga_nil)))) (gss_cons (gs_for (gi_zipS rfl m_zip (ga_cons (ge_revT (gv 1)) (ga_cons (ge_revL (ge_sliceL (gv 2) go_none (go_some (ge_un gnegG ge_int)))) ga_nil))) (gg_tup (ggs_cons (gg_tup (ggs_cons (gg_name sc_knot_back.nd) (ggs_cons (gg_name sc_knot_back.nd) ggs_nil))) (ggs_cons (gg_name sc_knot_back.nd) ggs_nil))) (gss_one (gs_if (gt_cmp (op_inL hr.units) (gv 4) (gv 3)) (gss_cons (gs_setLc [("c", 8)] sc_knot_back.nd (gi_list (gv 3)) (blkOk_by rfl) (fun _ _ _ _ _ => (gw_name sc_knot_back.nd)) (fun _ _ _ _ _ => (gts_one (gt_cmp (op_neG hr.units) (gv 8) (gv 4)))) (fun _ _ _ _ _ => (gv 8))) (gss_one (gs_set sc_knot_back.nd (ge_lstS (gas_star (gv 7) (gas_cons (ge_if (gt_val (ge_cb (cAll rfl) m_all (by decide +kernel) (ga_cons (ge_lc [("c", 8)] sc_knot_back.nd (gi_list (gv 7)) (blkOk_by rfl) (fun _ _ _ _ _ => (gw_name sc_knot_back.nd)) (fun _ _ _ _ _ => gts_nil) (fun _ _ _ _ _ => (ge_callU F_are_next hr (ga_cons (gv 6) (ga_cons (gv 4) (ga_cons (gv 8) ga_nil)))))) ga_nil))) (gv 4) (gv 5)) gas_nil)))))) gss_nil))) (gss_one (gs_ret (ge_ct cTuple m_tuple (by decide +kernel) (ga_cons (ge_cb (cSort rfl hr.units) m_sorted (by decide +kernel) (ga_cons (gv 3) ga_nil)) ga_nil)))))))
abbrev s43 : Stmt := top 43
abbrev N_split_of : List Str := ["web", "log"]
theorem sc_split_of : FnScope N_split_of ["web"] (defScope s43) := ⟨rfl, rfl, rfl, by decide +kernel, rfl, by decide +kernel, by decide +kernel⟩
theorem g_split_of {P : Program} {w : World} {K : PySem.W.Frag} {mg : Str → Option Value} {base : Heap} {f : Addr} {k : Nat} {sp_log_of : GSp} (F_log_of : FU P w K mg base k "log_of" 1 sp_log_of) {sp_groups : GSp} (F_groups : FU P w K mg base k "groups" 2 sp_groups) {sp_knot_back : GSp} (F_knot_back : FU P w K mg base k "knot_back" 2 sp_knot_back) (cdv : Value) (A : Around) (outer : List Env) (s : Shared) (H : Hp) (E : XK) (hr : Room k (A.deeper (envOfC "split_of" (defScope s43) s.heap.objs.size f cdv))) :
    GSs (cxOf CX0 P w K mg base N_split_of "split_of" (defScope s43) f cdv A outer s H E).nox (defBody s43) (t_split_of sp_log_of sp_groups sp_knot_back) :=
  (gss_cons (gs_set sc_split_of.nd (ge_callU F_log_of hr (ga_cons (gv 0) ga_nil))) (gss_one (gs_ret (ge_tup (ga_cons (ge_callU F_groups hr (ga_cons (gv 0) (ga_cons (gv 1) ga_nil))) (ga_cons (ge_callU F_knot_back hr (ga_cons (gv 0) (ga_cons (gv 1) ga_nil))) ga_nil))))))
abbrev s45 : Stmt := top 45
abbrev N_answer_for : List Str := ["room", "lot", "groups", "knot", "group"]
theorem sc_answer_for : FnScope N_answer_for ["room", "lot"] (defScope s45) := ⟨rfl, rfl, rfl, by decide +kernel, rfl, by decide +kernel, by decide +kernel⟩
theorem g_answer_for {P : Program} {w : World} {K : PySem.W.Frag} {mg : Str → Option Value} {base : Heap} {f : Addr} {k : Nat} {sp_split_of : GSp} (F_split_of : FU P w K mg base k "split_of" 1 sp_split_of) {sp_contrary : GSp} (F_contrary : FU P w K mg base k "contrary" 1 sp_contrary) {sp_web_of : GSp} (F_web_of : FU P w K mg base k "web_of" 2 sp_web_of) {sp_hard_in : GSp} (F_hard_in : FU P w K mg base k "hard_in" 2 sp_hard_in) {sp_common_stalls : GSp} (F_common_stalls : FU P w K mg base k "common_stalls" 2 sp_common_stalls) (m_tuple : mg "tuple" = none) (m_sorted : mg "sorted" = none) (cdv : Value) (A : Around) (outer : List Env) (s : Shared) (H : Hp) (E : XK) (hr : Room k (A.deeper (envOfC "answer_for" (defScope s45) s.heap.objs.size f cdv))) :
    GSs (cxOf CX0 P w K mg base N_answer_for "answer_for" (defScope s45) f cdv A outer s H E).nox (defBody s45) (t_answer_for sp_split_of sp_contrary sp_web_of sp_hard_in sp_common_stalls) :=
  (gss_cons (gs_asg (ge_callU F_split_of hr (ga_cons (ge_callU F_contrary hr (ga_cons (ge_callU F_web_of hr (ga_cons (gv 0) (ga_cons (ge_callU F_hard_in hr (ga_cons (gv 0) (ga_cons (gv 1) ga_nil))) ga_nil))) ga_nil)) ga_nil)) (gg_tup (ggs_cons (gg_name sc_answer_for.nd) (ggs_cons (gg_name sc_answer_for.nd) ggs_nil)))) (gss_one (gs_ret (ge_tup (ga_cons (ge_ct cTuple m_tuple (by decide +kernel) (ga_cons (ge_cb (cSort rfl hr.units) m_sorted (by decide +kernel) (ga_cons (ge_lc [("group", 4)] sc_answer_for.nd (gi_tup (gv 2)) (blkOk_by rfl) (fun _ _ _ _ _ => (gw_name sc_answer_for.nd)) (fun _ _ _ _ _ => gts_nil) (fun _ _ _ _ _ => (ge_ix ixT (ge_callU F_common_stalls hr (ga_cons (gv 0) (ga_cons (gv 4) ga_nil))) ge_int))) ga_nil)) ga_nil)) (ga_cons (gv 3) ga_nil))))))
abbrev s46 : Stmt := top 46
abbrev N_answer : List Str := ["room"]
theorem sc_answer : FnScope N_answer ["room"] (defScope s46) := ⟨rfl, rfl, rfl, by decide +kernel, rfl, by decide +kernel, by decide +kernel⟩
theorem g_answer {P : Program} {w : World} {K : PySem.W.Frag} {mg : Str → Option Value} {base : Heap} {f : Addr} {k : Nat} {sp_answer_for : GSp} (F_answer_for : FU P w K mg base k "answer_for" 2 sp_answer_for) (cdv : Value) (A : Around) (outer : List Env) (s : Shared) (H : Hp) (E : XK) (hr : Room k (A.deeper (envOfC "answer" (defScope s46) s.heap.objs.size f cdv))) :
    GSs (cxOf CX0 P w K mg base N_answer "answer" (defScope s46) f cdv A outer s H E).nox (defBody s46) (t_answer sp_answer_for) :=
  (gss_one (gs_ret (ge_callU F_answer_for hr (ga_cons (gv 0) (ga_cons (gv 0) ga_nil)))))
abbrev s47 : Stmt := top 47
abbrev N_fewest : List Str := ["room", "lot"]
theorem sc_fewest : FnScope N_fewest ["room", "lot"] (defScope s47) := ⟨rfl, rfl, rfl, by decide +kernel, rfl, by decide +kernel, by decide +kernel⟩
theorem g_fewest {P : Program} {w : World} {K : PySem.W.Frag} {mg : Str → Option Value} {base : Heap} {f : Addr} {k : Nat} {sp_answer_for : GSp} (F_answer_for : FU P w K mg base k "answer_for" 2 sp_answer_for) (m_len : mg "len" = none) (cdv : Value) (A : Around) (outer : List Env) (s : Shared) (H : Hp) (E : XK) (hr : Room k (A.deeper (envOfC "fewest" (defScope s47) s.heap.objs.size f cdv))) :
    GSs (cxOf CX0 P w K mg base N_fewest "fewest" (defScope s47) f cdv A outer s H E).nox (defBody s47) (t_fewest sp_answer_for) :=
  (gss_one (gs_ret (ge_cb cLen m_len (by decide +kernel) (ga_cons (ge_ix ixT (ge_callU F_answer_for hr (ga_cons (gv 0) (ga_cons (gv 1) ga_nil))) ge_int) ga_nil))))
abbrev s48 : Stmt := top 48
abbrev N_is_lot_in : List Str := ["room", "value"]
theorem sc_is_lot_in : FnScope N_is_lot_in ["room", "value"] (defScope s48) := ⟨rfl, rfl, rfl, by decide +kernel, rfl, by decide +kernel, by decide +kernel⟩
theorem g_is_lot_in {P : Program} {w : World} {K : PySem.W.Frag} {mg : Str → Option Value} {base : Heap} {f : Addr} {k : Nat} {sp_is_lot : GSp} (F_is_lot : FU P w K mg base k "is_lot" 1 sp_is_lot) {sp_lies_in : GSp} (F_lies_in : FU P w K mg base k "lies_in" 2 sp_lies_in) (cdv : Value) (A : Around) (outer : List Env) (s : Shared) (H : Hp) (E : XK) (hr : Room k (A.deeper (envOfC "is_lot_in" (defScope s48) s.heap.objs.size f cdv))) :
    GSs (cxOf CX0 P w K mg base N_is_lot_in "is_lot_in" (defScope s48) f cdv A outer s H E).nox (defBody s48) (t_is_lot_in sp_is_lot sp_lies_in) :=
  (gss_one (gs_ret (ge_and (ge_callU F_is_lot hr (ga_cons (gv 1) ga_nil)) (ge_one (ge_callU F_lies_in hr (ga_cons (gv 1) (ga_cons (gv 0) ga_nil)))))))
abbrev s49 : Stmt := top 49
abbrev N_dark_fault : List Str := ["room", "lot", "stalls", "dark"]
theorem sc_dark_fault : FnScope N_dark_fault ["room", "lot", "stalls"] (defScope s49) := ⟨rfl, rfl, rfl, by decide +kernel, rfl, by decide +kernel, by decide +kernel⟩
theorem g_dark_fault {P : Program} {w : World} {K : PySem.W.Frag} {mg : Str → Option Value} {base : Heap} {f : Addr} {k : Nat} {sp_dark_in : GSp} (F_dark_in : FU P w K mg base k "dark_in" 3 sp_dark_in) (cdv : Value) (A : Around) (outer : List Env) (s : Shared) (H : Hp) (E : XK) (hr : Room k (A.deeper (envOfC "dark_fault" (defScope s49) s.heap.objs.size f cdv))) :
    GSs (cxOf CX0 P w K mg base N_dark_fault "dark_fault" (defScope s49) f cdv A outer s H E).nox (defBody s49) (t_dark_fault sp_dark_in) :=
  (gss_cons (gs_set sc_dark_fault.nd (ge_callU F_dark_in hr (ga_cons (gv 0) (ga_cons (gv 1) (ga_cons (gv 2) ga_nil))))) (gss_one (gs_ret (ge_if (gt_cmp (op_neG hr.units) (gv 3) (ge_tup ga_nil)) (ge_tup (ga_cons ge_str (ga_cons (ge_ix ixT (gv 3) ge_int) ga_nil))) ge_non))))
abbrev s50 : Stmt := top 50
abbrev N_spots_fault : List Str := ["room", "lot", "spots", "spot", "place", "one", "other"]
theorem sc_spots_fault : FnScope N_spots_fault ["room", "lot", "spots"] (defScope s50) := ⟨rfl, rfl, rfl, by decide +kernel, rfl, by decide +kernel, by decide +kernel⟩
theorem g_spots_fault {P : Program} {w : World} {K : PySem.W.Frag} {mg : Str → Option Value} {base : Heap} {f : Addr} {k : Nat} {sp_are_tied : GSp} (F_are_tied : FU P w K mg base k "are_tied" 3 sp_are_tied) (m_enumerate : mg "enumerate" = none) (cdv : Value) (A : Around) (outer : List Env) (s : Shared) (H : Hp) (E : XK) (hr : Room k (A.deeper (envOfC "spots_fault" (defScope s50) s.heap.objs.size f cdv))) :
    GSs (cxOf CX0 P w K mg base N_spots_fault "spots_fault" (defScope s50) f cdv A outer s H E).nox (defBody s50) (t_spots_fault sp_are_tied) :=
  (gss_cons (gs_for (gi_tup (gv 2)) (gg_name sc_spots_fault.nd) (gss_one (gs_if (gt_cmp (op_notinT hr.units) (gv 3) (gv 1)) (gss_one (gs_ret (ge_tup (ga_cons ge_str (ga_cons (gv 3) ga_nil))))) gss_nil))) (gss_cons (gs_for (gi_enumT rfl m_enumerate (ga_cons (gv 2) ga_nil)) (gg_tup (ggs_cons (gg_name sc_spots_fault.nd) (ggs_cons (gg_name sc_spots_fault.nd) ggs_nil))) (gss_one (gs_for (gi_tup (ge_sliceT (gv 2) (go_some (ge_op gadd (gv 4) ge_int)) go_none)) (gg_name sc_spots_fault.nd) (gss_one (gs_if (gt_val (ge_callU F_are_tied hr (ga_cons (gv 0) (ga_cons (gv 5) (ga_cons (gv 6) ga_nil))))) (gss_one (gs_ret (ge_tup (ga_cons ge_str (ga_cons (gv 5) (ga_cons (gv 6) ga_nil)))))) gss_nil))))) (gss_one (gs_ret ge_non))))
abbrev s51 : Stmt := top 51
abbrev N_judge_answer : List Str := ["room", "lot", "value", "stalls", "spots", "fault"]
theorem sc_judge_answer : FnScope N_judge_answer ["room", "lot", "value"] (defScope s51) := ⟨rfl, rfl, rfl, by decide +kernel, rfl, by decide +kernel, by decide +kernel⟩
theorem g_judge_answer {P : Program} {w : World} {K : PySem.W.Frag} {mg : Str → Option Value} {base : Heap} {f : Addr} {k : Nat} {sp_is_lot_in : GSp} (F_is_lot_in : FU P w K mg base k "is_lot_in" 2 sp_is_lot_in) {sp_dark_fault : GSp} (F_dark_fault : FU P w K mg base k "dark_fault" 3 sp_dark_fault) {sp_spots_fault : GSp} (F_spots_fault : FU P w K mg base k "spots_fault" 3 sp_spots_fault) (m_isinstance : mg "isinstance" = none) (m_tuple : mg "tuple" = none) (m_len : mg "len" = none) (cdv : Value) (A : Around) (outer : List Env) (s : Shared) (H : Hp) (E : XK) (hr : Room k (A.deeper (envOfC "judge_answer" (defScope s51) s.heap.objs.size f cdv))) :
    GSs (cxOf CX0 P w K mg base N_judge_answer "judge_answer" (defScope s51) f cdv A outer s H E).nox (defBody s51) (t_judge_answer sp_is_lot_in sp_dark_fault sp_spots_fault) :=
  (gss_cons (gs_if (GW.gt (gw_or (gt_not (gt_val (ge_isi (T := "tuple") (gv 2) m_isinstance m_tuple (by decide +kernel)))) (gw_or1 (gt_cmp (op_neG hr.units) (ge_cb cLen m_len (by decide +kernel) (ga_cons (gv 2) ga_nil)) ge_int)))) (gss_one (gs_ret (ge_tup (ga_cons ge_str ga_nil)))) gss_nil) (gss_cons (gs_asg (gv 2) (gg_tup (ggs_cons (gg_name sc_judge_answer.nd) (ggs_cons (gg_name sc_judge_answer.nd) ggs_nil)))) (gss_cons (gs_if (GW.gt (gw_or (gt_not (gt_val (ge_callU F_is_lot_in hr (ga_cons (gv 0) (ga_cons (gv 3) ga_nil))))) (gw_or1 (gt_not (gt_val (ge_callU F_is_lot_in hr (ga_cons (gv 0) (ga_cons (gv 4) ga_nil)))))))) (gss_one (gs_ret (ge_tup (ga_cons ge_str ga_nil)))) gss_nil) (gss_cons (gs_set sc_judge_answer.nd (ge_orT (ge_callU F_dark_fault hr (ga_cons (gv 0) (ga_cons (gv 1) (ga_cons (gv 3) ga_nil)))) (ge_one (ge_callU F_spots_fault hr (ga_cons (gv 0) (ga_cons (gv 1) (ga_cons (gv 4) ga_nil))))))) (gss_cons (gs_if (GW.gt (gw_and (gt_cmp gisN (gv 5) ge_non) (gw_and1 (gt_cmp (op_neG hr.units) (ge_cb cLen m_len (by decide +kernel) (ga_cons (gv 3) ga_nil)) (ge_cb cLen m_len (by decide +kernel) (ga_cons (gv 4) ga_nil)))))) (gss_one (gs_set sc_judge_answer.nd (ge_tup (ga_cons ge_str (ga_cons (ge_cb cLen m_len (by decide +kernel) (ga_cons (gv 3) ga_nil)) (ga_cons (ge_cb cLen m_len (by decide +kernel) (ga_cons (gv 4) ga_nil)) ga_nil)))))) gss_nil) (gss_one (gs_ret (gv 5))))))))
abbrev s52 : Stmt := top 52
abbrev N_judge_stalls : List Str := ["room", "lot", "value"]
theorem sc_judge_stalls : FnScope N_judge_stalls ["room", "lot", "value"] (defScope s52) := ⟨rfl, rfl, rfl, by decide +kernel, rfl, by decide +kernel, by decide +kernel⟩
theorem g_judge_stalls {P : Program} {w : World} {K : PySem.W.Frag} {mg : Str → Option Value} {base : Heap} {f : Addr} {k : Nat} {sp_is_lot_in : GSp} (F_is_lot_in : FU P w K mg base k "is_lot_in" 2 sp_is_lot_in) {sp_dark_fault : GSp} (F_dark_fault : FU P w K mg base k "dark_fault" 3 sp_dark_fault) (cdv : Value) (A : Around) (outer : List Env) (s : Shared) (H : Hp) (E : XK) (hr : Room k (A.deeper (envOfC "judge_stalls" (defScope s52) s.heap.objs.size f cdv))) :
    GSs (cxOf CX0 P w K mg base N_judge_stalls "judge_stalls" (defScope s52) f cdv A outer s H E).nox (defBody s52) (t_judge_stalls sp_is_lot_in sp_dark_fault) :=
  (gss_one (gs_ret (ge_if (gt_val (ge_callU F_is_lot_in hr (ga_cons (gv 0) (ga_cons (gv 2) ga_nil)))) (ge_callU F_dark_fault hr (ga_cons (gv 0) (ga_cons (gv 1) (ga_cons (gv 2) ga_nil)))) (ge_tup (ga_cons ge_str ga_nil)))))
abbrev s53 : Stmt := top 53
abbrev N_judge_spots : List Str := ["room", "lot", "value"]
theorem sc_judge_spots : FnScope N_judge_spots ["room", "lot", "value"] (defScope s53) := ⟨rfl, rfl, rfl, by decide +kernel, rfl, by decide +kernel, by decide +kernel⟩
theorem g_judge_spots {P : Program} {w : World} {K : PySem.W.Frag} {mg : Str → Option Value} {base : Heap} {f : Addr} {k : Nat} {sp_is_lot_in : GSp} (F_is_lot_in : FU P w K mg base k "is_lot_in" 2 sp_is_lot_in) {sp_spots_fault : GSp} (F_spots_fault : FU P w K mg base k "spots_fault" 3 sp_spots_fault) (cdv : Value) (A : Around) (outer : List Env) (s : Shared) (H : Hp) (E : XK) (hr : Room k (A.deeper (envOfC "judge_spots" (defScope s53) s.heap.objs.size f cdv))) :
    GSs (cxOf CX0 P w K mg base N_judge_spots "judge_spots" (defScope s53) f cdv A outer s H E).nox (defBody s53) (t_judge_spots sp_is_lot_in sp_spots_fault) :=
  (gss_one (gs_ret (ge_if (gt_val (ge_callU F_is_lot_in hr (ga_cons (gv 0) (ga_cons (gv 2) ga_nil)))) (ge_callU F_spots_fault hr (ga_cons (gv 0) (ga_cons (gv 1) (ga_cons (gv 2) ga_nil)))) (ge_tup (ga_cons ge_str ga_nil)))))
abbrev s55 : Stmt := top 55
abbrev N_corridor_cells : List Str := ["steps"]
theorem sc_corridor_cells : FnScope N_corridor_cells ["steps"] (defScope s55) := ⟨rfl, rfl, rfl, by decide +kernel, rfl, by decide +kernel, by decide +kernel⟩
theorem g_corridor_cells {P : Program} {w : World} {K : PySem.W.Frag} {mg : Str → Option Value} {base : Heap} {f : Addr} {k : Nat} {sp_trail : GSp} (F_trail : FU P w K mg base k "trail" 2 sp_trail) (cdv : Value) (A : Around) (outer : List Env) (s : Shared) (H : Hp) (E : XK) (hr : Room k (A.deeper (envOfC "corridor_cells" (defScope s55) s.heap.objs.size f cdv))) :
    GSs (cxOf CX0 P w K mg base N_corridor_cells "corridor_cells" (defScope s55) f cdv A outer s H E).nox (defBody s55) (t_corridor_cells sp_trail) :=
  (gss_one (gs_ret (ge_callU F_trail hr (ga_cons (ge_tup (ga_cons ge_int (ga_cons ge_int ga_nil))) (ga_cons (gv 0) ga_nil)))))
abbrev s56 : Stmt := top 56
abbrev N_corridor : List Str := ["steps"]
theorem sc_corridor : FnScope N_corridor ["steps"] (defScope s56) := ⟨rfl, rfl, rfl, by decide +kernel, rfl, by decide +kernel, by decide +kernel⟩
theorem g_corridor {P : Program} {w : World} {K : PySem.W.Frag} {mg : Str → Option Value} {base : Heap} {f : Addr} {k : Nat} {sp_corridor_cells : GSp} (F_corridor_cells : FU P w K mg base k "corridor_cells" 1 sp_corridor_cells) (m_tuple : mg "tuple" = none) (m_sorted : mg "sorted" = none) (cdv : Value) (A : Around) (outer : List Env) (s : Shared) (H : Hp) (E : XK) (hr : Room k (A.deeper (envOfC "corridor" (defScope s56) s.heap.objs.size f cdv))) :
    GSs (cxOf CX0 P w K mg base N_corridor "corridor" (defScope s56) f cdv A outer s H E).nox (defBody s56) (t_corridor sp_corridor_cells) :=
  (gss_one (gs_ret (ge_ct cTuple m_tuple (by decide +kernel) (ga_cons (ge_cb (cSortT rfl hr.units) m_sorted (by decide +kernel) (ga_cons (ge_callU F_corridor_cells hr (ga_cons (gv 0) ga_nil)) ga_nil)) ga_nil))))
abbrev s57 : Stmt := top 57
abbrev N_is_plain : List Str := ["steps"]
theorem sc_is_plain : FnScope N_is_plain ["steps"] (defScope s57) := ⟨rfl, rfl, rfl, by decide +kernel, rfl, by decide +kernel, by decide +kernel⟩
theorem g_is_plain {P : Program} {w : World} {K : PySem.W.Frag} {mg : Str → Option Value} {base : Heap} {f : Addr} {k : Nat} (cdv : Value) (A : Around) (outer : List Env) (s : Shared) (H : Hp) (E : XK) (hr : Room k (A.deeper (envOfC "is_plain" (defScope s57) s.heap.objs.size f cdv))) :
    GSs (cxOf CX0 P w K mg base N_is_plain "is_plain" (defScope s57) f cdv A outer s H E).nox (defBody s57) (t_is_plain) :=
  (gss_one (gs_ret (ge_and (ge_not (ge_and (ge_cmp op_inX ge_str (gv 0)) (ge_one (ge_cmp op_inX ge_str (gv 0))))) (ge_one (ge_not (ge_and (ge_cmp op_inX ge_str (gv 0)) (ge_one (ge_cmp op_inX ge_str (gv 0)))))))))
abbrev s58 : Stmt := top 58
abbrev N_corridor_stretch : List Str := ["steps", "i", "first", "last"]
theorem sc_corridor_stretch : FnScope N_corridor_stretch ["steps", "i"] (defScope s58) := ⟨rfl, rfl, rfl, by decide +kernel, rfl, by decide +kernel, by decide +kernel⟩
theorem g_corridor_stretch {P : Program} {w : World} {K : PySem.W.Frag} {mg : Str → Option Value} {base : Heap} {f : Addr} {k : Nat} {sp_is_plain : GSp} (F_is_plain : FU P w K mg base k "is_plain" 1 sp_is_plain) (m_len : mg "len" = none) (cdv : Value) (A : Around) (outer : List Env) (s : Shared) (H : Hp) (E : XK) (hr : Room k (A.deeper (envOfC "corridor_stretch" (defScope s58) s.heap.objs.size f cdv))) :
    GSs (cxOf CX0 P w K mg base N_corridor_stretch "corridor_stretch" (defScope s58) f cdv A outer s H E).nox (defBody s58) (t_corridor_stretch sp_is_plain) :=
  (gss_cons (gs_par sc_corridor_stretch.nd (ga_cons (gv 1) (ga_cons (gv 1) ga_nil))) (gss_cons (gs_while (GW.gt (gw_and (gt_cmp ggt (gv 2) ge_int) (gw_and1 (gt_val (ge_callU F_is_plain hr (ga_cons (ge_sliceX (gv 0) (go_some (ge_op gsub (gv 2) ge_int)) (go_some (gv 1))) ga_nil)))))) (gss_one (gs_aug sc_corridor_stretch.nd ge_int gip_sub))) (gss_cons (gs_while (GW.gt (gw_and (gt_cmp glt (gv 3) (ge_cb cLen m_len (by decide +kernel) (ga_cons (gv 0) ga_nil))) (gw_and1 (gt_val (ge_callU F_is_plain hr (ga_cons (ge_sliceX (gv 0) (go_some (gv 1)) (go_some (ge_op gadd (gv 3) ge_int))) ga_nil)))))) (gss_one (gs_aug sc_corridor_stretch.nd ge_int gip_add))) (gss_one (gs_ret (ge_tup (ga_cons (gv 2) (ga_cons (gv 3) ga_nil))))))))
abbrev s59 : Stmt := top 59
abbrev N_corridor_turns : List Str := ["steps", "found", "i", "stall"]
theorem sc_corridor_turns : FnScope N_corridor_turns ["steps"] (defScope s59) := ⟨rfl, rfl, rfl, by decide +kernel, rfl, by decide +kernel, by decide +kernel⟩
theorem g_corridor_turns {P : Program} {w : World} {K : PySem.W.Frag} {mg : Str → Option Value} {base : Heap} {f : Addr} {k : Nat} {sp_corridor_stretch : GSp} (F_corridor_stretch : FU P w K mg base k "corridor_stretch" 2 sp_corridor_stretch) (m_len : mg "len" = none) (cdv : Value) (A : Around) (outer : List Env) (s : Shared) (H : Hp) (E : XK) (hr : Room k (A.deeper (envOfC "corridor_turns" (defScope s59) s.heap.objs.size f cdv))) :
    GSs (cxOf CX0 P w K mg base N_corridor_turns "corridor_turns" (defScope s59) f cdv A outer s H E).nox (defBody s59) (t_corridor_turns sp_corridor_stretch) :=
  (gss_cons (gs_par sc_corridor_turns.nd (ga_cons (ge_lst ga_nil) (ga_cons ge_int ga_nil))) (gss_cons (gs_while (gt_cmp gle (gv 2) (ge_cb cLen m_len (by decide +kernel) (ga_cons (gv 0) ga_nil))) (gss_cons (gs_set sc_corridor_turns.nd (ge_ix ixT (ge_callU F_corridor_stretch hr (ga_cons (gv 0) (ga_cons (gv 2) ga_nil))) ge_int)) (gss_cons (gs_expr (ge_bm PySem.F.slot_list_append PySem.F.type_list_append mapp (gv 1) (ga_cons (ge_tup (ga_cons (gv 2) (ga_cons (gv 3) ga_nil))) ga_nil))) (gss_one (gs_set sc_corridor_turns.nd (ge_op gadd (ge_ix ixT (ge_callU F_corridor_stretch hr (ga_cons (gv 0) (ga_cons (gv 3) ga_nil))) ge_int) ge_int)))))) (gss_one (gs_ret (gv 1)))))
abbrev s60 : Stmt := top 60
abbrev N_corridor_stalls : List Str := ["steps", "_", "stall"]
theorem sc_corridor_stalls : FnScope N_corridor_stalls ["steps"] (defScope s60) := ⟨rfl, rfl, rfl, by decide +kernel, rfl, by decide +kernel, by decide +kernel⟩
theorem g_corridor_stalls {P : Program} {w : World} {K : PySem.W.Frag} {mg : Str → Option Value} {base : Heap} {f : Addr} {k : Nat} {sp_corridor_turns : GSp} (F_corridor_turns : FU P w K mg base k "corridor_turns" 1 sp_corridor_turns) (m_tuple : mg "tuple" = none) (cdv : Value) (A : Around) (outer : List Env) (s : Shared) (H : Hp) (E : XK) (hr : Room k (A.deeper (envOfC "corridor_stalls" (defScope s60) s.heap.objs.size f cdv))) :
    GSs (cxOf CX0 P w K mg base N_corridor_stalls "corridor_stalls" (defScope s60) f cdv A outer s H E).nox (defBody s60) (t_corridor_stalls sp_corridor_turns) :=
  (gss_one (gs_ret (ge_ct cTuple m_tuple (by decide +kernel) (ga_cons (ge_lc [("_", 1), ("stall", 2)] sc_corridor_stalls.nd (gi_list (ge_callU F_corridor_turns hr (ga_cons (gv 0) ga_nil))) (blkOk_by rfl) (fun _ _ _ _ _ => (gw_tup (gws_cons (gw_name sc_corridor_stalls.nd) (gws_cons (gw_name sc_corridor_stalls.nd) gws_nil)))) (fun _ _ _ _ _ => gts_nil) (fun _ _ _ _ _ => (gv 2))) ga_nil))))
abbrev s61 : Stmt := top 61
abbrev N_corridor_spots : List Str := ["steps", "spot", "_"]
theorem sc_corridor_spots : FnScope N_corridor_spots ["steps"] (defScope s61) := ⟨rfl, rfl, rfl, by decide +kernel, rfl, by decide +kernel, by decide +kernel⟩
theorem g_corridor_spots {P : Program} {w : World} {K : PySem.W.Frag} {mg : Str → Option Value} {base : Heap} {f : Addr} {k : Nat} {sp_corridor_turns : GSp} (F_corridor_turns : FU P w K mg base k "corridor_turns" 1 sp_corridor_turns) (m_tuple : mg "tuple" = none) (cdv : Value) (A : Around) (outer : List Env) (s : Shared) (H : Hp) (E : XK) (hr : Room k (A.deeper (envOfC "corridor_spots" (defScope s61) s.heap.objs.size f cdv))) :
    GSs (cxOf CX0 P w K mg base N_corridor_spots "corridor_spots" (defScope s61) f cdv A outer s H E).nox (defBody s61) (t_corridor_spots sp_corridor_turns) :=
  (gss_one (gs_ret (ge_ct cTuple m_tuple (by decide +kernel) (ga_cons (ge_lc [("spot", 1), ("_", 2)] sc_corridor_spots.nd (gi_list (ge_callU F_corridor_turns hr (ga_cons (gv 0) ga_nil))) (blkOk_by rfl) (fun _ _ _ _ _ => (gw_tup (gws_cons (gw_name sc_corridor_spots.nd) (gws_cons (gw_name sc_corridor_spots.nd) gws_nil)))) (fun _ _ _ _ _ => gts_nil) (fun _ _ _ _ _ => (gv 1))) ga_nil))))
abbrev s63 : Stmt := top 63
abbrev N__law_open_cells : List Str := ["script", "stirred", "cell", "cells"]
theorem sc__law_open_cells : FnScope N__law_open_cells ["script"] (defScope s63) := ⟨rfl, rfl, rfl, by decide +kernel, rfl, by decide +kernel, by decide +kernel⟩
theorem g__law_open_cells {P : Program} {w : World} {K : PySem.W.Frag} {mg : Str → Option Value} {base : Heap} {f : Addr} {k : Nat} (m_int : mg "int" = none) (m_abs : mg "abs" = none) (cdv : Value) (A : Around) (outer : List Env) (s : Shared) (H : Hp) (E : XK) (hr : Room k (A.deeper (envOfC "_law_open_cells" (defScope s63) s.heap.objs.size f cdv))) :
    GSs (cxOf CX0 P w K mg base N__law_open_cells "_law_open_cells" (defScope s63) f cdv A outer s H E).nox (defBody s63) (t__law_open_cells) :=
  (gss_cons (gs_set sc__law_open_cells.nd ge_int) (gss_cons (gs_for (gi_frl (gv 0)) (gg_name sc__law_open_cells.nd) (gss_one (gs_set sc__law_open_cells.nd (ge_op gmod (ge_ct cInt m_int (by decide +kernel) (ga_cons (ge_op gadd (ge_op gadd (ge_op gmul (gv 1) ge_int) (ge_op gmul (gv 2) ge_int)) ge_int) ga_nil)) ge_int)))) (gss_cons (gs_setLc [("cell", 2)] sc__law_open_cells.nd (gi_frl (gv 0)) (blkOk_by rfl) (fun _ _ _ _ _ => (gw_name sc__law_open_cells.nd)) (fun _ _ _ _ _ => gts_nil) (fun _ _ _ _ _ => (ge_cb cAbs m_abs (by decide +kernel) (ga_cons (gv 2) ga_nil)))) (gss_one (gs_ret (ge_dispS (gps_cons (ge_revL (gv 3)) (gps_cons ge_int (gps_cons (gv 1) (gps_cons ge_int gps_nil))))))))))
abbrev s64 : Stmt := top 64
abbrev N__law_pick : List Str := ["source", "most", "cells", "others", "lap", "stirred"]
theorem sc__law_pick : FnScope N__law_pick ["source", "most"] (defScope s64) := ⟨rfl, rfl, rfl, by decide +kernel, rfl, by decide +kernel, by decide +kernel⟩
theorem g__law_pick {P : Program} {w : World} {K : PySem.W.Frag} {mg : Str → Option Value} {base : Heap} {f : Addr} {k : Nat} (m_len : mg "len" = none) (m_int : mg "int" = none) (cdv : Value) (A : Around) (outer : List Env) (s : Shared) (H : Hp) (E : XK) (hr : Room k (A.deeper (envOfC "_law_pick" (defScope s64) s.heap.objs.size f cdv))) :
    GSs (cxOf CX0 P w K mg base N__law_pick "_law_pick" (defScope s64) f cdv A outer s H E).nox (defBody s64) (t__law_pick) :=
  (gss_cons (gs_if (gt_cmp glt (gv 1) ge_int) (gss_one (gs_ret ge_int)) gss_nil) (gss_cons (gs_set sc__law_pick.nd (ge_getS hr.units (gv 0) ge_str)) (gss_cons (gs_while (GW.gt (gw_and (gt_cmp glt (ge_getS hr.units (gv 0) ge_str) ge_int) (gw_and1 (gt_cmp ggt (ge_cb cLen m_len (by decide +kernel) (ga_cons (gv 2) ga_nil)) ge_int)))) (gss_one (gs_asg (ge_bm0 PySem.F.slot_list_pop PySem.F.type_list_pop mpop (gv 2)) (gg_sub (gv 0) ge_str (setS hr.units))))) (gss_cons (gs_set sc__law_pick.nd (ge_getS hr.units (gv 0) ge_str)) (gss_cons (gs_if (gt_cmp ggt (gv 3) ge_int) (gss_cons (gs_asg (ge_op gfdiv (gv 3) (gv 1)) (gg_sub (gv 0) ge_str (setS hr.units))) (gss_one (gs_ret (ge_op gmod (ge_ct cInt m_int (by decide +kernel) (ga_cons (gv 3) ga_nil)) (gv 1))))) gss_nil) (gss_cons (gs_asg (ge_op gadd (ge_getS hr.units (gv 0) ge_str) ge_int) (gg_sub (gv 0) ge_str (setS hr.units))) (gss_cons (gs_set sc__law_pick.nd (ge_getS hr.units (gv 0) ge_str)) (gss_cons (gs_set sc__law_pick.nd (ge_op gmod (ge_ct cInt m_int (by decide +kernel) (ga_cons (ge_op gadd (ge_getS hr.units (gv 0) ge_str) (ge_op gmul (gv 4) ge_int)) ga_nil)) ge_int)) (gss_cons (gs_set sc__law_pick.nd (ge_op gmod (ge_ct cInt m_int (by decide +kernel) (ga_cons (ge_op gadd (ge_op gmul (gv 5) (gv 5)) (ge_op gmul (gv 4) ge_int)) ga_nil)) ge_int)) (gss_one (gs_ret (ge_op gmod (ge_ct cInt m_int (by decide +kernel) (ga_cons (ge_op gfdiv (gv 5) ge_int) ga_nil)) (gv 1)))))))))))))
abbrev s65 : Stmt := top 65
abbrev N__law_sides : List Str := ["cell", "x", "y"]
theorem sc__law_sides : FnScope N__law_sides ["cell"] (defScope s65) := ⟨rfl, rfl, rfl, by decide +kernel, rfl, by decide +kernel, by decide +kernel⟩
theorem g__law_sides {P : Program} {w : World} {K : PySem.W.Frag} {mg : Str → Option Value} {base : Heap} {f : Addr} {k : Nat} (cdv : Value) (A : Around) (outer : List Env) (s : Shared) (H : Hp) (E : XK) (hr : Room k (A.deeper (envOfC "_law_sides" (defScope s65) s.heap.objs.size f cdv))) :
    GSs (cxOf CX0 P w K mg base N__law_sides "_law_sides" (defScope s65) f cdv A outer s H E).nox (defBody s65) (t__law_sides) :=
  (gss_cons (gs_asg (gv 0) (gg_tup (ggs_cons (gg_name sc__law_sides.nd) (ggs_cons (gg_name sc__law_sides.nd) ggs_nil)))) (gss_one (gs_ret (ge_lst (ga_cons (ge_tup (ga_cons (ge_op gadd (gv 1) ge_int) (ga_cons (gv 2) ga_nil))) (ga_cons (ge_tup (ga_cons (gv 1) (ga_cons (ge_op gadd (gv 2) ge_int) ga_nil))) (ga_cons (ge_tup (ga_cons (ge_op gsub (gv 1) ge_int) (ga_cons (gv 2) ga_nil))) (ga_cons (ge_tup (ga_cons (gv 1) (ga_cons (ge_op gsub (gv 2) ge_int) ga_nil))) ga_nil))))))))
abbrev s66 : Stmt := top 66
abbrev N__law_field : List Str := ["room", "stall", "here", "found", "cell", "dx", "dy", "some", "rest", "x", "y", "late"]
theorem sc__law_field : FnScope N__law_field ["room", "stall"] (defScope s66) := ⟨rfl, rfl, rfl, by decide +kernel, rfl, by decide +kernel, by decide +kernel⟩
theorem g__law_field {P : Program} {w : World} {K : PySem.W.Frag} {mg : Str → Option Value} {base : Heap} {f : Addr} {k : Nat} (m_dict : mg "dict" = none) (m_tuple : mg "tuple" = none) (m_sorted : mg "sorted" = none) (m_list : mg "list" = none) (cdv : Value) (A : Around) (outer : List Env) (s : Shared) (H : Hp) (E : XK) (hr : Room k (A.deeper (envOfC "_law_field" (defScope s66) s.heap.objs.size f cdv))) :
    GSs (cxOf CX0 P w K mg base N__law_field "_law_field" (defScope s66) f cdv A outer s H E).nox (defBody s66) (t__law_field) :=
  (gss_cons (gs_par sc__law_field.nd (ga_cons (ge_ct (cDict rfl hr.units) m_dict (by decide +kernel) (ga_cons (ge_lc [("cell", 4)] sc__law_field.nd (gi_tup (gv 0)) (blkOk_by rfl) (fun _ _ _ _ _ => (gw_name sc__law_field.nd)) (fun _ _ _ _ _ => gts_nil) (fun _ _ _ _ _ => (ge_tup (ga_cons (gv 4) (ga_cons ge_int ga_nil))))) ga_nil)) (ga_cons (ge_disp1 hr.units (gv 1) ge_int) ga_nil))) (gss_cons (gs_for (gi_tup (ge_tup (ga_cons ge_int (ga_cons (ge_op gsub ge_int ge_int) ga_nil)))) (gg_name sc__law_field.nd) (gss_one (gs_for (gi_tup (ge_tup (ga_cons ge_int (ga_cons (ge_op gsub ge_int ge_int) ga_nil)))) (gg_name sc__law_field.nd) (gss_cons (gs_par sc__law_field.nd (ga_cons (ge_disp1 hr.units (gv 1) ge_int) (ga_cons (ge_lst (ga_cons (gv 1) ga_nil)) ga_nil))) (gss_one (gs_while (gt_cmp (op_neL hr.units) (gv 8) (ge_lst ga_nil)) (gss_cons (gs_asg (ge_bm0 PySem.F.slot_list_pop PySem.F.type_list_pop mpop (gv 8)) (gg_tup (ggs_cons (gg_name sc__law_field.nd) (ggs_cons (gg_name sc__law_field.nd) ggs_nil)))) (gss_one (gs_for (gi_tup (ge_tup (ga_cons (ge_tup (ga_cons (ge_op gadd (gv 9) (gv 5)) (ga_cons (gv 10) ga_nil))) (ga_cons (ge_tup (ga_cons (gv 9) (ga_cons (ge_op gadd (gv 10) (gv 6)) ga_nil))) ga_nil)))) (gg_name sc__law_field.nd) (gss_one (gs_if (GW.gt (gw_and (gt_cmp (op_inD hr.units) (gv 11) (gv 2)) (gw_and1 (gt_cmp (op_notinD hr.units) (gv 11) (gv 7))))) (gss_cons (gs_asg (ge_tup (ga_cons ge_int (ga_cons ge_int ga_nil))) (gg_tup (ggs_cons (gg_sub (gv 7) (gv 11) (setD hr.units)) (ggs_cons (gg_sub (gv 3) (gv 11) (setD hr.units)) ggs_nil)))) (gss_one (gs_expr (ge_bm PySem.F.slot_list_append PySem.F.type_list_append mapp (gv 8) (ga_cons (gv 11) ga_nil))))) gss_nil))))))))))) (gss_one (gs_ret (ge_ct cTuple m_tuple (by decide +kernel) (ga_cons (ge_cb (cSort rfl hr.units) m_sorted (by decide +kernel) (ga_cons (ge_ct (cListD rfl) m_list (by decide +kernel) (ga_cons (gv 3) ga_nil)) ga_nil)) ga_nil))))))
abbrev s67 : Stmt := top 67
abbrev N__law_goes : List Str := ["steps", "found", "step", "x", "y"]
theorem sc__law_goes : FnScope N__law_goes ["steps"] (defScope s67) := ⟨rfl, rfl, rfl, by decide +kernel, rfl, by decide +kernel, by decide +kernel⟩
theorem g__law_goes {P : Program} {w : World} {K : PySem.W.Frag} {mg : Str → Option Value} {base : Heap} {f : Addr} {k : Nat} (m_int : mg "int" = none) (cdv : Value) (A : Around) (outer : List Env) (s : Shared) (H : Hp) (E : XK) (hr : Room k (A.deeper (envOfC "_law_goes" (defScope s67) s.heap.objs.size f cdv))) :
    GSs (cxOf CX0 P w K mg base N__law_goes "_law_goes" (defScope s67) f cdv A outer s H E).nox (defBody s67) (t__law_goes) :=
  (gss_cons (gs_set sc__law_goes.nd (ge_lst (ga_cons (ge_tup (ga_cons ge_int (ga_cons ge_int ga_nil))) ga_nil))) (gss_cons (gs_for (gi_str (gv 0)) (gg_name sc__law_goes.nd) (gss_cons (gs_asg (ge_ix ixL (gv 1) (ge_un gnegG ge_int)) (gg_tup (ggs_cons (gg_name sc__law_goes.nd) (ggs_cons (gg_name sc__law_goes.nd) ggs_nil)))) (gss_one (gs_expr (ge_bm PySem.F.slot_list_append PySem.F.type_list_append mapp (gv 1) (ga_cons (ge_tup (ga_cons (ge_op gsub (ge_op gadd (gv 3) (ge_ct cInt m_int (by decide +kernel) (ga_cons (ge_cmp (op_eqG hr.units) (gv 2) ge_str) ga_nil))) (ge_ct cInt m_int (by decide +kernel) (ga_cons (ge_cmp (op_eqG hr.units) (gv 2) ge_str) ga_nil))) (ga_cons (ge_op gsub (ge_op gadd (gv 4) (ge_ct cInt m_int (by decide +kernel) (ga_cons (ge_cmp (op_eqG hr.units) (gv 2) ge_str) ga_nil))) (ge_ct cInt m_int (by decide +kernel) (ga_cons (ge_cmp (op_eqG hr.units) (gv 2) ge_str) ga_nil))) ga_nil))) ga_nil)))))) (gss_one (gs_ret (gv 1)))))
abbrev s68 : Stmt := top 68
abbrev N__law_is_corridor : List Str := ["steps", "cells", "number", "i", "cell", "late"]
theorem sc__law_is_corridor : FnScope N__law_is_corridor ["steps"] (defScope s68) := ⟨rfl, rfl, rfl, by decide +kernel, rfl, by decide +kernel, by decide +kernel⟩
theorem g__law_is_corridor {P : Program} {w : World} {K : PySem.W.Frag} {mg : Str → Option Value} {base : Heap} {f : Addr} {k : Nat} {sp__law_goes : GSp} (F__law_goes : FU P w K mg base k "_law_goes" 1 sp__law_goes) {sp__law_sides : GSp} (F__law_sides : FU P w K mg base k "_law_sides" 1 sp__law_sides) (m_len : mg "len" = none) (m_set : mg "set" = none) (m_dict : mg "dict" = none) (m_enumerate : mg "enumerate" = none) (m_abs : mg "abs" = none) (cdv : Value) (A : Around) (outer : List Env) (s : Shared) (H : Hp) (E : XK) (hr : Room k (A.deeper (envOfC "_law_is_corridor" (defScope s68) s.heap.objs.size f cdv))) :
    GSs (cxOf CX0 P w K mg base N__law_is_corridor "_law_is_corridor" (defScope s68) f cdv A outer s H E).nox (defBody s68) (t__law_is_corridor sp__law_goes sp__law_sides) :=
  (gss_cons (gs_set sc__law_is_corridor.nd (ge_callU F__law_goes hr (ga_cons (gv 0) ga_nil))) (gss_cons (gs_if (gt_cmp (op_neG hr.units) (ge_lenSet rfl hr.units (gv 1) m_len m_set) (ge_cb cLen m_len (by decide +kernel) (ga_cons (gv 1) ga_nil))) (gss_one (gs_ret ge_bl)) gss_nil) (gss_cons (gs_set sc__law_is_corridor.nd (ge_ct (cDict rfl hr.units) m_dict (by decide +kernel) (ga_cons (ge_lc [("i", 3), ("cell", 4)] sc__law_is_corridor.nd (gi_enumL rfl m_enumerate (ga_cons (gv 1) ga_nil)) (blkOk_by rfl) (fun _ _ _ _ _ => (gw_tup (gws_cons (gw_name sc__law_is_corridor.nd) (gws_cons (gw_name sc__law_is_corridor.nd) gws_nil)))) (fun _ _ _ _ _ => gts_nil) (fun _ _ _ _ _ => (ge_tup (ga_cons (gv 4) (ga_cons (gv 3) ga_nil))))) ga_nil))) (gss_cons (gs_for (gi_enumL rfl m_enumerate (ga_cons (gv 1) ga_nil)) (gg_tup (ggs_cons (gg_name sc__law_is_corridor.nd) (ggs_cons (gg_name sc__law_is_corridor.nd) ggs_nil))) (gss_one (gs_if (gt_cmp (op_neL hr.units) (ge_lc [("late", 5)] sc__law_is_corridor.nd (gi_list (ge_callU F__law_sides hr (ga_cons (gv 4) ga_nil))) (blkOk_by rfl) (fun _ _ _ _ _ => (gw_name sc__law_is_corridor.nd)) (fun _ _ _ _ _ => (gts_one (gt_cmp ggt (ge_cb cAbs m_abs (by decide +kernel) (ga_cons (ge_op gsub (ge_dm PySem.F.slot_dict_get PySem.F.type_dict_get (mgetOrD hr.units) (gv 2) (ga_cons (gv 5) (ga_cons (gv 3) ga_nil))) (gv 3)) ga_nil)) ge_int))) (fun _ _ _ _ _ => (gv 5))) (ge_lst ga_nil)) (gss_one (gs_ret ge_bl)) gss_nil))) (gss_one (gs_ret ge_bl))))))
abbrev s69 : Stmt := top 69
abbrev N__law_draw_corridor : List Str := ["source", "most", "steps", "lap", "late"]
theorem sc__law_draw_corridor : FnScope N__law_draw_corridor ["source", "most"] (defScope s69) := ⟨rfl, rfl, rfl, by decide +kernel, rfl, by decide +kernel, by decide +kernel⟩
theorem g__law_draw_corridor {P : Program} {w : World} {K : PySem.W.Frag} {mg : Str → Option Value} {base : Heap} {f : Addr} {k : Nat} {sp__law_pick : GSp} (F__law_pick : FU P w K mg base k "_law_pick" 2 sp__law_pick) {sp__law_is_corridor : GSp} (F__law_is_corridor : FU P w K mg base k "_law_is_corridor" 1 sp__law_is_corridor) (m_range : mg "range" = none) (cdv : Value) (A : Around) (outer : List Env) (s : Shared) (H : Hp) (E : XK) (hr : Room k (A.deeper (envOfC "_law_draw_corridor" (defScope s69) s.heap.objs.size f cdv))) :
    GSs (cxOf CX0 P w K mg base N__law_draw_corridor "_law_draw_corridor" (defScope s69) f cdv A outer s H E).nox (defBody s69) (t__law_draw_corridor sp__law_pick sp__law_is_corridor) :=
  (gss_cons (gs_set sc__law_draw_corridor.nd ge_str) (gss_cons (gs_for (gi_rng rfl m_range (ga_cons (ge_callU F__law_pick hr (ga_cons (gv 0) (ga_cons (ge_op gadd (gv 1) ge_int) ga_nil))) ga_nil)) (gg_name sc__law_draw_corridor.nd) (gss_cons (gs_set sc__law_draw_corridor.nd (ge_op gcatS (gv 2) (ge_if (GW.gt (gw_and (gt_cmp (op_eqG hr.units) (ge_callU F__law_pick hr (ga_cons (gv 0) (ga_cons ge_int ga_nil))) ge_int) (gw_and1 (gt_cmp (op_neG hr.units) (gv 2) ge_str)))) (ge_sliceX (gv 2) (go_some (ge_un gnegG ge_int)) go_none) (ge_ix ixX ge_str (ge_callU F__law_pick hr (ga_cons (gv 0) (ga_cons ge_int ga_nil))))))) (gss_one (gs_set sc__law_draw_corridor.nd (ge_if (gt_val (ge_callU F__law_is_corridor hr (ga_cons (gv 4) ga_nil))) (gv 4) (gv 2)))))) (gss_one (gs_ret (gv 2)))))
abbrev s70 : Stmt := top 70
abbrev N__law_is_plain : List Str := ["steps"]
theorem sc__law_is_plain : FnScope N__law_is_plain ["steps"] (defScope s70) := ⟨rfl, rfl, rfl, by decide +kernel, rfl, by decide +kernel, by decide +kernel⟩
theorem g__law_is_plain {P : Program} {w : World} {K : PySem.W.Frag} {mg : Str → Option Value} {base : Heap} {f : Addr} {k : Nat} (cdv : Value) (A : Around) (outer : List Env) (s : Shared) (H : Hp) (E : XK) (hr : Room k (A.deeper (envOfC "_law_is_plain" (defScope s70) s.heap.objs.size f cdv))) :
    GSs (cxOf CX0 P w K mg base N__law_is_plain "_law_is_plain" (defScope s70) f cdv A outer s H E).nox (defBody s70) (t__law_is_plain) :=
  (gss_one (gs_ret (ge_and (ge_not (ge_and (ge_cmp op_inX ge_str (gv 0)) (ge_one (ge_cmp op_inX ge_str (gv 0))))) (ge_one (ge_not (ge_and (ge_cmp op_inX ge_str (gv 0)) (ge_one (ge_cmp op_inX ge_str (gv 0)))))))))
abbrev s71 : Stmt := top 71
abbrev N__law_turns : List Str := ["steps", "found", "i", "lap", "last", "j"]
theorem sc__law_turns : FnScope N__law_turns ["steps"] (defScope s71) := ⟨rfl, rfl, rfl, by decide +kernel, rfl, by decide +kernel, by decide +kernel⟩
theorem g__law_turns {P : Program} {w : World} {K : PySem.W.Frag} {mg : Str → Option Value} {base : Heap} {f : Addr} {k : Nat} {sp__law_is_plain : GSp} (F__law_is_plain : FU P w K mg base k "_law_is_plain" 1 sp__law_is_plain) (m_range : mg "range" = none) (m_len : mg "len" = none) (m_max : mg "max" = none) (cdv : Value) (A : Around) (outer : List Env) (s : Shared) (H : Hp) (E : XK) (hr : Room k (A.deeper (envOfC "_law_turns" (defScope s71) s.heap.objs.size f cdv))) :
    GSs (cxOf CX0 P w K mg base N__law_turns "_law_turns" (defScope s71) f cdv A outer s H E).nox (defBody s71) (t__law_turns sp__law_is_plain) :=
  (gss_cons (gs_par sc__law_turns.nd (ga_cons (ge_lst ga_nil) (ga_cons ge_int ga_nil))) (gss_cons (gs_for (gi_rng rfl m_range (ga_cons (ge_op gadd (ge_cb cLen m_len (by decide +kernel) (ga_cons (gv 0) ga_nil)) ge_int) ga_nil)) (gg_name sc__law_turns.nd) (gss_cons (gs_if (gt_cmp ggt (gv 2) (ge_cb cLen m_len (by decide +kernel) (ga_cons (gv 0) ga_nil))) (gss_one gs_break) gss_nil) (gss_cons (gs_set sc__law_turns.nd (gv 2)) (gss_cons (gs_for (gi_rng2 rfl m_range (ga_cons (gv 2) (ga_cons (ge_op gadd (ge_cb cLen m_len (by decide +kernel) (ga_cons (gv 0) ga_nil)) ge_int) ga_nil))) (gg_name sc__law_turns.nd) (gss_one (gs_set sc__law_turns.nd (ge_if (gt_val (ge_callU F__law_is_plain hr (ga_cons (ge_sliceX (gv 0) (go_some (gv 2)) (go_some (gv 5))) ga_nil))) (gv 5) (gv 4))))) (gss_cons (gs_expr (ge_bm PySem.F.slot_list_append PySem.F.type_list_append mapp (gv 1) (ga_cons (ge_tup (ga_cons (gv 2) (ga_cons (gv 4) ga_nil))) ga_nil))) (gss_one (gs_set sc__law_turns.nd (ge_op gadd (ge_cb (cMax rfl) m_max (by decide +kernel) (ga_cons (ge_lc [("j", 5)] sc__law_turns.nd (gi_rng2 rfl m_range (ga_cons (gv 4) (ga_cons (ge_op gadd (ge_cb cLen m_len (by decide +kernel) (ga_cons (gv 0) ga_nil)) ge_int) ga_nil))) (blkOk_by rfl) (fun _ _ _ _ _ => (gw_name sc__law_turns.nd)) (fun _ _ _ _ _ => (gts_one (gt_val (ge_callU F__law_is_plain hr (ga_cons (ge_sliceX (gv 0) (go_some (gv 4)) (go_some (gv 5))) ga_nil))))) (fun _ _ _ _ _ => (gv 5))) ga_nil)) ge_int)))))))) (gss_one (gs_ret (gv 1)))))
abbrev s72 : Stmt := top 72
abbrev N_law : List Str := ["script", "source", "steps", "cells", "room", "due", "stalls", "spot", "stall", "spots", "told", "lap", "i", "j", "between", "way", "served", "k", "cell"]
theorem sc_law : FnScope N_law ["script"] (defScope s72) := ⟨rfl, rfl, rfl, by decide +kernel, rfl, by decide +kernel, by decide +kernel⟩
theorem g_law {P : Program} {w : World} {K : PySem.W.Frag} {mg : Str → Option Value} {base : Heap} {f : Addr} {k : Nat} {sp__law_open_cells : GSp} (F__law_open_cells : FU P w K mg base k "_law_open_cells" 1 sp__law_open_cells) {sp__law_draw_corridor : GSp} (F__law_draw_corridor : FU P w K mg base k "_law_draw_corridor" 2 sp__law_draw_corridor) {sp_corridor_cells : GSp} (F_corridor_cells : FU P w K mg base k "corridor_cells" 1 sp_corridor_cells) {sp_corridor : GSp} (F_corridor : FU P w K mg base k "corridor" 1 sp_corridor) {sp__law_goes : GSp} (F__law_goes : FU P w K mg base k "_law_goes" 1 sp__law_goes) {sp__law_turns : GSp} (F__law_turns : FU P w K mg base k "_law_turns" 1 sp__law_turns) {sp_corridor_stalls : GSp} (F_corridor_stalls : FU P w K mg base k "corridor_stalls" 1 sp_corridor_stalls) {sp_corridor_spots : GSp} (F_corridor_spots : FU P w K mg base k "corridor_spots" 1 sp_corridor_spots) {sp_answer : GSp} (F_answer : FU P w K mg base k "answer" 1 sp_answer) {sp_fewest : GSp} (F_fewest : FU P w K mg base k "fewest" 2 sp_fewest) {sp_judge_answer : GSp} (F_judge_answer : FU P w K mg base k "judge_answer" 3 sp_judge_answer) {sp_judge_stalls : GSp} (F_judge_stalls : FU P w K mg base k "judge_stalls" 3 sp_judge_stalls) {sp_judge_spots : GSp} (F_judge_spots : FU P w K mg base k "judge_spots" 3 sp_judge_spots) {sp__law_pick : GSp} (F__law_pick : FU P w K mg base k "_law_pick" 2 sp__law_pick) {sp_first_way : GSp} (F_first_way : FU P w K mg base k "first_way" 3 sp_first_way) {sp_serves : GSp} (F_serves : FU P w K mg base k "serves" 3 sp_serves) {sp__law_is_plain : GSp} (F__law_is_plain : FU P w K mg base k "_law_is_plain" 1 sp__law_is_plain) {sp_ways_many : GSp} (F_ways_many : FU P w K mg base k "ways_many" 3 sp_ways_many) {sp_field : GSp} (F_field : FU P w K mg base k "field" 2 sp_field) {sp__law_field : GSp} (F__law_field : FU P w K mg base k "_law_field" 2 sp__law_field) (m_list : mg "list" = none) (m_sorted : mg "sorted" = none) (m_tuple : mg "tuple" = none) (m_len : mg "len" = none) (m_range : mg "range" = none) (m_min : mg "min" = none) (m_max : mg "max" = none) (m_repr : mg "repr" = none) (m_enumerate : mg "enumerate" = none) (cdv : Value) (A : Around) (outer : List Env) (s : Shared) (H : Hp) (E : XK) (hr : Room k (A.deeper (envOfC "law" (defScope s72) s.heap.objs.size f cdv))) :
    GSs (cxOf CX0 P w K mg base N_law "law" (defScope s72) f cdv A outer s H E).nox (defBody s72) (t_law sp__law_open_cells sp__law_draw_corridor sp_corridor_cells sp_corridor sp__law_goes sp__law_turns sp_corridor_stalls sp_corridor_spots sp_answer sp_fewest sp_judge_answer sp_judge_stalls sp_judge_spots sp__law_pick sp_first_way sp_serves sp__law_is_plain sp_ways_many sp_field sp__law_field) :=
  (gss_cons (gs_set sc_law.nd (ge_callU F__law_open_cells hr (ga_cons (gv 0) ga_nil))) (gss_cons (gs_set sc_law.nd (ge_callU F__law_draw_corridor hr (ga_cons (gv 1) (ga_cons ge_int ga_nil)))) (gss_cons (gs_asg (ge_tup (ga_cons (ge_callU F_corridor_cells hr (ga_cons (gv 2) ga_nil)) (ga_cons (ge_callU F_corridor hr (ga_cons (gv 2) ga_nil)) ga_nil))) (gg_tup (ggs_cons (gg_name sc_law.nd) (ggs_cons (gg_name sc_law.nd) ggs_nil)))) (gss_cons (gs_if (GW.gt (gw_or (gt_cmp (op_neL hr.units) (ge_ct cList m_list (by decide +kernel) (ga_cons (gv 3) ga_nil)) (ge_callU F__law_goes hr (ga_cons (gv 2) ga_nil))) (gw_or1 (gt_cmp (op_neL hr.units) (ge_ct cList m_list (by decide +kernel) (ga_cons (gv 4) ga_nil)) (ge_cb (cSort rfl hr.units) m_sorted (by decide +kernel) (ga_cons (ge_callU F__law_goes hr (ga_cons (gv 2) ga_nil)) ga_nil)))))) (gss_one (gs_ret ge_bl)) gss_nil) (gss_cons (gs_set sc_law.nd (ge_callU F__law_turns hr (ga_cons (gv 2) ga_nil))) (gss_cons (gs_set sc_law.nd (ge_ct cTuple m_tuple (by decide +kernel) (ga_cons (ge_cb (cSort rfl hr.units) m_sorted (by decide +kernel) (ga_cons (ge_lc [("spot", 7), ("stall", 8)] sc_law.nd (gi_list (gv 5)) (blkOk_by rfl) (fun _ _ _ _ _ => (gw_tup (gws_cons (gw_name sc_law.nd) (gws_cons (gw_name sc_law.nd) gws_nil)))) (fun _ _ _ _ _ => gts_nil) (fun _ _ _ _ _ => (ge_ix ixT (gv 3) (gv 8)))) ga_nil)) ga_nil))) (gss_cons (gs_set sc_law.nd (ge_ct cTuple m_tuple (by decide +kernel) (ga_cons (ge_cb (cSort rfl hr.units) m_sorted (by decide +kernel) (ga_cons (ge_lc [("spot", 7), ("stall", 8)] sc_law.nd (gi_list (gv 5)) (blkOk_by rfl) (fun _ _ _ _ _ => (gw_tup (gws_cons (gw_name sc_law.nd) (gws_cons (gw_name sc_law.nd) gws_nil)))) (fun _ _ _ _ _ => gts_nil) (fun _ _ _ _ _ => (ge_ix ixT (gv 3) (gv 7)))) ga_nil)) ga_nil))) (gss_cons (gs_if (gt_cmp (op_neG hr.units) (ge_callU F_corridor_stalls hr (ga_cons (gv 2) ga_nil)) (ge_ct cTuple m_tuple (by decide +kernel) (ga_cons (ge_lc [("spot", 7), ("stall", 8)] sc_law.nd (gi_list (gv 5)) (blkOk_by rfl) (fun _ _ _ _ _ => (gw_tup (gws_cons (gw_name sc_law.nd) (gws_cons (gw_name sc_law.nd) gws_nil)))) (fun _ _ _ _ _ => gts_nil) (fun _ _ _ _ _ => (gv 8))) ga_nil))) (gss_one (gs_ret ge_bl)) gss_nil) (gss_cons (gs_if (gt_cmp (op_neG hr.units) (ge_callU F_corridor_spots hr (ga_cons (gv 2) ga_nil)) (ge_ct cTuple m_tuple (by decide +kernel) (ga_cons (ge_lc [("spot", 7), ("stall", 8)] sc_law.nd (gi_list (gv 5)) (blkOk_by rfl) (fun _ _ _ _ _ => (gw_tup (gws_cons (gw_name sc_law.nd) (gws_cons (gw_name sc_law.nd) gws_nil)))) (fun _ _ _ _ _ => gts_nil) (fun _ _ _ _ _ => (gv 7))) ga_nil))) (gss_one (gs_ret ge_bl)) gss_nil) (gss_cons (gs_set sc_law.nd (ge_callU F_answer hr (ga_cons (gv 4) ga_nil))) (gss_cons (gs_if (GW.gt (gw_or (gt_cmp (op_neG hr.units) (ge_cb cLen m_len (by decide +kernel) (ga_cons (ge_ix ixT (gv 10) ge_int) ga_nil)) (ge_cb cLen m_len (by decide +kernel) (ga_cons (gv 5) ga_nil))) (gw_or (gt_cmp (op_neG hr.units) (ge_cb cLen m_len (by decide +kernel) (ga_cons (ge_ix ixT (gv 10) ge_int) ga_nil)) (ge_cb cLen m_len (by decide +kernel) (ga_cons (gv 5) ga_nil))) (gw_or1 (gt_cmp (op_neG hr.units) (ge_callU F_fewest hr (ga_cons (gv 4) (ga_cons (gv 4) ga_nil))) (ge_cb cLen m_len (by decide +kernel) (ga_cons (gv 5) ga_nil))))))) (gss_one (gs_ret ge_bl)) gss_nil) (gss_cons (gs_if (GW.gt (gw_or (gt_cmp gnotN (ge_callU F_judge_answer hr (ga_cons (gv 4) (ga_cons (gv 4) (ga_cons (ge_tup (ga_cons (gv 6) (ga_cons (gv 9) ga_nil))) ga_nil)))) ge_non) (gw_or1 (gt_cmp gnotN (ge_callU F_judge_answer hr (ga_cons (gv 4) (ga_cons (gv 4) (ga_cons (gv 10) ga_nil)))) ge_non)))) (gss_one (gs_ret ge_bl)) gss_nil) (gss_cons (gs_if (GW.gt (gw_or (gt_cmp gnotN (ge_callU F_judge_stalls hr (ga_cons (gv 4) (ga_cons (gv 4) (ga_cons (gv 6) ga_nil)))) ge_non) (gw_or1 (gt_cmp gnotN (ge_callU F_judge_spots hr (ga_cons (gv 4) (ga_cons (gv 4) (ga_cons (gv 9) ga_nil)))) ge_non)))) (gss_one (gs_ret ge_bl)) gss_nil) (gss_cons (gs_for (gi_rng rfl m_range (ga_cons ge_int ga_nil)) (gg_name sc_law.nd) (gss_cons (gs_asg (ge_tup (ga_cons (ge_callU F__law_pick hr (ga_cons (gv 1) (ga_cons (ge_cb cLen m_len (by decide +kernel) (ga_cons (gv 3) ga_nil)) ga_nil))) (ga_cons (ge_callU F__law_pick hr (ga_cons (gv 1) (ga_cons (ge_cb cLen m_len (by decide +kernel) (ga_cons (gv 3) ga_nil)) ga_nil))) ga_nil))) (gg_tup (ggs_cons (gg_name sc_law.nd) (ggs_cons (gg_name sc_law.nd) ggs_nil)))) (gss_cons (gs_set sc_law.nd (ge_sliceX (gv 2) (go_some (ge_cb (cMin2 rfl) m_min (by decide +kernel) (ga_cons (gv 12) (ga_cons (gv 13) ga_nil)))) (go_some (ge_cb (cMax2 rfl) m_max (by decide +kernel) (ga_cons (gv 12) (ga_cons (gv 13) ga_nil)))))) (gss_cons (gs_set sc_law.nd (ge_callU F_first_way hr (ga_cons (gv 4) (ga_cons (ge_ix ixT (gv 3) (ge_cb (cMin2 rfl) m_min (by decide +kernel) (ga_cons (gv 12) (ga_cons (gv 13) ga_nil)))) (ga_cons (ge_ix ixT (gv 3) (ge_cb (cMax2 rfl) m_max (by decide +kernel) (ga_cons (gv 12) (ga_cons (gv 13) ga_nil)))) ga_nil))))) (gss_cons (gs_if (gt_cmp (op_neG hr.units) (ge_cb cReprB m_repr (by decide +kernel) (ga_cons (ge_callU F_serves hr (ga_cons (gv 4) (ga_cons (ge_ix ixT (gv 3) (gv 12)) (ga_cons (ge_ix ixT (gv 3) (gv 13)) ga_nil)))) ga_nil)) (ge_cb cReprB m_repr (by decide +kernel) (ga_cons (ge_callU F__law_is_plain hr (ga_cons (gv 14) ga_nil)) ga_nil))) (gss_one (gs_ret ge_bl)) gss_nil) (gss_cons (gs_if (gt_cmp (op_neG hr.units) (gv 15) (ge_if (gt_val (ge_callU F__law_is_plain hr (ga_cons (gv 14) ga_nil))) (gv 14) ge_non)) (gss_one (gs_ret ge_bl)) gss_nil) (gss_cons (gs_if (gt_cmp (op_neG hr.units) (ge_callU F_ways_many hr (ga_cons (gv 4) (ga_cons (ge_ix ixT (gv 3) (gv 12)) (ga_cons (ge_ix ixT (gv 3) (gv 13)) ga_nil)))) (ge_if (gt_val (ge_callU F__law_is_plain hr (ga_cons (gv 14) ga_nil))) ge_int ge_int)) (gss_one (gs_ret ge_bl)) gss_nil) (gss_cons (gs_setLc [("k", 17), ("cell", 18)] sc_law.nd (gi_enumT rfl m_enumerate (ga_cons (gv 3) ga_nil)) (blkOk_by rfl) (fun _ _ _ _ _ => (gw_tup (gws_cons (gw_name sc_law.nd) (gws_cons (gw_name sc_law.nd) gws_nil)))) (fun _ _ _ _ _ => (gts_one (gt_val (ge_callU F__law_is_plain hr (ga_cons (ge_sliceX (gv 2) (go_some (ge_cb (cMin2 rfl) m_min (by decide +kernel) (ga_cons (gv 12) (ga_cons (gv 17) ga_nil)))) (go_some (ge_cb (cMax2 rfl) m_max (by decide +kernel) (ga_cons (gv 12) (ga_cons (gv 17) ga_nil))))) ga_nil))))) (fun _ _ _ _ _ => (gv 18))) (gss_one (gs_if (GW.gt (gw_or (gt_cmp (op_neL hr.units) (ge_ct cList m_list (by decide +kernel) (ga_cons (ge_callU F_field hr (ga_cons (gv 4) (ga_cons (ge_ix ixT (gv 3) (gv 12)) ga_nil))) ga_nil)) (ge_cb (cSort rfl hr.units) m_sorted (by decide +kernel) (ga_cons (gv 16) ga_nil))) (gw_or1 (gt_cmp (op_neG hr.units) (ge_callU F_field hr (ga_cons (gv 4) (ga_cons (ge_ix ixT (gv 3) (gv 12)) ga_nil))) (ge_callU F__law_field hr (ga_cons (gv 4) (ga_cons (ge_ix ixT (gv 3) (gv 12)) ga_nil))))))) (gss_one (gs_ret ge_bl)) gss_nil)))))))))) (gss_one (gs_ret ge_bl))))))))))))))))
end Hd
set_option Elab.async false
set_option linter.all false
set_option maxRecDepth 100000
set_option maxHeartbeats 0
namespace Hd
open PySem PySem.Spec PyProof.Rows L2 G
def d1 : He.DefD := ⟨("moves", none), "moves", "moves", defArgs s1, defBody s1, defScope s1, [], []⟩
def d2 : He.DefD := ⟨("trail", none), "trail", "trail", defArgs s2, defBody s2, defScope s2, [], []⟩
def d3 : He.DefD := ⟨("signs_between", none), "signs_between", "signs_between", defArgs s3, defBody s3, defScope s3, [], []⟩
def d4 : He.DefD := ⟨("numbers_to", none), "numbers_to", "numbers_to", defArgs s4, defBody s4, defScope s4, [], []⟩
def d5 : He.DefD := ⟨("ways_many", none), "ways_many", "ways_many", defArgs s5, defBody s5, defScope s5, [], []⟩
def d6 : He.DefD := ⟨("way_at", none), "way_at", "way_at", defArgs s6, defBody s6, defScope s6, [], []⟩
def d7 : He.DefD := ⟨("first_way", none), "first_way", "first_way", defArgs s7, defBody s7, defScope s7, [], []⟩
def d8 : He.DefD := ⟨("serves", none), "serves", "serves", defArgs s8, defBody s8, defScope s8, [], []⟩
def d10 : He.DefD := ⟨("corner_field", none), "corner_field", "corner_field", defArgs s10, defBody s10, defScope s10, [], []⟩
def d11 : He.DefD := ⟨("corner_fields", none), "corner_fields", "corner_fields", defArgs s11, defBody s11, defScope s11, [], []⟩
def d12 : He.DefD := ⟨("field", none), "field", "field", defArgs s12, defBody s12, defScope s12, [], []⟩
def d13 : He.DefD := ⟨("common_stalls", none), "common_stalls", "common_stalls", defArgs s13, defBody s13, defScope s13, [], []⟩
def d14 : He.DefD := ⟨("are_tied", none), "are_tied", "are_tied", defArgs s14, defBody s14, defScope s14, [], []⟩
def d15 : He.DefD := ⟨("is_within", none), "is_within", "is_within", defArgs s15, defBody s15, defScope s15, [], []⟩
def d16 : He.DefD := ⟨("hard_of", none), "hard_of", "hard_of", defArgs s16, defBody s16, defScope s16, [], []⟩
def d17 : He.DefD := ⟨("hard_in", none), "hard_in", "hard_in", defArgs s17, defBody s17, defScope s17, [], []⟩
def d18 : He.DefD := ⟨("lit", none), "lit", "lit", defArgs s18, defBody s18, defScope s18, [], []⟩
def d19 : He.DefD := ⟨("dark_in", none), "dark_in", "dark_in", defArgs s19, defBody s19, defScope s19, [], []⟩
def d21 : He.DefD := ⟨("is_integer", none), "is_integer", "is_integer", defArgs s21, defBody s21, defScope s21, [], []⟩
def d22 : He.DefD := ⟨("is_cell", none), "is_cell", "is_cell", defArgs s22, defBody s22, defScope s22, [], []⟩
def d23 : He.DefD := ⟨("is_lot", none), "is_lot", "is_lot", defArgs s23, defBody s23, defScope s23, [], []⟩
def d24 : He.DefD := ⟨("taken_out", none), "taken_out", "taken_out", defArgs s24, defBody s24, defScope s24, [], []⟩
def d25 : He.DefD := ⟨("lies_in", none), "lies_in", "lies_in", defArgs s25, defBody s25, defScope s25, [], []⟩
def d27 : He.DefD := ⟨("pairs_of", none), "pairs_of", "pairs_of", defArgs s27, defBody s27, defScope s27, [], []⟩
def d28 : He.DefD := ⟨("web_of", none), "web_of", "web_of", defArgs s28, defBody s28, defScope s28, [], []⟩
def d29 : He.DefD := ⟨("contrary", none), "contrary", "contrary", defArgs s29, defBody s29, defScope s29, [], []⟩
def d30 : He.DefD := ⟨("next_table", none), "next_table", "next_table", defArgs s30, defBody s30, defScope s30, [], []⟩
def d31 : He.DefD := ⟨("are_next", none), "are_next", "are_next", defArgs s31, defBody s31, defScope s31, [], []⟩
def d32 : He.DefD := ⟨("is_reached", none), "is_reached", "is_reached", defArgs s32, defBody s32, defScope s32, [], []⟩
def d33 : He.DefD := ⟨("first_two_pair", none), "first_two_pair", "first_two_pair", defArgs s33, defBody s33, defScope s33, [], []⟩
def d34 : He.DefD := ⟨("all_next", none), "all_next", "all_next", defArgs s34, defBody s34, defScope s34, [], []⟩
def d36 : He.DefD := ⟨("joined", none), "joined", "joined", defArgs s36, defBody s36, defScope s36, [], []⟩
def d37 : He.DefD := ⟨("webs_ahead", none), "webs_ahead", "webs_ahead", defArgs s37, defBody s37, defScope s37, [], []⟩
def d38 : He.DefD := ⟨("groups", none), "groups", "groups", defArgs s38, defBody s38, defScope s38, [], []⟩
def d39 : He.DefD := ⟨("log_of", none), "log_of", "log_of", defArgs s39, defBody s39, defScope s39, [], []⟩
def d42 : He.DefD := ⟨("knot_back", none), "knot_back", "knot_back", defArgs s42, defBody s42, defScope s42, [], []⟩
def d43 : He.DefD := ⟨("split_of", none), "split_of", "split_of", defArgs s43, defBody s43, defScope s43, [], []⟩
def d45 : He.DefD := ⟨("answer_for", none), "answer_for", "answer_for", defArgs s45, defBody s45, defScope s45, [], []⟩
def d46 : He.DefD := ⟨("answer", none), "answer", "answer", defArgs s46, defBody s46, defScope s46, [], []⟩
def d47 : He.DefD := ⟨("fewest", none), "fewest", "fewest", defArgs s47, defBody s47, defScope s47, [], []⟩
def d48 : He.DefD := ⟨("is_lot_in", none), "is_lot_in", "is_lot_in", defArgs s48, defBody s48, defScope s48, [], []⟩
def d49 : He.DefD := ⟨("dark_fault", none), "dark_fault", "dark_fault", defArgs s49, defBody s49, defScope s49, [], []⟩
def d50 : He.DefD := ⟨("spots_fault", none), "spots_fault", "spots_fault", defArgs s50, defBody s50, defScope s50, [], []⟩
def d51 : He.DefD := ⟨("judge_answer", none), "judge_answer", "judge_answer", defArgs s51, defBody s51, defScope s51, [], []⟩
def d52 : He.DefD := ⟨("judge_stalls", none), "judge_stalls", "judge_stalls", defArgs s52, defBody s52, defScope s52, [], []⟩
def d53 : He.DefD := ⟨("judge_spots", none), "judge_spots", "judge_spots", defArgs s53, defBody s53, defScope s53, [], []⟩
def d55 : He.DefD := ⟨("corridor_cells", none), "corridor_cells", "corridor_cells", defArgs s55, defBody s55, defScope s55, [], []⟩
def d56 : He.DefD := ⟨("corridor", none), "corridor", "corridor", defArgs s56, defBody s56, defScope s56, [], []⟩
def d57 : He.DefD := ⟨("is_plain", none), "is_plain", "is_plain", defArgs s57, defBody s57, defScope s57, [], []⟩
def d58 : He.DefD := ⟨("corridor_stretch", none), "corridor_stretch", "corridor_stretch", defArgs s58, defBody s58, defScope s58, [], []⟩
def d59 : He.DefD := ⟨("corridor_turns", none), "corridor_turns", "corridor_turns", defArgs s59, defBody s59, defScope s59, [], []⟩
def d60 : He.DefD := ⟨("corridor_stalls", none), "corridor_stalls", "corridor_stalls", defArgs s60, defBody s60, defScope s60, [], []⟩
def d61 : He.DefD := ⟨("corridor_spots", none), "corridor_spots", "corridor_spots", defArgs s61, defBody s61, defScope s61, [], []⟩
def d63 : He.DefD := ⟨("_law_open_cells", none), "_law_open_cells", "_law_open_cells", defArgs s63, defBody s63, defScope s63, [], []⟩
def d64 : He.DefD := ⟨("_law_pick", none), "_law_pick", "_law_pick", defArgs s64, defBody s64, defScope s64, [], []⟩
def d65 : He.DefD := ⟨("_law_sides", none), "_law_sides", "_law_sides", defArgs s65, defBody s65, defScope s65, [], []⟩
def d66 : He.DefD := ⟨("_law_field", none), "_law_field", "_law_field", defArgs s66, defBody s66, defScope s66, [], []⟩
def d67 : He.DefD := ⟨("_law_goes", none), "_law_goes", "_law_goes", defArgs s67, defBody s67, defScope s67, [], []⟩
def d68 : He.DefD := ⟨("_law_is_corridor", none), "_law_is_corridor", "_law_is_corridor", defArgs s68, defBody s68, defScope s68, [], []⟩
def d69 : He.DefD := ⟨("_law_draw_corridor", none), "_law_draw_corridor", "_law_draw_corridor", defArgs s69, defBody s69, defScope s69, [], []⟩
def d70 : He.DefD := ⟨("_law_is_plain", none), "_law_is_plain", "_law_is_plain", defArgs s70, defBody s70, defScope s70, [], []⟩
def d71 : He.DefD := ⟨("_law_turns", none), "_law_turns", "_law_turns", defArgs s71, defBody s71, defScope s71, [], []⟩
def d72 : He.DefD := ⟨("law", none), "law", "law", defArgs s72, defBody s72, defScope s72, [], []⟩
def fn : List He.DefD := [d1, d2, d3, d4, d5, d6, d7, d8, d10, d11, d12, d13, d14, d15, d16, d17, d18, d19, d21, d22] ++ [d23, d24, d25, d27, d28, d29, d30, d31, d32, d33, d34, d36, d37, d38, d39, d42, d43, d45, d46, d47] ++ [d48, d49, d50, d51, d52, d53, d55, d56, d57, d58, d59, d60, d61, d63, d64, d65, d66, d67, d68, d69] ++ [d70, d71, d72]
def fa : List He.Fa := [.glo "moves", .glo "trail", .glo "signs_between", .glo "numbers_to", .glo "ways_many", .glo "way_at", .glo "first_way", .glo "serves", .glo "corner_field", .glo "corner_fields", .glo "field", .glo "common_stalls", .glo "are_tied", .glo "is_within", .glo "hard_of", .glo "hard_in", .glo "lit", .glo "dark_in", .glo "is_integer", .glo "is_cell"] ++ [.glo "is_lot", .glo "taken_out", .glo "lies_in", .glo "pairs_of", .glo "web_of", .glo "contrary", .glo "next_table", .glo "are_next", .glo "is_reached", .glo "first_two_pair", .glo "all_next", .glo "joined", .glo "webs_ahead", .glo "groups", .glo "log_of", .glo "knot_back", .glo "split_of", .glo "answer_for", .glo "answer", .glo "fewest"] ++ [.glo "is_lot_in", .glo "dark_fault", .glo "spots_fault", .glo "judge_answer", .glo "judge_stalls", .glo "judge_spots", .glo "corridor_cells", .glo "corridor", .glo "is_plain", .glo "corridor_stretch", .glo "corridor_turns", .glo "corridor_stalls", .glo "corridor_spots", .glo "_law_open_cells", .glo "_law_pick", .glo "_law_sides", .glo "_law_field", .glo "_law_goes", .glo "_law_is_corridor", .glo "_law_draw_corridor"] ++ [.glo "_law_is_plain", .glo "_law_turns", .glo "law", .free "abs", .free "all", .free "any", .free "bool", .free "dict", .free "enumerate", .free "int", .free "isinstance", .free "len", .free "list", .free "max", .free "min", .free "range", .free "repr", .free "set", .free "sorted", .free "sum"] ++ [.free "tuple", .free "zip"]
abbrev R : PySem.W.OpenRow := PySem.W.OpenLaw.row PySem.Challenge.rw_nodetour_k74_whole_corridors_answered
abbrev hk : PySem.W.Hook := He.hookD 4 fa fn
def ob (s : PySem.W.SharedT) : He.AlD := He.obsDG 4 fa fn (HandSHeadRun.getT s)
theorem ob_eq (s : PySem.W.SharedT) : ob s = hk.obs s.abs := He.obsDG_eq (HandSHeadRun.getT_eq s)
def loose0 : List Str := ["moves", "trail", "signs_between", "numbers_to", "ways_many", "way_at", "first_way", "serves", "corner_field", "corner_fields", "field", "common_stalls", "are_tied", "is_within", "hard_of", "hard_in", "lit", "dark_in", "is_integer", "is_cell"]
def loose1 : List Str := ["is_lot", "taken_out", "lies_in", "pairs_of", "web_of", "contrary", "next_table", "are_next", "is_reached", "first_two_pair", "all_next", "joined", "webs_ahead", "groups", "log_of", "knots_on", "greatest_knot", "knot_back", "split_of", "answer_for"]
def loose2 : List Str := ["answer", "fewest", "is_lot_in", "dark_fault", "spots_fault", "judge_answer", "judge_stalls", "judge_spots", "corridor_cells", "corridor", "is_plain", "corridor_stretch", "corridor_turns", "corridor_stalls", "corridor_spots", "_law_open_cells", "_law_pick", "_law_sides", "_law_field", "_law_goes"]
def loose3 : List Str := ["_law_is_corridor", "_law_draw_corridor", "_law_is_plain", "_law_turns"]
def loose : List Str := loose0 ++ loose1 ++ loose2 ++ loose3
theorem run (w : World) : HandSHeadRun.RunEq R (PySem.W.view R.prog [72]) hk ob 4000 loose w := by
  intro os
  kernel_rfl
section
variable {P : Program} {w : World} {K : PySem.W.Frag} {mg : Str → Option Value} {base : Heap}
theorem ok_moves {f : Addr} {fd : FuncData} (F : FunD K "moves" "moves" (defArgs s1) (defBody s1) (defScope s1) [] [] f fd) (hm : mg "moves" = some (.ref f))   : FU P w K mg base 1 "moves" 0 sp_moves :=
  fu_of (k := 0) (t := t_moves) F hm (FunD.bindsN (ps := []) F fun _ _ _ _ _ _ us hl => match us, hl with | [], _ => rfl) sc_moves (fun ds G R h => by
    first
      | (obtain ⟨e, _⟩ := h; subst e; rfl)
      | (obtain ⟨_, e, _⟩ := h; subst e; rfl)
      | (obtain ⟨_, _, e, _⟩ := h; subst e; rfl)
      | (obtain ⟨_, _, _, e, _⟩ := h; subst e; rfl)
      | (obtain ⟨_, _, _, _, e, _⟩ := h; subst e; rfl)
      | (obtain ⟨_, _, _, _, _, e, _⟩ := h; subst e; rfl)
      | (obtain ⟨_, _, _, _, _, _, e, _⟩ := h; subst e; rfl))
    (fun cdv A outer s H E hr => g_moves   cdv A outer s H E hr)
    (fun ds G R H h g => ⟨G, g, p_moves ds G R h⟩)
theorem ok_signs_between {f : Addr} {fd : FuncData} (F : FunD K "signs_between" "signs_between" (defArgs s3) (defBody s3) (defScope s3) [] [] f fd) (hm : mg "signs_between" = some (.ref f))  (m_sorted : mg "sorted" = none) : FU P w K mg base 1 "signs_between" 2 sp_signs_between :=
  fu_of (k := 0) (t := t_signs_between) F hm (FunD.bindsN (ps := ["start", "end"]) F fun _ _ _ _ _ _ us hl => match us, hl with | [_, _], _ => rfl) sc_signs_between (fun ds G R h => by
    first
      | (obtain ⟨e, _⟩ := h; subst e; rfl)
      | (obtain ⟨_, e, _⟩ := h; subst e; rfl)
      | (obtain ⟨_, _, e, _⟩ := h; subst e; rfl)
      | (obtain ⟨_, _, _, e, _⟩ := h; subst e; rfl)
      | (obtain ⟨_, _, _, _, e, _⟩ := h; subst e; rfl)
      | (obtain ⟨_, _, _, _, _, e, _⟩ := h; subst e; rfl)
      | (obtain ⟨_, _, _, _, _, _, e, _⟩ := h; subst e; rfl))
    (fun cdv A outer s H E hr => g_signs_between  m_sorted cdv A outer s H E hr)
    (fun ds G R H h g => ⟨G, g, p_signs_between ds G R h⟩)
theorem ok_is_within {f : Addr} {fd : FuncData} (F : FunD K "is_within" "is_within" (defArgs s15) (defBody s15) (defScope s15) [] [] f fd) (hm : mg "is_within" = some (.ref f))  (m_len : mg "len" = none) (m_all : mg "all" = none) : FU P w K mg base 1 "is_within" 2 sp_is_within :=
  fu_of (k := 0) (t := t_is_within) F hm (FunD.bindsN (ps := ["one", "other"]) F fun _ _ _ _ _ _ us hl => match us, hl with | [_, _], _ => rfl) sc_is_within (fun ds G R h => by
    first
      | (obtain ⟨e, _⟩ := h; subst e; rfl)
      | (obtain ⟨_, e, _⟩ := h; subst e; rfl)
      | (obtain ⟨_, _, e, _⟩ := h; subst e; rfl)
      | (obtain ⟨_, _, _, e, _⟩ := h; subst e; rfl)
      | (obtain ⟨_, _, _, _, e, _⟩ := h; subst e; rfl)
      | (obtain ⟨_, _, _, _, _, e, _⟩ := h; subst e; rfl)
      | (obtain ⟨_, _, _, _, _, _, e, _⟩ := h; subst e; rfl))
    (fun cdv A outer s H E hr => g_is_within  m_len m_all cdv A outer s H E hr)
    (fun ds G R H h g => ⟨G, g, p_is_within ds G R h⟩)
theorem ok_is_integer {f : Addr} {fd : FuncData} (F : FunD K "is_integer" "is_integer" (defArgs s21) (defBody s21) (defScope s21) [] [] f fd) (hm : mg "is_integer" = some (.ref f))  (m_isinstance : mg "isinstance" = none) (m_int : mg "int" = none) (m_bool : mg "bool" = none) : FU P w K mg base 1 "is_integer" 1 sp_is_integer :=
  fu_of (k := 0) (t := t_is_integer) F hm (FunD.bindsN (ps := ["value"]) F fun _ _ _ _ _ _ us hl => match us, hl with | [_], _ => rfl) sc_is_integer (fun ds G R h => by
    first
      | (obtain ⟨e, _⟩ := h; subst e; rfl)
      | (obtain ⟨_, e, _⟩ := h; subst e; rfl)
      | (obtain ⟨_, _, e, _⟩ := h; subst e; rfl)
      | (obtain ⟨_, _, _, e, _⟩ := h; subst e; rfl)
      | (obtain ⟨_, _, _, _, e, _⟩ := h; subst e; rfl)
      | (obtain ⟨_, _, _, _, _, e, _⟩ := h; subst e; rfl)
      | (obtain ⟨_, _, _, _, _, _, e, _⟩ := h; subst e; rfl))
    (fun cdv A outer s H E hr => g_is_integer  m_isinstance m_int m_bool cdv A outer s H E hr)
    (fun ds G R H h g => ⟨G, g, p_is_integer ds G R h⟩)
theorem ok_taken_out {f : Addr} {fd : FuncData} (F : FunD K "taken_out" "taken_out" (defArgs s24) (defBody s24) (defScope s24) [] [] f fd) (hm : mg "taken_out" = some (.ref f))  (m_tuple : mg "tuple" = none) : FU P w K mg base 1 "taken_out" 2 sp_taken_out :=
  fu_of (k := 0) (t := t_taken_out) F hm (FunD.bindsN (ps := ["one", "other"]) F fun _ _ _ _ _ _ us hl => match us, hl with | [_, _], _ => rfl) sc_taken_out (fun ds G R h => by
    first
      | (obtain ⟨e, _⟩ := h; subst e; rfl)
      | (obtain ⟨_, e, _⟩ := h; subst e; rfl)
      | (obtain ⟨_, _, e, _⟩ := h; subst e; rfl)
      | (obtain ⟨_, _, _, e, _⟩ := h; subst e; rfl)
      | (obtain ⟨_, _, _, _, e, _⟩ := h; subst e; rfl)
      | (obtain ⟨_, _, _, _, _, e, _⟩ := h; subst e; rfl)
      | (obtain ⟨_, _, _, _, _, _, e, _⟩ := h; subst e; rfl))
    (fun cdv A outer s H E hr => g_taken_out  m_tuple cdv A outer s H E hr)
    (fun ds G R H h g => ⟨G, g, p_taken_out ds G R h⟩)
theorem ok_pairs_of {f : Addr} {fd : FuncData} (F : FunD K "pairs_of" "pairs_of" (defArgs s27) (defBody s27) (defScope s27) [] [] f fd) (hm : mg "pairs_of" = some (.ref f))  (m_enumerate : mg "enumerate" = none) : FU P w K mg base 1 "pairs_of" 1 sp_pairs_of :=
  fu_of (k := 0) (t := t_pairs_of) F hm (FunD.bindsN (ps := ["members"]) F fun _ _ _ _ _ _ us hl => match us, hl with | [_], _ => rfl) sc_pairs_of (fun ds G R h => by
    first
      | (obtain ⟨e, _⟩ := h; subst e; rfl)
      | (obtain ⟨_, e, _⟩ := h; subst e; rfl)
      | (obtain ⟨_, _, e, _⟩ := h; subst e; rfl)
      | (obtain ⟨_, _, _, e, _⟩ := h; subst e; rfl)
      | (obtain ⟨_, _, _, _, e, _⟩ := h; subst e; rfl)
      | (obtain ⟨_, _, _, _, _, e, _⟩ := h; subst e; rfl)
      | (obtain ⟨_, _, _, _, _, _, e, _⟩ := h; subst e; rfl))
    (fun cdv A outer s H E hr => g_pairs_of  m_enumerate cdv A outer s H E hr)
    (fun ds G R H h g => ⟨G, g, p_pairs_of ds G R h⟩)
theorem ok_next_table {f : Addr} {fd : FuncData} (F : FunD K "next_table" "next_table" (defArgs s30) (defBody s30) (defScope s30) [] [] f fd) (hm : mg "next_table" = some (.ref f))   : FU P w K mg base 1 "next_table" 1 sp_next_table :=
  fu_of (k := 0) (t := t_next_table) F hm (FunD.bindsN (ps := ["web"]) F fun _ _ _ _ _ _ us hl => match us, hl with | [_], _ => rfl) sc_next_table (fun ds G R h => by
    first
      | (obtain ⟨e, _⟩ := h; subst e; rfl)
      | (obtain ⟨_, e, _⟩ := h; subst e; rfl)
      | (obtain ⟨_, _, e, _⟩ := h; subst e; rfl)
      | (obtain ⟨_, _, _, e, _⟩ := h; subst e; rfl)
      | (obtain ⟨_, _, _, _, e, _⟩ := h; subst e; rfl)
      | (obtain ⟨_, _, _, _, _, e, _⟩ := h; subst e; rfl)
      | (obtain ⟨_, _, _, _, _, _, e, _⟩ := h; subst e; rfl))
    (fun cdv A outer s H E hr => g_next_table   cdv A outer s H E hr)
    (fun ds G R H h g => ⟨G, g, p_next_table ds G R h⟩)
theorem ok_are_next {f : Addr} {fd : FuncData} (F : FunD K "are_next" "are_next" (defArgs s31) (defBody s31) (defScope s31) [] [] f fd) (hm : mg "are_next" = some (.ref f))  (m_min : mg "min" = none) (m_max : mg "max" = none) : FU P w K mg base 1 "are_next" 3 sp_are_next :=
  fu_of (k := 0) (t := t_are_next) F hm (FunD.bindsN (ps := ["web", "a", "b"]) F fun _ _ _ _ _ _ us hl => match us, hl with | [_, _, _], _ => rfl) sc_are_next (fun ds G R h => by
    first
      | (obtain ⟨e, _⟩ := h; subst e; rfl)
      | (obtain ⟨_, e, _⟩ := h; subst e; rfl)
      | (obtain ⟨_, _, e, _⟩ := h; subst e; rfl)
      | (obtain ⟨_, _, _, e, _⟩ := h; subst e; rfl)
      | (obtain ⟨_, _, _, _, e, _⟩ := h; subst e; rfl)
      | (obtain ⟨_, _, _, _, _, e, _⟩ := h; subst e; rfl)
      | (obtain ⟨_, _, _, _, _, _, e, _⟩ := h; subst e; rfl))
    (fun cdv A outer s H E hr => g_are_next  m_min m_max cdv A outer s H E hr)
    (fun ds G R H h g => ⟨G, g, p_are_next ds G R h⟩)
theorem ok_is_reached {f : Addr} {fd : FuncData} (F : FunD K "is_reached" "is_reached" (defArgs s32) (defBody s32) (defScope s32) [] [] f fd) (hm : mg "is_reached" = some (.ref f))   : FU P w K mg base 1 "is_reached" 3 sp_is_reached :=
  fu_of (k := 0) (t := t_is_reached) F hm (FunD.bindsN (ps := ["table", "a", "b"]) F fun _ _ _ _ _ _ us hl => match us, hl with | [_, _, _], _ => rfl) sc_is_reached (fun ds G R h => by
    first
      | (obtain ⟨e, _⟩ := h; subst e; rfl)
      | (obtain ⟨_, e, _⟩ := h; subst e; rfl)
      | (obtain ⟨_, _, e, _⟩ := h; subst e; rfl)
      | (obtain ⟨_, _, _, e, _⟩ := h; subst e; rfl)
      | (obtain ⟨_, _, _, _, e, _⟩ := h; subst e; rfl)
      | (obtain ⟨_, _, _, _, _, e, _⟩ := h; subst e; rfl)
      | (obtain ⟨_, _, _, _, _, _, e, _⟩ := h; subst e; rfl))
    (fun cdv A outer s H E hr => g_is_reached   cdv A outer s H E hr)
    (fun ds G R H h g => ⟨G, g, p_is_reached ds G R h⟩)
theorem ok_joined {f : Addr} {fd : FuncData} (F : FunD K "joined" "joined" (defArgs s36) (defBody s36) (defScope s36) [] [] f fd) (hm : mg "joined" = some (.ref f))  (m_min : mg "min" = none) (m_max : mg "max" = none) (m_tuple : mg "tuple" = none) (m_sorted : mg "sorted" = none) (m_list : mg "list" = none) : FU P w K mg base 1 "joined" 3 sp_joined :=
  fu_of (k := 0) (t := t_joined) F hm (FunD.bindsN (ps := ["web", "a", "b"]) F fun _ _ _ _ _ _ us hl => match us, hl with | [_, _, _], _ => rfl) sc_joined (fun ds G R h => by
    first
      | (obtain ⟨e, _⟩ := h; subst e; rfl)
      | (obtain ⟨_, e, _⟩ := h; subst e; rfl)
      | (obtain ⟨_, _, e, _⟩ := h; subst e; rfl)
      | (obtain ⟨_, _, _, e, _⟩ := h; subst e; rfl)
      | (obtain ⟨_, _, _, _, e, _⟩ := h; subst e; rfl)
      | (obtain ⟨_, _, _, _, _, e, _⟩ := h; subst e; rfl)
      | (obtain ⟨_, _, _, _, _, _, e, _⟩ := h; subst e; rfl))
    (fun cdv A outer s H E hr => g_joined  m_min m_max m_tuple m_sorted m_list cdv A outer s H E hr)
    (fun ds G R H h g => ⟨G, g, p_joined ds G R h⟩)
theorem ok_groups {f : Addr} {fd : FuncData} (F : FunD K "groups" "groups" (defArgs s38) (defBody s38) (defScope s38) [] [] f fd) (hm : mg "groups" = some (.ref f))  (m_tuple : mg "tuple" = none) (m_sorted : mg "sorted" = none) : FU P w K mg base 1 "groups" 2 sp_groups :=
  fu_of (k := 0) (t := t_groups) F hm (FunD.bindsN (ps := ["web", "log"]) F fun _ _ _ _ _ _ us hl => match us, hl with | [_, _], _ => rfl) sc_groups (fun ds G R h => by
    first
      | (obtain ⟨e, _⟩ := h; subst e; rfl)
      | (obtain ⟨_, e, _⟩ := h; subst e; rfl)
      | (obtain ⟨_, _, e, _⟩ := h; subst e; rfl)
      | (obtain ⟨_, _, _, e, _⟩ := h; subst e; rfl)
      | (obtain ⟨_, _, _, _, e, _⟩ := h; subst e; rfl)
      | (obtain ⟨_, _, _, _, _, e, _⟩ := h; subst e; rfl)
      | (obtain ⟨_, _, _, _, _, _, e, _⟩ := h; subst e; rfl))
    (fun cdv A outer s H E hr => g_groups  m_tuple m_sorted cdv A outer s H E hr)
    (fun ds G R H h g => ⟨G, g, p_groups ds G R h⟩)
theorem ok_is_plain {f : Addr} {fd : FuncData} (F : FunD K "is_plain" "is_plain" (defArgs s57) (defBody s57) (defScope s57) [] [] f fd) (hm : mg "is_plain" = some (.ref f))   : FU P w K mg base 1 "is_plain" 1 sp_is_plain :=
  fu_of (k := 0) (t := t_is_plain) F hm (FunD.bindsN (ps := ["steps"]) F fun _ _ _ _ _ _ us hl => match us, hl with | [_], _ => rfl) sc_is_plain (fun ds G R h => by
    first
      | (obtain ⟨e, _⟩ := h; subst e; rfl)
      | (obtain ⟨_, e, _⟩ := h; subst e; rfl)
      | (obtain ⟨_, _, e, _⟩ := h; subst e; rfl)
      | (obtain ⟨_, _, _, e, _⟩ := h; subst e; rfl)
      | (obtain ⟨_, _, _, _, e, _⟩ := h; subst e; rfl)
      | (obtain ⟨_, _, _, _, _, e, _⟩ := h; subst e; rfl)
      | (obtain ⟨_, _, _, _, _, _, e, _⟩ := h; subst e; rfl))
    (fun cdv A outer s H E hr => g_is_plain   cdv A outer s H E hr)
    (fun ds G R H h g => ⟨G, g, p_is_plain ds G R h⟩)
theorem ok__law_open_cells {f : Addr} {fd : FuncData} (F : FunD K "_law_open_cells" "_law_open_cells" (defArgs s63) (defBody s63) (defScope s63) [] [] f fd) (hm : mg "_law_open_cells" = some (.ref f))  (m_int : mg "int" = none) (m_abs : mg "abs" = none) : FU P w K mg base 1 "_law_open_cells" 1 sp__law_open_cells :=
  fu_of (k := 0) (t := t__law_open_cells) F hm (FunD.bindsN (ps := ["script"]) F fun _ _ _ _ _ _ us hl => match us, hl with | [_], _ => rfl) sc__law_open_cells (fun ds G R h => by
    first
      | (obtain ⟨e, _⟩ := h; subst e; rfl)
      | (obtain ⟨_, e, _⟩ := h; subst e; rfl)
      | (obtain ⟨_, _, e, _⟩ := h; subst e; rfl)
      | (obtain ⟨_, _, _, e, _⟩ := h; subst e; rfl)
      | (obtain ⟨_, _, _, _, e, _⟩ := h; subst e; rfl)
      | (obtain ⟨_, _, _, _, _, e, _⟩ := h; subst e; rfl)
      | (obtain ⟨_, _, _, _, _, _, e, _⟩ := h; subst e; rfl))
    (fun cdv A outer s H E hr => g__law_open_cells  m_int m_abs cdv A outer s H E hr)
    (fun ds G R H h g => ⟨G, g, p__law_open_cells ds G R h⟩)
theorem ok__law_pick {f : Addr} {fd : FuncData} (F : FunD K "_law_pick" "_law_pick" (defArgs s64) (defBody s64) (defScope s64) [] [] f fd) (hm : mg "_law_pick" = some (.ref f))  (m_len : mg "len" = none) (m_int : mg "int" = none) : FU P w K mg base 1 "_law_pick" 2 sp__law_pick :=
  fu_of (k := 0) (t := t__law_pick) F hm (FunD.bindsN (ps := ["source", "most"]) F fun _ _ _ _ _ _ us hl => match us, hl with | [_, _], _ => rfl) sc__law_pick (fun ds G R h => by
    first
      | (obtain ⟨e, _⟩ := h; subst e; rfl)
      | (obtain ⟨_, e, _⟩ := h; subst e; rfl)
      | (obtain ⟨_, _, e, _⟩ := h; subst e; rfl)
      | (obtain ⟨_, _, _, e, _⟩ := h; subst e; rfl)
      | (obtain ⟨_, _, _, _, e, _⟩ := h; subst e; rfl)
      | (obtain ⟨_, _, _, _, _, e, _⟩ := h; subst e; rfl)
      | (obtain ⟨_, _, _, _, _, _, e, _⟩ := h; subst e; rfl))
    (fun cdv A outer s H E hr => g__law_pick  m_len m_int cdv A outer s H E hr)
    (fun ds G R H h g => p__law_pick ds G R h g)
theorem ok__law_sides {f : Addr} {fd : FuncData} (F : FunD K "_law_sides" "_law_sides" (defArgs s65) (defBody s65) (defScope s65) [] [] f fd) (hm : mg "_law_sides" = some (.ref f))   : FU P w K mg base 1 "_law_sides" 1 sp__law_sides :=
  fu_of (k := 0) (t := t__law_sides) F hm (FunD.bindsN (ps := ["cell"]) F fun _ _ _ _ _ _ us hl => match us, hl with | [_], _ => rfl) sc__law_sides (fun ds G R h => by
    first
      | (obtain ⟨e, _⟩ := h; subst e; rfl)
      | (obtain ⟨_, e, _⟩ := h; subst e; rfl)
      | (obtain ⟨_, _, e, _⟩ := h; subst e; rfl)
      | (obtain ⟨_, _, _, e, _⟩ := h; subst e; rfl)
      | (obtain ⟨_, _, _, _, e, _⟩ := h; subst e; rfl)
      | (obtain ⟨_, _, _, _, _, e, _⟩ := h; subst e; rfl)
      | (obtain ⟨_, _, _, _, _, _, e, _⟩ := h; subst e; rfl))
    (fun cdv A outer s H E hr => g__law_sides   cdv A outer s H E hr)
    (fun ds G R H h g => ⟨G, g, p__law_sides ds G R h⟩)
theorem ok__law_field {f : Addr} {fd : FuncData} (F : FunD K "_law_field" "_law_field" (defArgs s66) (defBody s66) (defScope s66) [] [] f fd) (hm : mg "_law_field" = some (.ref f))  (m_dict : mg "dict" = none) (m_tuple : mg "tuple" = none) (m_sorted : mg "sorted" = none) (m_list : mg "list" = none) : FU P w K mg base 1 "_law_field" 2 sp__law_field :=
  fu_of (k := 0) (t := t__law_field) F hm (FunD.bindsN (ps := ["room", "stall"]) F fun _ _ _ _ _ _ us hl => match us, hl with | [_, _], _ => rfl) sc__law_field (fun ds G R h => by
    first
      | (obtain ⟨e, _⟩ := h; subst e; rfl)
      | (obtain ⟨_, e, _⟩ := h; subst e; rfl)
      | (obtain ⟨_, _, e, _⟩ := h; subst e; rfl)
      | (obtain ⟨_, _, _, e, _⟩ := h; subst e; rfl)
      | (obtain ⟨_, _, _, _, e, _⟩ := h; subst e; rfl)
      | (obtain ⟨_, _, _, _, _, e, _⟩ := h; subst e; rfl)
      | (obtain ⟨_, _, _, _, _, _, e, _⟩ := h; subst e; rfl))
    (fun cdv A outer s H E hr => g__law_field  m_dict m_tuple m_sorted m_list cdv A outer s H E hr)
    (fun ds G R H h g => ⟨G, g, p__law_field ds G R h⟩)
theorem ok__law_goes {f : Addr} {fd : FuncData} (F : FunD K "_law_goes" "_law_goes" (defArgs s67) (defBody s67) (defScope s67) [] [] f fd) (hm : mg "_law_goes" = some (.ref f))  (m_int : mg "int" = none) : FU P w K mg base 1 "_law_goes" 1 sp__law_goes :=
  fu_of (k := 0) (t := t__law_goes) F hm (FunD.bindsN (ps := ["steps"]) F fun _ _ _ _ _ _ us hl => match us, hl with | [_], _ => rfl) sc__law_goes (fun ds G R h => by
    first
      | (obtain ⟨e, _⟩ := h; subst e; rfl)
      | (obtain ⟨_, e, _⟩ := h; subst e; rfl)
      | (obtain ⟨_, _, e, _⟩ := h; subst e; rfl)
      | (obtain ⟨_, _, _, e, _⟩ := h; subst e; rfl)
      | (obtain ⟨_, _, _, _, e, _⟩ := h; subst e; rfl)
      | (obtain ⟨_, _, _, _, _, e, _⟩ := h; subst e; rfl)
      | (obtain ⟨_, _, _, _, _, _, e, _⟩ := h; subst e; rfl))
    (fun cdv A outer s H E hr => g__law_goes  m_int cdv A outer s H E hr)
    (fun ds G R H h g => ⟨G, g, p__law_goes ds G R h⟩)
theorem ok__law_is_plain {f : Addr} {fd : FuncData} (F : FunD K "_law_is_plain" "_law_is_plain" (defArgs s70) (defBody s70) (defScope s70) [] [] f fd) (hm : mg "_law_is_plain" = some (.ref f))   : FU P w K mg base 1 "_law_is_plain" 1 sp__law_is_plain :=
  fu_of (k := 0) (t := t__law_is_plain) F hm (FunD.bindsN (ps := ["steps"]) F fun _ _ _ _ _ _ us hl => match us, hl with | [_], _ => rfl) sc__law_is_plain (fun ds G R h => by
    first
      | (obtain ⟨e, _⟩ := h; subst e; rfl)
      | (obtain ⟨_, e, _⟩ := h; subst e; rfl)
      | (obtain ⟨_, _, e, _⟩ := h; subst e; rfl)
      | (obtain ⟨_, _, _, e, _⟩ := h; subst e; rfl)
      | (obtain ⟨_, _, _, _, e, _⟩ := h; subst e; rfl)
      | (obtain ⟨_, _, _, _, _, e, _⟩ := h; subst e; rfl)
      | (obtain ⟨_, _, _, _, _, _, e, _⟩ := h; subst e; rfl))
    (fun cdv A outer s H E hr => g__law_is_plain   cdv A outer s H E hr)
    (fun ds G R H h g => ⟨G, g, p__law_is_plain ds G R h⟩)
theorem ok_trail {f : Addr} {fd : FuncData} (F : FunD K "trail" "trail" (defArgs s2) (defBody s2) (defScope s2) [] [] f fd) (hm : mg "trail" = some (.ref f)) (F_moves : FU P w K mg base 1 "moves" 0 sp_moves) (m_tuple : mg "tuple" = none) : FU P w K mg base 2 "trail" 2 sp_trail :=
  fu_of (k := 1) (t := t_trail sp_moves) F hm (FunD.bindsN (ps := ["start", "steps"]) F fun _ _ _ _ _ _ us hl => match us, hl with | [_, _], _ => rfl) sc_trail (fun ds G R h => by
    first
      | (obtain ⟨e, _⟩ := h; subst e; rfl)
      | (obtain ⟨_, e, _⟩ := h; subst e; rfl)
      | (obtain ⟨_, _, e, _⟩ := h; subst e; rfl)
      | (obtain ⟨_, _, _, e, _⟩ := h; subst e; rfl)
      | (obtain ⟨_, _, _, _, e, _⟩ := h; subst e; rfl)
      | (obtain ⟨_, _, _, _, _, e, _⟩ := h; subst e; rfl)
      | (obtain ⟨_, _, _, _, _, _, e, _⟩ := h; subst e; rfl))
    (fun cdv A outer s H E hr => g_trail (F_moves.mono (by decide)) m_tuple cdv A outer s H E hr)
    (fun ds G R H h g => ⟨G, g, p_trail ds G R h⟩)
theorem ok_numbers_to {f : Addr} {fd : FuncData} (F : FunD K "numbers_to" "numbers_to" (defArgs s4) (defBody s4) (defScope s4) [] [] f fd) (hm : mg "numbers_to" = some (.ref f)) (F_signs_between : FU P w K mg base 1 "signs_between" 2 sp_signs_between) (F_moves : FU P w K mg base 1 "moves" 0 sp_moves) (m_range : mg "range" = none) (m_min : mg "min" = none) (m_max : mg "max" = none) (m_abs : mg "abs" = none) (m_sorted : mg "sorted" = none) (m_sum : mg "sum" = none) : FU P w K mg base 2 "numbers_to" 3 sp_numbers_to :=
  fu_of (k := 1) (t := t_numbers_to sp_signs_between sp_moves) F hm (FunD.bindsN (ps := ["room", "start", "end"]) F fun _ _ _ _ _ _ us hl => match us, hl with | [_, _, _], _ => rfl) sc_numbers_to (fun ds G R h => by
    first
      | (obtain ⟨e, _⟩ := h; subst e; rfl)
      | (obtain ⟨_, e, _⟩ := h; subst e; rfl)
      | (obtain ⟨_, _, e, _⟩ := h; subst e; rfl)
      | (obtain ⟨_, _, _, e, _⟩ := h; subst e; rfl)
      | (obtain ⟨_, _, _, _, e, _⟩ := h; subst e; rfl)
      | (obtain ⟨_, _, _, _, _, e, _⟩ := h; subst e; rfl)
      | (obtain ⟨_, _, _, _, _, _, e, _⟩ := h; subst e; rfl))
    (fun cdv A outer s H E hr => g_numbers_to (F_signs_between.mono (by decide)) (F_moves.mono (by decide)) m_range m_min m_max m_abs m_sorted m_sum cdv A outer s H E hr)
    (fun ds G R H h g => ⟨G, g, p_numbers_to ds G R h⟩)
theorem ok_corner_field {f : Addr} {fd : FuncData} (F : FunD K "corner_field" "corner_field" (defArgs s10) (defBody s10) (defScope s10) [] [] f fd) (hm : mg "corner_field" = some (.ref f)) (F_moves : FU P w K mg base 1 "moves" 0 sp_moves) (m_tuple : mg "tuple" = none) (m_sorted : mg "sorted" = none) : FU P w K mg base 2 "corner_field" 3 sp_corner_field :=
  fu_of (k := 1) (t := t_corner_field sp_moves) F hm (FunD.bindsN (ps := ["inner", "stall", "signs"]) F fun _ _ _ _ _ _ us hl => match us, hl with | [_, _, _], _ => rfl) sc_corner_field (fun ds G R h => by
    first
      | (obtain ⟨e, _⟩ := h; subst e; rfl)
      | (obtain ⟨_, e, _⟩ := h; subst e; rfl)
      | (obtain ⟨_, _, e, _⟩ := h; subst e; rfl)
      | (obtain ⟨_, _, _, e, _⟩ := h; subst e; rfl)
      | (obtain ⟨_, _, _, _, e, _⟩ := h; subst e; rfl)
      | (obtain ⟨_, _, _, _, _, e, _⟩ := h; subst e; rfl)
      | (obtain ⟨_, _, _, _, _, _, e, _⟩ := h; subst e; rfl))
    (fun cdv A outer s H E hr => g_corner_field (F_moves.mono (by decide)) m_tuple m_sorted cdv A outer s H E hr)
    (fun ds G R H h g => ⟨G, g, p_corner_field ds G R h⟩)
theorem ok_hard_of {f : Addr} {fd : FuncData} (F : FunD K "hard_of" "hard_of" (defArgs s16) (defBody s16) (defScope s16) [] [] f fd) (hm : mg "hard_of" = some (.ref f)) (F_is_within : FU P w K mg base 1 "is_within" 2 sp_is_within) (m_any : mg "any" = none) (m_tuple : mg "tuple" = none) (m_sorted : mg "sorted" = none) : FU P w K mg base 2 "hard_of" 1 sp_hard_of :=
  fu_of (k := 1) (t := t_hard_of sp_is_within) F hm (FunD.bindsN (ps := ["pairs"]) F fun _ _ _ _ _ _ us hl => match us, hl with | [_], _ => rfl) sc_hard_of (fun ds G R h => by
    first
      | (obtain ⟨e, _⟩ := h; subst e; rfl)
      | (obtain ⟨_, e, _⟩ := h; subst e; rfl)
      | (obtain ⟨_, _, e, _⟩ := h; subst e; rfl)
      | (obtain ⟨_, _, _, e, _⟩ := h; subst e; rfl)
      | (obtain ⟨_, _, _, _, e, _⟩ := h; subst e; rfl)
      | (obtain ⟨_, _, _, _, _, e, _⟩ := h; subst e; rfl)
      | (obtain ⟨_, _, _, _, _, _, e, _⟩ := h; subst e; rfl))
    (fun cdv A outer s H E hr => g_hard_of (F_is_within.mono (by decide)) m_any m_tuple m_sorted cdv A outer s H E hr)
    (fun ds G R H h g => ⟨G, g, p_hard_of ds G R h⟩)
theorem ok_is_cell {f : Addr} {fd : FuncData} (F : FunD K "is_cell" "is_cell" (defArgs s22) (defBody s22) (defScope s22) [] [] f fd) (hm : mg "is_cell" = some (.ref f)) (F_is_integer : FU P w K mg base 1 "is_integer" 1 sp_is_integer) (m_isinstance : mg "isinstance" = none) (m_tuple : mg "tuple" = none) (m_len : mg "len" = none) : FU P w K mg base 2 "is_cell" 1 sp_is_cell :=
  fu_of (k := 1) (t := t_is_cell sp_is_integer) F hm (FunD.bindsN (ps := ["value"]) F fun _ _ _ _ _ _ us hl => match us, hl with | [_], _ => rfl) sc_is_cell (fun ds G R h => by
    first
      | (obtain ⟨e, _⟩ := h; subst e; rfl)
      | (obtain ⟨_, e, _⟩ := h; subst e; rfl)
      | (obtain ⟨_, _, e, _⟩ := h; subst e; rfl)
      | (obtain ⟨_, _, _, e, _⟩ := h; subst e; rfl)
      | (obtain ⟨_, _, _, _, e, _⟩ := h; subst e; rfl)
      | (obtain ⟨_, _, _, _, _, e, _⟩ := h; subst e; rfl)
      | (obtain ⟨_, _, _, _, _, _, e, _⟩ := h; subst e; rfl))
    (fun cdv A outer s H E hr => g_is_cell (F_is_integer.mono (by decide)) m_isinstance m_tuple m_len cdv A outer s H E hr)
    (fun ds G R H h g => ⟨G, g, p_is_cell ds G R h⟩)
theorem ok_lies_in {f : Addr} {fd : FuncData} (F : FunD K "lies_in" "lies_in" (defArgs s25) (defBody s25) (defScope s25) [] [] f fd) (hm : mg "lies_in" = some (.ref f)) (F_taken_out : FU P w K mg base 1 "taken_out" 2 sp_taken_out)  : FU P w K mg base 2 "lies_in" 2 sp_lies_in :=
  fu_of (k := 1) (t := t_lies_in sp_taken_out) F hm (FunD.bindsN (ps := ["one", "other"]) F fun _ _ _ _ _ _ us hl => match us, hl with | [_, _], _ => rfl) sc_lies_in (fun ds G R h => by
    first
      | (obtain ⟨e, _⟩ := h; subst e; rfl)
      | (obtain ⟨_, e, _⟩ := h; subst e; rfl)
      | (obtain ⟨_, _, e, _⟩ := h; subst e; rfl)
      | (obtain ⟨_, _, _, e, _⟩ := h; subst e; rfl)
      | (obtain ⟨_, _, _, _, e, _⟩ := h; subst e; rfl)
      | (obtain ⟨_, _, _, _, _, e, _⟩ := h; subst e; rfl)
      | (obtain ⟨_, _, _, _, _, _, e, _⟩ := h; subst e; rfl))
    (fun cdv A outer s H E hr => g_lies_in (F_taken_out.mono (by decide))  cdv A outer s H E hr)
    (fun ds G R H h g => ⟨G, g, p_lies_in ds G R h⟩)
theorem ok_contrary {f : Addr} {fd : FuncData} (F : FunD K "contrary" "contrary" (defArgs s29) (defBody s29) (defScope s29) [] [] f fd) (hm : mg "contrary" = some (.ref f)) (F_pairs_of : FU P w K mg base 1 "pairs_of" 1 sp_pairs_of) (m_tuple : mg "tuple" = none) : FU P w K mg base 2 "contrary" 1 sp_contrary :=
  fu_of (k := 1) (t := t_contrary sp_pairs_of) F hm (FunD.bindsN (ps := ["web"]) F fun _ _ _ _ _ _ us hl => match us, hl with | [_], _ => rfl) sc_contrary (fun ds G R h => by
    first
      | (obtain ⟨e, _⟩ := h; subst e; rfl)
      | (obtain ⟨_, e, _⟩ := h; subst e; rfl)
      | (obtain ⟨_, _, e, _⟩ := h; subst e; rfl)
      | (obtain ⟨_, _, _, e, _⟩ := h; subst e; rfl)
      | (obtain ⟨_, _, _, _, e, _⟩ := h; subst e; rfl)
      | (obtain ⟨_, _, _, _, _, e, _⟩ := h; subst e; rfl)
      | (obtain ⟨_, _, _, _, _, _, e, _⟩ := h; subst e; rfl))
    (fun cdv A outer s H E hr => g_contrary (F_pairs_of.mono (by decide)) m_tuple cdv A outer s H E hr)
    (fun ds G R H h g => ⟨G, g, p_contrary ds G R h⟩)
theorem ok_first_two_pair {f : Addr} {fd : FuncData} (F : FunD K "first_two_pair" "first_two_pair" (defArgs s33) (defBody s33) (defScope s33) [] [] f fd) (hm : mg "first_two_pair" = some (.ref f)) (F_next_table : FU P w K mg base 1 "next_table" 1 sp_next_table) (F_pairs_of : FU P w K mg base 1 "pairs_of" 1 sp_pairs_of) (F_is_reached : FU P w K mg base 1 "is_reached" 3 sp_is_reached)  : FU P w K mg base 2 "first_two_pair" 1 sp_first_two_pair :=
  fu_of (k := 1) (t := t_first_two_pair sp_next_table sp_pairs_of sp_is_reached) F hm (FunD.bindsN (ps := ["web"]) F fun _ _ _ _ _ _ us hl => match us, hl with | [_], _ => rfl) sc_first_two_pair (fun ds G R h => by
    first
      | (obtain ⟨e, _⟩ := h; subst e; rfl)
      | (obtain ⟨_, e, _⟩ := h; subst e; rfl)
      | (obtain ⟨_, _, e, _⟩ := h; subst e; rfl)
      | (obtain ⟨_, _, _, e, _⟩ := h; subst e; rfl)
      | (obtain ⟨_, _, _, _, e, _⟩ := h; subst e; rfl)
      | (obtain ⟨_, _, _, _, _, e, _⟩ := h; subst e; rfl)
      | (obtain ⟨_, _, _, _, _, _, e, _⟩ := h; subst e; rfl))
    (fun cdv A outer s H E hr => g_first_two_pair (F_next_table.mono (by decide)) (F_pairs_of.mono (by decide)) (F_is_reached.mono (by decide))  cdv A outer s H E hr)
    (fun ds G R H h g => ⟨G, g, p_first_two_pair ds G R h⟩)
theorem ok_all_next {f : Addr} {fd : FuncData} (F : FunD K "all_next" "all_next" (defArgs s34) (defBody s34) (defScope s34) [] [] f fd) (hm : mg "all_next" = some (.ref f)) (F_pairs_of : FU P w K mg base 1 "pairs_of" 1 sp_pairs_of) (m_len : mg "len" = none) : FU P w K mg base 2 "all_next" 1 sp_all_next :=
  fu_of (k := 1) (t := t_all_next sp_pairs_of) F hm (FunD.bindsN (ps := ["web"]) F fun _ _ _ _ _ _ us hl => match us, hl with | [_], _ => rfl) sc_all_next (fun ds G R h => by
    first
      | (obtain ⟨e, _⟩ := h; subst e; rfl)
      | (obtain ⟨_, e, _⟩ := h; subst e; rfl)
      | (obtain ⟨_, _, e, _⟩ := h; subst e; rfl)
      | (obtain ⟨_, _, _, e, _⟩ := h; subst e; rfl)
      | (obtain ⟨_, _, _, _, e, _⟩ := h; subst e; rfl)
      | (obtain ⟨_, _, _, _, _, e, _⟩ := h; subst e; rfl)
      | (obtain ⟨_, _, _, _, _, _, e, _⟩ := h; subst e; rfl))
    (fun cdv A outer s H E hr => g_all_next (F_pairs_of.mono (by decide)) m_len cdv A outer s H E hr)
    (fun ds G R H h g => ⟨G, g, p_all_next ds G R h⟩)
theorem ok_webs_ahead {f : Addr} {fd : FuncData} (F : FunD K "webs_ahead" "webs_ahead" (defArgs s37) (defBody s37) (defScope s37) [] [] f fd) (hm : mg "webs_ahead" = some (.ref f)) (F_joined : FU P w K mg base 1 "joined" 3 sp_joined)  : FU P w K mg base 2 "webs_ahead" 2 sp_webs_ahead :=
  fu_of (k := 1) (t := t_webs_ahead sp_joined) F hm (FunD.bindsN (ps := ["web", "log"]) F fun _ _ _ _ _ _ us hl => match us, hl with | [_, _], _ => rfl) sc_webs_ahead (fun ds G R h => by
    first
      | (obtain ⟨e, _⟩ := h; subst e; rfl)
      | (obtain ⟨_, e, _⟩ := h; subst e; rfl)
      | (obtain ⟨_, _, e, _⟩ := h; subst e; rfl)
      | (obtain ⟨_, _, _, e, _⟩ := h; subst e; rfl)
      | (obtain ⟨_, _, _, _, e, _⟩ := h; subst e; rfl)
      | (obtain ⟨_, _, _, _, _, e, _⟩ := h; subst e; rfl)
      | (obtain ⟨_, _, _, _, _, _, e, _⟩ := h; subst e; rfl))
    (fun cdv A outer s H E hr => g_webs_ahead (F_joined.mono (by decide))  cdv A outer s H E hr)
    (fun ds G R H h g => ⟨G, g, p_webs_ahead ds G R h⟩)
theorem ok_corridor_stretch {f : Addr} {fd : FuncData} (F : FunD K "corridor_stretch" "corridor_stretch" (defArgs s58) (defBody s58) (defScope s58) [] [] f fd) (hm : mg "corridor_stretch" = some (.ref f)) (F_is_plain : FU P w K mg base 1 "is_plain" 1 sp_is_plain) (m_len : mg "len" = none) : FU P w K mg base 2 "corridor_stretch" 2 sp_corridor_stretch :=
  fu_of (k := 1) (t := t_corridor_stretch sp_is_plain) F hm (FunD.bindsN (ps := ["steps", "i"]) F fun _ _ _ _ _ _ us hl => match us, hl with | [_, _], _ => rfl) sc_corridor_stretch (fun ds G R h => by
    first
      | (obtain ⟨e, _⟩ := h; subst e; rfl)
      | (obtain ⟨_, e, _⟩ := h; subst e; rfl)
      | (obtain ⟨_, _, e, _⟩ := h; subst e; rfl)
      | (obtain ⟨_, _, _, e, _⟩ := h; subst e; rfl)
      | (obtain ⟨_, _, _, _, e, _⟩ := h; subst e; rfl)
      | (obtain ⟨_, _, _, _, _, e, _⟩ := h; subst e; rfl)
      | (obtain ⟨_, _, _, _, _, _, e, _⟩ := h; subst e; rfl))
    (fun cdv A outer s H E hr => g_corridor_stretch (F_is_plain.mono (by decide)) m_len cdv A outer s H E hr)
    (fun ds G R H h g => ⟨G, g, p_corridor_stretch ds G R h⟩)
theorem ok__law_is_corridor {f : Addr} {fd : FuncData} (F : FunD K "_law_is_corridor" "_law_is_corridor" (defArgs s68) (defBody s68) (defScope s68) [] [] f fd) (hm : mg "_law_is_corridor" = some (.ref f)) (F__law_goes : FU P w K mg base 1 "_law_goes" 1 sp__law_goes) (F__law_sides : FU P w K mg base 1 "_law_sides" 1 sp__law_sides) (m_len : mg "len" = none) (m_set : mg "set" = none) (m_dict : mg "dict" = none) (m_enumerate : mg "enumerate" = none) (m_abs : mg "abs" = none) : FU P w K mg base 2 "_law_is_corridor" 1 sp__law_is_corridor :=
  fu_of (k := 1) (t := t__law_is_corridor sp__law_goes sp__law_sides) F hm (FunD.bindsN (ps := ["steps"]) F fun _ _ _ _ _ _ us hl => match us, hl with | [_], _ => rfl) sc__law_is_corridor (fun ds G R h => by
    first
      | (obtain ⟨e, _⟩ := h; subst e; rfl)
      | (obtain ⟨_, e, _⟩ := h; subst e; rfl)
      | (obtain ⟨_, _, e, _⟩ := h; subst e; rfl)
      | (obtain ⟨_, _, _, e, _⟩ := h; subst e; rfl)
      | (obtain ⟨_, _, _, _, e, _⟩ := h; subst e; rfl)
      | (obtain ⟨_, _, _, _, _, e, _⟩ := h; subst e; rfl)
      | (obtain ⟨_, _, _, _, _, _, e, _⟩ := h; subst e; rfl))
    (fun cdv A outer s H E hr => g__law_is_corridor (F__law_goes.mono (by decide)) (F__law_sides.mono (by decide)) m_len m_set m_dict m_enumerate m_abs cdv A outer s H E hr)
    (fun ds G R H h g => ⟨G, g, p__law_is_corridor ds G R h⟩)
theorem ok__law_turns {f : Addr} {fd : FuncData} (F : FunD K "_law_turns" "_law_turns" (defArgs s71) (defBody s71) (defScope s71) [] [] f fd) (hm : mg "_law_turns" = some (.ref f)) (F__law_is_plain : FU P w K mg base 1 "_law_is_plain" 1 sp__law_is_plain) (m_range : mg "range" = none) (m_len : mg "len" = none) (m_max : mg "max" = none) : FU P w K mg base 2 "_law_turns" 1 sp__law_turns :=
  fu_of (k := 1) (t := t__law_turns sp__law_is_plain) F hm (FunD.bindsN (ps := ["steps"]) F fun _ _ _ _ _ _ us hl => match us, hl with | [_], _ => rfl) sc__law_turns (fun ds G R h => by
    first
      | (obtain ⟨e, _⟩ := h; subst e; rfl)
      | (obtain ⟨_, e, _⟩ := h; subst e; rfl)
      | (obtain ⟨_, _, e, _⟩ := h; subst e; rfl)
      | (obtain ⟨_, _, _, e, _⟩ := h; subst e; rfl)
      | (obtain ⟨_, _, _, _, e, _⟩ := h; subst e; rfl)
      | (obtain ⟨_, _, _, _, _, e, _⟩ := h; subst e; rfl)
      | (obtain ⟨_, _, _, _, _, _, e, _⟩ := h; subst e; rfl))
    (fun cdv A outer s H E hr => g__law_turns (F__law_is_plain.mono (by decide)) m_range m_len m_max cdv A outer s H E hr)
    (fun ds G R H h g => ⟨G, g, p__law_turns ds G R h⟩)
theorem ok_ways_many {f : Addr} {fd : FuncData} (F : FunD K "ways_many" "ways_many" (defArgs s5) (defBody s5) (defScope s5) [] [] f fd) (hm : mg "ways_many" = some (.ref f)) (F_numbers_to : FU P w K mg base 2 "numbers_to" 3 sp_numbers_to)  : FU P w K mg base 3 "ways_many" 3 sp_ways_many :=
  fu_of (k := 2) (t := t_ways_many sp_numbers_to) F hm (FunD.bindsN (ps := ["room", "start", "end"]) F fun _ _ _ _ _ _ us hl => match us, hl with | [_, _, _], _ => rfl) sc_ways_many (fun ds G R h => by
    first
      | (obtain ⟨e, _⟩ := h; subst e; rfl)
      | (obtain ⟨_, e, _⟩ := h; subst e; rfl)
      | (obtain ⟨_, _, e, _⟩ := h; subst e; rfl)
      | (obtain ⟨_, _, _, e, _⟩ := h; subst e; rfl)
      | (obtain ⟨_, _, _, _, e, _⟩ := h; subst e; rfl)
      | (obtain ⟨_, _, _, _, _, e, _⟩ := h; subst e; rfl)
      | (obtain ⟨_, _, _, _, _, _, e, _⟩ := h; subst e; rfl))
    (fun cdv A outer s H E hr => g_ways_many (F_numbers_to.mono (by decide))  cdv A outer s H E hr)
    (fun ds G R H h g => ⟨G, g, p_ways_many ds G R h⟩)
theorem ok_way_at {f : Addr} {fd : FuncData} (F : FunD K "way_at" "way_at" (defArgs s6) (defBody s6) (defScope s6) [] [] f fd) (hm : mg "way_at" = some (.ref f)) (F_numbers_to : FU P w K mg base 2 "numbers_to" 3 sp_numbers_to) (F_signs_between : FU P w K mg base 1 "signs_between" 2 sp_signs_between) (F_moves : FU P w K mg base 1 "moves" 0 sp_moves)  : FU P w K mg base 3 "way_at" 4 sp_way_at :=
  fu_of (k := 2) (t := t_way_at sp_numbers_to sp_signs_between sp_moves) F hm (FunD.bindsN (ps := ["room", "start", "end", "n"]) F fun _ _ _ _ _ _ us hl => match us, hl with | [_, _, _, _], _ => rfl) sc_way_at (fun ds G R h => by
    first
      | (obtain ⟨e, _⟩ := h; subst e; rfl)
      | (obtain ⟨_, e, _⟩ := h; subst e; rfl)
      | (obtain ⟨_, _, e, _⟩ := h; subst e; rfl)
      | (obtain ⟨_, _, _, e, _⟩ := h; subst e; rfl)
      | (obtain ⟨_, _, _, _, e, _⟩ := h; subst e; rfl)
      | (obtain ⟨_, _, _, _, _, e, _⟩ := h; subst e; rfl)
      | (obtain ⟨_, _, _, _, _, _, e, _⟩ := h; subst e; rfl))
    (fun cdv A outer s H E hr => g_way_at (F_numbers_to.mono (by decide)) (F_signs_between.mono (by decide)) (F_moves.mono (by decide))  cdv A outer s H E hr)
    (fun ds G R H h g => ⟨G, g, p_way_at ds G R h⟩)
theorem ok_corner_fields {f : Addr} {fd : FuncData} (F : FunD K "corner_fields" "corner_fields" (defArgs s11) (defBody s11) (defScope s11) [] [] f fd) (hm : mg "corner_fields" = some (.ref f)) (F_corner_field : FU P w K mg base 2 "corner_field" 3 sp_corner_field) (m_tuple : mg "tuple" = none) : FU P w K mg base 3 "corner_fields" 2 sp_corner_fields :=
  fu_of (k := 2) (t := t_corner_fields sp_corner_field) F hm (FunD.bindsN (ps := ["room", "stall"]) F fun _ _ _ _ _ _ us hl => match us, hl with | [_, _], _ => rfl) sc_corner_fields (fun ds G R h => by
    first
      | (obtain ⟨e, _⟩ := h; subst e; rfl)
      | (obtain ⟨_, e, _⟩ := h; subst e; rfl)
      | (obtain ⟨_, _, e, _⟩ := h; subst e; rfl)
      | (obtain ⟨_, _, _, e, _⟩ := h; subst e; rfl)
      | (obtain ⟨_, _, _, _, e, _⟩ := h; subst e; rfl)
      | (obtain ⟨_, _, _, _, _, e, _⟩ := h; subst e; rfl)
      | (obtain ⟨_, _, _, _, _, _, e, _⟩ := h; subst e; rfl))
    (fun cdv A outer s H E hr => g_corner_fields (F_corner_field.mono (by decide)) m_tuple cdv A outer s H E hr)
    (fun ds G R H h g => ⟨G, g, p_corner_fields ds G R h⟩)
theorem ok_is_lot {f : Addr} {fd : FuncData} (F : FunD K "is_lot" "is_lot" (defArgs s23) (defBody s23) (defScope s23) [] [] f fd) (hm : mg "is_lot" = some (.ref f)) (F_is_cell : FU P w K mg base 2 "is_cell" 1 sp_is_cell) (m_isinstance : mg "isinstance" = none) (m_tuple : mg "tuple" = none) (m_all : mg "all" = none) (m_zip : mg "zip" = none) : FU P w K mg base 3 "is_lot" 1 sp_is_lot :=
  fu_of (k := 2) (t := t_is_lot sp_is_cell) F hm (FunD.bindsN (ps := ["value"]) F fun _ _ _ _ _ _ us hl => match us, hl with | [_], _ => rfl) sc_is_lot (fun ds G R h => by
    first
      | (obtain ⟨e, _⟩ := h; subst e; rfl)
      | (obtain ⟨_, e, _⟩ := h; subst e; rfl)
      | (obtain ⟨_, _, e, _⟩ := h; subst e; rfl)
      | (obtain ⟨_, _, _, e, _⟩ := h; subst e; rfl)
      | (obtain ⟨_, _, _, _, e, _⟩ := h; subst e; rfl)
      | (obtain ⟨_, _, _, _, _, e, _⟩ := h; subst e; rfl)
      | (obtain ⟨_, _, _, _, _, _, e, _⟩ := h; subst e; rfl))
    (fun cdv A outer s H E hr => g_is_lot (F_is_cell.mono (by decide)) m_isinstance m_tuple m_all m_zip cdv A outer s H E hr)
    (fun ds G R H h g => ⟨G, g, p_is_lot ds G R h⟩)
theorem ok_log_of {f : Addr} {fd : FuncData} (F : FunD K "log_of" "log_of" (defArgs s39) (defBody s39) (defScope s39) [] [] f fd) (hm : mg "log_of" = some (.ref f)) (F_first_two_pair : FU P w K mg base 2 "first_two_pair" 1 sp_first_two_pair) (F_joined : FU P w K mg base 1 "joined" 3 sp_joined) (m_tuple : mg "tuple" = none) : FU P w K mg base 3 "log_of" 1 sp_log_of :=
  fu_of (k := 2) (t := t_log_of sp_first_two_pair sp_joined) F hm (FunD.bindsN (ps := ["web"]) F fun _ _ _ _ _ _ us hl => match us, hl with | [_], _ => rfl) sc_log_of (fun ds G R h => by
    first
      | (obtain ⟨e, _⟩ := h; subst e; rfl)
      | (obtain ⟨_, e, _⟩ := h; subst e; rfl)
      | (obtain ⟨_, _, e, _⟩ := h; subst e; rfl)
      | (obtain ⟨_, _, _, e, _⟩ := h; subst e; rfl)
      | (obtain ⟨_, _, _, _, e, _⟩ := h; subst e; rfl)
      | (obtain ⟨_, _, _, _, _, e, _⟩ := h; subst e; rfl)
      | (obtain ⟨_, _, _, _, _, _, e, _⟩ := h; subst e; rfl))
    (fun cdv A outer s H E hr => g_log_of (F_first_two_pair.mono (by decide)) (F_joined.mono (by decide)) m_tuple cdv A outer s H E hr)
    (fun ds G R H h g => ⟨G, g, p_log_of ds G R h⟩)
theorem ok_knot_back {f : Addr} {fd : FuncData} (F : FunD K "knot_back" "knot_back" (defArgs s42) (defBody s42) (defScope s42) [] [] f fd) (hm : mg "knot_back" = some (.ref f)) (F_webs_ahead : FU P w K mg base 2 "webs_ahead" 2 sp_webs_ahead) (F_all_next : FU P w K mg base 2 "all_next" 1 sp_all_next) (F_are_next : FU P w K mg base 1 "are_next" 3 sp_are_next) (m_list : mg "list" = none) (m_zip : mg "zip" = none) (m_all : mg "all" = none) (m_tuple : mg "tuple" = none) (m_sorted : mg "sorted" = none) : FU P w K mg base 3 "knot_back" 2 sp_knot_back :=
  fu_of (k := 2) (t := t_knot_back sp_webs_ahead sp_all_next sp_are_next) F hm (FunD.bindsN (ps := ["web", "log"]) F fun _ _ _ _ _ _ us hl => match us, hl with | [_, _], _ => rfl) sc_knot_back (fun ds G R h => by
    first
      | (obtain ⟨e, _⟩ := h; subst e; rfl)
      | (obtain ⟨_, e, _⟩ := h; subst e; rfl)
      | (obtain ⟨_, _, e, _⟩ := h; subst e; rfl)
      | (obtain ⟨_, _, _, e, _⟩ := h; subst e; rfl)
      | (obtain ⟨_, _, _, _, e, _⟩ := h; subst e; rfl)
      | (obtain ⟨_, _, _, _, _, e, _⟩ := h; subst e; rfl)
      | (obtain ⟨_, _, _, _, _, _, e, _⟩ := h; subst e; rfl))
    (fun cdv A outer s H E hr => g_knot_back (F_webs_ahead.mono (by decide)) (F_all_next.mono (by decide)) (F_are_next.mono (by decide)) m_list m_zip m_all m_tuple m_sorted cdv A outer s H E hr)
    (fun ds G R H h g => ⟨G, g, p_knot_back ds G R h⟩)
theorem ok_corridor_cells {f : Addr} {fd : FuncData} (F : FunD K "corridor_cells" "corridor_cells" (defArgs s55) (defBody s55) (defScope s55) [] [] f fd) (hm : mg "corridor_cells" = some (.ref f)) (F_trail : FU P w K mg base 2 "trail" 2 sp_trail)  : FU P w K mg base 3 "corridor_cells" 1 sp_corridor_cells :=
  fu_of (k := 2) (t := t_corridor_cells sp_trail) F hm (FunD.bindsN (ps := ["steps"]) F fun _ _ _ _ _ _ us hl => match us, hl with | [_], _ => rfl) sc_corridor_cells (fun ds G R h => by
    first
      | (obtain ⟨e, _⟩ := h; subst e; rfl)
      | (obtain ⟨_, e, _⟩ := h; subst e; rfl)
      | (obtain ⟨_, _, e, _⟩ := h; subst e; rfl)
      | (obtain ⟨_, _, _, e, _⟩ := h; subst e; rfl)
      | (obtain ⟨_, _, _, _, e, _⟩ := h; subst e; rfl)
      | (obtain ⟨_, _, _, _, _, e, _⟩ := h; subst e; rfl)
      | (obtain ⟨_, _, _, _, _, _, e, _⟩ := h; subst e; rfl))
    (fun cdv A outer s H E hr => g_corridor_cells (F_trail.mono (by decide))  cdv A outer s H E hr)
    (fun ds G R H h g => ⟨G, g, p_corridor_cells ds G R h⟩)
theorem ok_corridor_turns {f : Addr} {fd : FuncData} (F : FunD K "corridor_turns" "corridor_turns" (defArgs s59) (defBody s59) (defScope s59) [] [] f fd) (hm : mg "corridor_turns" = some (.ref f)) (F_corridor_stretch : FU P w K mg base 2 "corridor_stretch" 2 sp_corridor_stretch) (m_len : mg "len" = none) : FU P w K mg base 3 "corridor_turns" 1 sp_corridor_turns :=
  fu_of (k := 2) (t := t_corridor_turns sp_corridor_stretch) F hm (FunD.bindsN (ps := ["steps"]) F fun _ _ _ _ _ _ us hl => match us, hl with | [_], _ => rfl) sc_corridor_turns (fun ds G R h => by
    first
      | (obtain ⟨e, _⟩ := h; subst e; rfl)
      | (obtain ⟨_, e, _⟩ := h; subst e; rfl)
      | (obtain ⟨_, _, e, _⟩ := h; subst e; rfl)
      | (obtain ⟨_, _, _, e, _⟩ := h; subst e; rfl)
      | (obtain ⟨_, _, _, _, e, _⟩ := h; subst e; rfl)
      | (obtain ⟨_, _, _, _, _, e, _⟩ := h; subst e; rfl)
      | (obtain ⟨_, _, _, _, _, _, e, _⟩ := h; subst e; rfl))
    (fun cdv A outer s H E hr => g_corridor_turns (F_corridor_stretch.mono (by decide)) m_len cdv A outer s H E hr)
    (fun ds G R H h g => ⟨G, g, p_corridor_turns ds G R h⟩)
theorem ok__law_draw_corridor {f : Addr} {fd : FuncData} (F : FunD K "_law_draw_corridor" "_law_draw_corridor" (defArgs s69) (defBody s69) (defScope s69) [] [] f fd) (hm : mg "_law_draw_corridor" = some (.ref f)) (F__law_pick : FU P w K mg base 1 "_law_pick" 2 sp__law_pick) (F__law_is_corridor : FU P w K mg base 2 "_law_is_corridor" 1 sp__law_is_corridor) (m_range : mg "range" = none) : FU P w K mg base 3 "_law_draw_corridor" 2 sp__law_draw_corridor :=
  fu_of (k := 2) (t := t__law_draw_corridor sp__law_pick sp__law_is_corridor) F hm (FunD.bindsN (ps := ["source", "most"]) F fun _ _ _ _ _ _ us hl => match us, hl with | [_, _], _ => rfl) sc__law_draw_corridor (fun ds G R h => by
    first
      | (obtain ⟨e, _⟩ := h; subst e; rfl)
      | (obtain ⟨_, e, _⟩ := h; subst e; rfl)
      | (obtain ⟨_, _, e, _⟩ := h; subst e; rfl)
      | (obtain ⟨_, _, _, e, _⟩ := h; subst e; rfl)
      | (obtain ⟨_, _, _, _, e, _⟩ := h; subst e; rfl)
      | (obtain ⟨_, _, _, _, _, e, _⟩ := h; subst e; rfl)
      | (obtain ⟨_, _, _, _, _, _, e, _⟩ := h; subst e; rfl))
    (fun cdv A outer s H E hr => g__law_draw_corridor (F__law_pick.mono (by decide)) (F__law_is_corridor.mono (by decide)) m_range cdv A outer s H E hr)
    (fun ds G R H h g => ⟨G, g, p__law_draw_corridor ds G R h⟩)
theorem ok_serves {f : Addr} {fd : FuncData} (F : FunD K "serves" "serves" (defArgs s8) (defBody s8) (defScope s8) [] [] f fd) (hm : mg "serves" = some (.ref f)) (F_ways_many : FU P w K mg base 3 "ways_many" 3 sp_ways_many)  : FU P w K mg base 4 "serves" 3 sp_serves :=
  fu_of (k := 3) (t := t_serves sp_ways_many) F hm (FunD.bindsN (ps := ["room", "stall", "spot"]) F fun _ _ _ _ _ _ us hl => match us, hl with | [_, _, _], _ => rfl) sc_serves (fun ds G R h => by
    first
      | (obtain ⟨e, _⟩ := h; subst e; rfl)
      | (obtain ⟨_, e, _⟩ := h; subst e; rfl)
      | (obtain ⟨_, _, e, _⟩ := h; subst e; rfl)
      | (obtain ⟨_, _, _, e, _⟩ := h; subst e; rfl)
      | (obtain ⟨_, _, _, _, e, _⟩ := h; subst e; rfl)
      | (obtain ⟨_, _, _, _, _, e, _⟩ := h; subst e; rfl)
      | (obtain ⟨_, _, _, _, _, _, e, _⟩ := h; subst e; rfl))
    (fun cdv A outer s H E hr => g_serves (F_ways_many.mono (by decide))  cdv A outer s H E hr)
    (fun ds G R H h g => ⟨G, g, p_serves ds G R h⟩)
theorem ok_field {f : Addr} {fd : FuncData} (F : FunD K "field" "field" (defArgs s12) (defBody s12) (defScope s12) [] [] f fd) (hm : mg "field" = some (.ref f)) (F_corner_fields : FU P w K mg base 3 "corner_fields" 2 sp_corner_fields) (m_tuple : mg "tuple" = none) (m_sorted : mg "sorted" = none) : FU P w K mg base 4 "field" 2 sp_field :=
  fu_of (k := 3) (t := t_field sp_corner_fields) F hm (FunD.bindsN (ps := ["room", "stall"]) F fun _ _ _ _ _ _ us hl => match us, hl with | [_, _], _ => rfl) sc_field (fun ds G R h => by
    first
      | (obtain ⟨e, _⟩ := h; subst e; rfl)
      | (obtain ⟨_, e, _⟩ := h; subst e; rfl)
      | (obtain ⟨_, _, e, _⟩ := h; subst e; rfl)
      | (obtain ⟨_, _, _, e, _⟩ := h; subst e; rfl)
      | (obtain ⟨_, _, _, _, e, _⟩ := h; subst e; rfl)
      | (obtain ⟨_, _, _, _, _, e, _⟩ := h; subst e; rfl)
      | (obtain ⟨_, _, _, _, _, _, e, _⟩ := h; subst e; rfl))
    (fun cdv A outer s H E hr => g_field (F_corner_fields.mono (by decide)) m_tuple m_sorted cdv A outer s H E hr)
    (fun ds G R H h g => ⟨G, g, p_field ds G R h⟩)
theorem ok_split_of {f : Addr} {fd : FuncData} (F : FunD K "split_of" "split_of" (defArgs s43) (defBody s43) (defScope s43) [] [] f fd) (hm : mg "split_of" = some (.ref f)) (F_log_of : FU P w K mg base 3 "log_of" 1 sp_log_of) (F_groups : FU P w K mg base 1 "groups" 2 sp_groups) (F_knot_back : FU P w K mg base 3 "knot_back" 2 sp_knot_back)  : FU P w K mg base 4 "split_of" 1 sp_split_of :=
  fu_of (k := 3) (t := t_split_of sp_log_of sp_groups sp_knot_back) F hm (FunD.bindsN (ps := ["web"]) F fun _ _ _ _ _ _ us hl => match us, hl with | [_], _ => rfl) sc_split_of (fun ds G R h => by
    first
      | (obtain ⟨e, _⟩ := h; subst e; rfl)
      | (obtain ⟨_, e, _⟩ := h; subst e; rfl)
      | (obtain ⟨_, _, e, _⟩ := h; subst e; rfl)
      | (obtain ⟨_, _, _, e, _⟩ := h; subst e; rfl)
      | (obtain ⟨_, _, _, _, e, _⟩ := h; subst e; rfl)
      | (obtain ⟨_, _, _, _, _, e, _⟩ := h; subst e; rfl)
      | (obtain ⟨_, _, _, _, _, _, e, _⟩ := h; subst e; rfl))
    (fun cdv A outer s H E hr => g_split_of (F_log_of.mono (by decide)) (F_groups.mono (by decide)) (F_knot_back.mono (by decide))  cdv A outer s H E hr)
    (fun ds G R H h g => ⟨G, g, p_split_of ds G R h⟩)
theorem ok_is_lot_in {f : Addr} {fd : FuncData} (F : FunD K "is_lot_in" "is_lot_in" (defArgs s48) (defBody s48) (defScope s48) [] [] f fd) (hm : mg "is_lot_in" = some (.ref f)) (F_is_lot : FU P w K mg base 3 "is_lot" 1 sp_is_lot) (F_lies_in : FU P w K mg base 2 "lies_in" 2 sp_lies_in)  : FU P w K mg base 4 "is_lot_in" 2 sp_is_lot_in :=
  fu_of (k := 3) (t := t_is_lot_in sp_is_lot sp_lies_in) F hm (FunD.bindsN (ps := ["room", "value"]) F fun _ _ _ _ _ _ us hl => match us, hl with | [_, _], _ => rfl) sc_is_lot_in (fun ds G R h => by
    first
      | (obtain ⟨e, _⟩ := h; subst e; rfl)
      | (obtain ⟨_, e, _⟩ := h; subst e; rfl)
      | (obtain ⟨_, _, e, _⟩ := h; subst e; rfl)
      | (obtain ⟨_, _, _, e, _⟩ := h; subst e; rfl)
      | (obtain ⟨_, _, _, _, e, _⟩ := h; subst e; rfl)
      | (obtain ⟨_, _, _, _, _, e, _⟩ := h; subst e; rfl)
      | (obtain ⟨_, _, _, _, _, _, e, _⟩ := h; subst e; rfl))
    (fun cdv A outer s H E hr => g_is_lot_in (F_is_lot.mono (by decide)) (F_lies_in.mono (by decide))  cdv A outer s H E hr)
    (fun ds G R H h g => ⟨G, g, p_is_lot_in ds G R h⟩)
theorem ok_corridor {f : Addr} {fd : FuncData} (F : FunD K "corridor" "corridor" (defArgs s56) (defBody s56) (defScope s56) [] [] f fd) (hm : mg "corridor" = some (.ref f)) (F_corridor_cells : FU P w K mg base 3 "corridor_cells" 1 sp_corridor_cells) (m_tuple : mg "tuple" = none) (m_sorted : mg "sorted" = none) : FU P w K mg base 4 "corridor" 1 sp_corridor :=
  fu_of (k := 3) (t := t_corridor sp_corridor_cells) F hm (FunD.bindsN (ps := ["steps"]) F fun _ _ _ _ _ _ us hl => match us, hl with | [_], _ => rfl) sc_corridor (fun ds G R h => by
    first
      | (obtain ⟨e, _⟩ := h; subst e; rfl)
      | (obtain ⟨_, e, _⟩ := h; subst e; rfl)
      | (obtain ⟨_, _, e, _⟩ := h; subst e; rfl)
      | (obtain ⟨_, _, _, e, _⟩ := h; subst e; rfl)
      | (obtain ⟨_, _, _, _, e, _⟩ := h; subst e; rfl)
      | (obtain ⟨_, _, _, _, _, e, _⟩ := h; subst e; rfl)
      | (obtain ⟨_, _, _, _, _, _, e, _⟩ := h; subst e; rfl))
    (fun cdv A outer s H E hr => g_corridor (F_corridor_cells.mono (by decide)) m_tuple m_sorted cdv A outer s H E hr)
    (fun ds G R H h g => ⟨G, g, p_corridor ds G R h⟩)
theorem ok_corridor_stalls {f : Addr} {fd : FuncData} (F : FunD K "corridor_stalls" "corridor_stalls" (defArgs s60) (defBody s60) (defScope s60) [] [] f fd) (hm : mg "corridor_stalls" = some (.ref f)) (F_corridor_turns : FU P w K mg base 3 "corridor_turns" 1 sp_corridor_turns) (m_tuple : mg "tuple" = none) : FU P w K mg base 4 "corridor_stalls" 1 sp_corridor_stalls :=
  fu_of (k := 3) (t := t_corridor_stalls sp_corridor_turns) F hm (FunD.bindsN (ps := ["steps"]) F fun _ _ _ _ _ _ us hl => match us, hl with | [_], _ => rfl) sc_corridor_stalls (fun ds G R h => by
    first
      | (obtain ⟨e, _⟩ := h; subst e; rfl)
      | (obtain ⟨_, e, _⟩ := h; subst e; rfl)
      | (obtain ⟨_, _, e, _⟩ := h; subst e; rfl)
      | (obtain ⟨_, _, _, e, _⟩ := h; subst e; rfl)
      | (obtain ⟨_, _, _, _, e, _⟩ := h; subst e; rfl)
      | (obtain ⟨_, _, _, _, _, e, _⟩ := h; subst e; rfl)
      | (obtain ⟨_, _, _, _, _, _, e, _⟩ := h; subst e; rfl))
    (fun cdv A outer s H E hr => g_corridor_stalls (F_corridor_turns.mono (by decide)) m_tuple cdv A outer s H E hr)
    (fun ds G R H h g => ⟨G, g, p_corridor_stalls ds G R h⟩)
theorem ok_corridor_spots {f : Addr} {fd : FuncData} (F : FunD K "corridor_spots" "corridor_spots" (defArgs s61) (defBody s61) (defScope s61) [] [] f fd) (hm : mg "corridor_spots" = some (.ref f)) (F_corridor_turns : FU P w K mg base 3 "corridor_turns" 1 sp_corridor_turns) (m_tuple : mg "tuple" = none) : FU P w K mg base 4 "corridor_spots" 1 sp_corridor_spots :=
  fu_of (k := 3) (t := t_corridor_spots sp_corridor_turns) F hm (FunD.bindsN (ps := ["steps"]) F fun _ _ _ _ _ _ us hl => match us, hl with | [_], _ => rfl) sc_corridor_spots (fun ds G R h => by
    first
      | (obtain ⟨e, _⟩ := h; subst e; rfl)
      | (obtain ⟨_, e, _⟩ := h; subst e; rfl)
      | (obtain ⟨_, _, e, _⟩ := h; subst e; rfl)
      | (obtain ⟨_, _, _, e, _⟩ := h; subst e; rfl)
      | (obtain ⟨_, _, _, _, e, _⟩ := h; subst e; rfl)
      | (obtain ⟨_, _, _, _, _, e, _⟩ := h; subst e; rfl)
      | (obtain ⟨_, _, _, _, _, _, e, _⟩ := h; subst e; rfl))
    (fun cdv A outer s H E hr => g_corridor_spots (F_corridor_turns.mono (by decide)) m_tuple cdv A outer s H E hr)
    (fun ds G R H h g => ⟨G, g, p_corridor_spots ds G R h⟩)
theorem ok_first_way {f : Addr} {fd : FuncData} (F : FunD K "first_way" "first_way" (defArgs s7) (defBody s7) (defScope s7) [] [] f fd) (hm : mg "first_way" = some (.ref f)) (F_serves : FU P w K mg base 4 "serves" 3 sp_serves) (F_way_at : FU P w K mg base 3 "way_at" 4 sp_way_at)  : FU P w K mg base 5 "first_way" 3 sp_first_way :=
  fu_of (k := 4) (t := t_first_way sp_serves sp_way_at) F hm (FunD.bindsN (ps := ["room", "start", "end"]) F fun _ _ _ _ _ _ us hl => match us, hl with | [_, _, _], _ => rfl) sc_first_way (fun ds G R h => by
    first
      | (obtain ⟨e, _⟩ := h; subst e; rfl)
      | (obtain ⟨_, e, _⟩ := h; subst e; rfl)
      | (obtain ⟨_, _, e, _⟩ := h; subst e; rfl)
      | (obtain ⟨_, _, _, e, _⟩ := h; subst e; rfl)
      | (obtain ⟨_, _, _, _, e, _⟩ := h; subst e; rfl)
      | (obtain ⟨_, _, _, _, _, e, _⟩ := h; subst e; rfl)
      | (obtain ⟨_, _, _, _, _, _, e, _⟩ := h; subst e; rfl))
    (fun cdv A outer s H E hr => g_first_way (F_serves.mono (by decide)) (F_way_at.mono (by decide))  cdv A outer s H E hr)
    (fun ds G R H h g => ⟨G, g, p_first_way ds G R h⟩)
theorem ok_common_stalls {f : Addr} {fd : FuncData} (F : FunD K "common_stalls" "common_stalls" (defArgs s13) (defBody s13) (defScope s13) [] [] f fd) (hm : mg "common_stalls" = some (.ref f)) (F_field : FU P w K mg base 4 "field" 2 sp_field) (m_list : mg "list" = none) (m_tuple : mg "tuple" = none) : FU P w K mg base 5 "common_stalls" 2 sp_common_stalls :=
  fu_of (k := 4) (t := t_common_stalls sp_field) F hm (FunD.bindsN (ps := ["room", "lot"]) F fun _ _ _ _ _ _ us hl => match us, hl with | [_, _], _ => rfl) sc_common_stalls (fun ds G R h => by
    first
      | (obtain ⟨e, _⟩ := h; subst e; rfl)
      | (obtain ⟨_, e, _⟩ := h; subst e; rfl)
      | (obtain ⟨_, _, e, _⟩ := h; subst e; rfl)
      | (obtain ⟨_, _, _, e, _⟩ := h; subst e; rfl)
      | (obtain ⟨_, _, _, _, e, _⟩ := h; subst e; rfl)
      | (obtain ⟨_, _, _, _, _, e, _⟩ := h; subst e; rfl)
      | (obtain ⟨_, _, _, _, _, _, e, _⟩ := h; subst e; rfl))
    (fun cdv A outer s H E hr => g_common_stalls (F_field.mono (by decide)) m_list m_tuple cdv A outer s H E hr)
    (fun ds G R H h g => ⟨G, g, p_common_stalls ds G R h⟩)
theorem ok_hard_in {f : Addr} {fd : FuncData} (F : FunD K "hard_in" "hard_in" (defArgs s17) (defBody s17) (defScope s17) [] [] f fd) (hm : mg "hard_in" = some (.ref f)) (F_hard_of : FU P w K mg base 2 "hard_of" 1 sp_hard_of) (F_field : FU P w K mg base 4 "field" 2 sp_field)  : FU P w K mg base 5 "hard_in" 2 sp_hard_in :=
  fu_of (k := 4) (t := t_hard_in sp_hard_of sp_field) F hm (FunD.bindsN (ps := ["room", "lot"]) F fun _ _ _ _ _ _ us hl => match us, hl with | [_, _], _ => rfl) sc_hard_in (fun ds G R h => by
    first
      | (obtain ⟨e, _⟩ := h; subst e; rfl)
      | (obtain ⟨_, e, _⟩ := h; subst e; rfl)
      | (obtain ⟨_, _, e, _⟩ := h; subst e; rfl)
      | (obtain ⟨_, _, _, e, _⟩ := h; subst e; rfl)
      | (obtain ⟨_, _, _, _, e, _⟩ := h; subst e; rfl)
      | (obtain ⟨_, _, _, _, _, e, _⟩ := h; subst e; rfl)
      | (obtain ⟨_, _, _, _, _, _, e, _⟩ := h; subst e; rfl))
    (fun cdv A outer s H E hr => g_hard_in (F_hard_of.mono (by decide)) (F_field.mono (by decide))  cdv A outer s H E hr)
    (fun ds G R H h g => ⟨G, g, p_hard_in ds G R h⟩)
theorem ok_lit {f : Addr} {fd : FuncData} (F : FunD K "lit" "lit" (defArgs s18) (defBody s18) (defScope s18) [] [] f fd) (hm : mg "lit" = some (.ref f)) (F_field : FU P w K mg base 4 "field" 2 sp_field) (m_tuple : mg "tuple" = none) (m_sorted : mg "sorted" = none) : FU P w K mg base 5 "lit" 2 sp_lit :=
  fu_of (k := 4) (t := t_lit sp_field) F hm (FunD.bindsN (ps := ["room", "stalls"]) F fun _ _ _ _ _ _ us hl => match us, hl with | [_, _], _ => rfl) sc_lit (fun ds G R h => by
    first
      | (obtain ⟨e, _⟩ := h; subst e; rfl)
      | (obtain ⟨_, e, _⟩ := h; subst e; rfl)
      | (obtain ⟨_, _, e, _⟩ := h; subst e; rfl)
      | (obtain ⟨_, _, _, e, _⟩ := h; subst e; rfl)
      | (obtain ⟨_, _, _, _, e, _⟩ := h; subst e; rfl)
      | (obtain ⟨_, _, _, _, _, e, _⟩ := h; subst e; rfl)
      | (obtain ⟨_, _, _, _, _, _, e, _⟩ := h; subst e; rfl))
    (fun cdv A outer s H E hr => g_lit (F_field.mono (by decide)) m_tuple m_sorted cdv A outer s H E hr)
    (fun ds G R H h g => ⟨G, g, p_lit ds G R h⟩)
theorem ok_web_of {f : Addr} {fd : FuncData} (F : FunD K "web_of" "web_of" (defArgs s28) (defBody s28) (defScope s28) [] [] f fd) (hm : mg "web_of" = some (.ref f)) (F_field : FU P w K mg base 4 "field" 2 sp_field) (F_pairs_of : FU P w K mg base 1 "pairs_of" 1 sp_pairs_of) (m_any : mg "any" = none) (m_tuple : mg "tuple" = none) : FU P w K mg base 5 "web_of" 2 sp_web_of :=
  fu_of (k := 4) (t := t_web_of sp_field sp_pairs_of) F hm (FunD.bindsN (ps := ["room", "lot"]) F fun _ _ _ _ _ _ us hl => match us, hl with | [_, _], _ => rfl) sc_web_of (fun ds G R h => by
    first
      | (obtain ⟨e, _⟩ := h; subst e; rfl)
      | (obtain ⟨_, e, _⟩ := h; subst e; rfl)
      | (obtain ⟨_, _, e, _⟩ := h; subst e; rfl)
      | (obtain ⟨_, _, _, e, _⟩ := h; subst e; rfl)
      | (obtain ⟨_, _, _, _, e, _⟩ := h; subst e; rfl)
      | (obtain ⟨_, _, _, _, _, e, _⟩ := h; subst e; rfl)
      | (obtain ⟨_, _, _, _, _, _, e, _⟩ := h; subst e; rfl))
    (fun cdv A outer s H E hr => g_web_of (F_field.mono (by decide)) (F_pairs_of.mono (by decide)) m_any m_tuple cdv A outer s H E hr)
    (fun ds G R H h g => ⟨G, g, p_web_of ds G R h⟩)
theorem ok_are_tied {f : Addr} {fd : FuncData} (F : FunD K "are_tied" "are_tied" (defArgs s14) (defBody s14) (defScope s14) [] [] f fd) (hm : mg "are_tied" = some (.ref f)) (F_common_stalls : FU P w K mg base 5 "common_stalls" 2 sp_common_stalls)  : FU P w K mg base 6 "are_tied" 3 sp_are_tied :=
  fu_of (k := 5) (t := t_are_tied sp_common_stalls) F hm (FunD.bindsN (ps := ["room", "one", "other"]) F fun _ _ _ _ _ _ us hl => match us, hl with | [_, _, _], _ => rfl) sc_are_tied (fun ds G R h => by
    first
      | (obtain ⟨e, _⟩ := h; subst e; rfl)
      | (obtain ⟨_, e, _⟩ := h; subst e; rfl)
      | (obtain ⟨_, _, e, _⟩ := h; subst e; rfl)
      | (obtain ⟨_, _, _, e, _⟩ := h; subst e; rfl)
      | (obtain ⟨_, _, _, _, e, _⟩ := h; subst e; rfl)
      | (obtain ⟨_, _, _, _, _, e, _⟩ := h; subst e; rfl)
      | (obtain ⟨_, _, _, _, _, _, e, _⟩ := h; subst e; rfl))
    (fun cdv A outer s H E hr => g_are_tied (F_common_stalls.mono (by decide))  cdv A outer s H E hr)
    (fun ds G R H h g => ⟨G, g, p_are_tied ds G R h⟩)
theorem ok_dark_in {f : Addr} {fd : FuncData} (F : FunD K "dark_in" "dark_in" (defArgs s19) (defBody s19) (defScope s19) [] [] f fd) (hm : mg "dark_in" = some (.ref f)) (F_lit : FU P w K mg base 5 "lit" 2 sp_lit) (m_tuple : mg "tuple" = none) : FU P w K mg base 6 "dark_in" 3 sp_dark_in :=
  fu_of (k := 5) (t := t_dark_in sp_lit) F hm (FunD.bindsN (ps := ["room", "lot", "stalls"]) F fun _ _ _ _ _ _ us hl => match us, hl with | [_, _, _], _ => rfl) sc_dark_in (fun ds G R h => by
    first
      | (obtain ⟨e, _⟩ := h; subst e; rfl)
      | (obtain ⟨_, e, _⟩ := h; subst e; rfl)
      | (obtain ⟨_, _, e, _⟩ := h; subst e; rfl)
      | (obtain ⟨_, _, _, e, _⟩ := h; subst e; rfl)
      | (obtain ⟨_, _, _, _, e, _⟩ := h; subst e; rfl)
      | (obtain ⟨_, _, _, _, _, e, _⟩ := h; subst e; rfl)
      | (obtain ⟨_, _, _, _, _, _, e, _⟩ := h; subst e; rfl))
    (fun cdv A outer s H E hr => g_dark_in (F_lit.mono (by decide)) m_tuple cdv A outer s H E hr)
    (fun ds G R H h g => ⟨G, g, p_dark_in ds G R h⟩)
theorem ok_answer_for {f : Addr} {fd : FuncData} (F : FunD K "answer_for" "answer_for" (defArgs s45) (defBody s45) (defScope s45) [] [] f fd) (hm : mg "answer_for" = some (.ref f)) (F_split_of : FU P w K mg base 4 "split_of" 1 sp_split_of) (F_contrary : FU P w K mg base 2 "contrary" 1 sp_contrary) (F_web_of : FU P w K mg base 5 "web_of" 2 sp_web_of) (F_hard_in : FU P w K mg base 5 "hard_in" 2 sp_hard_in) (F_common_stalls : FU P w K mg base 5 "common_stalls" 2 sp_common_stalls) (m_tuple : mg "tuple" = none) (m_sorted : mg "sorted" = none) : FU P w K mg base 6 "answer_for" 2 sp_answer_for :=
  fu_of (k := 5) (t := t_answer_for sp_split_of sp_contrary sp_web_of sp_hard_in sp_common_stalls) F hm (FunD.bindsN (ps := ["room", "lot"]) F fun _ _ _ _ _ _ us hl => match us, hl with | [_, _], _ => rfl) sc_answer_for (fun ds G R h => by
    first
      | (obtain ⟨e, _⟩ := h; subst e; rfl)
      | (obtain ⟨_, e, _⟩ := h; subst e; rfl)
      | (obtain ⟨_, _, e, _⟩ := h; subst e; rfl)
      | (obtain ⟨_, _, _, e, _⟩ := h; subst e; rfl)
      | (obtain ⟨_, _, _, _, e, _⟩ := h; subst e; rfl)
      | (obtain ⟨_, _, _, _, _, e, _⟩ := h; subst e; rfl)
      | (obtain ⟨_, _, _, _, _, _, e, _⟩ := h; subst e; rfl))
    (fun cdv A outer s H E hr => g_answer_for (F_split_of.mono (by decide)) (F_contrary.mono (by decide)) (F_web_of.mono (by decide)) (F_hard_in.mono (by decide)) (F_common_stalls.mono (by decide)) m_tuple m_sorted cdv A outer s H E hr)
    (fun ds G R H h g => ⟨G, g, p_answer_for ds G R h⟩)
theorem ok_answer {f : Addr} {fd : FuncData} (F : FunD K "answer" "answer" (defArgs s46) (defBody s46) (defScope s46) [] [] f fd) (hm : mg "answer" = some (.ref f)) (F_answer_for : FU P w K mg base 6 "answer_for" 2 sp_answer_for)  : FU P w K mg base 7 "answer" 1 sp_answer :=
  fu_of (k := 6) (t := t_answer sp_answer_for) F hm (FunD.bindsN (ps := ["room"]) F fun _ _ _ _ _ _ us hl => match us, hl with | [_], _ => rfl) sc_answer (fun ds G R h => by
    first
      | (obtain ⟨e, _⟩ := h; subst e; rfl)
      | (obtain ⟨_, e, _⟩ := h; subst e; rfl)
      | (obtain ⟨_, _, e, _⟩ := h; subst e; rfl)
      | (obtain ⟨_, _, _, e, _⟩ := h; subst e; rfl)
      | (obtain ⟨_, _, _, _, e, _⟩ := h; subst e; rfl)
      | (obtain ⟨_, _, _, _, _, e, _⟩ := h; subst e; rfl)
      | (obtain ⟨_, _, _, _, _, _, e, _⟩ := h; subst e; rfl))
    (fun cdv A outer s H E hr => g_answer (F_answer_for.mono (by decide))  cdv A outer s H E hr)
    (fun ds G R H h g => ⟨G, g, p_answer ds G R h⟩)
theorem ok_fewest {f : Addr} {fd : FuncData} (F : FunD K "fewest" "fewest" (defArgs s47) (defBody s47) (defScope s47) [] [] f fd) (hm : mg "fewest" = some (.ref f)) (F_answer_for : FU P w K mg base 6 "answer_for" 2 sp_answer_for) (m_len : mg "len" = none) : FU P w K mg base 7 "fewest" 2 sp_fewest :=
  fu_of (k := 6) (t := t_fewest sp_answer_for) F hm (FunD.bindsN (ps := ["room", "lot"]) F fun _ _ _ _ _ _ us hl => match us, hl with | [_, _], _ => rfl) sc_fewest (fun ds G R h => by
    first
      | (obtain ⟨e, _⟩ := h; subst e; rfl)
      | (obtain ⟨_, e, _⟩ := h; subst e; rfl)
      | (obtain ⟨_, _, e, _⟩ := h; subst e; rfl)
      | (obtain ⟨_, _, _, e, _⟩ := h; subst e; rfl)
      | (obtain ⟨_, _, _, _, e, _⟩ := h; subst e; rfl)
      | (obtain ⟨_, _, _, _, _, e, _⟩ := h; subst e; rfl)
      | (obtain ⟨_, _, _, _, _, _, e, _⟩ := h; subst e; rfl))
    (fun cdv A outer s H E hr => g_fewest (F_answer_for.mono (by decide)) m_len cdv A outer s H E hr)
    (fun ds G R H h g => ⟨G, g, p_fewest ds G R h⟩)
theorem ok_dark_fault {f : Addr} {fd : FuncData} (F : FunD K "dark_fault" "dark_fault" (defArgs s49) (defBody s49) (defScope s49) [] [] f fd) (hm : mg "dark_fault" = some (.ref f)) (F_dark_in : FU P w K mg base 6 "dark_in" 3 sp_dark_in)  : FU P w K mg base 7 "dark_fault" 3 sp_dark_fault :=
  fu_of (k := 6) (t := t_dark_fault sp_dark_in) F hm (FunD.bindsN (ps := ["room", "lot", "stalls"]) F fun _ _ _ _ _ _ us hl => match us, hl with | [_, _, _], _ => rfl) sc_dark_fault (fun ds G R h => by
    first
      | (obtain ⟨e, _⟩ := h; subst e; rfl)
      | (obtain ⟨_, e, _⟩ := h; subst e; rfl)
      | (obtain ⟨_, _, e, _⟩ := h; subst e; rfl)
      | (obtain ⟨_, _, _, e, _⟩ := h; subst e; rfl)
      | (obtain ⟨_, _, _, _, e, _⟩ := h; subst e; rfl)
      | (obtain ⟨_, _, _, _, _, e, _⟩ := h; subst e; rfl)
      | (obtain ⟨_, _, _, _, _, _, e, _⟩ := h; subst e; rfl))
    (fun cdv A outer s H E hr => g_dark_fault (F_dark_in.mono (by decide))  cdv A outer s H E hr)
    (fun ds G R H h g => ⟨G, g, p_dark_fault ds G R h⟩)
theorem ok_spots_fault {f : Addr} {fd : FuncData} (F : FunD K "spots_fault" "spots_fault" (defArgs s50) (defBody s50) (defScope s50) [] [] f fd) (hm : mg "spots_fault" = some (.ref f)) (F_are_tied : FU P w K mg base 6 "are_tied" 3 sp_are_tied) (m_enumerate : mg "enumerate" = none) : FU P w K mg base 7 "spots_fault" 3 sp_spots_fault :=
  fu_of (k := 6) (t := t_spots_fault sp_are_tied) F hm (FunD.bindsN (ps := ["room", "lot", "spots"]) F fun _ _ _ _ _ _ us hl => match us, hl with | [_, _, _], _ => rfl) sc_spots_fault (fun ds G R h => by
    first
      | (obtain ⟨e, _⟩ := h; subst e; rfl)
      | (obtain ⟨_, e, _⟩ := h; subst e; rfl)
      | (obtain ⟨_, _, e, _⟩ := h; subst e; rfl)
      | (obtain ⟨_, _, _, e, _⟩ := h; subst e; rfl)
      | (obtain ⟨_, _, _, _, e, _⟩ := h; subst e; rfl)
      | (obtain ⟨_, _, _, _, _, e, _⟩ := h; subst e; rfl)
      | (obtain ⟨_, _, _, _, _, _, e, _⟩ := h; subst e; rfl))
    (fun cdv A outer s H E hr => g_spots_fault (F_are_tied.mono (by decide)) m_enumerate cdv A outer s H E hr)
    (fun ds G R H h g => ⟨G, g, p_spots_fault ds G R h⟩)
theorem ok_judge_answer {f : Addr} {fd : FuncData} (F : FunD K "judge_answer" "judge_answer" (defArgs s51) (defBody s51) (defScope s51) [] [] f fd) (hm : mg "judge_answer" = some (.ref f)) (F_is_lot_in : FU P w K mg base 4 "is_lot_in" 2 sp_is_lot_in) (F_dark_fault : FU P w K mg base 7 "dark_fault" 3 sp_dark_fault) (F_spots_fault : FU P w K mg base 7 "spots_fault" 3 sp_spots_fault) (m_isinstance : mg "isinstance" = none) (m_tuple : mg "tuple" = none) (m_len : mg "len" = none) : FU P w K mg base 8 "judge_answer" 3 sp_judge_answer :=
  fu_of (k := 7) (t := t_judge_answer sp_is_lot_in sp_dark_fault sp_spots_fault) F hm (FunD.bindsN (ps := ["room", "lot", "value"]) F fun _ _ _ _ _ _ us hl => match us, hl with | [_, _, _], _ => rfl) sc_judge_answer (fun ds G R h => by
    first
      | (obtain ⟨e, _⟩ := h; subst e; rfl)
      | (obtain ⟨_, e, _⟩ := h; subst e; rfl)
      | (obtain ⟨_, _, e, _⟩ := h; subst e; rfl)
      | (obtain ⟨_, _, _, e, _⟩ := h; subst e; rfl)
      | (obtain ⟨_, _, _, _, e, _⟩ := h; subst e; rfl)
      | (obtain ⟨_, _, _, _, _, e, _⟩ := h; subst e; rfl)
      | (obtain ⟨_, _, _, _, _, _, e, _⟩ := h; subst e; rfl))
    (fun cdv A outer s H E hr => g_judge_answer (F_is_lot_in.mono (by decide)) (F_dark_fault.mono (by decide)) (F_spots_fault.mono (by decide)) m_isinstance m_tuple m_len cdv A outer s H E hr)
    (fun ds G R H h g => ⟨G, g, p_judge_answer ds G R h⟩)
theorem ok_judge_stalls {f : Addr} {fd : FuncData} (F : FunD K "judge_stalls" "judge_stalls" (defArgs s52) (defBody s52) (defScope s52) [] [] f fd) (hm : mg "judge_stalls" = some (.ref f)) (F_is_lot_in : FU P w K mg base 4 "is_lot_in" 2 sp_is_lot_in) (F_dark_fault : FU P w K mg base 7 "dark_fault" 3 sp_dark_fault)  : FU P w K mg base 8 "judge_stalls" 3 sp_judge_stalls :=
  fu_of (k := 7) (t := t_judge_stalls sp_is_lot_in sp_dark_fault) F hm (FunD.bindsN (ps := ["room", "lot", "value"]) F fun _ _ _ _ _ _ us hl => match us, hl with | [_, _, _], _ => rfl) sc_judge_stalls (fun ds G R h => by
    first
      | (obtain ⟨e, _⟩ := h; subst e; rfl)
      | (obtain ⟨_, e, _⟩ := h; subst e; rfl)
      | (obtain ⟨_, _, e, _⟩ := h; subst e; rfl)
      | (obtain ⟨_, _, _, e, _⟩ := h; subst e; rfl)
      | (obtain ⟨_, _, _, _, e, _⟩ := h; subst e; rfl)
      | (obtain ⟨_, _, _, _, _, e, _⟩ := h; subst e; rfl)
      | (obtain ⟨_, _, _, _, _, _, e, _⟩ := h; subst e; rfl))
    (fun cdv A outer s H E hr => g_judge_stalls (F_is_lot_in.mono (by decide)) (F_dark_fault.mono (by decide))  cdv A outer s H E hr)
    (fun ds G R H h g => ⟨G, g, p_judge_stalls ds G R h⟩)
theorem ok_judge_spots {f : Addr} {fd : FuncData} (F : FunD K "judge_spots" "judge_spots" (defArgs s53) (defBody s53) (defScope s53) [] [] f fd) (hm : mg "judge_spots" = some (.ref f)) (F_is_lot_in : FU P w K mg base 4 "is_lot_in" 2 sp_is_lot_in) (F_spots_fault : FU P w K mg base 7 "spots_fault" 3 sp_spots_fault)  : FU P w K mg base 8 "judge_spots" 3 sp_judge_spots :=
  fu_of (k := 7) (t := t_judge_spots sp_is_lot_in sp_spots_fault) F hm (FunD.bindsN (ps := ["room", "lot", "value"]) F fun _ _ _ _ _ _ us hl => match us, hl with | [_, _, _], _ => rfl) sc_judge_spots (fun ds G R h => by
    first
      | (obtain ⟨e, _⟩ := h; subst e; rfl)
      | (obtain ⟨_, e, _⟩ := h; subst e; rfl)
      | (obtain ⟨_, _, e, _⟩ := h; subst e; rfl)
      | (obtain ⟨_, _, _, e, _⟩ := h; subst e; rfl)
      | (obtain ⟨_, _, _, _, e, _⟩ := h; subst e; rfl)
      | (obtain ⟨_, _, _, _, _, e, _⟩ := h; subst e; rfl)
      | (obtain ⟨_, _, _, _, _, _, e, _⟩ := h; subst e; rfl))
    (fun cdv A outer s H E hr => g_judge_spots (F_is_lot_in.mono (by decide)) (F_spots_fault.mono (by decide))  cdv A outer s H E hr)
    (fun ds G R H h g => ⟨G, g, p_judge_spots ds G R h⟩)
theorem ok_law {f : Addr} {fd : FuncData} (F : FunD K "law" "law" (defArgs s72) (defBody s72) (defScope s72) [] [] f fd) (F__law_open_cells : FU P w K mg base 1 "_law_open_cells" 1 sp__law_open_cells) (F__law_draw_corridor : FU P w K mg base 3 "_law_draw_corridor" 2 sp__law_draw_corridor) (F_corridor_cells : FU P w K mg base 3 "corridor_cells" 1 sp_corridor_cells) (F_corridor : FU P w K mg base 4 "corridor" 1 sp_corridor) (F__law_goes : FU P w K mg base 1 "_law_goes" 1 sp__law_goes) (F__law_turns : FU P w K mg base 2 "_law_turns" 1 sp__law_turns) (F_corridor_stalls : FU P w K mg base 4 "corridor_stalls" 1 sp_corridor_stalls) (F_corridor_spots : FU P w K mg base 4 "corridor_spots" 1 sp_corridor_spots) (F_answer : FU P w K mg base 7 "answer" 1 sp_answer) (F_fewest : FU P w K mg base 7 "fewest" 2 sp_fewest) (F_judge_answer : FU P w K mg base 8 "judge_answer" 3 sp_judge_answer) (F_judge_stalls : FU P w K mg base 8 "judge_stalls" 3 sp_judge_stalls) (F_judge_spots : FU P w K mg base 8 "judge_spots" 3 sp_judge_spots) (F__law_pick : FU P w K mg base 1 "_law_pick" 2 sp__law_pick) (F_first_way : FU P w K mg base 5 "first_way" 3 sp_first_way) (F_serves : FU P w K mg base 4 "serves" 3 sp_serves) (F__law_is_plain : FU P w K mg base 1 "_law_is_plain" 1 sp__law_is_plain) (F_ways_many : FU P w K mg base 3 "ways_many" 3 sp_ways_many) (F_field : FU P w K mg base 4 "field" 2 sp_field) (F__law_field : FU P w K mg base 1 "_law_field" 2 sp__law_field) (m_list : mg "list" = none) (m_sorted : mg "sorted" = none) (m_tuple : mg "tuple" = none) (m_len : mg "len" = none) (m_range : mg "range" = none) (m_min : mg "min" = none) (m_max : mg "max" = none) (m_repr : mg "repr" = none) (m_enumerate : mg "enumerate" = none) : FnG P w K mg base 9 f fd ["script"] sp_law :=
  fn_gO (k := 8) F sc_law (fun ds G R h => by obtain ⟨_, e, _⟩ := h; subst e; rfl)
    ⟨t_law sp__law_open_cells sp__law_draw_corridor sp_corridor_cells sp_corridor sp__law_goes sp__law_turns sp_corridor_stalls sp_corridor_spots sp_answer sp_fewest sp_judge_answer sp_judge_stalls sp_judge_spots sp__law_pick sp_first_way sp_serves sp__law_is_plain sp_ways_many sp_field sp__law_field, fun cdv A outer s H E hr => g_law (F__law_open_cells.mono (by decide)) (F__law_draw_corridor.mono (by decide)) (F_corridor_cells.mono (by decide)) (F_corridor.mono (by decide)) (F__law_goes.mono (by decide)) (F__law_turns.mono (by decide)) (F_corridor_stalls.mono (by decide)) (F_corridor_spots.mono (by decide)) (F_answer.mono (by decide)) (F_fewest.mono (by decide)) (F_judge_answer.mono (by decide)) (F_judge_stalls.mono (by decide)) (F_judge_spots.mono (by decide)) (F__law_pick.mono (by decide)) (F_first_way.mono (by decide)) (F_serves.mono (by decide)) (F__law_is_plain.mono (by decide)) (F_ways_many.mono (by decide)) (F_field.mono (by decide)) (F__law_field.mono (by decide)) m_list m_sorted m_tuple m_len m_range m_min m_max m_repr m_enumerate cdv A outer s H E hr, fun ds G R H h g => ⟨G, g, p_law ds G R h⟩⟩
end
theorem facts {P : Program} {w : World} {K : PySem.W.Frag} {h : Heap} {mg : Str → Option Value} {f : Addr} (X : K.In h) (G : h.Ns mainGlobals mg) (hfa : mg ("law" : Str) = some (.ref f)) (c : He.SaysD fa fn K) :
    ∃ fd : FuncData, (∀ (s : Shared) (v : Value), BindsTo s fd ⟨[v], []⟩ [("script", v)]) ∧ ∀ base : Heap, K.In base → base.Ns mainGlobals mg → FnOk P w K mg base CX0 9 f fd ["script"] (lift P w K sp_law) := by
  obtain ⟨fd_moves, D_moves⟩ := c.def_ 0 (d := d1) rfl
  have h_moves := He.glo_ok X G (c.fact 0 (f := .glo "moves") rfl)
  obtain ⟨fd_signs_between, D_signs_between⟩ := c.def_ 2 (d := d3) rfl
  have h_signs_between := He.glo_ok X G (c.fact 2 (f := .glo "signs_between") rfl)
  obtain ⟨fd_is_within, D_is_within⟩ := c.def_ 13 (d := d15) rfl
  have h_is_within := He.glo_ok X G (c.fact 13 (f := .glo "is_within") rfl)
  obtain ⟨fd_is_integer, D_is_integer⟩ := c.def_ 18 (d := d21) rfl
  have h_is_integer := He.glo_ok X G (c.fact 18 (f := .glo "is_integer") rfl)
  obtain ⟨fd_taken_out, D_taken_out⟩ := c.def_ 21 (d := d24) rfl
  have h_taken_out := He.glo_ok X G (c.fact 21 (f := .glo "taken_out") rfl)
  obtain ⟨fd_pairs_of, D_pairs_of⟩ := c.def_ 23 (d := d27) rfl
  have h_pairs_of := He.glo_ok X G (c.fact 23 (f := .glo "pairs_of") rfl)
  obtain ⟨fd_next_table, D_next_table⟩ := c.def_ 26 (d := d30) rfl
  have h_next_table := He.glo_ok X G (c.fact 26 (f := .glo "next_table") rfl)
  obtain ⟨fd_are_next, D_are_next⟩ := c.def_ 27 (d := d31) rfl
  have h_are_next := He.glo_ok X G (c.fact 27 (f := .glo "are_next") rfl)
  obtain ⟨fd_is_reached, D_is_reached⟩ := c.def_ 28 (d := d32) rfl
  have h_is_reached := He.glo_ok X G (c.fact 28 (f := .glo "is_reached") rfl)
  obtain ⟨fd_joined, D_joined⟩ := c.def_ 31 (d := d36) rfl
  have h_joined := He.glo_ok X G (c.fact 31 (f := .glo "joined") rfl)
  obtain ⟨fd_groups, D_groups⟩ := c.def_ 33 (d := d38) rfl
  have h_groups := He.glo_ok X G (c.fact 33 (f := .glo "groups") rfl)
  obtain ⟨fd_is_plain, D_is_plain⟩ := c.def_ 48 (d := d57) rfl
  have h_is_plain := He.glo_ok X G (c.fact 48 (f := .glo "is_plain") rfl)
  obtain ⟨fd__law_open_cells, D__law_open_cells⟩ := c.def_ 53 (d := d63) rfl
  have h__law_open_cells := He.glo_ok X G (c.fact 53 (f := .glo "_law_open_cells") rfl)
  obtain ⟨fd__law_pick, D__law_pick⟩ := c.def_ 54 (d := d64) rfl
  have h__law_pick := He.glo_ok X G (c.fact 54 (f := .glo "_law_pick") rfl)
  obtain ⟨fd__law_sides, D__law_sides⟩ := c.def_ 55 (d := d65) rfl
  have h__law_sides := He.glo_ok X G (c.fact 55 (f := .glo "_law_sides") rfl)
  obtain ⟨fd__law_field, D__law_field⟩ := c.def_ 56 (d := d66) rfl
  have h__law_field := He.glo_ok X G (c.fact 56 (f := .glo "_law_field") rfl)
  obtain ⟨fd__law_goes, D__law_goes⟩ := c.def_ 57 (d := d67) rfl
  have h__law_goes := He.glo_ok X G (c.fact 57 (f := .glo "_law_goes") rfl)
  obtain ⟨fd__law_is_plain, D__law_is_plain⟩ := c.def_ 60 (d := d70) rfl
  have h__law_is_plain := He.glo_ok X G (c.fact 60 (f := .glo "_law_is_plain") rfl)
  obtain ⟨fd_trail, D_trail⟩ := c.def_ 1 (d := d2) rfl
  have h_trail := He.glo_ok X G (c.fact 1 (f := .glo "trail") rfl)
  obtain ⟨fd_numbers_to, D_numbers_to⟩ := c.def_ 3 (d := d4) rfl
  have h_numbers_to := He.glo_ok X G (c.fact 3 (f := .glo "numbers_to") rfl)
  obtain ⟨fd_corner_field, D_corner_field⟩ := c.def_ 8 (d := d10) rfl
  have h_corner_field := He.glo_ok X G (c.fact 8 (f := .glo "corner_field") rfl)
  obtain ⟨fd_hard_of, D_hard_of⟩ := c.def_ 14 (d := d16) rfl
  have h_hard_of := He.glo_ok X G (c.fact 14 (f := .glo "hard_of") rfl)
  obtain ⟨fd_is_cell, D_is_cell⟩ := c.def_ 19 (d := d22) rfl
  have h_is_cell := He.glo_ok X G (c.fact 19 (f := .glo "is_cell") rfl)
  obtain ⟨fd_lies_in, D_lies_in⟩ := c.def_ 22 (d := d25) rfl
  have h_lies_in := He.glo_ok X G (c.fact 22 (f := .glo "lies_in") rfl)
  obtain ⟨fd_contrary, D_contrary⟩ := c.def_ 25 (d := d29) rfl
  have h_contrary := He.glo_ok X G (c.fact 25 (f := .glo "contrary") rfl)
  obtain ⟨fd_first_two_pair, D_first_two_pair⟩ := c.def_ 29 (d := d33) rfl
  have h_first_two_pair := He.glo_ok X G (c.fact 29 (f := .glo "first_two_pair") rfl)
  obtain ⟨fd_all_next, D_all_next⟩ := c.def_ 30 (d := d34) rfl
  have h_all_next := He.glo_ok X G (c.fact 30 (f := .glo "all_next") rfl)
  obtain ⟨fd_webs_ahead, D_webs_ahead⟩ := c.def_ 32 (d := d37) rfl
  have h_webs_ahead := He.glo_ok X G (c.fact 32 (f := .glo "webs_ahead") rfl)
  obtain ⟨fd_corridor_stretch, D_corridor_stretch⟩ := c.def_ 49 (d := d58) rfl
  have h_corridor_stretch := He.glo_ok X G (c.fact 49 (f := .glo "corridor_stretch") rfl)
  obtain ⟨fd__law_is_corridor, D__law_is_corridor⟩ := c.def_ 58 (d := d68) rfl
  have h__law_is_corridor := He.glo_ok X G (c.fact 58 (f := .glo "_law_is_corridor") rfl)
  obtain ⟨fd__law_turns, D__law_turns⟩ := c.def_ 61 (d := d71) rfl
  have h__law_turns := He.glo_ok X G (c.fact 61 (f := .glo "_law_turns") rfl)
  obtain ⟨fd_ways_many, D_ways_many⟩ := c.def_ 4 (d := d5) rfl
  have h_ways_many := He.glo_ok X G (c.fact 4 (f := .glo "ways_many") rfl)
  obtain ⟨fd_way_at, D_way_at⟩ := c.def_ 5 (d := d6) rfl
  have h_way_at := He.glo_ok X G (c.fact 5 (f := .glo "way_at") rfl)
  obtain ⟨fd_corner_fields, D_corner_fields⟩ := c.def_ 9 (d := d11) rfl
  have h_corner_fields := He.glo_ok X G (c.fact 9 (f := .glo "corner_fields") rfl)
  obtain ⟨fd_is_lot, D_is_lot⟩ := c.def_ 20 (d := d23) rfl
  have h_is_lot := He.glo_ok X G (c.fact 20 (f := .glo "is_lot") rfl)
  obtain ⟨fd_log_of, D_log_of⟩ := c.def_ 34 (d := d39) rfl
  have h_log_of := He.glo_ok X G (c.fact 34 (f := .glo "log_of") rfl)
  obtain ⟨fd_knot_back, D_knot_back⟩ := c.def_ 35 (d := d42) rfl
  have h_knot_back := He.glo_ok X G (c.fact 35 (f := .glo "knot_back") rfl)
  obtain ⟨fd_corridor_cells, D_corridor_cells⟩ := c.def_ 46 (d := d55) rfl
  have h_corridor_cells := He.glo_ok X G (c.fact 46 (f := .glo "corridor_cells") rfl)
  obtain ⟨fd_corridor_turns, D_corridor_turns⟩ := c.def_ 50 (d := d59) rfl
  have h_corridor_turns := He.glo_ok X G (c.fact 50 (f := .glo "corridor_turns") rfl)
  obtain ⟨fd__law_draw_corridor, D__law_draw_corridor⟩ := c.def_ 59 (d := d69) rfl
  have h__law_draw_corridor := He.glo_ok X G (c.fact 59 (f := .glo "_law_draw_corridor") rfl)
  obtain ⟨fd_serves, D_serves⟩ := c.def_ 7 (d := d8) rfl
  have h_serves := He.glo_ok X G (c.fact 7 (f := .glo "serves") rfl)
  obtain ⟨fd_field, D_field⟩ := c.def_ 10 (d := d12) rfl
  have h_field := He.glo_ok X G (c.fact 10 (f := .glo "field") rfl)
  obtain ⟨fd_split_of, D_split_of⟩ := c.def_ 36 (d := d43) rfl
  have h_split_of := He.glo_ok X G (c.fact 36 (f := .glo "split_of") rfl)
  obtain ⟨fd_is_lot_in, D_is_lot_in⟩ := c.def_ 40 (d := d48) rfl
  have h_is_lot_in := He.glo_ok X G (c.fact 40 (f := .glo "is_lot_in") rfl)
  obtain ⟨fd_corridor, D_corridor⟩ := c.def_ 47 (d := d56) rfl
  have h_corridor := He.glo_ok X G (c.fact 47 (f := .glo "corridor") rfl)
  obtain ⟨fd_corridor_stalls, D_corridor_stalls⟩ := c.def_ 51 (d := d60) rfl
  have h_corridor_stalls := He.glo_ok X G (c.fact 51 (f := .glo "corridor_stalls") rfl)
  obtain ⟨fd_corridor_spots, D_corridor_spots⟩ := c.def_ 52 (d := d61) rfl
  have h_corridor_spots := He.glo_ok X G (c.fact 52 (f := .glo "corridor_spots") rfl)
  obtain ⟨fd_first_way, D_first_way⟩ := c.def_ 6 (d := d7) rfl
  have h_first_way := He.glo_ok X G (c.fact 6 (f := .glo "first_way") rfl)
  obtain ⟨fd_common_stalls, D_common_stalls⟩ := c.def_ 11 (d := d13) rfl
  have h_common_stalls := He.glo_ok X G (c.fact 11 (f := .glo "common_stalls") rfl)
  obtain ⟨fd_hard_in, D_hard_in⟩ := c.def_ 15 (d := d17) rfl
  have h_hard_in := He.glo_ok X G (c.fact 15 (f := .glo "hard_in") rfl)
  obtain ⟨fd_lit, D_lit⟩ := c.def_ 16 (d := d18) rfl
  have h_lit := He.glo_ok X G (c.fact 16 (f := .glo "lit") rfl)
  obtain ⟨fd_web_of, D_web_of⟩ := c.def_ 24 (d := d28) rfl
  have h_web_of := He.glo_ok X G (c.fact 24 (f := .glo "web_of") rfl)
  obtain ⟨fd_are_tied, D_are_tied⟩ := c.def_ 12 (d := d14) rfl
  have h_are_tied := He.glo_ok X G (c.fact 12 (f := .glo "are_tied") rfl)
  obtain ⟨fd_dark_in, D_dark_in⟩ := c.def_ 17 (d := d19) rfl
  have h_dark_in := He.glo_ok X G (c.fact 17 (f := .glo "dark_in") rfl)
  obtain ⟨fd_answer_for, D_answer_for⟩ := c.def_ 37 (d := d45) rfl
  have h_answer_for := He.glo_ok X G (c.fact 37 (f := .glo "answer_for") rfl)
  obtain ⟨fd_answer, D_answer⟩ := c.def_ 38 (d := d46) rfl
  have h_answer := He.glo_ok X G (c.fact 38 (f := .glo "answer") rfl)
  obtain ⟨fd_fewest, D_fewest⟩ := c.def_ 39 (d := d47) rfl
  have h_fewest := He.glo_ok X G (c.fact 39 (f := .glo "fewest") rfl)
  obtain ⟨fd_dark_fault, D_dark_fault⟩ := c.def_ 41 (d := d49) rfl
  have h_dark_fault := He.glo_ok X G (c.fact 41 (f := .glo "dark_fault") rfl)
  obtain ⟨fd_spots_fault, D_spots_fault⟩ := c.def_ 42 (d := d50) rfl
  have h_spots_fault := He.glo_ok X G (c.fact 42 (f := .glo "spots_fault") rfl)
  obtain ⟨fd_judge_answer, D_judge_answer⟩ := c.def_ 43 (d := d51) rfl
  have h_judge_answer := He.glo_ok X G (c.fact 43 (f := .glo "judge_answer") rfl)
  obtain ⟨fd_judge_stalls, D_judge_stalls⟩ := c.def_ 44 (d := d52) rfl
  have h_judge_stalls := He.glo_ok X G (c.fact 44 (f := .glo "judge_stalls") rfl)
  obtain ⟨fd_judge_spots, D_judge_spots⟩ := c.def_ 45 (d := d53) rfl
  have h_judge_spots := He.glo_ok X G (c.fact 45 (f := .glo "judge_spots") rfl)
  have m_abs := He.free_ok X G (c.fact 63 (f := .free "abs") rfl)
  have m_all := He.free_ok X G (c.fact 64 (f := .free "all") rfl)
  have m_any := He.free_ok X G (c.fact 65 (f := .free "any") rfl)
  have m_bool := He.free_ok X G (c.fact 66 (f := .free "bool") rfl)
  have m_dict := He.free_ok X G (c.fact 67 (f := .free "dict") rfl)
  have m_enumerate := He.free_ok X G (c.fact 68 (f := .free "enumerate") rfl)
  have m_int := He.free_ok X G (c.fact 69 (f := .free "int") rfl)
  have m_isinstance := He.free_ok X G (c.fact 70 (f := .free "isinstance") rfl)
  have m_len := He.free_ok X G (c.fact 71 (f := .free "len") rfl)
  have m_list := He.free_ok X G (c.fact 72 (f := .free "list") rfl)
  have m_max := He.free_ok X G (c.fact 73 (f := .free "max") rfl)
  have m_min := He.free_ok X G (c.fact 74 (f := .free "min") rfl)
  have m_range := He.free_ok X G (c.fact 75 (f := .free "range") rfl)
  have m_repr := He.free_ok X G (c.fact 76 (f := .free "repr") rfl)
  have m_set := He.free_ok X G (c.fact 77 (f := .free "set") rfl)
  have m_sorted := He.free_ok X G (c.fact 78 (f := .free "sorted") rfl)
  have m_sum := He.free_ok X G (c.fact 79 (f := .free "sum") rfl)
  have m_tuple := He.free_ok X G (c.fact 80 (f := .free "tuple") rfl)
  have m_zip := He.free_ok X G (c.fact 81 (f := .free "zip") rfl)
  obtain ⟨fd, F⟩ := c.def_ 62 (d := d72) rfl
  have e := hfa.symm.trans (He.glo_ok X G (c.fact 62 (f := .glo "law") rfl))
  cases e
  have b := FunD.bindsA (ps := ["script"]) F fun _ _ _ _ _ _ us hl => match us, hl with | [_], _ => rfl
  refine ⟨fd, fun s v => b s [v] rfl, fun base _ _ => ?_⟩
  have F_moves : FU P w K mg base 1 "moves" 0 sp_moves := ok_moves D_moves h_moves  
  have F_signs_between : FU P w K mg base 1 "signs_between" 2 sp_signs_between := ok_signs_between D_signs_between h_signs_between  m_sorted
  have F_is_within : FU P w K mg base 1 "is_within" 2 sp_is_within := ok_is_within D_is_within h_is_within  m_len m_all
  have F_is_integer : FU P w K mg base 1 "is_integer" 1 sp_is_integer := ok_is_integer D_is_integer h_is_integer  m_isinstance m_int m_bool
  have F_taken_out : FU P w K mg base 1 "taken_out" 2 sp_taken_out := ok_taken_out D_taken_out h_taken_out  m_tuple
  have F_pairs_of : FU P w K mg base 1 "pairs_of" 1 sp_pairs_of := ok_pairs_of D_pairs_of h_pairs_of  m_enumerate
  have F_next_table : FU P w K mg base 1 "next_table" 1 sp_next_table := ok_next_table D_next_table h_next_table  
  have F_are_next : FU P w K mg base 1 "are_next" 3 sp_are_next := ok_are_next D_are_next h_are_next  m_min m_max
  have F_is_reached : FU P w K mg base 1 "is_reached" 3 sp_is_reached := ok_is_reached D_is_reached h_is_reached  
  have F_joined : FU P w K mg base 1 "joined" 3 sp_joined := ok_joined D_joined h_joined  m_min m_max m_tuple m_sorted m_list
  have F_groups : FU P w K mg base 1 "groups" 2 sp_groups := ok_groups D_groups h_groups  m_tuple m_sorted
  have F_is_plain : FU P w K mg base 1 "is_plain" 1 sp_is_plain := ok_is_plain D_is_plain h_is_plain  
  have F__law_open_cells : FU P w K mg base 1 "_law_open_cells" 1 sp__law_open_cells := ok__law_open_cells D__law_open_cells h__law_open_cells  m_int m_abs
  have F__law_pick : FU P w K mg base 1 "_law_pick" 2 sp__law_pick := ok__law_pick D__law_pick h__law_pick  m_len m_int
  have F__law_sides : FU P w K mg base 1 "_law_sides" 1 sp__law_sides := ok__law_sides D__law_sides h__law_sides  
  have F__law_field : FU P w K mg base 1 "_law_field" 2 sp__law_field := ok__law_field D__law_field h__law_field  m_dict m_tuple m_sorted m_list
  have F__law_goes : FU P w K mg base 1 "_law_goes" 1 sp__law_goes := ok__law_goes D__law_goes h__law_goes  m_int
  have F__law_is_plain : FU P w K mg base 1 "_law_is_plain" 1 sp__law_is_plain := ok__law_is_plain D__law_is_plain h__law_is_plain  
  have F_trail : FU P w K mg base 2 "trail" 2 sp_trail := ok_trail D_trail h_trail F_moves m_tuple
  have F_numbers_to : FU P w K mg base 2 "numbers_to" 3 sp_numbers_to := ok_numbers_to D_numbers_to h_numbers_to F_signs_between F_moves m_range m_min m_max m_abs m_sorted m_sum
  have F_corner_field : FU P w K mg base 2 "corner_field" 3 sp_corner_field := ok_corner_field D_corner_field h_corner_field F_moves m_tuple m_sorted
  have F_hard_of : FU P w K mg base 2 "hard_of" 1 sp_hard_of := ok_hard_of D_hard_of h_hard_of F_is_within m_any m_tuple m_sorted
  have F_is_cell : FU P w K mg base 2 "is_cell" 1 sp_is_cell := ok_is_cell D_is_cell h_is_cell F_is_integer m_isinstance m_tuple m_len
  have F_lies_in : FU P w K mg base 2 "lies_in" 2 sp_lies_in := ok_lies_in D_lies_in h_lies_in F_taken_out 
  have F_contrary : FU P w K mg base 2 "contrary" 1 sp_contrary := ok_contrary D_contrary h_contrary F_pairs_of m_tuple
  have F_first_two_pair : FU P w K mg base 2 "first_two_pair" 1 sp_first_two_pair := ok_first_two_pair D_first_two_pair h_first_two_pair F_next_table F_pairs_of F_is_reached 
  have F_all_next : FU P w K mg base 2 "all_next" 1 sp_all_next := ok_all_next D_all_next h_all_next F_pairs_of m_len
  have F_webs_ahead : FU P w K mg base 2 "webs_ahead" 2 sp_webs_ahead := ok_webs_ahead D_webs_ahead h_webs_ahead F_joined 
  have F_corridor_stretch : FU P w K mg base 2 "corridor_stretch" 2 sp_corridor_stretch := ok_corridor_stretch D_corridor_stretch h_corridor_stretch F_is_plain m_len
  have F__law_is_corridor : FU P w K mg base 2 "_law_is_corridor" 1 sp__law_is_corridor := ok__law_is_corridor D__law_is_corridor h__law_is_corridor F__law_goes F__law_sides m_len m_set m_dict m_enumerate m_abs
  have F__law_turns : FU P w K mg base 2 "_law_turns" 1 sp__law_turns := ok__law_turns D__law_turns h__law_turns F__law_is_plain m_range m_len m_max
  have F_ways_many : FU P w K mg base 3 "ways_many" 3 sp_ways_many := ok_ways_many D_ways_many h_ways_many F_numbers_to 
  have F_way_at : FU P w K mg base 3 "way_at" 4 sp_way_at := ok_way_at D_way_at h_way_at F_numbers_to F_signs_between F_moves 
  have F_corner_fields : FU P w K mg base 3 "corner_fields" 2 sp_corner_fields := ok_corner_fields D_corner_fields h_corner_fields F_corner_field m_tuple
  have F_is_lot : FU P w K mg base 3 "is_lot" 1 sp_is_lot := ok_is_lot D_is_lot h_is_lot F_is_cell m_isinstance m_tuple m_all m_zip
  have F_log_of : FU P w K mg base 3 "log_of" 1 sp_log_of := ok_log_of D_log_of h_log_of F_first_two_pair F_joined m_tuple
  have F_knot_back : FU P w K mg base 3 "knot_back" 2 sp_knot_back := ok_knot_back D_knot_back h_knot_back F_webs_ahead F_all_next F_are_next m_list m_zip m_all m_tuple m_sorted
  have F_corridor_cells : FU P w K mg base 3 "corridor_cells" 1 sp_corridor_cells := ok_corridor_cells D_corridor_cells h_corridor_cells F_trail 
  have F_corridor_turns : FU P w K mg base 3 "corridor_turns" 1 sp_corridor_turns := ok_corridor_turns D_corridor_turns h_corridor_turns F_corridor_stretch m_len
  have F__law_draw_corridor : FU P w K mg base 3 "_law_draw_corridor" 2 sp__law_draw_corridor := ok__law_draw_corridor D__law_draw_corridor h__law_draw_corridor F__law_pick F__law_is_corridor m_range
  have F_serves : FU P w K mg base 4 "serves" 3 sp_serves := ok_serves D_serves h_serves F_ways_many 
  have F_field : FU P w K mg base 4 "field" 2 sp_field := ok_field D_field h_field F_corner_fields m_tuple m_sorted
  have F_split_of : FU P w K mg base 4 "split_of" 1 sp_split_of := ok_split_of D_split_of h_split_of F_log_of F_groups F_knot_back 
  have F_is_lot_in : FU P w K mg base 4 "is_lot_in" 2 sp_is_lot_in := ok_is_lot_in D_is_lot_in h_is_lot_in F_is_lot F_lies_in 
  have F_corridor : FU P w K mg base 4 "corridor" 1 sp_corridor := ok_corridor D_corridor h_corridor F_corridor_cells m_tuple m_sorted
  have F_corridor_stalls : FU P w K mg base 4 "corridor_stalls" 1 sp_corridor_stalls := ok_corridor_stalls D_corridor_stalls h_corridor_stalls F_corridor_turns m_tuple
  have F_corridor_spots : FU P w K mg base 4 "corridor_spots" 1 sp_corridor_spots := ok_corridor_spots D_corridor_spots h_corridor_spots F_corridor_turns m_tuple
  have F_first_way : FU P w K mg base 5 "first_way" 3 sp_first_way := ok_first_way D_first_way h_first_way F_serves F_way_at 
  have F_common_stalls : FU P w K mg base 5 "common_stalls" 2 sp_common_stalls := ok_common_stalls D_common_stalls h_common_stalls F_field m_list m_tuple
  have F_hard_in : FU P w K mg base 5 "hard_in" 2 sp_hard_in := ok_hard_in D_hard_in h_hard_in F_hard_of F_field 
  have F_lit : FU P w K mg base 5 "lit" 2 sp_lit := ok_lit D_lit h_lit F_field m_tuple m_sorted
  have F_web_of : FU P w K mg base 5 "web_of" 2 sp_web_of := ok_web_of D_web_of h_web_of F_field F_pairs_of m_any m_tuple
  have F_are_tied : FU P w K mg base 6 "are_tied" 3 sp_are_tied := ok_are_tied D_are_tied h_are_tied F_common_stalls 
  have F_dark_in : FU P w K mg base 6 "dark_in" 3 sp_dark_in := ok_dark_in D_dark_in h_dark_in F_lit m_tuple
  have F_answer_for : FU P w K mg base 6 "answer_for" 2 sp_answer_for := ok_answer_for D_answer_for h_answer_for F_split_of F_contrary F_web_of F_hard_in F_common_stalls m_tuple m_sorted
  have F_answer : FU P w K mg base 7 "answer" 1 sp_answer := ok_answer D_answer h_answer F_answer_for 
  have F_fewest : FU P w K mg base 7 "fewest" 2 sp_fewest := ok_fewest D_fewest h_fewest F_answer_for m_len
  have F_dark_fault : FU P w K mg base 7 "dark_fault" 3 sp_dark_fault := ok_dark_fault D_dark_fault h_dark_fault F_dark_in 
  have F_spots_fault : FU P w K mg base 7 "spots_fault" 3 sp_spots_fault := ok_spots_fault D_spots_fault h_spots_fault F_are_tied m_enumerate
  have F_judge_answer : FU P w K mg base 8 "judge_answer" 3 sp_judge_answer := ok_judge_answer D_judge_answer h_judge_answer F_is_lot_in F_dark_fault F_spots_fault m_isinstance m_tuple m_len
  have F_judge_stalls : FU P w K mg base 8 "judge_stalls" 3 sp_judge_stalls := ok_judge_stalls D_judge_stalls h_judge_stalls F_is_lot_in F_dark_fault 
  have F_judge_spots : FU P w K mg base 8 "judge_spots" 3 sp_judge_spots := ok_judge_spots D_judge_spots h_judge_spots F_is_lot_in F_spots_fault 
  exact ok_law F F__law_open_cells F__law_draw_corridor F_corridor_cells F_corridor F__law_goes F__law_turns F_corridor_stalls F_corridor_spots F_answer F_fewest F_judge_answer F_judge_stalls F_judge_spots F__law_pick F_first_way F_serves F__law_is_plain F_ways_many F_field F__law_field m_list m_sorted m_tuple m_len m_range m_min m_max m_repr m_enumerate
end Hd
open PySem PySem.W PySem.Calls PyProof.Rows
theorem PySem.Challenge.cw_nodetour_k74_whole_corridors_answered_holds : PySem.Challenge.rw_nodetour_k74_whole_corridors_answered.Holds := by
  w_on; o_law
  refine HandSHeadRun.head_any (r := OpenLaw.row PySem.Challenge.rw_nodetour_k74_whole_corridors_answered) (q := view (OpenLaw.row PySem.Challenge.rw_nodetour_k74_whole_corridors_answered).prog [72]) (H := Hd.hk) (ob := Hd.ob) (M := 4000) (loose := Hd.loose) (d := HandSHeadRun.topDef (OpenLaw.row PySem.Challenge.rw_nodetour_k74_whole_corridors_answered).prog 72) (kwd := []) Hd.ob_eq
    (by kernel_rfl) (fun s => by kernel_rfl) Hd.run (by kernel_rfl) (by kernel_rfl) (by kernel_rfl) (by rfl) (by first | assumption | decide +kernel) (by decide +kernel) ⟨rfl, rfl, rfl, rfl, rfl, by decide +kernel⟩ ?hw ?hc
  case hw => w_witness2
  case hc =>
    refine L2.walk_ofE (l := PySem.Challenge.rw_nodetour_k74_whole_corridors_answered) (n := 63) (k := 9) (x := "script") (CX := L2.CX0) rfl (by decide) (by kernel_rfl) ⟨rfl, by decide, by decide⟩ ?F (fun _ _ _ _ z => z)
    intro w mg fa h Y G0 hmg0
    obtain ⟨K, KX, c⟩ := Y
    have hmg : mg ("law" : PySem.Str) = some (.ref fa) := by
      have e : (HandSHeadRun.topDef (OpenLaw.row PySem.Challenge.rw_nodetour_k74_whole_corridors_answered).prog 72).name = ("law" : PySem.Str) := by kernel_rfl
      rw [← e]
      exact hmg0
    obtain ⟨fd, hb, hF⟩ := Hd.facts (P := (PySem.Challenge.rw_nodetour_k74_whole_corridors_answered).prog) (w := w) KX G0 hmg c
    refine ⟨K, fd, _, KX, hb, fun H a ns hl hO hS => ?_, hF⟩
    refine ⟨[.frl ns], fun _ => none, fun d _ => d = .bl true, .cons (.frl (G.FrL.of hO hS)) .nil, ⟨fun a o e => (by cases e), fun a b e => (by cases e)⟩, ⟨ns, rfl, by omega, fun a e => (by cases e), fun _ _ => rfl⟩, fun v H' d G' _ _ hd e => ?_⟩
    subst e
    exact G.dat_bl hd
